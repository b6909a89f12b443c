import PyProof.Rows.All
import PySem.Challenge.RW_wholefurther_k34_whole_rows_their_differ
import HandS.ForMost
import HandS.ForExc
import HandS.Wide
import HandS.TupAny
import HandS.TupMul
import HandS.IsInst
import HandS.Flow
import HandS.Style
import HandS.Codes
import HandS.RaiseMore
import HandS.SortInts
import HandS.WideBits
import HandS.EndBits
import HandS.CallSlots
import HandS.ExcOwn
import HandS.WordsExc
import HandS.Zip
import KE.GoesZip
import KE.GoesMore
import KE.GoesEnum
import HandS.Iter
import HandS.Rev
import HandS.FStrTup
import PyProof.Rows.RegStrFacts
set_option Elab.async false
set_option linter.all false
set_option maxRecDepth 100000
set_option maxHeartbeats 4000000
/-! DS: a layer of plain data over the hand layer: values are trees, the heap is not seen, a def is a function of trees. -/
namespace DS
open PySem PySem.Spec PyProof.Rows L2

/-! ### data -/
inductive D where
  | non
  | bl (b : Bool)
  | int (i : Int)
  | str (s : Str)
  | lst (xs : List D)
  | tup (xs : List D)
  /-- a list that stands locked or written: the script -/
  | fix (xs : List D)

/-- a list (tuple) that may be read and is not at an excluded place -/
def NdL (E : Addr → Prop) (H : Hp) (a : Addr) (xs : List V) : Prop := ¬ E a ∧ H a = some (.lst xs)
def NdF (K : PySem.W.Frag) (E : Addr → Prop) (H : Hp) (a : Addr) (xs : List V) : Prop := (¬ E a ∧ ∃ o, H a = some (.frz o (.lst xs))) ∨ ∀ G : Hp, SqL K G a xs
def NdT (K : PySem.W.Frag) (E : Addr → Prop) (H : Hp) (a : Addr) (xs : List V) : Prop := (¬ E a ∧ Rd H a (.tup xs)) ∨ ∀ G : Hp, SqT K G a xs
mutual
inductive Rp (K : PySem.W.Frag) (E : Addr → Prop) (H : Hp) : V → D → Prop
  | non : Rp K E H .non .non
  | bl (b : Bool) : Rp K E H (.bl b) (.bl b)
  | int (i : Int) : Rp K E H (.int i) (.int i)
  | str (x : Str) : Rp K E H (.str x) (.str x)
  | lst {a : Addr} {xs : List V} {ds : List D} : NdL E H a xs → RpL K E H xs ds → Rp K E H (.ref a) (.lst ds)
  | fix {a : Addr} {xs : List V} {ds : List D} : NdF K E H a xs → RpL K E H xs ds → Rp K E H (.ref a) (.fix ds)
  | tup {a : Addr} {xs : List V} {ds : List D} : NdT K E H a xs → RpL K E H xs ds → Rp K E H (.ref a) (.tup ds)
inductive RpL (K : PySem.W.Frag) (E : Addr → Prop) (H : Hp) : List V → List D → Prop
  | nil : RpL K E H [] []
  | cons {v : V} {vs : List V} {d : D} {ds : List D} : Rp K E H v d → RpL K E H vs ds → RpL K E H (v :: vs) (d :: ds)
end
section
variable {K : PySem.W.Frag} {E E' : Addr → Prop} {H H' : Hp}
theorem NdL.seq {a : Addr} {xs : List V} (h : NdL E H a xs) : SqL K H a xs := .of h.2
theorem NdF.seq {a : Addr} {xs : List V} (h : NdF K E H a xs) : SqL K H a xs := by
  rcases h with ⟨_, o, h⟩ | h
  · exact .inl (.inr ⟨o, h⟩)
  · exact h H
theorem NdT.seq {a : Addr} {xs : List V} (h : NdT K E H a xs) : SqT K H a xs := by
  rcases h with ⟨_, h⟩ | h
  · exact .inl h
  · exact h H
theorem rd_mono {a : Addr} {u : HO} (he : ∀ a, E' a → E a ∨ H a = none) (hk : ∀ a o, ¬ E a → H a = some o → H' a = some o) (n : ¬ E a) (r : Rd H a u) : ¬ E' a ∧ Rd H' a u := by
  rcases r with r | ⟨o, r⟩
  · refine ⟨fun z => ?_, .inl (hk _ _ n r)⟩
    rcases he a z with q | q
    · exact n q
    · rw [q] at r; cases r
  · refine ⟨fun z => ?_, .inr ⟨o, hk _ _ n r⟩⟩
    rcases he a z with q | q
    · exact n q
    · rw [q] at r; cases r
mutual
theorem Rp.mono (he : ∀ a, E' a → E a ∨ H a = none) (hk : ∀ a o, ¬ E a → H a = some o → H' a = some o) : ∀ {v : V} {d : D}, Rp K E H v d → Rp K E' H' v d
  | _, _, .non => .non
  | _, _, .bl b => .bl b
  | _, _, .int i => .int i
  | _, _, .str x => .str x
  | _, _, .lst n r => by
    refine .lst ⟨fun z => ?_, hk _ _ n.1 n.2⟩ (RpL.mono he hk r)
    rcases he _ z with q | q
    · exact n.1 q
    · rw [n.2] at q; cases q
  | _, _, .fix n r => by
    refine .fix ?_ (RpL.mono he hk r)
    rcases n with ⟨n1, o, n2⟩ | n
    · refine .inl ⟨fun z => ?_, o, hk _ _ n1 n2⟩
      rcases he _ z with q | q
      · exact n1 q
      · rw [n2] at q; cases q
    · exact .inr n
  | _, _, .tup n r => by
    refine .tup ?_ (RpL.mono he hk r)
    rcases n with ⟨n1, n2⟩ | n
    · exact .inl (rd_mono he hk n1 n2)
    · exact .inr n
theorem RpL.mono (he : ∀ a, E' a → E a ∨ H a = none) (hk : ∀ a o, ¬ E a → H a = some o → H' a = some o) : ∀ {vs : List V} {ds : List D}, RpL K E H vs ds → RpL K E' H' vs ds
  | _, _, .nil => .nil
  | _, _, .cons h t => .cons (Rp.mono he hk h) (RpL.mono he hk t)
end
theorem RpL.length : ∀ {vs : List V} {ds : List D}, RpL K E H vs ds → vs.length = ds.length
  | _, _, .nil => rfl
  | _, _, .cons _ t => by simp [RpL.length t]
theorem RpL.app : ∀ {vs ws : List V} {ds es : List D}, RpL K E H vs ds → RpL K E H ws es → RpL K E H (vs ++ ws) (ds ++ es)
  | _, _, _, _, .nil, h => h
  | _, _, _, _, .cons a t, h => .cons a (RpL.app t h)
theorem RpL.get : ∀ {vs : List V} {ds : List D} {i : Nat} {d : D}, RpL K E H vs ds → ds[i]? = some d → ∃ v, vs[i]? = some v ∧ Rp K E H v d
  | _, _, _, _, .nil, e => by simp at e
  | _, _, 0, _, .cons a _, e => by simp at e; subst e; exact ⟨_, rfl, a⟩
  | _, _, i + 1, d, .cons _ t, e => by
    obtain ⟨v, h1, h2⟩ := RpL.get (i := i) (d := d) t (by simpa using e)
    exact ⟨v, by simpa using h1, h2⟩
theorem RpL.getV : ∀ {vs : List V} {ds : List D} {i : Nat} {v : V}, RpL K E H vs ds → vs[i]? = some v → ∃ d, ds[i]? = some d ∧ Rp K E H v d
  | _, _, _, _, .nil, e => by simp at e
  | _, _, 0, _, .cons a _, e => by simp at e; subst e; exact ⟨_, rfl, a⟩
  | _, _, i + 1, v, .cons _ t, e => by
    obtain ⟨d, h1, h2⟩ := RpL.getV (i := i) (v := v) t (by simpa using e)
    exact ⟨d, by simpa using h1, h2⟩
theorem RpL.set {v : V} {d : D} (r : Rp K E H v d) : ∀ {vs : List V} {ds : List D} (i : Nat), RpL K E H vs ds → RpL K E H (vs.set i v) (ds.set i d)
  | _, _, _, .nil => .nil
  | _, _, 0, .cons _ t => .cons r t
  | _, _, i + 1, .cons a t => .cons a (RpL.set r i t)
theorem RpL.take : ∀ {vs : List V} {ds : List D} (n : Nat), RpL K E H vs ds → RpL K E H (vs.take n) (ds.take n)
  | _, _, 0, _ => by simp; exact .nil
  | _, _, _ + 1, .nil => .nil
  | _, _, n + 1, .cons a t => .cons a (RpL.take n t)
theorem RpL.drop : ∀ {vs : List V} {ds : List D} (n : Nat), RpL K E H vs ds → RpL K E H (vs.drop n) (ds.drop n)
  | _, _, 0, r => r
  | _, _, _ + 1, .nil => .nil
  | _, _, n + 1, .cons _ t => RpL.drop n t
theorem RpL.erase : ∀ {vs : List V} {ds : List D} (n : Nat), RpL K E H vs ds → RpL K E H (vs.eraseIdx n) (ds.eraseIdx n)
  | _, _, _, .nil => .nil
  | _, _, 0, .cons _ t => t
  | _, _, n + 1, .cons a t => .cons a (RpL.erase n t)
theorem RpL.dropLast {vs : List V} {ds : List D} (h : RpL K E H vs ds) : RpL K E H vs.dropLast ds.dropLast := by
  rw [List.dropLast_eq_take, List.dropLast_eq_take, h.length]; exact h.take _
theorem RpL.reverse {vs : List V} {ds : List D} (h : RpL K E H vs ds) : RpL K E H vs.reverse ds.reverse := by
  induction ds generalizing vs with
  | nil => cases h; exact .nil
  | cons d r ih =>
    cases h with
    | cons a t =>
      rw [List.reverse_cons, List.reverse_cons]
      exact (ih t).app (.cons a .nil)
theorem RpL.ints {vs : List V} {ns : List Int} (h : RpL K E H vs (ns.map D.int)) : vs = ns.map V.int := by
  induction ns generalizing vs with
  | nil => cases h; rfl
  | cons n r ih =>
    cases h with
    | cons a t => cases a; rw [ih t]; rfl
theorem RpL.ofInts : ∀ (ns : List Int), RpL K E H (ns.map V.int) (ns.map D.int)
  | [] => .nil
  | n :: r => .cons (.int n) (RpL.ofInts r)
theorem RpL.bls {vs : List V} {ns : List Bool} (h : RpL K E H vs (ns.map D.bl)) : vs = ns.map V.bl := by
  induction ns generalizing vs with
  | nil => cases h; rfl
  | cons n r ih =>
    cases h with
    | cons a t => cases a; rw [ih t]; rfl
end

/-! ### the names' data -/
inductive SV where
  | un
  | val (d : D)
  /-- a list that none else holds -/
  | own (ds : List D)
  /-- a list of the caller's, handed in to be changed -/
  | inn (ds : List D)
inductive Opd where
  | tmp (d : D)
  | own (ds : List D)
  | plc (i : Nat)
abbrev Env' := List SV
/-- the list that stands in a slot -/
def listAt (ε : Env') (i : Nat) : Option (List D) := match ε[i]? with
  | some (.val (.lst ds)) => some ds
  | some (.own ds) => some ds
  | some (.inn ds) => some ds
  | _ => none
structure Ct where
  K : PySem.W.Frag
  mg : Str → Option Value
  E0 : Addr → Prop
  H0 : Hp
  io : Option Addr
def Exc (C : Ct) (ow : Addr → Option Nat) : Addr → Prop := fun a => C.E0 a ∨ ow a ≠ none
def Cell (C : Ct) (ow : Addr → Option Nat) (H : Hp) (t : Nat) (x : Option V) : SV → Prop
  | .un => True
  | .val d => ∃ v, x = some v ∧ Rp C.K (Exc C ow) H v d
  | .own ds => ∃ p vs, x = some (.ref p) ∧ ow p = some t ∧ C.H0 p = none ∧ H p = some (.lst vs) ∧ RpL C.K (Exc C ow) H vs ds
  | .inn ds => ∃ p vs, x = some (.ref p) ∧ ow p = some t ∧ C.io = some p ∧ H p = some (.lst vs) ∧ RpL C.K (Exc C ow) H vs ds
def PCell (C : Ct) (ow : Addr → Option Nat) (H : Hp) (t : Nat) (σ : L2.St) (ε : Env') (x : V) : Opd → Prop
  | .tmp d => Rp C.K (Exc C ow) H x d
  | .own ds => ∃ p vs, x = .ref p ∧ ow p = some t ∧ C.H0 p = none ∧ H p = some (.lst vs) ∧ RpL C.K (Exc C ow) H vs ds
  | .plc i => σ[i]? = some (some x) ∧ ∃ ds, listAt ε i = some ds
def Pend (C : Ct) (ow : Addr → Option Nat) (H : Hp) (σ : L2.St) (ε : Env') : List (V × Opd) → Prop
  | [] => True
  | (x, o) :: r => PCell C ow H (ε.length + r.length) σ ε x o ∧ Pend C ow H σ ε r
structure EIw (C : Ct) (ow : Addr → Option Nat) (H : Hp) (σ : L2.St) (ε : Env') (ps : List (V × Opd)) : Prop where
  len : σ.length = ε.length
  owd : ∀ a t, ow a = some t → (∃ vs, H a = some (.lst vs)) ∧ (C.H0 a = none ∨ C.io = some a)
  exh : ∀ a, C.E0 a → H a ≠ none ∧ C.H0 a ≠ none
  iot : ∀ a, C.io = some a → C.E0 a
  keep : ∀ a o, C.io ≠ some a → C.H0 a = some o → H a = some o
  slots : ∀ i x sv, σ[i]? = some x → ε[i]? = some sv → Cell C ow H i x sv
  pend : Pend C ow H σ ε ps
def EI (C : Ct) (H : Hp) (σ : L2.St) (ε : Env') (ps : List (V × Opd)) : Prop := ∃ ow, EIw C ow H σ ε ps

section
variable {C : Ct} {ow ow' : Addr → Option Nat} {H H' : Hp} {σ σ' : L2.St} {ε ε' : Env'} {ps : List (V × Opd)} {x : V} {o : Opd} {T : Nat}
theorem EIw.fresh (I : EIw C ow H σ ε ps) {p : Addr} (h : H p = none) : ow p = none ∧ ¬ C.E0 p ∧ C.H0 p = none ∧ ¬ Exc C ow p := by
  have h1 : ow p = none := by
    cases q : ow p with
    | none => rfl
    | some t => obtain ⟨⟨vs, e⟩, _⟩ := I.owd p t q; rw [h] at e; cases e
  have h2 : ¬ C.E0 p := fun z => (I.exh p z).1 h
  refine ⟨h1, h2, ?_, fun z => z.elim h2 (fun q => q h1)⟩
  cases q : C.H0 p with
  | none => rfl
  | some u =>
    by_cases hio : C.io = some p
    · exact absurd (I.iot p hio) h2
    · have := I.keep p u hio q; rw [h] at this; cases this
theorem Cell.mono {t : Nat} {v : Option V} (ht : t ≠ T) (hp : ∀ p t, t ≠ T → ow p = some t → ow' p = some t ∧ H' p = H p) (he : ∀ a, Exc C ow' a → Exc C ow a ∨ H a = none) (hk : ∀ a o, ¬ Exc C ow a → H a = some o → H' a = some o) :
    ∀ {sv : SV}, Cell C ow H t v sv → Cell C ow' H' t v sv
  | .un, _ => trivial
  | .val d, ⟨u, e, r⟩ => ⟨u, e, r.mono he hk⟩
  | .own ds, ⟨p, vs, e, h1, h2, h3, h4⟩ => ⟨p, vs, e, (hp p t ht h1).1, h2, (hp p t ht h1).2.trans h3, h4.mono he hk⟩
  | .inn ds, ⟨p, vs, e, h1, h2, h3, h4⟩ => ⟨p, vs, e, (hp p t ht h1).1, h2, (hp p t ht h1).2.trans h3, h4.mono he hk⟩
theorem PCell.mono {t : Nat} {v : V} (ht : t ≠ T) (hp : ∀ p t, t ≠ T → ow p = some t → ow' p = some t ∧ H' p = H p) (he : ∀ a, Exc C ow' a → Exc C ow a ∨ H a = none) (hk : ∀ a o, ¬ Exc C ow a → H a = some o → H' a = some o) :
    ∀ {o : Opd}, (∀ i, o = .plc i → (∃ ds, listAt ε i = some ds) → σ[i]? = some (some v) → σ'[i]? = some (some v) ∧ ∃ ds, listAt ε' i = some ds) → PCell C ow H t σ ε v o → PCell C ow' H' t σ' ε' v o
  | .tmp d, _, r => Rp.mono he hk r
  | .own ds, _, ⟨p, vs, e, h1, h2, h3, h4⟩ => ⟨p, vs, e, (hp p t ht h1).1, h2, (hp p t ht h1).2.trans h3, h4.mono he hk⟩
  | .plc i, hz, ⟨h1, h2⟩ => hz i rfl h2 h1
theorem Pend.mono (hl : ε'.length = ε.length) (hp : ∀ p t, t ≠ T → ow p = some t → ow' p = some t ∧ H' p = H p) (he : ∀ a, Exc C ow' a → Exc C ow a ∨ H a = none) (hk : ∀ a o, ¬ Exc C ow a → H a = some o → H' a = some o) :
    ∀ {ps : List (V × Opd)}, (∀ k, k < ps.length → ε.length + k ≠ T) → (∀ v i, (v, Opd.plc i) ∈ ps → (∃ ds, listAt ε i = some ds) → σ[i]? = some (some v) → σ'[i]? = some (some v) ∧ ∃ ds, listAt ε' i = some ds) →
      Pend C ow H σ ε ps → Pend C ow' H' σ' ε' ps
  | [], _, _, _ => trivial
  | (v, o) :: r, hT, hz, ⟨h1, h2⟩ => by
    refine ⟨?_, Pend.mono hl hp he hk (fun k hk' => hT k (Nat.lt_succ_of_lt hk')) (fun v i hm => hz v i (List.mem_cons_of_mem _ hm)) h2⟩
    rw [hl]
    exact h1.mono (hT r.length (Nat.lt_succ_self _)) hp he hk fun i e => hz v i (by rw [e]; exact List.mem_cons_self)
/-- no pending name -/
def Free (is : List Nat) (ps : List (V × Opd)) : Prop := ∀ v i, (v, Opd.plc i) ∈ ps → i ∉ is
def Solid (ps : List (V × Opd)) : Prop := ∀ v i, (v, Opd.plc i) ∉ ps
theorem Solid.free {is : List Nat} (h : Solid ps) : Free is ps := fun v i m => absurd m (h v i)
theorem EI.drop (I : EI C H σ ε ((x, o) :: ps)) : EI C H σ ε ps := by
  obtain ⟨ow, I⟩ := I
  exact ⟨ow, I.len, I.owd, I.exh, I.iot, I.keep, I.slots, I.pend.2⟩
theorem EI.dropN : ∀ (qs : List (V × Opd)), EI C H σ ε (qs ++ ps) → EI C H σ ε ps
  | [], I => I
  | (_, _) :: qs, I => EI.dropN qs I.drop
theorem EIw.push (I : EIw C ow H σ ε ps) {d : D} (r : Rp C.K (Exc C ow) H x d) : EIw C ow H σ ε ((x, .tmp d) :: ps) :=
  ⟨I.len, I.owd, I.exh, I.iot, I.keep, I.slots, r, I.pend⟩
inductive Flat : V → D → Prop
  | non : Flat .non .non
  | bl (b : Bool) : Flat (.bl b) (.bl b)
  | int (i : Int) : Flat (.int i) (.int i)
  | str (x : Str) : Flat (.str x) (.str x)
theorem Flat.rp {K : PySem.W.Frag} {E : Addr → Prop} {H : Hp} {d : D} (f : Flat x d) : Rp K E H x d := by
  cases f
  · exact .non
  · exact .bl _
  · exact .int _
  · exact .str _
theorem EI.push (I : EI C H σ ε ps) {d : D} (f : Flat x d) : EI C H σ ε ((x, .tmp d) :: ps) := by
  obtain ⟨ow, I⟩ := I
  exact ⟨ow, I.push f.rp⟩
/-- the second of the pending ones goes -/
theorem EI.drop2 {y : V} {d : D} (I : EI C H σ ε ((x, .tmp d) :: (y, o) :: ps)) : EI C H σ ε ((x, .tmp d) :: ps) := by
  obtain ⟨ow, I⟩ := I
  exact ⟨ow, I.len, I.owd, I.exh, I.iot, I.keep, I.slots, I.pend.1, I.pend.2.2⟩
def tagOw (ow : Addr → Option Nat) (p : Addr) (t : Option Nat) : Addr → Option Nat := fun a => if a = p then t else ow a
theorem tagOw_same {p : Addr} {t : Option Nat} : tagOw ow p t p = t := by unfold tagOw; rw [if_pos rfl]
theorem tagOw_ne {p a : Addr} {t : Option Nat} (h : a ≠ p) : tagOw ow p t a = ow a := by unfold tagOw; rw [if_neg h]
/-- a new object, not excluded -/
theorem EIw.laid (I : EIw C ow H σ ε ps) {p : Addr} {u : HO} (h : H p = none) : EIw C ow (upd H p u) σ ε ps ∧ (∀ {v : V} {d : D}, Rp C.K (Exc C ow) H v d → Rp C.K (Exc C ow) (upd H p u) v d) ∧ (∀ {v : List V} {d : List D}, RpL C.K (Exc C ow) H v d → RpL C.K (Exc C ow) (upd H p u) v d) := by
  obtain ⟨f1, f2, f3, f4⟩ := I.fresh h
  have he : ∀ a, Exc C ow a → Exc C ow a ∨ H a = none := fun a z => .inl z
  have hk : ∀ a o, ¬ Exc C ow a → H a = some o → upd H p u a = some o := fun a o _ e => by rw [upd_ne (ne_of_none e h)]; exact e
  have hp : ∀ q t, t ≠ ε.length + ps.length → ow q = some t → ow q = some t ∧ upd H p u q = H q := fun q t _ e => ⟨e, upd_ne (fun z => by rw [z, f1] at e; cases e)⟩
  have hp' : ∀ q t, t ≠ t + 1 → ow q = some t → ow q = some t ∧ upd H p u q = H q := fun q t _ e => ⟨e, upd_ne (fun z => by rw [z, f1] at e; cases e)⟩
  have hpa : ∀ q t, ow q = some t → upd H p u q = H q := fun q t e => upd_ne (fun z => by rw [z, f1] at e; cases e)
  refine ⟨⟨I.len, fun a t e => ?_, fun a e => ?_, I.iot, fun a o n e => ?_, fun i y sv e1 e2 => ?_, ?_⟩, fun r => r.mono he hk, fun r => r.mono he hk⟩
  · obtain ⟨⟨vs, e1⟩, e2⟩ := I.owd a t e
    exact ⟨⟨vs, by rw [hpa a t e]; exact e1⟩, e2⟩
  · refine ⟨?_, (I.exh a e).2⟩
    by_cases z : a = p
    · subst z; exact absurd e f2
    · rw [upd_ne z]; exact (I.exh a e).1
  · have := I.keep a o n e
    rw [upd_ne (ne_of_none this h)]; exact this
  · exact (I.slots i y sv e1 e2).mono (T := i + 1) (by omega) (fun q t _ e => ⟨e, hpa q t e⟩) he hk
  · exact Pend.mono (T := ε.length + ps.length) rfl (fun q t _ e => ⟨e, hpa q t e⟩) he hk (fun k hk' => by omega) (fun v i _ h2 h1 => ⟨h1, h2⟩) I.pend
theorem EIw.allocTup (I : EIw C ow H σ ε ps) {p : Addr} {vs : List V} {ds : List D} (h : H p = none) (r : RpL C.K (Exc C ow) H vs ds) : EIw C ow (upd H p (.tup vs)) σ ε ((.ref p, .tmp (.tup ds)) :: ps) := by
  obtain ⟨J, _, r2⟩ := I.laid (u := .tup vs) h
  exact J.push (.tup (.inl ⟨(I.fresh h).2.2.2, .inl upd_same⟩) (r2 r))
theorem EIw.allocVal (I : EIw C ow H σ ε ps) {p : Addr} {vs : List V} {ds : List D} (h : H p = none) (r : RpL C.K (Exc C ow) H vs ds) : EIw C ow (upd H p (.lst vs)) σ ε ((.ref p, .tmp (.lst ds)) :: ps) := by
  obtain ⟨J, _, r2⟩ := I.laid (u := .lst vs) h
  exact J.push (.lst ⟨(I.fresh h).2.2.2, upd_same⟩ (r2 r))
/-- a tag is given to a list that none has -/
theorem EIw.tag (I : EIw C ow H σ ε ps) {p : Addr} {vs : List V} {t : Nat} (h : H p = some (.lst vs)) (h1 : ow p = none) (h3 : C.H0 p = none) (ht : (∀ i x sv, σ[i]? = some x → ε[i]? = some sv → Cell C (tagOw ow p (some t)) H i x sv) ∧ Pend C (tagOw ow p (some t)) H σ ε ps) : EIw C (tagOw ow p (some t)) H σ ε ps := by
  refine ⟨I.len, fun a t' e => ?_, I.exh, I.iot, I.keep, ht.1, ht.2⟩
  by_cases z : a = p
  · subst z; exact ⟨⟨vs, h⟩, .inl h3⟩
  · rw [tagOw_ne z] at e; exact I.owd a t' e
theorem EIw.alloc (I : EIw C ow H σ ε ps) {p : Addr} {vs : List V} {ds : List D} (h : H p = none) (r : RpL C.K (Exc C ow) H vs ds) : EI C (upd H p (.lst vs)) σ ε ((.ref p, .own ds) :: ps) := by
  obtain ⟨f1, f2, f3, f4⟩ := I.fresh h
  let ow' := tagOw ow p (some (ε.length + ps.length))
  have he : ∀ a, Exc C ow' a → Exc C ow a ∨ H a = none := fun a z => by
    by_cases q : a = p
    · subst q; exact .inr h
    · rcases z with z | z
      · exact .inl (.inl z)
      · exact .inl (.inr (by rw [show ow' a = ow a from tagOw_ne q] at z; exact z))
  have hk : ∀ a o, ¬ Exc C ow a → H a = some o → upd H p (.lst vs) a = some o := fun a o _ e => by rw [upd_ne (ne_of_none e h)]; exact e
  have hpa : ∀ q t, ow q = some t → ow' q = some t ∧ upd H p (.lst vs) q = H q := fun q t e => by
    have z : q ≠ p := fun z => by rw [z, f1] at e; cases e
    exact ⟨by rw [show ow' q = ow q from tagOw_ne z]; exact e, upd_ne z⟩
  refine ⟨ow', I.len, fun a t e => ?_, fun a e => ?_, I.iot, fun a o n e => ?_, fun i y sv e1 e2 => ?_, ?_, ?_⟩
  · by_cases z : a = p
    · subst z; exact ⟨⟨vs, upd_same⟩, .inl f3⟩
    · rw [show ow' a = ow a from tagOw_ne z] at e
      rw [upd_ne z]; exact I.owd a t e
  · refine ⟨?_, (I.exh a e).2⟩
    by_cases z : a = p
    · subst z; exact absurd e f2
    · rw [upd_ne z]; exact (I.exh a e).1
  · have := I.keep a o n e
    rw [upd_ne (ne_of_none this h)]; exact this
  · exact (I.slots i y sv e1 e2).mono (T := i + 1) (by omega) (fun q t _ e => hpa q t e) he hk
  · exact ⟨p, vs, rfl, tagOw_same, f3, upd_same, r.mono he hk⟩
  · exact Pend.mono (T := ε.length + ps.length) rfl (fun q t _ e => hpa q t e) he hk (fun k hk' => by omega) (fun v i _ h2 h1 => ⟨h1, h2⟩) I.pend

/-! ### reading an operand -/
def deref (ε : Env') : Opd → Option D
  | .tmp d => some d
  | .own ds => some (.lst ds)
  | .plc i => (listAt ε i).map D.lst
inductive Rb (K : PySem.W.Frag) (E : Addr → Prop) (H : Hp) : V → D → Prop
  | of {x : V} {d : D} : Rp K E H x d → Rb K E H x d
  | own {p : Addr} {vs : List V} {ds : List D} : H p = some (.lst vs) → RpL K E H vs ds → Rb K E H (.ref p) (.lst ds)
theorem listAt_cases {i : Nat} {ds : List D} (h : listAt ε i = some ds) : ε[i]? = some (.val (.lst ds)) ∨ ε[i]? = some (.own ds) ∨ ε[i]? = some (.inn ds) := by
  unfold listAt at h
  split at h
  · cases h; exact .inl (by assumption)
  · cases h; exact .inr (.inl (by assumption))
  · cases h; exact .inr (.inr (by assumption))
  · cases h
theorem PCell.rb (I : EIw C ow H σ ε ps) {t : Nat} (h : PCell C ow H t σ ε x o) {d : D} (e : deref ε o = some d) : Rb C.K (Exc C ow) H x d := by
  cases o with
  | tmp d' => cases e; exact .of h
  | own ds => cases e; obtain ⟨p, vs, rfl, _, _, h3, h4⟩ := h; exact .own h3 h4
  | plc i =>
    obtain ⟨h1, ds, h2⟩ := h
    simp only [deref, h2, Option.map_some, Option.some.injEq] at e
    subst e
    rcases listAt_cases h2 with q | q | q
    · obtain ⟨v, e, r⟩ := I.slots i _ _ h1 q
      cases e; exact .of r
    · obtain ⟨p, vs, e, _, _, h3, h4⟩ := I.slots i _ _ h1 q
      cases e; exact .own h3 h4
    · obtain ⟨p, vs, e, _, _, h3, h4⟩ := I.slots i _ _ h1 q
      cases e; exact .own h3 h4
section
variable {K : PySem.W.Frag} {E : Addr → Prop}
theorem Rb.list {ds : List D} (h : Rb K E H x (.lst ds)) : ∃ p vs, x = .ref p ∧ H p = some (.lst vs) ∧ RpL K E H vs ds := by
  cases h with
  | of r => cases r with | lst n r => exact ⟨_, _, rfl, n.2, r⟩
  | own a b => exact ⟨_, _, rfl, a, b⟩
theorem Rb.fix {ds : List D} (h : Rb K E H x (.fix ds)) : ∃ p vs, x = .ref p ∧ SqL K H p vs ∧ RpL K E H vs ds := by
  cases h with
  | of r => cases r with | fix n r => exact ⟨_, _, rfl, n.seq, r⟩
theorem Rb.tuple {ds : List D} (h : Rb K E H x (.tup ds)) : ∃ p vs, x = .ref p ∧ SqT K H p vs ∧ RpL K E H vs ds := by
  cases h with
  | of r => cases r with | tup n r => exact ⟨_, _, rfl, n.seq, r⟩
theorem Rb.int {i : Int} (h : Rb K E H x (.int i)) : x = .int i := by
  cases h with | of r => cases r; rfl
theorem Rb.bl {i : Bool} (h : Rb K E H x (.bl i)) : x = .bl i := by
  cases h with | of r => cases r; rfl
theorem Rb.str {i : Str} (h : Rb K E H x (.str i)) : x = .str i := by
  cases h with | of r => cases r; rfl
theorem Rb.non (h : Rb K E H x .non) : x = .non := by
  cases h with | of r => cases r; rfl
end

/-! ### a value for good -/
def toVal (ε : Env') : Opd → Option (D × Env')
  | .tmp d => some (d, ε)
  | .own ds => some (.lst ds, ε)
  | .plc i => match ε[i]? with
    | some (.val d) => some (d, ε)
    | some (.own ds) => some (.lst ds, ε.set i (.val (.lst ds)))
    | _ => none
theorem listAt_set_ne {i j : Nat} {sv : SV} (h : j ≠ i) : listAt (ε.set i sv) j = listAt ε j := by
  unfold listAt; rw [List.getElem?_set_ne (Ne.symm h)]
theorem slot_lt {y : Option V} {i : Nat} (I : EIw C ow H σ ε ps) (h : σ[i]? = some y) : i < ε.length := by
  rw [← I.len]; exact (List.getElem?_eq_some_iff.mp h).1
/-- the list at p has no tag any more -/
theorem untag_he {p : Addr} : ∀ a, Exc C (tagOw ow p none) a → Exc C ow a ∨ H a = none := fun a z => by
  rcases z with z | z
  · exact .inl (.inl z)
  · by_cases q : a = p
    · subst q; exact absurd tagOw_same z
    · exact .inl (.inr (by rw [tagOw_ne q] at z; exact z))
theorem untag_hp {p : Addr} {T : Nat} (h1 : ow p = some T) : ∀ q t, t ≠ T → ow q = some t → tagOw ow p none q = some t ∧ H q = H q := fun q t n e => by
  have z : q ≠ p := fun z => by rw [z, h1] at e; cases e; exact n rfl
  exact ⟨by rw [tagOw_ne z]; exact e, rfl⟩
theorem untag_rp {p : Addr} {vs : List V} {ds : List D} (I : EIw C ow H σ ε ps) (h2 : C.H0 p = none) (h3 : H p = some (.lst vs)) (h4 : RpL C.K (Exc C ow) H vs ds) : Rp C.K (Exc C (tagOw ow p none)) H (.ref p) (.lst ds) := by
  refine .lst ⟨fun z => ?_, h3⟩ (h4.mono (untag_he (H := H)) fun _ _ _ e => e)
  rcases z with z | z
  · exact (I.exh p z).2 h2
  · exact z tagOw_same
theorem EI.freeze {d : D} (I : EI C H σ ε ((x, o) :: ps)) (e : toVal ε o = some (d, ε')) : EI C H σ ε' ((x, .tmp d) :: ps) := by
  obtain ⟨ow, I⟩ := I
  cases o with
  | tmp d' => cases e; exact ⟨ow, I⟩
  | own ds =>
    simp only [toVal, Option.some.injEq, Prod.mk.injEq] at e
    obtain ⟨e1, e2⟩ := e
    subst e1 e2
    obtain ⟨⟨p, vs, rfl, h1, h2, h3, h4⟩, hp⟩ := I.pend
    refine ⟨tagOw ow p none, I.len, fun a t e => ?_, I.exh, I.iot, I.keep, fun i y sv e1 e2 => ?_, untag_rp I h2 h3 h4, ?_⟩
    · by_cases z : a = p
      · subst z; rw [tagOw_same] at e; cases e
      · rw [tagOw_ne z] at e; exact I.owd a t e
    · have hi := slot_lt I e1
      exact (I.slots i y sv e1 e2).mono (T := ε.length + ps.length) (by omega) (untag_hp h1) untag_he fun _ _ _ e => e
    · exact Pend.mono (T := ε.length + ps.length) rfl (untag_hp h1) untag_he (fun _ _ _ e => e) (fun k hk => by omega) (fun v i _ h2 h1 => ⟨h1, h2⟩) hp
  | plc i =>
    obtain ⟨⟨h0, ds0, h00⟩, hp⟩ := I.pend
    simp only [toVal] at e
    split at e
    · rename_i d' hd
      cases e
      obtain ⟨v, e, r⟩ := I.slots i _ _ h0 hd
      cases e
      exact ⟨ow, I.len, I.owd, I.exh, I.iot, I.keep, I.slots, r, hp⟩
    · rename_i ds hd
      cases e
      obtain ⟨p, vs, e, h1, h2, h3, h4⟩ := I.slots i _ _ h0 hd
      cases e
      have hi := slot_lt I h0
      have rr := untag_rp I h2 h3 h4
      refine ⟨tagOw ow p none, by rw [List.length_set]; exact I.len, fun a t e => ?_, I.exh, I.iot, I.keep, fun j y sv e1 e2 => ?_, rr, ?_⟩
      · by_cases z : a = p
        · subst z; rw [tagOw_same] at e; cases e
        · rw [tagOw_ne z] at e; exact I.owd a t e
      · by_cases z : j = i
        · subst z
          rw [List.getElem?_set_self hi] at e2
          cases e2
          rw [h0] at e1; cases e1
          exact ⟨_, rfl, rr⟩
        · rw [List.getElem?_set_ne (Ne.symm z)] at e2
          exact (I.slots j y sv e1 e2).mono (T := i) z (untag_hp h1) untag_he fun _ _ _ e => e
      · refine Pend.mono (T := i) (List.length_set) (untag_hp h1) untag_he (fun _ _ _ e => e) (fun k hk => by omega) (fun v j _ h2 h1 => ⟨h1, ?_⟩) hp
        by_cases z : j = i
        · subst z
          refine ⟨ds, ?_⟩
          unfold listAt; rw [List.getElem?_set_self hi]
        · rw [listAt_set_ne z]; exact h2
    · cases e

/-! ### a slot is set -/
def svOf : Opd → SV
  | .tmp d => .val d
  | .own ds => .own ds
  | .plc _ => .un
def isInn : SV → Bool
  | .inn _ => true
  | _ => false
theorem EI.store {i : Nat} (I : EI C H σ ε ((x, o) :: ps)) (hi : i < ε.length) (hf : Free [i] ps) (ho : ∀ j, o ≠ .plc j) : EI C H (σ.set i (some x)) (ε.set i (svOf o)) ps := by
  obtain ⟨ow, I⟩ := I
  have hiσ : i < σ.length := by rw [I.len]; exact hi
  have hz : ∀ v j, (v, Opd.plc j) ∈ ps → (∃ ds, listAt ε j = some ds) → σ[j]? = some (some v) → (σ.set i (some x))[j]? = some (some v) ∧ ∃ ds, listAt (ε.set i (svOf o)) j = some ds := fun v j hm h2 h1 => by
    have z : j ≠ i := fun z => hf v j hm (by rw [z]; exact List.mem_cons_self)
    rw [List.getElem?_set_ne (Ne.symm z), listAt_set_ne z]
    exact ⟨h1, h2⟩
  cases o with
  | plc j => exact absurd rfl (ho j)
  | tmp d =>
    refine ⟨ow, by rw [List.length_set, List.length_set]; exact I.len, I.owd, I.exh, I.iot, I.keep, fun j y sv e1 e2 => ?_, ?_⟩
    · by_cases z : j = i
      · subst z
        rw [List.getElem?_set_self hiσ] at e1
        rw [List.getElem?_set_self hi] at e2
        cases e1; cases e2
        exact ⟨_, rfl, I.pend.1⟩
      · rw [List.getElem?_set_ne (Ne.symm z)] at e1 e2
        exact I.slots j y sv e1 e2
    · exact Pend.mono (T := ε.length + ps.length) (List.length_set) (fun _ _ _ e => ⟨e, rfl⟩) (fun a z => .inl z) (fun _ _ _ e => e) (fun k hk => by omega) hz I.pend.2
  | own ds =>
    obtain ⟨⟨p, vs, rfl, h1, h2, h3, h4⟩, hp⟩ := I.pend
    have he : ∀ a, Exc C (tagOw ow p (some i)) a → Exc C ow a ∨ H a = none := fun a z => by
      rcases z with z | z
      · exact .inl (.inl z)
      · by_cases q : a = p
        · subst q; exact .inl (.inr (by rw [h1]; exact fun z => by cases z))
        · exact .inl (.inr (by rw [tagOw_ne q] at z; exact z))
    have hpp : ∀ q t, t ≠ ε.length + ps.length → ow q = some t → tagOw ow p (some i) q = some t ∧ H q = H q := fun q t n e => by
      have z : q ≠ p := fun z => by rw [z, h1] at e; cases e; exact n rfl
      exact ⟨by rw [tagOw_ne z]; exact e, rfl⟩
    refine ⟨tagOw ow p (some i), by rw [List.length_set, List.length_set]; exact I.len, fun a t e => ?_, I.exh, I.iot, I.keep, fun j y sv e1 e2 => ?_, ?_⟩
    · by_cases z : a = p
      · subst z; exact ⟨⟨vs, h3⟩, .inl h2⟩
      · rw [tagOw_ne z] at e; exact I.owd a t e
    · by_cases z : j = i
      · subst z
        rw [List.getElem?_set_self hiσ] at e1
        rw [List.getElem?_set_self hi] at e2
        cases e1; cases e2
        exact ⟨p, vs, rfl, tagOw_same, h2, h3, h4.mono he fun _ _ _ e => e⟩
      · rw [List.getElem?_set_ne (Ne.symm z)] at e1 e2
        have hj := slot_lt I e1
        exact (I.slots j y sv e1 e2).mono (T := ε.length + ps.length) (by omega) hpp he fun _ _ _ e => e
    · exact Pend.mono (T := ε.length + ps.length) (List.length_set) hpp he (fun _ _ _ e => e) (fun k hk => by omega) hz hp

/-! ### a list in a slot is changed -/
def mutL : SV → Option (List D)
  | .own ds => some ds
  | .inn ds => some ds
  | _ => none
def remut : SV → List D → SV
  | .inn _, ds => .inn ds
  | _, ds => .own ds
theorem EIw.mutA (I : EIw C ow H σ ε ps) {i : Nat} {sv : SV} {ds : List D} (hx : σ[i]? = some (some x)) (hs : ε[i]? = some sv) (hl : mutL sv = some ds) :
    ∃ p vs, x = .ref p ∧ ow p = some i ∧ (C.H0 p = none ∨ C.io = some p) ∧ H p = some (.lst vs) ∧ RpL C.K (Exc C ow) H vs ds := by
  have c := I.slots i _ _ hx hs
  cases sv with
  | un => cases hl
  | val d => cases hl
  | own ds' =>
    cases hl
    obtain ⟨p, vs, e, h1, h2, h3, h4⟩ := c
    cases e
    exact ⟨p, vs, rfl, h1, .inl h2, h3, h4⟩
  | inn ds' =>
    cases hl
    obtain ⟨p, vs, e, h1, h2, h3, h4⟩ := c
    cases e
    exact ⟨p, vs, rfl, h1, .inr h2, h3, h4⟩
/-- the list in slot i is another one now, all else that was there stays; some addresses may be tagged newly that were free -/
theorem EIw.mutB (I : EIw C ow H σ ε ps) {i : Nat} {sv : SV} {ds ds' : List D} {vs' : List V} {p : Addr} (hx : σ[i]? = some (some (.ref p))) (hs : ε[i]? = some sv) (hl : mutL sv = some ds)
    (hk : ∀ a o, a ≠ p → H a = some o → H' a = some o) (hq : H' p = some (.lst vs')) (ht : ∀ a, ow' a ≠ ow a → H a = none ∧ (∃ us, H' a = some (.lst us)) ∧ C.H0 a = none)
    (r : RpL C.K (Exc C ow') H' vs' ds') : EIw C ow' H' σ (ε.set i (remut sv ds')) ps ∧ (∀ {v : V} {d : D}, Rp C.K (Exc C ow) H v d → Rp C.K (Exc C ow') H' v d) ∧ (∀ {v : List V} {d : List D}, RpL C.K (Exc C ow) H v d → RpL C.K (Exc C ow') H' v d) := by
  obtain ⟨p', vs, e, h1, h2, h3, h4⟩ := I.mutA hx hs hl
  cases e
  have hi := slot_lt I hx
  have hpx : Exc C ow p := .inr (by rw [h1]; exact fun z => by cases z)
  have ows : ∀ a, H a ≠ none → ow' a = ow a := fun a n => by
    by_cases z : ow' a = ow a
    · exact z
    · exact absurd (ht a z).1 n
  have hpo : ow' p = some i := by rw [ows p (by rw [h3]; exact fun z => by cases z)]; exact h1
  have he : ∀ a, Exc C ow' a → Exc C ow a ∨ H a = none := fun a z => by
    by_cases q : ow' a = ow a
    · rcases z with z | z
      · exact .inl (.inl z)
      · exact .inl (.inr (by rw [← q]; exact z))
    · exact .inr (ht a q).1
  have hk' : ∀ a o, ¬ Exc C ow a → H a = some o → H' a = some o := fun a o n e => hk a o (fun z => n (by rw [z]; exact hpx)) e
  have hpp : ∀ q t, t ≠ i → ow q = some t → ow' q = some t ∧ H' q = H q := fun q t n e => by
    have z : q ≠ p := fun z => by rw [z, h1] at e; cases e; exact n rfl
    obtain ⟨⟨us, e1⟩, _⟩ := I.owd q t e
    exact ⟨by rw [ows q (by rw [e1]; exact fun z => by cases z)]; exact e, by rw [hk q _ z e1, e1]⟩
  refine ⟨⟨by rw [List.length_set]; exact I.len, fun a t e => ?_, fun a e => ?_, I.iot, fun a o n e => ?_, fun j y sv' e1 e2 => ?_, ?_⟩, fun r => r.mono he hk', fun r => r.mono he hk'⟩
  · by_cases z : ow' a = ow a
    · by_cases zp : a = p
      · subst zp; exact ⟨⟨vs', hq⟩, h2⟩
      · rw [z] at e
        obtain ⟨⟨us, e1⟩, e2⟩ := I.owd a t e
        exact ⟨⟨us, hk a _ zp e1⟩, e2⟩
    · exact ⟨(ht a z).2.1, .inl (ht a z).2.2⟩
  · refine ⟨?_, (I.exh a e).2⟩
    by_cases zp : a = p
    · subst zp; rw [hq]; exact fun z => by cases z
    · intro z
      cases q : H a with
      | none => exact (I.exh a e).1 q
      | some u => have := hk a u zp q; rw [z] at this; cases this
  · by_cases zp : a = p
    · subst zp
      rcases h2 with h2 | h2
      · rw [h2] at e; cases e
      · exact absurd h2 n
    · exact hk a o zp (I.keep a o n e)
  · by_cases z : j = i
    · subst z
      rw [List.getElem?_set_self hi] at e2
      cases e2
      rw [hx] at e1; cases e1
      cases sv with
      | un => cases hl
      | val d => cases hl
      | own ds0 =>
        have h0 : C.H0 p = none := by
          obtain ⟨p2, _, e, _, q, _⟩ := I.slots j _ _ hx hs
          cases e; exact q
        exact ⟨p, vs', rfl, hpo, h0, hq, r⟩
      | inn ds0 =>
        have h0 : C.io = some p := by
          obtain ⟨p2, _, e, _, q, _⟩ := I.slots j _ _ hx hs
          cases e; exact q
        exact ⟨p, vs', rfl, hpo, h0, hq, r⟩
    · rw [List.getElem?_set_ne (Ne.symm z)] at e2
      exact (I.slots j y sv' e1 e2).mono (T := i) z hpp he hk'
  · refine Pend.mono (T := i) (List.length_set) hpp he hk' (fun k hk => by omega) (fun v j _ h2 h1 => ⟨h1, ?_⟩) I.pend
    by_cases z : j = i
    · subst z
      refine ⟨ds', ?_⟩
      unfold listAt; rw [List.getElem?_set_self hi]
      cases sv <;> first | rfl | cases hl
    · rw [listAt_set_ne z]; exact h2
/-- nothing that was there changes; some addresses may be tagged newly that were free -/
theorem EIw.grow (I : EIw C ow H σ ε ps) (hk : ∀ a o, H a = some o → H' a = some o) (ht : ∀ a, ow' a ≠ ow a → H a = none ∧ (∃ us, H' a = some (.lst us)) ∧ C.H0 a = none) :
    EIw C ow' H' σ ε ps ∧ (∀ {v : V} {d : D}, Rp C.K (Exc C ow) H v d → Rp C.K (Exc C ow') H' v d) ∧ (∀ {v : List V} {d : List D}, RpL C.K (Exc C ow) H v d → RpL C.K (Exc C ow') H' v d) := by
  have ows : ∀ a, H a ≠ none → ow' a = ow a := fun a n => by
    by_cases z : ow' a = ow a
    · exact z
    · exact absurd (ht a z).1 n
  have he : ∀ a, Exc C ow' a → Exc C ow a ∨ H a = none := fun a z => by
    by_cases q : ow' a = ow a
    · rcases z with z | z
      · exact .inl (.inl z)
      · exact .inl (.inr (by rw [← q]; exact z))
    · exact .inr (ht a q).1
  have hk' : ∀ a o, ¬ Exc C ow a → H a = some o → H' a = some o := fun a o _ e => hk a o e
  have hpp : ∀ q t, ow q = some t → ow' q = some t ∧ H' q = H q := fun q t e => by
    obtain ⟨⟨us, e1⟩, _⟩ := I.owd q t e
    exact ⟨by rw [ows q (by rw [e1]; exact fun z => by cases z)]; exact e, by rw [hk q _ e1, e1]⟩
  refine ⟨⟨I.len, fun a t e => ?_, fun a e => ?_, I.iot, fun a o n e => hk a o (I.keep a o n e), fun j y sv' e1 e2 => ?_, ?_⟩, fun r => r.mono he hk', fun r => r.mono he hk'⟩
  · by_cases z : ow' a = ow a
    · rw [z] at e
      obtain ⟨⟨us, e1⟩, e2⟩ := I.owd a t e
      exact ⟨⟨us, hk a _ e1⟩, e2⟩
    · exact ⟨(ht a z).2.1, .inl (ht a z).2.2⟩
  · refine ⟨?_, (I.exh a e).2⟩
    intro z
    cases q : H a with
    | none => exact (I.exh a e).1 q
    | some u => have := hk a u q; rw [z] at this; cases this
  · exact (I.slots j y sv' e1 e2).mono (T := j + 1) (by omega) (fun q t _ e => hpp q t e) he hk'
  · exact Pend.mono (T := ε.length + ps.length) rfl (fun q t _ e => hpp q t e) he hk' (fun k hk => by omega) (fun v j _ h2 h1 => ⟨h1, h2⟩) I.pend

/-! ### slots forgotten for a comprehension, and brought back -/
def wipSV : SV → Bool
  | .un => true
  | .val (.lst _) => false
  | .val _ => true
  | _ => false
/-- data pending for good -/
def Tmps (qs : List (V × Opd)) : Prop := ∀ q ∈ qs, ∃ d, q.2 = .tmp d
theorem EI.wipe1 {i : Nat} {sv : SV} (I : EI C H σ ε ps) (hs : ε[i]? = some sv) (hw : wipSV sv = true) :
    Free [i] ps ∧ ∃ qs, Tmps qs ∧ EI C H (σ.set i none) (ε.set i .un) (qs ++ ps) ∧ ∀ H' ε' ps', Free [i] ps' → EI C H' (σ.set i none) ε' (qs ++ ps') → EI C H' σ (ε'.set i sv) ps' := by
  obtain ⟨ow, I⟩ := I
  have hi : i < ε.length := (List.getElem?_eq_some_iff.mp hs).1
  have hiσ : i < σ.length := by rw [I.len]; exact hi
  have hla : listAt ε i = none := by
    unfold listAt; rw [hs]
    cases sv with
    | un => rfl
    | val d => cases d <;> first | rfl | cases hw
    | own _ => cases hw
    | inn _ => cases hw
  have nopl : ∀ {ps : List (V × Opd)}, Pend C ow H σ ε ps → ∀ v, (v, Opd.plc i) ∉ ps := fun {ps} => by
    induction ps with
    | nil => intro _ v z; cases z
    | cons c r ih =>
      obtain ⟨v0, o0⟩ := c
      intro h v z
      rcases List.mem_cons.mp z with e | z
      · cases e
        obtain ⟨_, ds, q⟩ := h.1
        rw [hla] at q; cases q
      · exact ih h.2 v z
  have np := nopl I.pend
  have out : EIw C ow H (σ.set i none) (ε.set i .un) ps := by
    refine ⟨by rw [List.length_set, List.length_set]; exact I.len, I.owd, I.exh, I.iot, I.keep, fun j y s' e1 e2 => ?_, ?_⟩
    · by_cases z : j = i
      · subst z
        rw [List.getElem?_set_self hi] at e2
        cases e2; trivial
      · rw [List.getElem?_set_ne (Ne.symm z)] at e1 e2
        exact I.slots j y s' e1 e2
    · refine Pend.mono (T := ε.length + ps.length) (List.length_set) (fun _ _ _ e => ⟨e, rfl⟩) (fun a z => .inl z) (fun _ _ _ e => e) (fun k hk => by omega) (fun v j hm h2 h1 => ?_) I.pend
      have z : j ≠ i := fun z => np v (by rw [← z]; exact hm)
      rw [List.getElem?_set_ne (Ne.symm z), listAt_set_ne z]
      exact ⟨h1, h2⟩
  have back : ∀ (H' : Hp) (ε' : Env') (ow' : Addr → Option Nat) (ps' : List (V × Opd)), Free [i] ps' → EIw C ow' H' (σ.set i none) ε' ps' → Cell C ow' H' i (σ[i]?.getD none) sv → EI C H' σ (ε'.set i sv) ps' := fun H' ε' ow' ps' np J c => by
    have hi' : i < ε'.length := by rw [← J.len, List.length_set]; exact hiσ
    refine ⟨ow', by rw [List.length_set, ← J.len, List.length_set], J.owd, J.exh, J.iot, J.keep, fun j y s' e1 e2 => ?_, ?_⟩
    · by_cases z : j = i
      · subst z
        rw [List.getElem?_set_self hi'] at e2
        cases e2
        rw [e1] at c; exact c
      · rw [List.getElem?_set_ne (Ne.symm z)] at e2
        exact J.slots j y s' (by rw [List.getElem?_set_ne (Ne.symm z)]; exact e1) e2
    · refine Pend.mono (T := ε'.length + ps'.length) (List.length_set) (fun _ _ _ e => ⟨e, rfl⟩) (fun a z => .inl z) (fun _ _ _ e => e) (fun k hk => by omega) (fun v j hm h2 h1 => ?_) J.pend
      have z : j ≠ i := fun z => np v j hm (by rw [z]; exact List.mem_cons_self)
      rw [List.getElem?_set_ne (Ne.symm z)] at h1
      rw [listAt_set_ne z]
      exact ⟨h1, h2⟩
  have fr : Free [i] ps := fun v j m z => by
    have e : j = i := by simpa using z
    subst e; exact np v m
  cases sv with
  | own _ => cases hw
  | inn _ => cases hw
  | un => exact ⟨fr, [], (fun q (z : q ∈ []) => nomatch z), ⟨ow, out⟩, fun H' ε' ps' f ⟨ow', J⟩ => back H' ε' ow' ps' f J trivial⟩
  | val d =>
    have hσ : ∃ y, σ[i]? = some y := ⟨_, List.getElem?_eq_getElem hiσ⟩
    obtain ⟨y, hy⟩ := hσ
    obtain ⟨v, rfl, r⟩ := I.slots i y _ hy hs
    refine ⟨fr, [(v, .tmp d)], fun q z => ⟨d, by simp at z; rw [z]⟩, ⟨ow, out.push r⟩, fun H' ε' ps' f ⟨ow', J⟩ => ?_⟩
    refine back H' ε' ow' ps' f ⟨J.len, J.owd, J.exh, J.iot, J.keep, J.slots, J.pend.2⟩ ?_
    rw [hy]
    exact ⟨v, rfl, J.pend.1⟩
def wipeE (ε : Env') : List Nat → Env'
  | [] => ε
  | v :: vs => (wipeE ε vs).set v .un
def canWipe (ε : Env') : List Nat → Bool
  | [] => true
  | v :: vs => canWipe ε vs && (match (wipeE ε vs)[v]? with
    | some sv => wipSV sv
    | none => false)
def restE (ε : Env') : List Nat → Env' → Env'
  | [], ε' => ε'
  | v :: vs, ε' => restE ε vs (ε'.set v ((wipeE ε vs)[v]?.getD .un))
theorem Tmps.free {qs : List (V × Opd)} (h : Tmps qs) {is : List Nat} : Free is qs := fun v i m => by
  obtain ⟨d, e⟩ := h _ m
  cases e
theorem Free.both {is : List Nat} {qs : List (V × Opd)} (a : Free is qs) (b : Free is ps) : Free is (qs ++ ps) := fun v i m => (List.mem_append.mp m).elim (a v i) (b v i)
theorem EI.wipe : ∀ {vs : List Nat}, canWipe ε vs = true → EI C H σ ε ps → Free vs ps ∧ ∃ qs, Tmps qs ∧ EI C H (L2.wipe σ vs) (wipeE ε vs) (qs ++ ps) ∧ ∀ H' ε' ps', Free vs ps' → EI C H' (L2.wipe σ vs) ε' (qs ++ ps') → EI C H' σ (restE ε vs ε') ps'
  | [], _, I => ⟨(fun _ _ _ z => nomatch z), [], (fun q (z : q ∈ []) => nomatch z), I, fun _ _ _ _ J => J⟩
  | v :: vs, h, I => by
    unfold canWipe at h
    rw [Bool.and_eq_true] at h
    obtain ⟨h1, h2⟩ := h
    obtain ⟨f1, qs, s1, J, back⟩ := EI.wipe h1 I
    cases hv : (wipeE ε vs)[v]? with
    | none => rw [hv] at h2; cases h2
    | some sv =>
      rw [hv] at h2
      obtain ⟨f2, qs2, s2, J2, back2⟩ := J.wipe1 hv h2
      refine ⟨fun x i m z => ?_, qs2 ++ qs, fun q z => ?_, by rw [List.append_assoc]; exact J2, fun H' ε' ps' f J' => ?_⟩
      · rcases List.mem_cons.mp z with e | z
        · exact f2 x i (List.mem_append_right _ m) (by rw [e]; exact List.mem_cons_self)
        · exact f1 x i m z
      · rcases List.mem_append.mp z with z | z
        · exact s2 _ z
        · exact s1 _ z
      · rw [List.append_assoc] at J'
        have fv : Free vs ps' := fun x i m z => f x i m (List.mem_cons_of_mem _ z)
        have fi : Free [v] ps' := fun x i m z => f x i m (by rw [show i = v by simpa using z]; exact List.mem_cons_self)
        have := back H' _ ps' fv (back2 H' ε' (qs ++ ps') (s1.free.both fi) J')
        show EI C H' σ (restE ε vs (ε'.set v ((wipeE ε vs)[v]?.getD .un))) ps'
        rw [hv]; exact this
end
end DS

set_option Elab.async false
set_option linter.all false
set_option maxRecDepth 100000
set_option maxHeartbeats 4000000
namespace DS
open PySem PySem.Spec PyProof.Rows L2

/-! ### what a piece of the program does with the data -/
structure Exn where
  name : Str
  place : Option D
inductive Out (α : Type) where
  | ok (a : α) (ε : Env')
  | err (e : Exn) (ε : Env')
  | bad
abbrev Sm (α : Type) := Env' → Out α
def Out.post {α : Type} (o : Out α) (k : α → Env' → Prop) (ke : Exn → Env' → Prop) : Prop := match o with
  | .ok a ε => k a ε
  | .err e ε => ke e ε
  | .bad => False
def bnd {α β : Type} (m : Sm α) (k : α → Sm β) : Sm β := fun ε => match m ε with
  | .ok a ε' => k a ε'
  | .err e ε' => .err e ε'
  | .bad => .bad
def Out.of {α : Type} (o : Option α) (ε : Env') : Out α := match o with
  | some a => .ok a ε
  | none => .bad
theorem post_bnd {α β : Type} {m : Sm α} {k : α → Sm β} {ε : Env'} {P : β → Env' → Prop} {R : Exn → Env' → Prop} (h : ((bnd m k) ε).post P R) : (m ε).post (fun a ε' => (k a ε').post P R) R := by
  unfold bnd at h
  cases q : m ε with
  | ok a ε' => rw [q] at h; exact h
  | err e ε' => rw [q] at h; exact h
  | bad => rw [q] at h; exact h
theorem Out.post.mono {α : Type} {o : Out α} {P P' : α → Env' → Prop} {R R' : Exn → Env' → Prop} (h : o.post P R) (hp : ∀ a ε, P a ε → P' a ε) (hr : ∀ e ε, R e ε → R' e ε) : o.post P' R' := by
  cases o with
  | ok a ε => exact hp _ _ h
  | err e ε => exact hr _ _ h
  | bad => exact h
def ExR (C : Ct) (H : Hp) (c : Value) (d : Option Addr) (e : Exn) : Prop := ∃ Cl, c = .ref Cl ∧ C.mg e.name = some (.ref Cl) ∧ match e.place with
  | none => d = none
  | some v => ∃ a x, d = some a ∧ H a = some (.xd [("place", x)]) ∧ Rp C.K C.E0 H x v
/-- what is wanted where an exception leaves -/
def ErrW (W : WX) (C : Ct) (σ : L2.St) (e : Exn) (ε : Env') : Prop := ∀ c d H', ExR C H' c d e → EI C H' σ ε [] → W c d σ H'

/-! ### the judgements -/
def ReE (X : Cx) (W : WX) (t : TE) (f : Sm Opd) : Prop := ∀ {C : Ct} {H : Hp} {σ : L2.St} {ε : Env'} {ps : List (V × Opd)} {Q : VK}, C.K = X.K → C.mg = X.mg → EI C H σ ε ps →
    (f ε).post (fun o ε' => ∀ x H', EI C H' σ ε' ((x, o) :: ps) → Q x H') (ErrW W C σ) → t σ H Q
def ReT (X : Cx) (W : WX) (t : TT) (f : Sm Bool) : Prop := ∀ {C : Ct} {H : Hp} {σ : L2.St} {ε : Env'} {ps : List (V × Opd)} {Q : Bool → Hp → Prop}, C.K = X.K → C.mg = X.mg → EI C H σ ε ps →
    (f ε).post (fun b ε' => ∀ H', EI C H' σ ε' ps → Q b H') (ErrW W C σ) → t σ H Q
/-- arguments: operands os with their values xs, the last one on top -/
def stk : List V → List Opd → List (V × Opd) → List (V × Opd)
  | x :: xs, o :: os, ps => stk xs os ((x, o) :: ps)
  | _, _, ps => ps
def ReA (X : Cx) (W : WX) (t : TA) (f : Sm (List D)) : Prop := ∀ {C : Ct} {H : Hp} {σ : L2.St} {ε : Env'} {ps : List (V × Opd)} {Q : List V → Hp → Prop}, C.K = X.K → C.mg = X.mg → EI C H σ ε ps →
    (f ε).post (fun ds ε' => ∀ xs H', xs.length = ds.length → EI C H' σ ε' (stk xs (ds.map Opd.tmp) ps) → Q xs H') (ErrW W C σ) → t σ H Q
def ReB (X : Cx) (W : WX) (t : TA) (f : Sm (List Opd)) : Prop := ∀ {C : Ct} {H : Hp} {σ : L2.St} {ε : Env'} {ps : List (V × Opd)} {Q : List V → Hp → Prop}, C.K = X.K → C.mg = X.mg → EI C H σ ε ps →
    (f ε).post (fun os ε' => ∀ xs H', xs.length = os.length → EI C H' σ ε' (stk xs os ps) → Q xs H') (ErrW W C σ) → t σ H Q
structure DE (X : Cx) (W : WX) (e : Expr) (f : Sm Opd) : Prop where
  ex : ∃ t, PE X e t ∧ ReE X W t f
structure DT (X : Cx) (W : WX) (e : Expr) (f : Sm Bool) : Prop where
  ex : ∃ t, PT X e t ∧ ReT X W t f
structure DW (X : Cx) (W : WX) (e : Expr) (f : Sm Bool) : Prop where
  ex : ∃ t, PW X e t ∧ ReT X W t f
/-- arguments as data for good -/
structure DA (X : Cx) (W : WX) (es : List Expr) (f : Sm (List D)) : Prop where
  ex : ∃ t, PA X es t ∧ ReA X W t f
/-- .. where each may be a name's list -/
structure DB (X : Cx) (W : WX) (es : List Expr) (f : Sm (List Opd)) : Prop where
  ex : ∃ t, PA X es t ∧ ReB X W t f
section
variable {X : Cx} {W : WX}

/-! ### names, constants -/
def eVar (i : Nat) : Sm Opd := fun ε => match ε[i]? with
  | some (.val d) => .ok (.tmp d) ε
  | some (.own _) => .ok (.plc i) ε
  | some (.inn _) => .ok (.plc i) ε
  | _ => .bad
def eC (d : D) : Sm Opd := fun ε => .ok (.tmp d) ε
theorem EIw.pushPlc {C : Ct} {ow : Addr → Option Nat} {H : Hp} {σ : L2.St} {ε : Env'} {ps : List (V × Opd)} {x : V} {i : Nat} {ds : List D} (I : EIw C ow H σ ε ps) (h1 : σ[i]? = some (some x)) (h2 : listAt ε i = some ds) : EIw C ow H σ ε ((x, .plc i) :: ps) :=
  ⟨I.len, I.owd, I.exh, I.iot, I.keep, I.slots, ⟨h1, ds, h2⟩, I.pend⟩
theorem var_reads {i : Nat} : ReE X W (tVar i) (eVar i) := by
  intro C H σ ε ps Q _ _ I h
  obtain ⟨ow, I⟩ := I
  unfold eVar at h
  split at h
  · rename_i d q
    have hi : i < σ.length := by rw [I.len]; exact (List.getElem?_eq_some_iff.mp q).1
    obtain ⟨v, e, r⟩ := I.slots i _ _ (List.getElem?_eq_getElem hi) q
    exact ⟨v, by rw [List.getElem?_eq_getElem hi, e], h v H ⟨ow, I.push r⟩⟩
  · rename_i ds q
    have hi : i < σ.length := by rw [I.len]; exact (List.getElem?_eq_some_iff.mp q).1
    obtain ⟨p, vs, e, r⟩ := I.slots i _ _ (List.getElem?_eq_getElem hi) q
    have hs : σ[i]? = some (some (.ref p)) := by rw [List.getElem?_eq_getElem hi, e]
    exact ⟨.ref p, hs, h _ H ⟨ow, I.pushPlc hs (by unfold listAt; rw [q])⟩⟩
  · rename_i ds q
    have hi : i < σ.length := by rw [I.len]; exact (List.getElem?_eq_some_iff.mp q).1
    obtain ⟨p, vs, e, r⟩ := I.slots i _ _ (List.getElem?_eq_getElem hi) q
    have hs : σ[i]? = some (some (.ref p)) := by rw [List.getElem?_eq_getElem hi, e]
    exact ⟨.ref p, hs, h _ H ⟨ow, I.pushPlc hs (by unfold listAt; rw [q])⟩⟩
  · exact h.elim
theorem de_var' {i : Nat} {e : Expr} (h : PE X e (tVar i)) : DE X W e (eVar i) := ⟨_, h, var_reads⟩
theorem de_var (i : Nat) {x : Str} {pos : Pos} (hN : X.N[i]? = some x := by rfl) (hv : Vis X.env.scope x := by first | exact Or.inl rfl | exact Or.inr (Or.inl rfl) | exact Or.inr (Or.inr rfl)) (hd : (x == ("__debug__" : Str)) = false := by decide)
    (hcd : (x == ("__classdict__" : Str)) = false := by decide) : DE X W (.Name x pos) (eVar i) := de_var' (pe_var hN hv hd hcd)
theorem de_const {e : Expr} {v : V} {d : D} (h : PE X e (tC v)) (f : Flat v d) : DE X W e (eC d) := by
  refine ⟨_, h, ?_⟩
  intro C H σ ε ps Q _ _ I h
  exact h v H (I.push f)
theorem de_int {i : Int} {j pos} : DE X W (.Constant (.int i) j pos) (eC (.int i)) := de_const pe_int (.int i)
theorem de_bl {b : Bool} {j pos} : DE X W (.Constant (.bool b) j pos) (eC (.bl b)) := de_const pe_bl (.bl b)
theorem de_non {j pos} : DE X W (.Constant .none j pos) (eC .non) := de_const pe_non .non
theorem de_str {x : Str} {j pos} : DE X W (.Constant (.str x) j pos) (eC (.str x)) := de_const pe_str (.str x)

/-! ### operators -/
def R2Ok (X : Cx) (r : R2) (g : D → D → Option Opd) : Prop :=
  ∀ {C : Ct} {ow : Addr → Option Nat} {H : Hp} {σ : L2.St} {ε : Env'} {ps : List (V × Opd)} {x y : V} {a b : D} {z : Opd} {Q : VK}, C.K = X.K → EIw C ow H σ ε ps → Rb C.K (Exc C ow) H x a → Rb C.K (Exc C ow) H y b → g a b = some z →
    (∀ v H', EI C H' σ ε ((v, z) :: ps) → Q v H') → r x y H Q
def OpD (X : Cx) (f : Value → Value → Sem Value) (g : D → D → Option Opd) : Prop := ∃ r, OpR X f r ∧ R2Ok X r g
def eOp (g : D → D → Option Opd) (a b : Sm Opd) : Sm Opd := bnd a fun x => bnd b fun y ε => match deref ε x, deref ε y with
  | some d, some e => .of (g d e) ε
  | _, _ => .bad
theorem eOp_post {g : D → D → Option Opd} {x y : Opd} {ε : Env'} {P : Opd → Env' → Prop} {R : Exn → Env' → Prop} (h : Out.post (match deref ε x, deref ε y with
    | some d, some e => Out.of (g d e) ε
    | _, _ => .bad) P R) : ∃ d e z, deref ε x = some d ∧ deref ε y = some e ∧ g d e = some z ∧ P z ε := by
  split at h
  · rename_i d e h1 h2
    cases q : g d e with
    | none => rw [q] at h; exact h.elim
    | some z => rw [q] at h; exact ⟨d, e, z, h1, h2, q, h⟩
  · exact h.elim
theorem R2Ok.use {r : R2} {g : D → D → Option Opd} (hr : R2Ok X r g) {C : Ct} {H : Hp} {σ : L2.St} {ε : Env'} {ps : List (V × Opd)} {x y : V} {o p : Opd} {d e : D} {z : Opd} {Q : VK} (hK : C.K = X.K) (I : EI C H σ ε ((y, p) :: (x, o) :: ps))
    (h1 : deref ε o = some d) (h2 : deref ε p = some e) (hg : g d e = some z) (h : ∀ v H', EI C H' σ ε ((v, z) :: ps) → Q v H') : r x y H Q := by
  obtain ⟨ow, I⟩ := I
  have I0 : EIw C ow H σ ε ps := ⟨I.len, I.owd, I.exh, I.iot, I.keep, I.slots, I.pend.2.2⟩
  exact hr hK I0 (PCell.rb I I.pend.2.1 h1) (PCell.rb I I.pend.1 h2) hg h
theorem de_bin {op : Operator} {g : D → D → Option Opd} {a b : Expr} {fa fb : Sm Opd} {pos : Pos} (ho : OpD X (binaryOp op) g) (ha : DE X W a fa) (hb : DE X W b fb) : DE X W (.BinOp a op b pos) (eOp g fa fb) := by
  obtain ⟨r, ho, hr⟩ := ho
  obtain ⟨ta, pa, qa⟩ := ha
  obtain ⟨tb, pb, qb⟩ := hb
  refine ⟨_, pe_op ho pa pb, ?_⟩
  intro C H σ ε ps Q hK hM I h
  refine qa hK hM I (Out.post.mono (post_bnd h) (fun o ε1 h1 x H1 I1 => ?_) fun _ _ z => z)
  refine qb hK hM I1 (Out.post.mono (post_bnd h1) (fun p ε2 h2 y H2 I2 => ?_) fun _ _ z => z)
  obtain ⟨d, e, z, e1, e2, e3, h2⟩ := eOp_post h2
  exact hr.use hK I2 e1 e2 e3 h2
theorem de_cmp {op : CmpOp} {g : D → D → Option Opd} {a b : Expr} {fa fb : Sm Opd} {pos : Pos} (ho : OpD X (compareOp op) g) (ha : DE X W a fa) (hb : DE X W b fb) (hm : behindInMarks op b = false) : DE X W (.Compare a [op] [b] pos) (eOp g fa fb) := by
  obtain ⟨r, ho, hr⟩ := ho
  obtain ⟨ta, pa, qa⟩ := ha
  obtain ⟨tb, pb, qb⟩ := hb
  refine ⟨_, pe_cmpR ho pa pb hm, ?_⟩
  intro C H σ ε ps Q hK hM I h
  refine qa hK hM I (Out.post.mono (post_bnd h) (fun o ε1 h1 x H1 I1 => ?_) fun _ _ z => z)
  refine qb hK hM I1 (Out.post.mono (post_bnd h1) (fun p ε2 h2 y H2 I2 => ?_) fun _ _ z => z)
  obtain ⟨d, e, z, e1, e2, e3, h2⟩ := eOp_post h2
  exact hr.use hK I2 e1 e2 e3 h2
/-- the answer of a comparison as a test -/
def asT : Opd → Option Bool
  | .tmp (.bl b) => some b
  | _ => none
def tCmpD (g : D → D → Option Opd) (a b : Sm Opd) : Sm Bool := bnd (eOp g a b) fun o ε => .of (asT o) ε
theorem EI.bl {C : Ct} {H : Hp} {σ : L2.St} {ε : Env'} {ps : List (V × Opd)} {x : V} {b : Bool} (I : EI C H σ ε ((x, .tmp (.bl b)) :: ps)) : x = .bl b := by
  obtain ⟨ow, I⟩ := I
  have := I.pend.1
  cases this; rfl
theorem asT_post {o : Opd} {ε : Env'} {P : Bool → Env' → Prop} {R : Exn → Env' → Prop} (h : Out.post (Out.of (asT o) ε) P R) : ∃ b, o = .tmp (.bl b) ∧ P b ε := by
  unfold asT at h
  split at h
  · exact ⟨_, rfl, h⟩
  · exact h.elim
theorem dt_cmp {op : CmpOp} {g : D → D → Option Opd} {a b : Expr} {fa fb : Sm Opd} {pos : Pos} (ho : OpD X (compareOp op) g) (ha : DE X W a fa) (hb : DE X W b fb) (hm : behindInMarks op b = false) : DT X W (.Compare a [op] [b] pos) (tCmpD g fa fb) := by
  obtain ⟨r, ho, hr⟩ := ho
  obtain ⟨ta, pa, qa⟩ := ha
  obtain ⟨tb, pb, qb⟩ := hb
  refine ⟨_, pt_cmpR ho pa pb hm, ?_⟩
  intro C H σ ε ps Q hK hM I h
  refine qa hK hM I (Out.post.mono (post_bnd (post_bnd h)) (fun o ε1 h1 x H1 I1 => ?_) fun _ _ z => z)
  refine qb hK hM I1 (Out.post.mono (post_bnd h1) (fun p ε2 h2 y H2 I2 => ?_) fun _ _ z => z)
  obtain ⟨d, e, z, e1, e2, e3, h2⟩ := eOp_post h2
  obtain ⟨b, rfl, h3⟩ := asT_post h2
  exact hr.use hK I2 e1 e2 e3 fun v H' J => ⟨b, J.bl, h3 H' J.drop⟩
/-- a chain of two comparisons -/
def eChain (g g' : D → D → Option Opd) (a b c : Sm Opd) : Sm Opd := bnd a fun x => bnd b fun y => bnd (fun ε => match deref ε x, deref ε y with
  | some d, some e => .of ((g d e).bind asT) ε
  | _, _ => .bad) fun k => if k then bnd c fun z ε => (match deref ε y, deref ε z with
    | some d, some e => .of (((g' d e).bind asT).map fun b => .tmp (.bl b)) ε
    | _, _ => .bad) else fun ε => .ok (.tmp (.bl false)) ε
theorem asT_bind {g : D → D → Option Opd} {d e : D} {k : Bool} (q : (g d e).bind asT = some k) : g d e = some (.tmp (.bl k)) := by
  obtain ⟨w, e3, e4⟩ := Option.bind_eq_some_iff.mp q
  unfold asT at e4
  split at e4
  · cases e4; exact e3
  · cases e4
theorem chain_reads {r r' : R2} {g g' : D → D → Option Opd} {ta tb tc : TE} {fa fb fc : Sm Opd} (hr : R2Ok X r g) (hr' : R2Ok X r' g') (qa : ReE X W ta fa) (qb : ReE X W tb fb) (qc : ReE X W tc fc) : ReE X W (tChain r r' ta tb tc) (eChain g g' fa fb fc) := by
  intro C H σ ε ps Q hK hM I h
  refine qa hK hM I (Out.post.mono (post_bnd h) (fun o ε1 h1 x H1 I1 => ?_) fun _ _ z => z)
  refine qb hK hM I1 (Out.post.mono (post_bnd h1) (fun p ε2 h2 y H2 I2 => ?_) fun _ _ z => z)
  have h2 := post_bnd h2
  split at h2
  · rename_i d e e1 e2
    cases q : (g d e).bind asT with
    | none => rw [q] at h2; exact h2.elim
    | some k =>
      rw [q] at h2
      obtain ⟨ow, I2⟩ := I2
      refine hr hK I2 (PCell.rb I2 I2.pend.2.1 e1) (PCell.rb I2 I2.pend.1 e2) (asT_bind q) fun v H' J => ⟨k, J.bl, ?_⟩
      cases k with
      | false => exact iteF (h2 _ _ ((J.drop.drop.drop).push (.bl false)))
      | true =>
        refine iteT ?_
        have h3 := post_bnd (show Out.post (bnd fc _ ε2) _ _ from h2)
        refine qc hK hM J.drop (Out.post.mono h3 (fun u ε3 h3 t H3 I3 => ?_) fun _ _ z => z)
        split at h3
        · rename_i d' e' e5 e6
          cases q' : (g' d' e').bind asT with
          | none => rw [q'] at h3; exact h3.elim
          | some k' =>
            rw [q'] at h3
            exact hr'.use hK I3 e5 e6 (asT_bind q') fun v H' J => h3 v H' J.drop2
        · exact h3.elim
  · exact h2.elim
theorem de_chain {op op' : CmpOp} {g g' : D → D → Option Opd} {a b c : Expr} {fa fb fc : Sm Opd} {pos : Pos} (ho : OpD X (compareOp op) g) (ho' : OpD X (compareOp op') g') (ha : DE X W a fa) (hb : DE X W b fb) (hc : DE X W c fc)
    (hm : lastMarks [op, op'] [b, c] = false) : DE X W (.Compare a [op, op'] [b, c] pos) (eChain g g' fa fb fc) := by
  obtain ⟨r, ho, hr⟩ := ho
  obtain ⟨r', ho', hr'⟩ := ho'
  obtain ⟨ta, pa, qa⟩ := ha
  obtain ⟨tb, pb, qb⟩ := hb
  obtain ⟨tc, pc, qc⟩ := hc
  exact ⟨_, pe_chain ho ho' pa pb pc hm, chain_reads hr hr' qa qb qc⟩
/-- an expression that answers a bool, as a test -/
def tOf (f : Sm Opd) : Sm Bool := bnd f fun o ε => .of (asT o) ε
theorem dt_chain {op op' : CmpOp} {g g' : D → D → Option Opd} {a b c : Expr} {fa fb fc : Sm Opd} {pos : Pos} (ho : OpD X (compareOp op) g) (ho' : OpD X (compareOp op') g') (ha : DE X W a fa) (hb : DE X W b fb) (hc : DE X W c fc)
    (hm : lastMarks [op, op'] [b, c] = false) : DT X W (.Compare a [op, op'] [b, c] pos) (tOf (eChain g g' fa fb fc)) := by
  obtain ⟨r, ho, hr⟩ := ho
  obtain ⟨r', ho', hr'⟩ := ho'
  obtain ⟨ta, pa, qa⟩ := ha
  obtain ⟨tb, pb, qb⟩ := hb
  obtain ⟨tc, pc, qc⟩ := hc
  refine ⟨_, pt_chain ho ho' pa pb pc hm, ?_⟩
  intro C H σ ε ps Q hK hM I h
  refine chain_reads hr hr' qa qb qc hK hM I (Out.post.mono (post_bnd h) (fun o ε1 h1 x H1 I1 => ?_) fun _ _ z => z)
  obtain ⟨b, rfl, h3⟩ := asT_post h1
  exact ⟨b, I1.bl, h3 H1 I1.drop⟩

/-! ### truth, and, or, not, if -/
def truth : D → Option Bool
  | .non => some false
  | .bl b => some b
  | .int i => some (i != 0)
  | .str s => if s.length ≤ sizeLine then some ((s.length : Int) != 0) else none
  | .lst xs => some (!xs.isEmpty)
  | .tup xs => some (!xs.isEmpty)
  | .fix xs => some (!xs.isEmpty)
theorem empty_iff {K : PySem.W.Frag} {E : Addr → Prop} {H : Hp} {vs : List V} {ds : List D} (r : RpL K E H vs ds) : (!ds.isEmpty) = !vs.isEmpty := by cases r <;> rfl
theorem Rb.truth {K : PySem.W.Frag} {E : Addr → Prop} {H : Hp} {x : V} {d : D} {b : Bool} (r : Rb K E H x d) (h : truth d = some b) : TruV K x H b := by
  cases d with
  | non => cases r.non; cases h; exact (rfl : false = false)
  | bl k => cases r.bl; cases h; exact (rfl : b = b)
  | int i => cases r.int; cases h; exact (rfl : (i != 0) = (i != 0))
  | str s =>
    cases r.str
    simp only [DS.truth] at h
    split at h
    · cases h; exact ⟨by assumption, rfl⟩
    · cases h
  | lst ds =>
    cases h
    obtain ⟨p, vs, rfl, h1, h2⟩ := r.list
    exact .inl ⟨vs, .of h1, empty_iff h2⟩
  | fix ds =>
    cases h
    obtain ⟨p, vs, rfl, h1, h2⟩ := r.fix
    exact .inl ⟨vs, h1, empty_iff h2⟩
  | tup ds =>
    cases h
    obtain ⟨p, vs, rfl, h1, h2⟩ := r.tuple
    exact .inr (.inl ⟨vs, h1, empty_iff h2⟩)
theorem EI.rb {C : Ct} {H : Hp} {σ : L2.St} {ε : Env'} {ps : List (V × Opd)} {x : V} {o : Opd} {d : D} (I : EI C H σ ε ((x, o) :: ps)) (h : deref ε o = some d) : ∃ ow, EIw C ow H σ ε ps ∧ Rb C.K (Exc C ow) H x d := by
  obtain ⟨ow, I⟩ := I
  exact ⟨ow, ⟨I.len, I.owd, I.exh, I.iot, I.keep, I.slots, I.pend.2⟩, PCell.rb I I.pend.1 h⟩
theorem of_post {α : Type} {o : Option α} {ε : Env'} {P : α → Env' → Prop} {R : Exn → Env' → Prop} (h : Out.post (Out.of o ε) P R) : ∃ a, o = some a ∧ P a ε := by
  cases o with
  | none => exact h.elim
  | some a => exact ⟨a, rfl, h⟩
def tTru (f : Sm Opd) : Sm Bool := bnd f fun o ε => .of ((deref ε o).bind truth) ε
theorem dt_truth {e : Expr} {f : Sm Opd} (h : DE X W e f) (he : ∀ whole, isTrue e X.env whole = (do let v ← whole; standAt e.pos; holding [v] (truthy v))) : DT X W e (tTru f) := by
  obtain ⟨t, p, q⟩ := h
  refine ⟨_, pt_truth p he, ?_⟩
  intro C H σ ε ps Q hK hM I h
  refine q hK hM I (Out.post.mono (post_bnd h) (fun o ε1 h1 x H1 I1 => ?_) fun _ _ z => z)
  obtain ⟨b, e, h2⟩ := of_post h1
  obtain ⟨d, e1, e2⟩ := Option.bind_eq_some_iff.mp e
  obtain ⟨ow, J, r⟩ := I1.rb e1
  exact ⟨b, by rw [← hK]; exact r.truth e2, h2 H1 ⟨ow, J⟩⟩
def tAnd (a b : Sm Bool) : Sm Bool := bnd a fun k => if k then b else fun ε => .ok false ε
def tOr (a b : Sm Bool) : Sm Bool := bnd a fun k => if k then fun ε => .ok true ε else b
def tNot (a : Sm Bool) : Sm Bool := bnd a fun k ε => .ok (!k) ε
theorem dw_one {op : BoolOp} {a : Expr} {f : Sm Bool} {pos : Pos} (h : DT X W a f) : DW X W (.BoolOp op [a] pos) f := by
  obtain ⟨t, p, q⟩ := h
  cases op with
  | And => exact ⟨_, pw_and1 p, q⟩
  | Or => exact ⟨_, pw_or1 p, q⟩
theorem dw_and {a b : Expr} {rest : List Expr} {f g : Sm Bool} {pos : Pos} (h : DT X W a f) (h' : DW X W (.BoolOp .And (b :: rest) pos) g) : DW X W (.BoolOp .And (a :: b :: rest) pos) (tAnd f g) := by
  obtain ⟨t, p, q⟩ := h
  obtain ⟨t', p', q'⟩ := h'
  refine ⟨_, pw_and p p', ?_⟩
  intro C H σ ε ps Q hK hM I h
  refine q hK hM I (Out.post.mono (post_bnd h) (fun k ε1 h1 H1 I1 => ?_) fun _ _ z => z)
  cases k with
  | true => exact iteT (q' hK hM I1 h1)
  | false => exact iteF (h1 H1 I1)
theorem dw_or {a b : Expr} {rest : List Expr} {f g : Sm Bool} {pos : Pos} (h : DT X W a f) (h' : DW X W (.BoolOp .Or (b :: rest) pos) g) : DW X W (.BoolOp .Or (a :: b :: rest) pos) (tOr f g) := by
  obtain ⟨t, p, q⟩ := h
  obtain ⟨t', p', q'⟩ := h'
  refine ⟨_, pw_or p p', ?_⟩
  intro C H σ ε ps Q hK hM I h
  refine q hK hM I (Out.post.mono (post_bnd h) (fun k ε1 h1 H1 I1 => ?_) fun _ _ z => z)
  cases k with
  | true => exact iteT (h1 H1 I1)
  | false => exact iteF (q' hK hM I1 h1)
theorem dt_w {e : Expr} {f : Sm Bool} (h : DW X W e f) : DT X W e f := by
  obtain ⟨t, p, q⟩ := h
  exact ⟨_, p.pt, q⟩
theorem dt_not {a : Expr} {f : Sm Bool} {pos : Pos} (h : DT X W a f) : DT X W (.UnaryOp .Not a pos) (tNot f) := by
  obtain ⟨t, p, q⟩ := h
  refine ⟨_, pt_not p, ?_⟩
  intro C H σ ε ps Q hK hM I h
  exact q hK hM I (Out.post.mono (post_bnd h) (fun k ε1 h1 H1 I1 => h1 H1 I1) fun _ _ z => z)
def eAnd (a b : Sm Opd) : Sm Opd := bnd a fun o ε => match (deref ε o).bind truth with
  | some true => b ε
  | some false => .ok o ε
  | none => .bad
def eOr (a b : Sm Opd) : Sm Opd := bnd a fun o ε => match (deref ε o).bind truth with
  | some true => .ok o ε
  | some false => b ε
  | none => .bad
def eNot (a : Sm Opd) : Sm Opd := bnd a fun o ε => .of (((deref ε o).bind truth).map fun b => .tmp (.bl (!b))) ε
theorem de_one {op : BoolOp} {a : Expr} {f : Sm Opd} {pos : Pos} (h : DE X W a f) : DE X W (.BoolOp op [a] pos) f := by
  obtain ⟨t, p, q⟩ := h
  exact ⟨_, pe_one p, q⟩
theorem de_and {a b : Expr} {rest : List Expr} {f g : Sm Opd} {pos : Pos} (h : DE X W a f) (h' : DE X W (.BoolOp .And (b :: rest) pos) g) : DE X W (.BoolOp .And (a :: b :: rest) pos) (eAnd f g) := by
  obtain ⟨t, p, q⟩ := h
  obtain ⟨t', p', q'⟩ := h'
  refine ⟨_, pe_andT p p', ?_⟩
  intro C H σ ε ps Q hK hM I h
  refine q hK hM I (Out.post.mono (post_bnd h) (fun o ε1 h1 x H1 I1 => ?_) fun _ _ z => z)
  split at h1
  · rename_i e
    obtain ⟨d, e1, e2⟩ := Option.bind_eq_some_iff.mp e
    obtain ⟨ow, J, r⟩ := I1.rb e1
    exact ⟨true, by rw [← hK]; exact r.truth e2, iteT (q' hK hM I1.drop h1)⟩
  · rename_i e
    obtain ⟨d, e1, e2⟩ := Option.bind_eq_some_iff.mp e
    obtain ⟨ow, J, r⟩ := I1.rb e1
    exact ⟨false, by rw [← hK]; exact r.truth e2, iteF (h1 x H1 I1)⟩
  · exact h1.elim
theorem de_or {a b : Expr} {rest : List Expr} {f g : Sm Opd} {pos : Pos} (h : DE X W a f) (h' : DE X W (.BoolOp .Or (b :: rest) pos) g) : DE X W (.BoolOp .Or (a :: b :: rest) pos) (eOr f g) := by
  obtain ⟨t, p, q⟩ := h
  obtain ⟨t', p', q'⟩ := h'
  refine ⟨_, pe_orT p p', ?_⟩
  intro C H σ ε ps Q hK hM I h
  refine q hK hM I (Out.post.mono (post_bnd h) (fun o ε1 h1 x H1 I1 => ?_) fun _ _ z => z)
  split at h1
  · rename_i e
    obtain ⟨d, e1, e2⟩ := Option.bind_eq_some_iff.mp e
    obtain ⟨ow, J, r⟩ := I1.rb e1
    exact ⟨true, by rw [← hK]; exact r.truth e2, iteT (h1 x H1 I1)⟩
  · rename_i e
    obtain ⟨d, e1, e2⟩ := Option.bind_eq_some_iff.mp e
    obtain ⟨ow, J, r⟩ := I1.rb e1
    exact ⟨false, by rw [← hK]; exact r.truth e2, iteF (q' hK hM I1.drop h1)⟩
  · exact h1.elim
theorem de_not {a : Expr} {f : Sm Opd} {pos : Pos} (h : DE X W a f) : DE X W (.UnaryOp .Not a pos) (eNot f) := by
  obtain ⟨t, p, q⟩ := h
  refine ⟨_, pe_notT p, ?_⟩
  intro C H σ ε ps Q hK hM I h
  refine q hK hM I (Out.post.mono (post_bnd h) (fun o ε1 h1 x H1 I1 => ?_) fun _ _ z => z)
  obtain ⟨z, e, h2⟩ := of_post h1
  obtain ⟨b, e0, rfl⟩ := Option.map_eq_some_iff.mp e
  obtain ⟨d, e1, e2⟩ := Option.bind_eq_some_iff.mp e0
  obtain ⟨ow, J, r⟩ := I1.rb e1
  exact ⟨b, by rw [← hK]; exact r.truth e2, h2 _ H1 (I1.drop.push (.bl _))⟩
def eIf (c : Sm Bool) (a b : Sm Opd) : Sm Opd := bnd c fun k => if k then a else b
theorem de_if {c a b : Expr} {fc : Sm Bool} {f g : Sm Opd} {pos : Pos} (hc : DT X W c fc) (h : DE X W a f) (h' : DE X W b g) : DE X W (.IfExp c a b pos) (eIf fc f g) := by
  obtain ⟨tc, pc, qc⟩ := hc
  obtain ⟨t, p, q⟩ := h
  obtain ⟨t', p', q'⟩ := h'
  refine ⟨_, pe_ifExp pc p p', ?_⟩
  intro C H σ ε ps Q hK hM I h
  refine qc hK hM I (Out.post.mono (post_bnd h) (fun k ε1 h1 H1 I1 => ?_) fun _ _ z => z)
  cases k with
  | true => exact iteT (q hK hM I1 h1)
  | false => exact iteF (q' hK hM I1 h1)

/-! ### arguments, displays -/
def eVal (a : Sm Opd) : Sm D := bnd a fun o ε => match toVal ε o with
  | some (d, ε') => .ok d ε'
  | none => .bad
def aNil : Sm (List D) := fun ε => .ok [] ε
def aCons (a : Sm Opd) (r : Sm (List D)) : Sm (List D) := bnd (eVal a) fun d => bnd r fun ds ε => .ok (d :: ds) ε
def bNil : Sm (List Opd) := fun ε => .ok [] ε
def bCons (a : Sm Opd) (r : Sm (List Opd)) : Sm (List Opd) := bnd a fun d => bnd r fun ds ε => .ok (d :: ds) ε
theorem toVal_post {o : Opd} {ε : Env'} {P : D → Env' → Prop} {R : Exn → Env' → Prop} (h : Out.post (match toVal ε o with
  | some (d, ε') => .ok d ε'
  | none => .bad) P R) : ∃ d ε', toVal ε o = some (d, ε') ∧ P d ε' := by
  split at h
  · exact ⟨_, _, by assumption, h⟩
  · exact h.elim
theorem da_nil : DA X W [] aNil := by
  refine ⟨_, pa_nil, ?_⟩
  intro C H σ ε ps Q hK hM I h
  exact h [] H rfl I
theorem da_cons {e : Expr} {es : List Expr} {f : Sm Opd} {r : Sm (List D)} (h : DE X W e f) (h' : DA X W es r) (hs : starEach (e :: es) X.env = (false, eval e X.env) :: starEach es X.env := by rfl) : DA X W (e :: es) (aCons f r) := by
  obtain ⟨t, p, q⟩ := h
  obtain ⟨t', p', q'⟩ := h'
  refine ⟨_, pa_cons p p' hs, ?_⟩
  intro C H σ ε ps Q hK hM I h
  refine q hK hM I (Out.post.mono (post_bnd (post_bnd h)) (fun o ε1 h1 x H1 I1 => ?_) fun _ _ z => z)
  obtain ⟨d, ε2, e, h2⟩ := toVal_post h1
  refine q' hK hM (I1.freeze e) (Out.post.mono (post_bnd h2) (fun ds ε3 h3 xs H3 hl I3 => ?_) fun _ _ z => z)
  exact h3 (x :: xs) H3 (by simp [hl]) I3
theorem db_nil : DB X W [] bNil := by
  refine ⟨_, pa_nil, ?_⟩
  intro C H σ ε ps Q hK hM I h
  exact h [] H rfl I
theorem db_cons {e : Expr} {es : List Expr} {f : Sm Opd} {r : Sm (List Opd)} (h : DE X W e f) (h' : DB X W es r) (hs : starEach (e :: es) X.env = (false, eval e X.env) :: starEach es X.env := by rfl) : DB X W (e :: es) (bCons f r) := by
  obtain ⟨t, p, q⟩ := h
  obtain ⟨t', p', q'⟩ := h'
  refine ⟨_, pa_cons p p' hs, ?_⟩
  intro C H σ ε ps Q hK hM I h
  refine q hK hM I (Out.post.mono (post_bnd h) (fun o ε1 h1 x H1 I1 => ?_) fun _ _ z => z)
  refine q' hK hM I1 (Out.post.mono (post_bnd h1) (fun ds ε3 h3 xs H3 hl I3 => ?_) fun _ _ z => z)
  exact h3 (x :: xs) H3 (by simp [hl]) I3
theorem stk_rp {C : Ct} {ow : Addr → Option Nat} {H : Hp} {σ : L2.St} {ε : Env'} : ∀ {ds : List D} {xs : List V} {ps : List (V × Opd)}, xs.length = ds.length → EIw C ow H σ ε (stk xs (ds.map Opd.tmp) ps) → RpL C.K (Exc C ow) H xs ds ∧ EIw C ow H σ ε ps
  | [], [], _, _, I => ⟨.nil, I⟩
  | [], _ :: _, _, h, _ => by simp at h
  | _ :: _, [], _, h, _ => by simp at h
  | d :: ds, x :: xs, ps, h, I => by
    obtain ⟨r, J⟩ := stk_rp (ds := ds) (xs := xs) (ps := (x, .tmp d) :: ps) (by simpa using h) I
    exact ⟨.cons J.pend.1 r, J.len, J.owd, J.exh, J.iot, J.keep, J.slots, J.pend.2⟩
inductive RbL (K : PySem.W.Frag) (E : Addr → Prop) (H : Hp) : List V → List D → Prop
  | nil : RbL K E H [] []
  | cons {v : V} {vs : List V} {d : D} {ds : List D} : Rb K E H v d → RbL K E H vs ds → RbL K E H (v :: vs) (d :: ds)
def derefs (ε : Env') : List Opd → Option (List D)
  | [] => some []
  | o :: os => match deref ε o, derefs ε os with
    | some d, some ds => some (d :: ds)
    | _, _ => none
theorem derefs_cons {ε : Env'} {o : Opd} {os : List Opd} {es : List D} (h : derefs ε (o :: os) = some es) : ∃ d ds, es = d :: ds ∧ deref ε o = some d ∧ derefs ε os = some ds := by
  unfold derefs at h
  split at h
  · cases h; exact ⟨_, _, rfl, by assumption, by assumption⟩
  · cases h
theorem stk_rb {C : Ct} {ow : Addr → Option Nat} {H : Hp} {σ : L2.St} {ε : Env'} : ∀ {os : List Opd} {xs : List V} {ds : List D} {ps : List (V × Opd)}, xs.length = os.length → derefs ε os = some ds → EIw C ow H σ ε (stk xs os ps) → RbL C.K (Exc C ow) H xs ds ∧ EIw C ow H σ ε ps
  | [], [], _, _, _, h, I => by cases h; exact ⟨.nil, I⟩
  | [], _ :: _, _, _, h, _, _ => by simp at h
  | _ :: _, [], _, _, h, _, _ => by simp at h
  | o :: os, x :: xs, es, ps, h, e, I => by
    obtain ⟨d, ds, rfl, e1, e2⟩ := derefs_cons e
    obtain ⟨r, J⟩ := stk_rb (os := os) (xs := xs) (ds := ds) (ps := (x, o) :: ps) (by simpa using h) e2 I
    exact ⟨.cons (PCell.rb J J.pend.1 e1) r, J.len, J.owd, J.exh, J.iot, J.keep, J.slots, J.pend.2⟩
def eTup (a : Sm (List D)) : Sm Opd := bnd a fun ds ε => if ds.length ≤ sizeLine then .ok (.tmp (.tup ds)) ε else .bad
def eLst (a : Sm (List D)) : Sm Opd := bnd a fun ds ε => if ds.length ≤ sizeLine then .ok (.own ds) ε else .bad
theorem if_post {α : Type} {c : Prop} [Decidable c] {a : α} {ε : Env'} {P : α → Env' → Prop} {R : Exn → Env' → Prop} (h : Out.post (if c then .ok a ε else .bad) P R) : c ∧ P a ε := by
  split at h
  · exact ⟨by assumption, h⟩
  · exact h.elim
theorem de_tup {es : List Expr} {a : Sm (List D)} {n : Nat} {pos : Pos} (h : DA X W es a) : DE X W (.Tuple es n pos) (eTup a) := by
  obtain ⟨t, p, q⟩ := h
  refine ⟨_, pe_tup p, ?_⟩
  intro C H σ ε ps Q hK hM I h
  refine q hK hM I (Out.post.mono (post_bnd h) (fun ds ε1 h1 xs H1 hl I1 => ?_) fun _ _ z => z)
  obtain ⟨h2, h3⟩ := if_post h1
  obtain ⟨ow, I1⟩ := I1
  obtain ⟨r, J⟩ := stk_rp hl I1
  exact ⟨by rw [hl]; exact h2, fun p hp => h3 _ _ ⟨ow, J.allocTup hp r⟩⟩
theorem de_lst {es : List Expr} {a : Sm (List D)} {pos : Pos} (h : DA X W es a) : DE X W (.List es pos) (eLst a) := by
  obtain ⟨t, p, q⟩ := h
  refine ⟨_, pe_lst p, ?_⟩
  intro C H σ ε ps Q hK hM I h
  refine q hK hM I (Out.post.mono (post_bnd h) (fun ds ε1 h1 xs H1 hl I1 => ?_) fun _ _ z => z)
  obtain ⟨h2, h3⟩ := if_post h1
  obtain ⟨ow, I1⟩ := I1
  obtain ⟨r, J⟩ := stk_rp hl I1
  exact ⟨by rw [hl]; exact h2, fun p hp => h3 _ _ (J.alloc hp r)⟩

/-! ### items, slices -/
def ixD : D → D → Option Opd
  | .lst xs, .int i => (atI xs i).map Opd.tmp
  | .fix xs, .int i => (atI xs i).map Opd.tmp
  | .tup xs, .int i => (atI xs i).map Opd.tmp
  | .str s, .int i => if s.length ≤ sizeLine then (atI s.cps.toList i).map fun c => .tmp (.str ⟨#[c]⟩) else none
  | _, _ => none
theorem atI_rp {K : PySem.W.Frag} {E : Addr → Prop} {H : Hp} {vs : List V} {ds : List D} {i : Int} {d : D} (r : RpL K E H vs ds) (h : atI ds i = some d) : ∃ v, atI vs i = some v ∧ Rp K E H v d := by
  unfold atI at h ⊢
  rw [r.length]
  obtain ⟨j, e1, e2⟩ := Option.bind_eq_some_iff.mp h
  obtain ⟨v, e3, e4⟩ := r.get e2
  exact ⟨v, by rw [e1]; exact e3, e4⟩
theorem ix_ok : R2Ok X (rIx X.K) ixD := by
  intro C ow H σ ε ps x y a b z Q hK I ra rb h q
  unfold ixD at h
  split at h
  · obtain ⟨d, e, rfl⟩ := Option.map_eq_some_iff.mp h
    obtain ⟨p, vs, rfl, h1, h2⟩ := ra.list
    cases rb.int
    obtain ⟨v, e1, e2⟩ := atI_rp h2 e
    exact .inl ⟨p, vs, _, v, rfl, rfl, .of h1, e1, q v H ⟨ow, I.push e2⟩⟩
  · obtain ⟨d, e, rfl⟩ := Option.map_eq_some_iff.mp h
    obtain ⟨p, vs, rfl, h1, h2⟩ := ra.fix
    cases rb.int
    obtain ⟨v, e1, e2⟩ := atI_rp h2 e
    exact .inl ⟨p, vs, _, v, rfl, rfl, by rw [← hK]; exact h1, e1, q v H ⟨ow, I.push e2⟩⟩
  · obtain ⟨d, e, rfl⟩ := Option.map_eq_some_iff.mp h
    obtain ⟨p, vs, rfl, h1, h2⟩ := ra.tuple
    cases rb.int
    obtain ⟨v, e1, e2⟩ := atI_rp h2 e
    exact .inr (.inl ⟨p, vs, _, v, rfl, rfl, by rw [← hK]; exact h1, e1, q v H ⟨ow, I.push e2⟩⟩)
  · split at h
    · obtain ⟨c, e, rfl⟩ := Option.map_eq_some_iff.mp h
      cases ra.str
      cases rb.int
      exact .inr (.inr ⟨_, _, c, rfl, rfl, by assumption, e, q _ H ⟨ow, I.push (.str _)⟩⟩)
    · cases h
  · cases h
abbrev eIx (a b : Sm Opd) : Sm Opd := eOp ixD a b
theorem de_ix {a b : Expr} {fa fb : Sm Opd} {pos : Pos} (ha : DE X W a fa) (hb : DE X W b fb) (hs : PlainIx b := by exact fun _ _ => rfl) : DE X W (.Subscript a b pos) (eIx fa fb) := by
  obtain ⟨ta, pa, qa⟩ := ha
  obtain ⟨tb, pb, qb⟩ := hb
  refine ⟨_, pe_ix ix_seq pa pb hs, ?_⟩
  intro C H σ ε ps Q hK hM I h
  refine qa hK hM I (Out.post.mono (post_bnd h) (fun o ε1 h1 x H1 I1 => ?_) fun _ _ z => z)
  refine qb hK hM I1 (Out.post.mono (post_bnd h1) (fun p ε2 h2 y H2 I2 => ?_) fun _ _ z => z)
  obtain ⟨d, e, z, e1, e2, e3, h2⟩ := eOp_post h2
  exact ix_ok.use hK I2 e1 e2 e3 h2
structure DO (X : Cx) (W : WX) (e : Option Expr) (f : Sm (Option Int)) : Prop where
  ex : ∃ t, PO X e t ∧ ∀ {C : Ct} {H : Hp} {σ : L2.St} {ε : Env'} {ps : List (V × Opd)} {Q : Option Int → Hp → Prop}, C.K = X.K → C.mg = X.mg → EI C H σ ε ps →
    (f ε).post (fun b ε' => ∀ H', EI C H' σ ε' ps → Q b H') (ErrW W C σ) → t σ H Q
def oNone : Sm (Option Int) := fun ε => .ok none ε
def oSome (f : Sm Opd) : Sm (Option Int) := bnd f fun o ε => match deref ε o with
  | some (.int i) => .ok (some i) ε
  | _ => .bad
theorem do_none : DO X W none oNone := by
  refine ⟨_, po_none, ?_⟩
  intro C H σ ε ps Q hK hM I h
  exact h H I
theorem do_some {e : Expr} {f : Sm Opd} (h : DE X W e f) : DO X W (some e) (oSome f) := by
  obtain ⟨t, p, q⟩ := h
  refine ⟨_, po_some p, ?_⟩
  intro C H σ ε ps Q hK hM I h
  refine q hK hM I (Out.post.mono (post_bnd h) (fun o ε1 h1 x H1 I1 => ?_) fun _ _ z => z)
  split at h1
  · rename_i i e
    obtain ⟨ow, J, r⟩ := I1.rb e
    exact ⟨i, r.int, h1 H1 I1.drop⟩
  · exact h1.elim
def cutD (xs : List D) (lo hi : Option Int) : List D := (xs.drop (HT.sIx xs.length 0 lo)).take (HT.sIx xs.length xs.length hi - HT.sIx xs.length 0 lo)
theorem cut_rp {K : PySem.W.Frag} {E : Addr → Prop} {H : Hp} {vs : List V} {ds : List D} {lo hi : Option Int} (r : RpL K E H vs ds) : RpL K E H (cutV vs lo hi) (cutD ds lo hi) := by
  unfold cutV cutD
  rw [r.length]
  exact (r.drop _).take _
def slD (d : D) (lo hi : Option Int) : Option Opd := match d with
  | .lst xs => some (.own (cutD xs lo hi))
  | .fix xs => some (.own (cutD xs lo hi))
  | .tup xs => some (.tmp (.tup (cutD xs lo hi)))
  | .str s => if s.length ≤ sizeLine then some (.tmp (.str (Txt.slice s lo hi))) else none
  | _ => none
def eSl (a : Sm Opd) (lo hi : Sm (Option Int)) : Sm Opd := bnd a fun o => bnd lo fun l => bnd hi fun u ε => .of ((deref ε o).bind fun d => slD d l u) ε
theorem de_slice {e : Expr} {lo hi : Option Expr} {f : Sm Opd} {fl fh : Sm (Option Int)} {pos p2 : Pos} (h : DE X W e f) (hl : DO X W lo fl) (hh : DO X W hi fh) : DE X W (.Subscript e (.Slice lo hi none p2) pos) (eSl f fl fh) := by
  obtain ⟨t, p, q⟩ := h
  obtain ⟨tl, pl, ql⟩ := hl
  obtain ⟨th, ph, qh⟩ := hh
  refine ⟨_, pe_slice (sl_list.or (sl_tupA.or C8.sl_txt)) p pl ph, ?_⟩
  intro C H σ ε ps Q hK hM I h
  refine q hK hM I (Out.post.mono (post_bnd h) (fun o ε1 h1 x H1 I1 => ?_) fun _ _ z => z)
  refine ql hK hM I1 (Out.post.mono (post_bnd h1) (fun l ε2 h2 H2 I2 => ?_) fun _ _ z => z)
  refine qh hK hM I2 (Out.post.mono (post_bnd h2) (fun u ε3 h3 H3 I3 => ?_) fun _ _ z => z)
  obtain ⟨z, e, h4⟩ := of_post h3
  obtain ⟨d, e1, e2⟩ := Option.bind_eq_some_iff.mp e
  obtain ⟨ow, J, r⟩ := I3.rb e1
  unfold slD at e2
  split at e2
  · cases e2
    obtain ⟨p, vs, rfl, h5, h6⟩ := r.list
    exact .inl ⟨p, vs, rfl, .of h5, fun p hp => h4 _ _ (J.alloc hp (cut_rp h6))⟩
  · cases e2
    obtain ⟨p, vs, rfl, h5, h6⟩ := r.fix
    exact .inl ⟨p, vs, rfl, by rw [← hK]; exact h5, fun p hp => h4 _ _ (J.alloc hp (cut_rp h6))⟩
  · rename_i xs
    cases e2
    cases r with
    | of rr =>
      obtain ⟨p, vs, rfl, h5, h6⟩ := Rb.tuple (.of rr)
      refine .inr (.inl ⟨p, vs, rfl, by rw [← hK]; exact h5, fun hw => h4 _ _ ⟨ow, J.push ?_⟩, fun _ p hp => h4 _ _ ⟨ow, J.allocTup hp (cut_rp h6)⟩⟩)
      have : cutD xs l u = xs := by
        unfold cutD
        rw [← h6.length, hw.1, hw.2]
        simp [h6.length]
      rw [this]; exact rr
  · split at e2
    · cases e2
      cases r.str
      exact .inr (.inr ⟨_, rfl, by assumption, h4 _ _ ⟨ow, J.push (.str _)⟩⟩)
    · cases e2
  · cases e2
end
end DS

set_option Elab.async false
set_option linter.all false
set_option maxRecDepth 100000
set_option maxHeartbeats 4000000
namespace DS
open PySem PySem.Spec PyProof.Rows L2
section
variable {X : Cx} {W : WX}

/-! ### operators by the data -/
def addD : D → D → Option Opd
  | .int i, .int j => some (.tmp (.int (i + j)))
  | .str x, .str y => if x.length + y.length ≤ sizeLine then some (.tmp (.str (x ++ y))) else none
  | .lst xs, .lst ys => if xs.length + ys.length ≤ sizeLine then some (.own (xs ++ ys)) else none
  | .tup xs, .tup ys => if xs.length + ys.length ≤ sizeLine then some (.tmp (.tup (xs ++ ys))) else none
  | _, _ => none
theorem op_addD : OpD X (binaryOp .Add) addD := by
  refine ⟨_, op_add.or (op_add_str.or (op_cat.or op_catA)), ?_⟩
  intro C ow H σ ε ps x y a b z Q hK I ra rb h q
  unfold addD at h
  split at h
  · cases h
    cases ra.int; cases rb.int
    exact .inl ⟨_, _, rfl, rfl, q _ H ⟨ow, I.push (.int _)⟩⟩
  · split at h
    · cases h
      cases ra.str; cases rb.str
      exact .inr (.inl ⟨_, _, rfl, rfl, by assumption, q _ H ⟨ow, I.push (.str _)⟩⟩)
    · cases h
  · split at h
    · rename_i hl
      cases h
      obtain ⟨p, vs, rfl, h1, h2⟩ := ra.list
      obtain ⟨p', vs', rfl, h1', h2'⟩ := rb.list
      exact .inr (.inr (.inl ⟨p, p', vs, vs', rfl, rfl, h1, h1', by rw [h2.length, h2'.length]; exact hl, fun c hc => q _ _ (I.alloc hc (h2.app h2'))⟩))
    · cases h
  · split at h
    · rename_i xs ys hl
      cases h
      cases ra with
      | of ra =>
        cases rb with
        | of rb =>
          obtain ⟨p, vs, rfl, h1, h2⟩ := Rb.tuple (.of ra)
          obtain ⟨p', vs', rfl, h1', h2'⟩ := Rb.tuple (.of rb)
          refine .inr (.inr (.inr ⟨p, p', vs, vs', rfl, rfl, by rw [← hK]; exact h1, by rw [← hK]; exact h1', by rw [h2.length, h2'.length]; exact hl, fun e => q _ H ⟨ow, I.push ?_⟩, fun _ e => q _ H ⟨ow, I.push ?_⟩, fun _ _ c hc => q _ _ ⟨ow, I.allocTup hc (h2.app h2')⟩⟩))
          · subst e
            cases h2
            exact rb
          · subst e
            cases h2'
            rw [List.append_nil]; exact ra
    · cases h
  · cases h
def subD : D → D → Option Opd
  | .int i, .int j => some (.tmp (.int (i - j)))
  | _, _ => none
theorem op_subD : OpD X (binaryOp .Sub) subD := by
  refine ⟨_, op_sub, ?_⟩
  intro C ow H σ ε ps x y a b z Q hK I ra rb h q
  unfold subD at h
  split at h
  · cases h
    cases ra.int; cases rb.int
    exact ⟨_, _, rfl, rfl, q _ H ⟨ow, I.push (.int _)⟩⟩
  · cases h
/-- a small number: told by its size, so that no kernel walks along 2 ^ 62 -/
def sm62 (i : Int) : Bool := Nat.ble i.natAbs 4611686018427387903
theorem sm62_of {i : Int} (h : sm62 i = true) : -(2 ^ 62) ≤ i ∧ i < 2 ^ 62 := by
  have := Nat.le_of_ble_eq_true h
  omega
theorem sm62_nat {n : Nat} (h : n ≤ 1000000) : sm62 (n : Int) = true := Nat.ble_eq_true_of_le (by omega)
theorem sm62_abs {i : Int} (h : i.natAbs ≤ 1000000) : sm62 i = true := Nat.ble_eq_true_of_le (by omega)
def mulOk (i j : Int) : Bool := decide (-(2 ^ 64) < i) && decide (i < 2 ^ 64) || decide (-(2 ^ 64) < j) && decide (j < 2 ^ 64) || decide (Builtin.Int.intBits i + Builtin.Int.intBits j ≤ 134217728)
def mulD : D → D → Option Opd
  | .int i, .int j => if mulOk i j then some (.tmp (.int (i * j))) else none
  | .lst xs, .int k => if sm62 k = true ∧ xs.length * k.toNat ≤ sizeLine then some (.own (List.replicate k.toNat xs).flatten) else none
  | .tup xs, .int k => if xs ≠ [] ∧ 2 ≤ k ∧ k ≤ 1000 ∧ xs.length ≤ 1000 then some (.tmp (.tup (List.replicate k.toNat xs).flatten)) else none
  | _, _ => none
theorem RpL.rep {K : PySem.W.Frag} {E : Addr → Prop} {H : Hp} {vs : List V} {ds : List D} (r : RpL K E H vs ds) : ∀ n, RpL K E H (List.replicate n vs).flatten (List.replicate n ds).flatten
  | 0 => .nil
  | n + 1 => by
    rw [List.replicate_succ, List.replicate_succ, List.flatten_cons, List.flatten_cons]
    exact r.app (RpL.rep r n)
theorem op_mulD : OpD X (binaryOp .Mult) mulD := by
  refine ⟨_, op_mul.or (op_mulX.or (op_rep.or op_repT)), ?_⟩
  intro C ow H σ ε ps x y a b z Q hK I ra rb h q
  unfold mulD at h
  split at h
  · split at h
    · rename_i hm
      cases h
      cases ra.int; cases rb.int
      unfold mulOk at hm
      rw [Bool.or_eq_true, Bool.or_eq_true, Bool.and_eq_true, Bool.and_eq_true, decide_eq_true_eq, decide_eq_true_eq, decide_eq_true_eq, decide_eq_true_eq, decide_eq_true_eq] at hm
      rcases hm with hm | hm
      · exact .inl ⟨_, _, rfl, rfl, hm, q _ H ⟨ow, I.push (.int _)⟩⟩
      · exact .inr (.inl ⟨_, _, rfl, rfl, (by unfold CMulX; omega), q _ H ⟨ow, I.push (.int _)⟩⟩)
    · cases h
  · split at h
    · rename_i hl
      cases h
      obtain ⟨p, vs, rfl, h1, h2⟩ := ra.list
      cases rb.int
      have h62 := sm62_of hl.1
      exact .inr (.inr (.inl ⟨p, _, vs, rfl, rfl, h1, by omega, by omega, by rw [h2.length]; exact hl.2, fun c hc => q _ _ (I.alloc hc (h2.rep _))⟩))
    · cases h
  · split at h
    · rename_i xs k hl
      cases h
      obtain ⟨p, vs, rfl, h1, h2⟩ := ra.tuple
      cases rb.int
      refine .inr (.inr (.inr ⟨p, _, vs, rfl, rfl, by rw [← hK]; exact h1, fun e => ?_, hl.2.1, hl.2.2.1, by rw [h2.length]; exact hl.2.2.2, fun c hc => q _ _ ⟨ow, I.allocTup hc (h2.rep _)⟩⟩))
      subst e
      cases h2
      exact hl.1 rfl
    · cases h
  · cases h
def fdivD : D → D → Option Opd
  | .int i, .int j => if 0 < j ∧ j.natAbs.log2 < 9000 then some (.tmp (.int (i / j))) else if j ≠ 0 ∧ j.natAbs < 1073741824 then some (.tmp (.int (i.fdiv j))) else none
  | _, _ => none
theorem op_fdivD : OpD X (binaryOp .FloorDiv) fdivD := by
  refine ⟨_, op_fdivW.or op_fdivN, ?_⟩
  intro C ow H σ ε ps x y a b z Q hK I ra rb h q
  unfold fdivD at h
  split at h
  · split at h
    · cases h
      cases ra.int; cases rb.int
      exact .inl ⟨_, _, rfl, rfl, by assumption, q _ H ⟨ow, I.push (.int _)⟩⟩
    · split at h
      · cases h
        cases ra.int; cases rb.int
        exact .inr ⟨_, _, rfl, rfl, by assumption, q _ H ⟨ow, I.push (.int _)⟩⟩
      · cases h
  · cases h
def modD : D → D → Option Opd
  | .int i, .int j => if 0 < j then some (.tmp (.int (i % j))) else if j ≠ 0 then some (.tmp (.int (i.fmod j))) else none
  | _, _ => none
theorem op_modD : OpD X (binaryOp .Mod) modD := by
  refine ⟨_, op_mod.or op_modN, ?_⟩
  intro C ow H σ ε ps x y a b z Q hK I ra rb h q
  unfold modD at h
  split at h
  · split at h
    · cases h
      cases ra.int; cases rb.int
      exact .inl ⟨_, _, rfl, rfl, by assumption, q _ H ⟨ow, I.push (.int _)⟩⟩
    · split at h
      · cases h
        cases ra.int; cases rb.int
        exact .inr ⟨_, _, rfl, rfl, by assumption, q _ H ⟨ow, I.push (.int _)⟩⟩
      · cases h
  · cases h
def powD : D → D → Option Opd
  | .int i, .int j => if 0 ≤ j ∧ j ≤ 1000000 ∧ i.natAbs < 2 ^ 64 then some (.tmp (.int (i ^ j.toNat))) else none
  | _, _ => none
theorem op_powD : OpD X (binaryOp .Pow) powD := by
  refine ⟨_, op_pow, ?_⟩
  intro C ow H σ ε ps x y a b z Q hK I ra rb h q
  unfold powD at h
  split at h
  · split at h
    · cases h
      cases ra.int; cases rb.int
      exact ⟨_, _, rfl, rfl, by assumption, q _ H ⟨ow, I.push (.int _)⟩⟩
    · cases h
  · cases h
def cmpD (p : Int → Int → Bool) : D → D → Option Opd
  | .int i, .int j => some (.tmp (.bl (p i j)))
  | _, _ => none
theorem op_cmpD {f : Value → Value → Sem Value} {p : Int → Int → Bool} (h : OpR X f (rI0 fun i j => .bl (p i j))) : OpD X f (cmpD p) := by
  refine ⟨_, h, ?_⟩
  intro C ow H σ ε ps x y a b z Q hK I ra rb h q
  unfold cmpD at h
  split at h
  · cases h
    cases ra.int; cases rb.int
    exact ⟨_, _, rfl, rfl, q _ H ⟨ow, I.push (.bl _)⟩⟩
  · cases h
abbrev ltD := cmpD fun i j => decide (i < j)
abbrev leD := cmpD fun i j => decide (i ≤ j)
abbrev gtD := cmpD fun i j => decide (j < i)
abbrev geD := cmpD fun i j => decide (j ≤ i)
theorem op_ltD : OpD X (compareOp .Lt) ltD := op_cmpD op_lt
theorem op_leD : OpD X (compareOp .LtE) leD := op_cmpD op_le
theorem op_gtD : OpD X (compareOp .Gt) gtD := op_cmpD op_gt
theorem op_geD : OpD X (compareOp .GtE) geD := op_cmpD op_ge
mutual
def toPy : D → PyData
  | .non => .none
  | .bl b => .bool b
  | .int i => .int i
  | .str s => .str s
  | .lst xs => .list (toPyL xs)
  | .tup xs => .tuple (toPyL xs)
  | .fix xs => .list (toPyL xs)
def toPyL : List D → List PyData
  | [] => []
  | d :: ds => toPy d :: toPyL ds
end
mutual
theorem Rp.dp {K : PySem.W.Frag} {E : Addr → Prop} {H : Hp} : ∀ {x : V} {d : D}, Rp K E H x d → Dp K H x (toPy d)
  | _, _, .non => .non
  | _, _, .bl b => .bl b
  | _, _, .int i => .int i
  | _, _, .str x => .str x
  | _, _, .lst n r => .lst n.seq (RpL.dp r)
  | _, _, .fix n r => .lst n.seq (RpL.dp r)
  | _, _, .tup n r => .tup n.seq (RpL.dp r)
theorem RpL.dp {K : PySem.W.Frag} {E : Addr → Prop} {H : Hp} : ∀ {x : List V} {d : List D}, RpL K E H x d → DpAll K H x (toPyL d)
  | _, _, .nil => .nil
  | _, _, .cons h t => .cons (Rp.dp h) (RpL.dp t)
end
theorem Rb.dp {K : PySem.W.Frag} {E : Addr → Prop} {H : Hp} {x : V} {d : D} (r : Rb K E H x d) : Dp K H x (toPy d) := by
  cases r with
  | of r => exact r.dp
  | own h r => exact .lst (.of h) r.dp
def eqD : D → D → Option Opd
  | .str a, .str b => some (.tmp (.bl (decide (a = b))))
  | a, b => if (SeqAt.shaped (toPy a) && SeqAt.shaped (toPy b)) = true then some (.tmp (.bl (PyData.eqv (toPy a) (toPy b)))) else none
def neD : D → D → Option Opd
  | .str a, .str b => some (.tmp (.bl (!decide (a = b))))
  | a, b => if (SeqAt.shaped (toPy a) && SeqAt.shaped (toPy b)) = true then some (.tmp (.bl (!PyData.eqv (toPy a) (toPy b)))) else none
theorem dec_s (a b : Str) : decide (V.str a = V.str b) = decide (a = b) := by simp
theorem op_eqDD (hu : X.A.units + 64 < cLine) : OpD X (compareOp .Eq) eqD := by
  refine ⟨_, op_eq.or (op_eqD hu), ?_⟩
  intro C ow H σ ε ps x y a b z Q hK I ra rb h q
  unfold eqD at h
  split at h
  · cases h
    cases ra.str; cases rb.str
    exact .inl ⟨rfl, by rw [dec_s]; exact q _ H ⟨ow, I.push (.bl _)⟩⟩
  · split at h
    · rename_i hs
      cases h
      rw [Bool.and_eq_true] at hs
      exact .inr ⟨_, _, by rw [← hK]; exact ra.dp, by rw [← hK]; exact rb.dp, hs.1, hs.2, q _ H ⟨ow, I.push (.bl _)⟩⟩
    · cases h
theorem op_neDD (hu : X.A.units + 64 < cLine) : OpD X (compareOp .NotEq) neD := by
  refine ⟨_, op_ne.or (op_neD hu), ?_⟩
  intro C ow H σ ε ps x y a b z Q hK I ra rb h q
  unfold neD at h
  split at h
  · cases h
    cases ra.str; cases rb.str
    exact .inl ⟨rfl, by rw [dec_s]; exact q _ H ⟨ow, I.push (.bl _)⟩⟩
  · split at h
    · rename_i hs
      cases h
      rw [Bool.and_eq_true] at hs
      exact .inr ⟨_, _, by rw [← hK]; exact ra.dp, by rw [← hK]; exact rb.dp, hs.1, hs.2, q _ H ⟨ow, I.push (.bl _)⟩⟩
    · cases h
/-- x is None -/
def isN (d : D) : Bool := match d with
  | .non => true
  | _ => false
def isD : D → D → Option Opd
  | d, .non => some (.tmp (.bl (isN d)))
  | _, _ => none
def isNotD : D → D → Option Opd
  | d, .non => some (.tmp (.bl (!isN d)))
  | _, _ => none
theorem Rb.isN {K : PySem.W.Frag} {E : Addr → Prop} {H : Hp} {x : V} {d : D} (r : Rb K E H x d) : decide (x = V.non) = DS.isN d := by
  cases r with
  | of r => cases r <;> rfl
  | own _ _ => rfl
theorem op_isD : OpD X (compareOp .Is) isD := by
  refine ⟨_, op_isN, ?_⟩
  intro C ow H σ ε ps x y a b z Q hK I ra rb h q
  unfold isD at h
  split at h
  · cases h
    cases rb.non
    exact ⟨rfl, by rw [ra.isN]; exact q _ H ⟨ow, I.push (.bl _)⟩⟩
  · cases h
theorem op_isNotD : OpD X (compareOp .IsNot) isNotD := by
  refine ⟨_, op_notN, ?_⟩
  intro C ow H σ ε ps x y a b z Q hK I ra rb h q
  unfold isNotD at h
  split at h
  · cases h
    cases rb.non
    exact ⟨rfl, by rw [ra.isN]; exact q _ H ⟨ow, I.push (.bl _)⟩⟩
  · cases h
/-- x in a list or tuple of flat things -/
def flatD : D → Bool
  | .non => true
  | .bl _ => true
  | .int _ => true
  | .str _ => true
  | _ => false
def vOf : D → V
  | .bl b => .bl b
  | .int i => .int i
  | .str s => .str s
  | _ => .non
theorem Rp.vOf {K : PySem.W.Frag} {E : Addr → Prop} {H : Hp} {x : V} {d : D} (r : Rp K E H x d) (f : flatD d = true) : x = DS.vOf d ∧ flatV x = true := by
  cases r <;> first | exact ⟨rfl, rfl⟩ | cases f
theorem Rb.vOf {K : PySem.W.Frag} {E : Addr → Prop} {H : Hp} {x : V} {d : D} (r : Rb K E H x d) (f : flatD d = true) : x = DS.vOf d ∧ flatV x = true := by
  cases r with
  | of r => exact r.vOf f
  | own _ _ => cases f
theorem RpL.vOf {K : PySem.W.Frag} {E : Addr → Prop} {H : Hp} : ∀ {xs : List V} {ds : List D}, RpL K E H xs ds → ds.all flatD = true → xs = ds.map DS.vOf ∧ xs.all flatV = true
  | _, _, .nil, _ => ⟨rfl, rfl⟩
  | _, _, .cons a t, f => by
    rw [List.all_cons, Bool.and_eq_true] at f
    obtain ⟨e1, f1⟩ := a.vOf f.1
    obtain ⟨e2, f2⟩ := RpL.vOf t f.2
    exact ⟨by rw [List.map_cons, ← e1, ← e2], by rw [List.all_cons, f1, f2]; rfl⟩
def inB (d : D) (xs : List D) : Bool := inV (vOf d) (xs.map vOf)
def inS (neg : Bool) (d : D) (xs : List D) : Option Opd := if (flatD d && xs.all flatD) = true then some (.tmp (.bl (if neg then !inB d xs else inB d xs))) else none
def inD (neg : Bool) : D → D → Option Opd
  | d, .lst xs => inS neg d xs
  | d, .tup xs => inS neg d xs
  | d, .fix xs => inS neg d xs
  | .str x, .str y => some (.tmp (.bl (if neg then !(!(Builtin.Str.occurrences y x 0 y.length 1).isEmpty) else !(Builtin.Str.occurrences y x 0 y.length 1).isEmpty)))
  | _, _ => none
theorem op_inG {f : Value → Value → Sem Value} {neg : Bool} (h1 : OpR X f (rIn X.K neg)) (h2 : OpR X f (fun x y H Q => ∃ i j, x = .str i ∧ y = .str j ∧ Q (.bl (if neg then !(!(Builtin.Str.occurrences j i 0 j.length 1).isEmpty) else !(Builtin.Str.occurrences j i 0 j.length 1).isEmpty)) H)) : OpD X f (inD neg) := by
  refine ⟨_, h1.or h2, ?_⟩
  intro C ow H σ ε ps x y a b z Q hK I ra rb h q
  have seq : ∀ {p : Addr} {vs : List V} {xs : List D}, (SqL C.K H p vs ∨ SqT C.K H p vs) → RpL C.K (Exc C ow) H vs xs → inS neg a xs = some z → y = .ref p → rIn X.K neg x y H Q := fun {p vs xs} hq hr hs e => by
    unfold inS at hs
    split at hs
    · rename_i hf
      cases hs
      rw [Bool.and_eq_true] at hf
      obtain ⟨e1, f1⟩ := ra.vOf hf.1
      obtain ⟨e2, f2⟩ := hr.vOf hf.2
      refine ⟨p, vs, e, by rw [← hK]; exact hq, f1, f2, ?_⟩
      rw [e1, e2]
      exact q _ H ⟨ow, I.push (.bl _)⟩
    · cases hs
  unfold inD at h
  split at h
  · obtain ⟨p, vs, e, h1, h2⟩ := rb.list
    exact .inl (seq (.inl (.of h1)) h2 h e)
  · obtain ⟨p, vs, e, h1, h2⟩ := rb.tuple
    exact .inl (seq (.inr h1) h2 h e)
  · obtain ⟨p, vs, e, h1, h2⟩ := rb.fix
    exact .inl (seq (.inl h1) h2 h e)
  · cases h
    cases ra.str; cases rb.str
    exact .inr ⟨_, _, rfl, rfl, q _ H ⟨ow, I.push (.bl _)⟩⟩
  · cases h
theorem op_inD : OpD X (compareOp .In) (inD false) := op_inG op_in_seq op_in_str
theorem op_notInD : OpD X (compareOp .NotIn) (inD true) := op_inG op_notIn_seq op_notIn_str
/-- unary -/
def eUn (g : D → Option Opd) (a : Sm Opd) : Sm Opd := bnd a fun o ε => .of ((deref ε o).bind g) ε
def negD : D → Option Opd
  | .int i => some (.tmp (.int (-i)))
  | _ => none
theorem de_neg {a : Expr} {f : Sm Opd} {pos : Pos} (h : DE X W a f) : DE X W (.UnaryOp .USub a pos) (eUn negD f) := by
  obtain ⟨t, p, q⟩ := h
  refine ⟨_, pe_un un_neg p, ?_⟩
  intro C H σ ε ps Q hK hM I h
  refine q hK hM I (Out.post.mono (post_bnd h) (fun o ε1 h1 x H1 I1 => ?_) fun _ _ z => z)
  obtain ⟨z, e, h2⟩ := of_post h1
  obtain ⟨d, e1, e2⟩ := Option.bind_eq_some_iff.mp e
  obtain ⟨ow, J, r⟩ := I1.rb e1
  unfold negD at e2
  split at e2
  · cases e2
    cases r.int
    exact ⟨_, rfl, h2 _ H1 ⟨ow, J.push (.int _)⟩⟩
  · cases e2

/-! ### built-in functions -/
def CallD (X : Cx) (f : Value) (g : List D → Option Opd) : Prop := ∃ r, CallR X f r ∧
  ∀ {C : Ct} {ow : Addr → Option Nat} {H : Hp} {σ : L2.St} {ε : Env'} {ps : List (V × Opd)} {xs : List V} {ds : List D} {z : Opd} {Q : VK}, C.K = X.K → EIw C ow H σ ε ps → RbL C.K (Exc C ow) H xs ds → g ds = some z →
    (∀ v H', EI C H' σ ε ((v, z) :: ps) → Q v H') → r xs H Q
def eB (g : List D → Option Opd) (as : Sm (List Opd)) : Sm Opd := bnd as fun os ε => .of ((derefs ε os).bind g) ε
theorem cb_reads {r : List V → Hp → VK → Prop} {g : List D → Option Opd} {t : TA} {as : Sm (List Opd)}
    (hr : ∀ {C : Ct} {ow : Addr → Option Nat} {H : Hp} {σ : L2.St} {ε : Env'} {ps : List (V × Opd)} {xs : List V} {ds : List D} {z : Opd} {Q : VK}, C.K = X.K → EIw C ow H σ ε ps → RbL C.K (Exc C ow) H xs ds → g ds = some z →
      (∀ v H', EI C H' σ ε ((v, z) :: ps) → Q v H') → r xs H Q) (q : ReB X W t as) : ReE X W (tCB r t) (eB g as) := by
  intro C H σ ε ps Q hK hM I h
  refine q hK hM I (Out.post.mono (post_bnd h) (fun os ε1 h1 xs H1 hl I1 => ?_) fun _ _ z => z)
  obtain ⟨z, e, h2⟩ := of_post h1
  obtain ⟨ds, e1, e2⟩ := Option.bind_eq_some_iff.mp e
  obtain ⟨ow, I1⟩ := I1
  obtain ⟨rb, J⟩ := stk_rb hl e1 I1
  exact hr hK J rb e2 h2
theorem de_callB {x : Str} {id : String} {p pos : Pos} {e : Expr} {es : List Expr} {g : List D → Option Opd} {as : Sm (List Opd)} (hc : CallD X (.builtin id) g) (hg : Gl X x) (hm : X.mg x = none) (hv : bootBuiltins x = some (.builtin id)) (ha : DB X W (e :: es) as)
    (hn : x ≠ "__name__" := by decide) (hdb : (x == ("__debug__" : Str)) = false := by decide) (he : starEach (e :: es) X.env = (false, eval e X.env) :: starEach es X.env := by rfl) (hpl : (backTo pos (starEach es X.env)).any (·.1) = false := by rfl) :
    DE X W (.Call (.Name x p) (e :: es) [] pos) (eB g as) := by
  obtain ⟨r, hc, hr⟩ := hc
  obtain ⟨t, pa, q⟩ := ha
  exact ⟨_, pe_callB hc hg hm hv pa hn hdb he hpl, cb_reads hr q⟩
theorem de_callTy {x : Str} {T : String} {p pos : Pos} {e : Expr} {es : List Expr} {g : List D → Option Opd} {as : Sm (List Opd)} (hc : CallD X (.type T) g) (hg : Gl X x) (hm : X.mg x = none) (hv : bootBuiltins x = some (.type T)) (ha : DB X W (e :: es) as)
    (hn : x ≠ "__name__" := by decide) (hdb : (x == ("__debug__" : Str)) = false := by decide) (he : starEach (e :: es) X.env = (false, eval e X.env) :: starEach es X.env := by rfl) (hpl : (backTo pos (starEach es X.env)).any (·.1) = false := by rfl) :
    DE X W (.Call (.Name x p) (e :: es) [] pos) (eB g as) := by
  obtain ⟨r, hc, hr⟩ := hc
  obtain ⟨t, pa, q⟩ := ha
  exact ⟨_, pe_callTy hc hg hm hv pa hn hdb he hpl, cb_reads hr q⟩
theorem RbL.one {K : PySem.W.Frag} {E : Addr → Prop} {H : Hp} {xs : List V} {d : D} (r : RbL K E H xs [d]) : ∃ x, xs = [x] ∧ Rb K E H x d := by
  cases r with | cons a t => cases t; exact ⟨_, rfl, a⟩
theorem RbL.two {K : PySem.W.Frag} {E : Addr → Prop} {H : Hp} {xs : List V} {d e : D} (r : RbL K E H xs [d, e]) : ∃ x y, xs = [x, y] ∧ Rb K E H x d ∧ Rb K E H y e := by
  cases r with | cons a t => cases t with | cons b t => cases t; exact ⟨_, _, rfl, a, b⟩
def lenD : List D → Option Opd
  | [.lst xs] => some (.tmp (.int xs.length))
  | [.tup xs] => some (.tmp (.int xs.length))
  | [.fix xs] => some (.tmp (.int xs.length))
  | [.str s] => if s.length ≤ sizeLine then some (.tmp (.int s.length)) else none
  | _ => none
theorem b_len : CallD X (.builtin "len") lenD := by
  refine ⟨_, call_len_seq.or call_len_str, ?_⟩
  intro C ow H σ ε ps xs ds z Q hK I rl h q
  unfold lenD at h
  split at h
  · cases h
    obtain ⟨x, rfl, r⟩ := rl.one
    obtain ⟨p, vs, rfl, h1, h2⟩ := r.list
    exact .inl ⟨p, vs, rfl, .inl (.of h1), by rw [h2.length]; exact q _ H ⟨ow, I.push (.int _)⟩⟩
  · cases h
    obtain ⟨x, rfl, r⟩ := rl.one
    obtain ⟨p, vs, rfl, h1, h2⟩ := r.tuple
    exact .inl ⟨p, vs, rfl, .inr (by rw [← hK]; exact h1), by rw [h2.length]; exact q _ H ⟨ow, I.push (.int _)⟩⟩
  · cases h
    obtain ⟨x, rfl, r⟩ := rl.one
    obtain ⟨p, vs, rfl, h1, h2⟩ := r.fix
    exact .inl ⟨p, vs, rfl, .inl (by rw [← hK]; exact h1), by rw [h2.length]; exact q _ H ⟨ow, I.push (.int _)⟩⟩
  · split at h
    · cases h
      obtain ⟨x, rfl, r⟩ := rl.one
      cases r.str
      exact .inr ⟨_, rfl, by assumption, q _ H ⟨ow, I.push (.int _)⟩⟩
    · cases h
  · cases h
def listD : List D → Option Opd
  | [.lst xs] => some (.own xs)
  | [.tup xs] => some (.own xs)
  | [.fix xs] => some (.own xs)
  | _ => none
theorem b_list : CallD X (.type "list") listD := by
  refine ⟨_, call_list_of, ?_⟩
  intro C ow H σ ε ps xs ds z Q hK I rl h q
  unfold listD at h
  split at h
  · cases h
    obtain ⟨x, rfl, r⟩ := rl.one
    obtain ⟨p, vs, rfl, h1, h2⟩ := r.list
    exact ⟨p, vs, rfl, .inl (.of h1), fun l hl => q _ _ (I.alloc hl h2)⟩
  · cases h
    obtain ⟨x, rfl, r⟩ := rl.one
    obtain ⟨p, vs, rfl, h1, h2⟩ := r.tuple
    exact ⟨p, vs, rfl, .inr (by rw [← hK]; exact h1), fun l hl => q _ _ (I.alloc hl h2)⟩
  · cases h
    obtain ⟨x, rfl, r⟩ := rl.one
    obtain ⟨p, vs, rfl, h1, h2⟩ := r.fix
    exact ⟨p, vs, rfl, .inl (by rw [← hK]; exact h1), fun l hl => q _ _ (I.alloc hl h2)⟩
  · cases h
def tupleD : List D → Option Opd
  | [.lst xs] => some (.tmp (.tup xs))
  | [.fix xs] => some (.tmp (.tup xs))
  | [.tup xs] => some (.tmp (.tup xs))
  | _ => none
theorem b_tuple : CallD X (.type "tuple") tupleD := by
  refine ⟨_, call_tuple_of, ?_⟩
  intro C ow H σ ε ps xs ds z Q hK I rl h q
  unfold tupleD at h
  split at h
  · cases h
    obtain ⟨x, rfl, r⟩ := rl.one
    obtain ⟨p, vs, rfl, h1, h2⟩ := r.list
    exact ⟨p, vs, rfl, .inl ⟨.of h1, fun l hl => q _ _ ⟨ow, I.allocTup hl h2⟩⟩⟩
  · cases h
    obtain ⟨x, rfl, r⟩ := rl.one
    obtain ⟨p, vs, rfl, h1, h2⟩ := r.fix
    exact ⟨p, vs, rfl, .inl ⟨by rw [← hK]; exact h1, fun l hl => q _ _ ⟨ow, I.allocTup hl h2⟩⟩⟩
  · cases h
    obtain ⟨x, rfl, r⟩ := rl.one
    cases r with
    | of rr =>
      obtain ⟨p, vs, rfl, h1, h2⟩ := Rb.tuple (.of rr)
      exact ⟨p, vs, rfl, .inr ⟨by rw [← hK]; exact h1, q _ H ⟨ow, I.push rr⟩⟩⟩
  · cases h
def intD : List D → Option Opd
  | [.int i] => some (.tmp (.int i))
  | [.bl b] => some (.tmp (.int (if b then 1 else 0)))
  | _ => none
theorem b_int : CallD X (.type "int") intD := by
  refine ⟨_, call_int1, ?_⟩
  intro C ow H σ ε ps xs ds z Q hK I rl h q
  unfold intD at h
  split at h
  · cases h
    obtain ⟨x, rfl, r⟩ := rl.one
    cases r.int
    exact .inl ⟨_, rfl, q _ H ⟨ow, I.push (.int _)⟩⟩
  · cases h
    obtain ⟨x, rfl, r⟩ := rl.one
    cases r.bl
    exact .inr ⟨_, rfl, q _ H ⟨ow, I.push (.int _)⟩⟩
  · cases h
def absI (i : Int) : Int := if i < 0 then -i else i
def absD : List D → Option Opd
  | [.int i] => some (.tmp (.int (absI i)))
  | _ => none
theorem b_abs : CallD X (.builtin "abs") absD := by
  refine ⟨_, call_abs, ?_⟩
  intro C ow H σ ε ps xs ds z Q hK I rl h q
  unfold absD at h
  split at h
  · cases h
    obtain ⟨x, rfl, r⟩ := rl.one
    cases r.int
    exact ⟨_, rfl, q _ H ⟨ow, I.push (.int _)⟩⟩
  · cases h
/-- ints out of data -/
def intsOf : List D → Option (List Int)
  | [] => some []
  | .int i :: r => (intsOf r).map (i :: ·)
  | _ => none
theorem intsOf_map : ∀ {ds : List D} {ns : List Int}, intsOf ds = some ns → ds = ns.map D.int
  | [], _, h => by cases h; rfl
  | .int i :: r, _, h => by
    unfold intsOf at h
    obtain ⟨ms, e, rfl⟩ := Option.map_eq_some_iff.mp h
    rw [intsOf_map e]; rfl
  | .non :: _, _, h => by cases h
  | .bl _ :: _, _, h => by cases h
  | .str _ :: _, _, h => by cases h
  | .lst _ :: _, _, h => by cases h
  | .tup _ :: _, _, h => by cases h
  | .fix _ :: _, _, h => by cases h
theorem intsOf_of : ∀ (ns : List Int), intsOf (ns.map D.int) = some ns
  | [] => rfl
  | n :: r => by
    show (intsOf (r.map D.int)).map (n :: ·) = _
    rw [intsOf_of r]; rfl
def blsOf : List D → Option (List Bool)
  | [] => some []
  | .bl i :: r => (blsOf r).map (i :: ·)
  | _ => none
theorem blsOf_map : ∀ {ds : List D} {ns : List Bool}, blsOf ds = some ns → ds = ns.map D.bl
  | [], _, h => by cases h; rfl
  | .bl i :: r, _, h => by
    unfold blsOf at h
    obtain ⟨ms, e, rfl⟩ := Option.map_eq_some_iff.mp h
    rw [blsOf_map e]; rfl
  | .non :: _, _, h => by cases h
  | .int _ :: _, _, h => by cases h
  | .str _ :: _, _, h => by cases h
  | .lst _ :: _, _, h => by cases h
  | .tup _ :: _, _, h => by cases h
  | .fix _ :: _, _, h => by cases h
theorem blsOf_of : ∀ (ns : List Bool), blsOf (ns.map D.bl) = some ns
  | [] => rfl
  | n :: r => by
    show (blsOf (r.map D.bl)).map (n :: ·) = _
    rw [blsOf_of r]; rfl
def sumD : List D → Option Opd
  | [.lst xs] => (intsOf xs).map fun ns => .tmp (.int ns.sum)
  | _ => none
theorem b_sum (hc : X.calm = true) : CallD X (.builtin "sum") sumD := by
  refine ⟨_, cr_sum hc, ?_⟩
  intro C ow H σ ε ps xs ds z Q hK I rl h q
  unfold sumD at h
  split at h
  · obtain ⟨ns, e, rfl⟩ := Option.map_eq_some_iff.mp h
    obtain ⟨x, rfl, r⟩ := rl.one
    obtain ⟨p, vs, rfl, h1, h2⟩ := r.list
    rw [intsOf_map e] at h2
    exact ⟨p, ns, rfl, by rw [← h2.ints]; exact .of h1, q _ H ⟨ow, I.push (.int _)⟩⟩
  · cases h
def allD : List D → Option Opd
  | [.lst xs] => (blsOf xs).map fun ns => .tmp (.bl (ns.all id))
  | _ => none
def anyD : List D → Option Opd
  | [.lst xs] => (blsOf xs).map fun ns => .tmp (.bl (ns.any id))
  | _ => none
theorem b_all (hc : X.calm = true) : CallD X (.builtin "all") allD := by
  refine ⟨_, cr_all hc, ?_⟩
  intro C ow H σ ε ps xs ds z Q hK I rl h q
  unfold allD at h
  split at h
  · obtain ⟨ns, e, rfl⟩ := Option.map_eq_some_iff.mp h
    obtain ⟨x, rfl, r⟩ := rl.one
    obtain ⟨p, vs, rfl, h1, h2⟩ := r.list
    rw [blsOf_map e] at h2
    exact ⟨p, ns, rfl, by rw [← h2.bls]; exact .of h1, q _ H ⟨ow, I.push (.bl _)⟩⟩
  · cases h
theorem b_any (hc : X.calm = true) : CallD X (.builtin "any") anyD := by
  refine ⟨_, cr_any hc, ?_⟩
  intro C ow H σ ε ps xs ds z Q hK I rl h q
  unfold anyD at h
  split at h
  · obtain ⟨ns, e, rfl⟩ := Option.map_eq_some_iff.mp h
    obtain ⟨x, rfl, r⟩ := rl.one
    obtain ⟨p, vs, rfl, h1, h2⟩ := r.list
    rw [blsOf_map e] at h2
    exact ⟨p, ns, rfl, by rw [← h2.bls]; exact .of h1, q _ H ⟨ow, I.push (.bl _)⟩⟩
  · cases h
/-- the greatest, the least of a list that is not empty -/
def maxL : Int → List Int → Int
  | m, [] => m
  | m, x :: r => maxL (if x > m then x else m) r
def minL : Int → List Int → Int
  | m, [] => m
  | m, x :: r => minL (if x < m then x else m) r
theorem maxL_spec : ∀ (r : List Int) (m : Int), maxL m r ∈ m :: r ∧ ∀ y ∈ m :: r, y ≤ maxL m r
  | [], m => ⟨by simp [maxL], by simp [maxL]⟩
  | x :: r, m => by
    obtain ⟨h1, h2⟩ := maxL_spec r (if x > m then x else m)
    refine ⟨?_, fun y hy => ?_⟩
    · show maxL (if x > m then x else m) r ∈ _
      rcases List.mem_cons.mp h1 with e | e
      · rw [e]; split <;> simp
      · simp [e]
    · show y ≤ maxL (if x > m then x else m) r
      have h3 := h2 _ List.mem_cons_self
      have h4 : x ≤ (if x > m then x else m) ∧ m ≤ (if x > m then x else m) := by split <;> omega
      rcases List.mem_cons.mp hy with rfl | hy
      · omega
      · rcases List.mem_cons.mp hy with rfl | hy
        · omega
        · exact h2 y (List.mem_cons_of_mem _ hy)
theorem minL_spec : ∀ (r : List Int) (m : Int), minL m r ∈ m :: r ∧ ∀ y ∈ m :: r, minL m r ≤ y
  | [], m => ⟨by simp [minL], by simp [minL]⟩
  | x :: r, m => by
    obtain ⟨h1, h2⟩ := minL_spec r (if x < m then x else m)
    refine ⟨?_, fun y hy => ?_⟩
    · show minL (if x < m then x else m) r ∈ _
      rcases List.mem_cons.mp h1 with e | e
      · rw [e]; split <;> simp
      · simp [e]
    · show minL (if x < m then x else m) r ≤ y
      have h3 := h2 _ List.mem_cons_self
      have h4 : (if x < m then x else m) ≤ x ∧ (if x < m then x else m) ≤ m := by split <;> omega
      rcases List.mem_cons.mp hy with rfl | hy
      · omega
      · rcases List.mem_cons.mp hy with rfl | hy
        · omega
        · exact h2 y (List.mem_cons_of_mem _ hy)
def maxD : List D → Option Opd
  | [.int i, .int j] => some (.tmp (.int (if j > i then j else i)))
  | [.lst xs] => match intsOf xs with
    | some (n :: ns) => some (.tmp (.int (maxL n ns)))
    | _ => none
  | _ => none
def minD : List D → Option Opd
  | [.int i, .int j] => some (.tmp (.int (if j < i then j else i)))
  | [.lst xs] => match intsOf xs with
    | some (n :: ns) => some (.tmp (.int (minL n ns)))
    | _ => none
  | _ => none
theorem b_max (hc : X.calm = true) : CallD X (.builtin "max") maxD := by
  refine ⟨_, (call_max2 hc).or (cr_max hc), ?_⟩
  intro C ow H σ ε ps xs ds z Q hK I rl h q
  unfold maxD at h
  split at h
  · cases h
    obtain ⟨x, y, rfl, r1, r2⟩ := rl.two
    cases r1.int; cases r2.int
    exact .inl ⟨_, _, rfl, q _ H ⟨ow, I.push (.int _)⟩⟩
  · split at h
    · rename_i n ns e
      cases h
      obtain ⟨x, rfl, r⟩ := rl.one
      obtain ⟨p, vs, rfl, h1, h2⟩ := r.list
      rw [intsOf_map e] at h2
      refine .inr ⟨p, n :: ns, rfl, by rw [← h2.ints]; exact .of h1, by simp, fun m hm hx => ?_⟩
      obtain ⟨s1, s2⟩ := maxL_spec ns n
      have e1 : m = maxL n ns := Int.le_antisymm (s2 m hm) (hx _ s1)
      rw [e1]
      exact q _ H ⟨ow, I.push (.int _)⟩
    · cases h
  · cases h
theorem b_min (hc : X.calm = true) : CallD X (.builtin "min") minD := by
  refine ⟨_, (call_min2 hc).or (cr_min hc), ?_⟩
  intro C ow H σ ε ps xs ds z Q hK I rl h q
  unfold minD at h
  split at h
  · cases h
    obtain ⟨x, y, rfl, r1, r2⟩ := rl.two
    cases r1.int; cases r2.int
    exact .inl ⟨_, _, rfl, q _ H ⟨ow, I.push (.int _)⟩⟩
  · split at h
    · rename_i n ns e
      cases h
      obtain ⟨x, rfl, r⟩ := rl.one
      obtain ⟨p, vs, rfl, h1, h2⟩ := r.list
      rw [intsOf_map e] at h2
      refine .inr ⟨p, n :: ns, rfl, by rw [← h2.ints]; exact .of h1, by simp, fun m hm hx => ?_⟩
      obtain ⟨s1, s2⟩ := minL_spec ns n
      have e1 : m = minL n ns := Int.le_antisymm (hx _ s1) (s2 m hm)
      rw [e1]
      exact q _ H ⟨ow, I.push (.int _)⟩
    · cases h
  · cases h
end
end DS

set_option Elab.async false
set_option linter.all false
set_option maxRecDepth 100000
set_option maxHeartbeats 4000000
namespace DS
open PySem PySem.Spec PyProof.Rows L2

/-! ### a def's promise where no repr is under way -/
structure RmG (k : Nat) (A : Around) : Prop where
  r : Room k A
  gd : A.guards = some []
theorem RmG.mono {i k : Nat} {A : Around} (m : RmG k A) (h : i ≤ k) : RmG i A := ⟨m.r.mono h, m.gd⟩
theorem RmG.deeper {k : Nat} {A : Around} (m : RmG (k + 1) A) (v : Env) : RmG k (A.deeper v) := ⟨m.r.deeper v, m.gd⟩
theorem RmG.units {k : Nat} {A : Around} (m : RmG k A) : A.units + 64 < cLine := m.r.units
theorem RmG.units0 {k : Nat} {A : Around} (m : RmG k A) : A.units < cLine := m.r.units0
structure FnG (P : Program) (w : World) (K : PySem.W.Frag) (mg : Str → Option Value) (base : Heap)
    (k : Nat) (f : Addr) (fd : FuncData) (ps : List Str) (sp : Sp) : Prop where
  len : ∀ xs H Q E, sp xs H Q E → xs.length = ps.length
  run : ∀ (A : Around) (out : List Env) (s : Shared) (H : Hp) (args : Args) (us : List Value) (xs : List V) (Q : VK) (E : XK),
    RmG k A → Env0 P w K mg base A out s H → BindsTo s fd args (ps.zip us) → Vals xs us → sp xs H Q E →
    codeAny (model P w) A (.call (.ref f) args) (CR (L2.CX P w) out P w H s Q E) s
theorem FnG.mono {P : Program} {w : World} {K : PySem.W.Frag} {mg : Str → Option Value} {base : Heap} {i k : Nat} {f : Addr} {fd : FuncData} {ps : List Str} {sp : Sp}
    (F : FnG P w K mg base i f fd ps sp) (h : i ≤ k) : FnG P w K mg base k f fd ps sp :=
  ⟨F.len, fun A out s H args us xs Q E m => F.run A out s H args us xs Q E (m.mono h)⟩
theorem FnG.imp {P : Program} {w : World} {K : PySem.W.Frag} {mg : Str → Option Value} {base : Heap} {k : Nat} {f : Addr} {fd : FuncData} {ps : List Str} {sp sp2 : Sp}
    (F : FnG P w K mg base k f fd ps sp) (h : ∀ xs H Q E, sp2 xs H Q E → sp xs H Q E) : FnG P w K mg base k f fd ps sp2 :=
  ⟨fun xs H Q E q => F.len xs H Q E (h xs H Q E q), fun A out s H args us xs Q E m e b v q => F.run A out s H args us xs Q E m e b v (h xs H Q E q)⟩
section
variable {X : Cx}
/-- behind a call, in the caller -/
theorem back_ok {pins : List (Addr × Obj)} {σ : L2.St} {H : Hp} {s s2 : Shared} {Q : VK} {E : XK} {z : Result}
    (I : Inv X pins σ H s) (hx : ∀ e, L2.CX X.prog X.w X.stack H s E e s2 → X.xe e s2)
    (h : CR (L2.CX X.prog X.w) X.stack X.prog X.w H s Q E z s2) : match z with
      | .ok (.ret u) => EP X pins σ Q u s2
      | .ok _ => False
      | .error e => X.xe e s2 :=
  match z, h with
  | .error e, h => hx e h
  | .ok (.ret u), h => I.after h
  | .ok .next, h => h
  | .ok .brk, h => h
  | .ok .cont, h => h
/-- f(e, ..) -/
theorem pe_callG {k : Nat} {f : Addr} {fd : FuncData} {ps : List Str} {sp : Sp} {E : L2.St → XK} {x : Str} {p pos : Pos} {e : Expr} {es : List Expr} {t : TA}
    (F : FnG X.prog X.w X.K X.mg X.base k f fd ps sp) (m : RmG k X.A) (hg : Gl X x) (hm : X.mg x = some (.ref f))
    (hk : PySem.W.keepIn X.K (.ref f) = true) (hb : Binds X.K fd ps []) (hx : ∀ σ, PassesAt (L2.CX X.prog X.w) X σ (E σ)) (ha : PA X (e :: es) t)
    (hdb : (x == ("__debug__" : Str)) = false := by decide)
    (he : starEach (e :: es) X.env = (false, eval e X.env) :: starEach es X.env := by rfl)
    (hpl : (backTo pos (starEach es X.env)).any (·.1) = false := by rfl) : PE X (.Call (.Name x p) (e :: es) [] pos) (tCallS sp E t) := by
  constructor
  intro pins s σ H Q I h
  apply wpAny_Call_Name_kw (ld_glob I hg hm _ hdb)
  apply PySem.W.callWith_K (h₀ := X.base) I.ok.mod.kin hk _ he hpl
  apply thn (ha.run pos pins s σ H _ I h)
  rintro us s2 ⟨xs, H2, J, rv, q⟩
  refine ⟨J.kIn, ?_⟩
  have n1 : us.length = ps.length := (rv.length.symm).trans (F.len xs H2 Q (E σ) q)
  have b1 : BindsTo s2 fd ⟨us, []⟩ (ps.zip us) := by simpa using hb s2 us J.kIn (by simpa using n1)
  refine wpAny_call (codeAny_mono (F.run _ _ s2 H2 _ us xs Q (E σ) m J.env0 b1 rv q) ?_)
  intro z s3 hz
  have h4 := back_ok J (fun e => hx σ pins H2 s2 e s3 J) hz
  revert h4
  cases z with
  | error e => exact id
  | ok fl => cases fl <;> exact id
end
/-- a def of the text, by its body -/
theorem fn_G {P : Program} {w : World} {K : PySem.W.Frag} {mg : Str → Option Value} {base : Heap} {x qual : Str} {st : Stmt} {f : Addr} {fd : FuncData} {N ps : List Str} {k : Nat} {sp : Sp}
    (F : Fun K x qual st f fd) (S : FnScope N ps (defScope st)) (len : ∀ xs H Q E, sp xs H Q E → xs.length = ps.length)
    (hb : ∀ (cdv : Value) (A : Around) (out : List Env) (s : Shared) (H : Hp) (xs : List V) (Q : VK) (E : XK), RmG k (A.deeper (envOfC qual (defScope st) s.heap.objs.size f cdv)) → sp xs H Q E →
      ∃ t, PSs (cxOf (L2.CX P w) P w K mg base N qual (defScope st) f cdv A out s H E) (defBody st) t ∧ t { nx := fun _ H2 => Q .non H2, rt := Q } (L2.start N xs) H) :
    FnG P w K mg base (k + 1) f fd ps sp := by
  obtain ⟨oc, od, kV, doc, pm, an, cdv, ct, osl, rfl, lk, hcd⟩ := F.ex
  refine ⟨len, ?_⟩
  intro A out s H args us xs Q E m e0 b rv q
  have kx : K.In s.heap := e0.mod.kin.keeps (fun y o z => (e0.bs y o z).1)
  have hk2 : ∀ y ∈ ps.zip us, (defScope st).names.lookup y.1 = some .local ∨
      ((defScope st).names.lookup y.1 = some .cell ∧ ((cellsFrom (s.heap.objs.size + 1) (defScope st).names []).lookup y.1).isSome = true) := by
    rintro ⟨n, v⟩ hy
    have := S.par n (List.of_mem_zip hy).1
    exact this.imp id fun z => ⟨z, PySem.W.cellsFrom_some _ _ _ (.inl z)⟩
  apply codeAny_call_function m.r.depth (kx _ _ lk) rfl S.co S.gen rfl (PySem.W.codeRec_of kx hcd)
  apply b
  apply wpAny_newFunctionEnv_cells S.kind hk2
  rintro _ rfl s2 y
  refine ⟨(e0.mod.nolimit.keeps (fun y o z => (e0.bs y o z).1)).keeps y.toInCall.keep, codeAny_func ?_⟩
  obtain ⟨t, ht, hq⟩ := hb cdv A out s H xs Q E (m.deeper _) q
  have I := inv_start (CX := L2.CX P w) (E := E) S m.r.hd e0 (len _ _ _ _ q) rv y
  apply wpAny_mono (ht.run [] s2 (L2.start N xs) H _ I hq)
  · intro fl s3 h3
    cases fl with
    | next =>
      obtain ⟨_, H3, J, z⟩ := h3
      exact ⟨V.non, H3, J.os, J.bare, J.base, J.hok, (rfl : Value.none = Value.none), z⟩
    | ret u =>
      obtain ⟨v, _, H3, J, ru, z⟩ := h3
      exact ⟨v, H3, J.os, J.bare, J.base, J.hok, ru, z⟩
    | brk => obtain ⟨_, _, _, z⟩ := h3; exact False.elim z
    | cont => obtain ⟨_, _, _, z⟩ := h3; exact False.elim z
  · intro e s3 h3
    exact h3

/-! ### the head -/
/-- the tracked heap ahead of the law: nothing but the script -/
def H1of (a : Addr) (o : Obj) (t : HO) : Hp := fun c => if c = a then some (.frz o t) else none
theorem law_G {P : Program} {w : World} {K : PySem.W.Frag} {mg mb : Str → Option Value} {k : Nat} {fa a : Addr} {fd : FuncData} {x : Str} {sp : Sp} {s₁ : Shared} {us : List Value} {ns : List Int}
    (kx : K.In s₁.heap) (n1 : s₁.heap.Ns mainGlobals mg) (n2 : s₁.heap.Ns builtinsNs mb) (n3 : ∀ x : Str, x ≠ "__name__" → mb x = bootBuiltins x) (n4 : s₁.heap.NoLimit) (hg : s₁.gens = #[])
    (ha : s₁.heap.get? a = some { cls := .type "list", data := .seq us.toArray }) (hi : IntsAre us ns) (hl : ns.length ≤ sizeLine) (m : RmG k callerA)
    (F : ∀ base : Heap, K.In base → base.Ns mainGlobals mg → FnG P w K mg base k fa fd [x] sp) (hbind : ∀ (s : Shared) (u : Value), BindsTo s fd ⟨[u], []⟩ [(x, u)])
    (hsp : ∀ H : Hp, Only H → SqL K H a (ns.map V.int) → sp [.ref a] H (fun v _ => v = .bl true) fun _ _ _ => False) :
    codeAny (model P w) callerA (.call (.ref fa) ⟨[.ref a], []⟩) (fun r s2 => r = .ok (.ret (.bool true)) ∧ OldK s₁.heap s2.heap ∧ s2.os = s₁.os ∧ AllBare s2.gens) s₁ := by
  have rv := vals_ints hi
  have ln := hi.length
  suffices core : ∀ H : Hp, Only H → SqL K H a (ns.map V.int) → HOk P w H s₁.heap → (∀ c, H c ≠ none → c = a ∧ K.lookup a = none) →
      codeAny (model P w) callerA (.call (.ref fa) ⟨[.ref a], []⟩) (fun r s2 => r = .ok (.ret (.bool true)) ∧ OldK s₁.heap s2.heap ∧ s2.os = s₁.os ∧ AllBare s2.gens) s₁ by
    cases lk : K.lookup a with
    | some o =>
      have e := (kx a o lk).symm.trans ha
      cases e
      exact core (fun _ => none) (fun _ => .inl rfl) (.inr ⟨_, us.toArray, _, lk, rfl, rfl, rfl, by rw [List.size_toArray, ln]; exact hl, by simpa using rv⟩) (fun _ _ z => nomatch z) fun _ z => absurd rfl z
    | none =>
      let o : Obj := { cls := .type "list", data := .seq us.toArray }
      have at1 : H1of a o (.lst (ns.map V.int)) a = some (.frz o (.lst (ns.map V.int))) := if_pos rfl
      have at2 : ∀ {c : Addr}, c ≠ a → H1of a o (.lst (ns.map V.int)) c = none := fun n => if_neg n
      apply core (H1of a o (.lst (ns.map V.int)))
      · intro c
        by_cases e : c = a
        · subst e; exact .inr ⟨_, _, at1⟩
        · exact .inl (at2 e)
      · exact .inl (.inr ⟨o, at1⟩)
      · intro c u z
        by_cases e : c = a
        · subst e
          cases at1.symm.trans z
          exact ⟨ha, by rw [List.length_map]; exact hl, us, _, rv, ha⟩
        · cases (at2 e).symm.trans z
      · intro c z
        by_cases e : c = a
        · exact ⟨e, lk⟩
        · exact absurd (at2 e) z
  intro H hO hS hok hA
  have un : ∀ {c : Addr} {o : Obj}, s₁.heap.get? c = some o → (H c ≠ none → c = a → False) → (hidT s₁.heap H).get? c = some o := fun {c o} e n => hidT_get e (by
    cases q : H c with
    | none => rfl
    | some u =>
      have z : H c ≠ none := by rw [q]; exact nofun
      exact (n z (hA c z).1).elim)
  have nsK : ∀ {c : Addr} {f : Str → Option Value}, s₁.heap.Ns c f → (hidT s₁.heap H).Ns c f := by
    rintro c f ⟨o, es, ep, e, d, r⟩
    refine ⟨o, es, ep, un e fun _ z => ?_, d, r⟩
    subst z
    cases e.symm.trans ha
    cases d
  have kb : K.In (hidT s₁.heap H) := fun c o e => un (kx c o e) fun z y => by
    have := (hA c z).2
    rw [y] at e
    rw [this] at e
    cases e
  obtain ⟨mc, l1, l2⟩ := n4
  have e0 : Env0 P w K mg (hidT s₁.heap H) callerA [] s₁ H :=
    ⟨rfl, ⟨kb, nsK n1, ⟨mb, nsK n2, n3⟩, mc, nsK l1, l2⟩, fun _ _ e => of_hidT e, Nat.le_of_eq (hidT_size _ _), trivial, fun _ z => absurd (show _ ∈ ([] : List Addr) from z) (by simp), hok, .of_eq hg⟩
  have run := (F _ kb (nsK n1)).run callerA [] s₁ H ⟨[.ref a], []⟩ [.ref a] [.ref a] (fun v _ => v = .bl true) (fun _ _ _ => False) m e0 (hbind s₁ (.ref a)) (.cons rfl .nil) (hsp H hO hS)
  refine codeAny_mono run ?_
  rintro (e | fl) s2 h
  · obtain ⟨_, _, _, _, _, _, _, _, _, _, _, _, z⟩ := h
    exact z.elim
  · cases fl with
    | ret u =>
      obtain ⟨v, H2, os, bare, uh, hok2, ru, rfl⟩ := h
      obtain rfl : u = Value.bool true := ru
      refine ⟨rfl, OldK.of_keep ?_, os, bare⟩
      intro c o e
      cases q : H c with
      | none => exact uh.keep c o e q (fun z => absurd (show c ∈ ([] : List Addr) from z) (by simp)) (by simp)
      | some u =>
        rcases hO c with z | ⟨ob, xs, z⟩
        · cases q.symm.trans z
        · have t1 := (hok c _ z).1
          cases t1.symm.trans e
          exact (hok2 c _ (uh.frzs c _ _ z)).1
    | next => exact h.elim
    | brk => exact h.elim
    | cont => exact h.elim
/-- the goal that k_head leaves (case hc), from the law's promise -/
theorem walk_G {l : PySem.W.OpenLaw} {n k : Nat} {q : Program} {loose : List Str} {XP : (Str → Option Value) → Heap → Prop} {YP : World → Heap → Prop} {d : DefRec} {K : Params → PySem.W.Frag} {sp : World → Sp} {x : Str}
    (hn : l.most = some n) (hz : n ≤ sizeLine) (hdf : d.params.defaults = []) (m : RmG k callerA)
    (hY : ∀ (w : World) (h : Heap), YP w h → (K w.params).In h)
    (F : ∀ (w : World) (mg : Str → Option Value) (fa : Addr) (h : Heap), (K w.params).In h → h.Ns mainGlobals mg → mg d.name = some (.ref fa) →
      ∃ fd : FuncData, (∀ (s : Shared) (u : Value), BindsTo s fd ⟨[u], []⟩ [(x, u)]) ∧
        ∀ base : Heap, (K w.params).In base → base.Ns mainGlobals mg → FnG l.prog w (K w.params) mg base k fa fd [x] (sp w))
    (hsp : ∀ (w : World) (H : Hp) (a : Addr) (ns : List Int), ns.length ≤ n → (∀ z ∈ ns, Builtin.Int.intBits z ≤ 1048576) → Only H → SqL (K w.params) H a (ns.map V.int) → sp w [.ref a] H (fun v _ => v = .bl true) fun _ _ _ => False) :
    PySem.W.WalkO q loose XP YP l.row.toRowW d [] (fun f us => PySem.call f us) := by
  apply Att.attach_callB hn hdf
  intro w s₀ s₁ mg mb fa o pm cd doc a us ns G Y ho hd hcd hmg hobj hints hlen hbits hg
  obtain ⟨fd, hb, hF⟩ := F w mg fa _ (hY w _ Y) G.T.g hmg
  exact law_G (hY w _ Y) G.T.g G.T.b G.T.builtins G.T.nolimit hg hobj hints (Nat.le_trans hlen hz) m hF hb (fun H hO hS => hsp w H a ns hlen hbits hO hS)
end DS

set_option Elab.async false
set_option linter.all false
set_option maxRecDepth 100000
set_option maxHeartbeats 4000000
namespace DS
open PySem PySem.Spec PyProof.Rows L2

/-! ### enumerate and zip over lists and tuples in any mix -/
theorem nlt {a N : Addr} (h : @LT.lt Addr _ a N) : @LT.lt Nat _ a N := h
theorem nne {a b : Nat} (h : a ≠ b) : (show Addr from a) ≠ b := h
theorem nin2 {a b c : Nat} (h : a ≠ b) (h2 : a ≠ c) : (show Addr from a) ∉ [(show Addr from b), c] := by simp; exact ⟨h, h2⟩
/-- a list (false), a tuple (true) that is read -/
def SqG (K : PySem.W.Frag) (H : Hp) (t : Bool) (a : Addr) (xs : List V) : Prop := match t with
  | false => SqL K H a xs
  | true => SqT K H a xs
def SeqAtG (t : Bool) (h : Heap) (a : Addr) (its : Array Value) : Prop := match t with
  | false => h.IsList a its
  | true => h.IsTuple a its
def IterG (t : Bool) (h : Heap) (it a : Addr) (i : Nat) : Prop := match t with
  | false => h.IsListIter it a i
  | true => h.IsTupleIter it a i
def iterObj (t : Bool) (a : Addr) : Obj := match t with
  | false => { cls := .type "list_iterator", data := .fields #[.ref a, .int 0 0] }
  | true => { cls := .type "tuple_iterator", data := .fields #[.ref a, .int 0 0] }
theorem sqG_items {X : Cx} {pins : List (Addr × Obj)} {σ : L2.St} {H : Hp} {s : Shared} (I : Inv X pins σ H s) {t : Bool} {a : Addr} {xs : List V} (q : SqG X.K H t a xs) : ∃ its : List Value, Vals xs its ∧ SeqAtG t s.heap a its.toArray ∧ a < s.heap.objs.size := by
  cases t with
  | false =>
    obtain ⟨its, rv, p, _⟩ := I.list q
    exact ⟨its, rv, p.isList, p.lt⟩
  | true =>
    obtain ⟨its, rv, p, _⟩ := I.tuple q
    obtain ⟨o, ho, _⟩ := id p
    exact ⟨its, rv, p, Heap.lt_size ho⟩
theorem sqG_inj {X : Cx} {pins : List (Addr × Obj)} {σ : L2.St} {H : Hp} {s : Shared} (I : Inv X pins σ H s) {t : Bool} {a : Addr} {xs ys : List V} (q : SqG X.K H t a xs) (q2 : SqG X.K H t a ys) : xs = ys := by
  cases t with
  | false => exact I.list_inj q q2
  | true => exact I.tuple_inj q q2
theorem iterG_obj {t : Bool} {h : Heap} {it a : Addr} {i : Nat} (st : IterG t h it a i) : ∃ o, h.get? it = some o ∧ ∀ v, o.data ≠ .cell v := by
  cases t with
  | false =>
    obtain ⟨o, e, _, d⟩ := st
    exact ⟨o, e, fun v q => by rw [d] at q; cases q⟩
  | true =>
    obtain ⟨o, e, _, d⟩ := st
    exact ⟨o, e, fun v q => by rw [d] at q; cases q⟩
theorem iterG_at {t : Bool} {h h2 : Heap} {it a : Addr} {i : Nat} (st : IterG t h it a i) (k : ∀ o, h.get? it = some o → h2.get? it = some o) : IterG t h2 it a i := by
  cases t with
  | false => exact Heap.IsListIter.at st k
  | true => exact Heap.IsTupleIter.at st k
theorem drawsG {prog : Program} {w : World} {A : Around} (hh : A.handled = none) (t : Bool) (it a : Addr) (hne : a ≠ it) (its : Array Value) :
    Draws prog w A it [it, a] its.size (fun i v => its[i]? = some v) (fun i h => IterG t h it a i ∧ SeqAtG t h a its) := by
  cases t with
  | false => exact Draws.list hh it a hne its
  | true => exact Draws.tuple hh it a hne its
theorem beginsG (t : Bool) (a : Addr) (its : Array Value) : Begins (.ref a) (iterObj t a) fun h => SeqAtG t h a its := by
  cases t with
  | false => exact begins_list a its
  | true => exact begins_tuple a its
theorem iterG_new {t : Bool} {h : Heap} {it a : Addr} (e : h.get? it = some (iterObj t a)) : IterG t h it a 0 := by
  cases t with
  | false => exact ⟨_, e, rfl, rfl⟩
  | true => exact ⟨_, e, rfl, rfl⟩
def ItzG (K : PySem.W.Frag) (t1 t2 : Bool) (a b : Addr) : It :=
  ⟨fun i H => ∃ (xs ys : List V), SqG K H t1 a xs ∧ SqG K H t2 b ys ∧ i < xs.length ∧ i < ys.length,
    fun i H v H2 => ∃ T x y, v = .ref T ∧ H T = none ∧ H2 = upd H T (.tup [x, y]) ∧ (∀ xs, SqG K H t1 a xs → xs[i]? = some x) ∧ ∀ ys, SqG K H t2 b ys → ys[i]? = some y,
    fun i H => ∃ xs ys : List V, SqG K H t1 a xs ∧ SqG K H t2 b ys ∧ i = min xs.length ys.length⟩
theorem fivefold {c z TI TO i1 i2 : Addr} (h : c ∈ [z, TI, TO, i1, i2]) : c = z ∨ c = TI ∨ c = TO ∨ c = i1 ∨ c = i2 := by simpa using h
theorem turn_zipG {P : Program} {w : World} {K : PySem.W.Frag} {elts : List Expr} {kk : Nat} {tpos : Pos} {t1 t2 : Bool} {a b z TI TO i1 i2 : Addr} (S : ZipSep2 z TI TO i1 i2 [i1, a] [i2, b]) (ha : a ≠ i1) (hb : b ≠ i2) :
    Turn P w K (.Tuple elts kk tpos) (ItzG K t1 t2 a b) [z, TI, TO, i1, i2] z (fun i h => IsZip h z TI TO .none ∧ IsTupOf2 h TI (.ref i1) (.ref i2) ∧ (∃ x y, IsTupOf2 h TO x y) ∧ IterG t1 h i1 a i ∧ IterG t2 h i2 b i) where
  mem := by simp
  obj := by
    rintro i h ⟨p1, p2, ⟨x, y, p3⟩, p4, p5⟩ c hc
    rcases fivefold hc with rfl | rfl | rfl | rfl | rfl
    · exact ⟨_, p1, nofun⟩
    · exact ⟨_, p2, nofun⟩
    · exact ⟨_, p3, nofun⟩
    · exact iterG_obj p4
    · exact iterG_obj p5
  keep := by
    rintro i h h2 ⟨p1, p2, ⟨x, y, p3⟩, p4, p5⟩ k
    exact ⟨k z (by simp) _ p1, k TI (by simp) _ p2, ⟨x, y, k TO (by simp) _ p3⟩, iterG_at p4 (k i1 (by simp)), iterG_at p5 (k i2 (by simp))⟩
  item := by
    rintro X rfl rfl rfl hc i pins s σ H E I hf ⟨p1, p2, ⟨x0, y0, p3⟩, p4, p5⟩ ⟨xs, ys, qx, qy, lx, ly⟩
    obtain ⟨us, rv, sa, _⟩ := sqG_items I qx
    obtain ⟨vs, rw2, sb, _⟩ := sqG_items I qy
    have hd : X.A.handled = none := I.ok.hd hc
    have D1 : Draws X.prog X.w X.A.in1 i1 [i1, a] us.toArray.size (fun i v => us.toArray[i]? = some v) (fun i h => IterG t1 h i1 a i ∧ SeqAtG t1 h a us.toArray) := drawsG (A := X.A.in1) hd t1 i1 a ha _
    have D2 : Draws X.prog X.w X.A.in1 i2 [i2, b] vs.toArray.size (fun i v => vs.toArray[i]? = some v) (fun i h => IterG t2 h i2 b i ∧ SeqAtG t2 h b vs.toArray) := drawsG (A := X.A.in1) hd t2 i2 b hb _
    have zl : z < s.heap.objs.size := Heap.lt_size p1
    apply wpAny_pyNext_zipD2_item S D1 D2 p1 p2 p3 ⟨p4, sa⟩ ⟨p5, sb⟩ (by rw [List.size_toArray, ← rv.length]; exact lx) (by rw [List.size_toArray, ← rw2.length]; exact ly)
    intro u v h1 tk e1 e2 n1 n2 m1 m2 nT sz kp
    refine ⟨_, rfl, ?_⟩
    apply wpAny_letOwnedTupleGo_zip (s := { s with heap := h1, toks := tk }) n1
    intro h2 n3 sm
    obtain ⟨x, gx, rx⟩ : ∃ x, xs[i]? = some x ∧ RelV x u := by
      obtain ⟨u2, q1, q2⟩ := rv.get (List.getElem?_eq_getElem lx)
      rw [List.getElem?_toArray] at e1
      rw [e1] at q1
      cases q1
      exact ⟨_, List.getElem?_eq_getElem lx, q2⟩
    obtain ⟨y, gy, ry⟩ : ∃ y, ys[i]? = some y ∧ RelV y v := by
      obtain ⟨u2, q1, q2⟩ := rw2.get (List.getElem?_eq_getElem ly)
      rw [List.getElem?_toArray] at e2
      rw [e2] at q1
      cases q1
      exact ⟨_, List.getElem?_eq_getElem ly, q2⟩
    have hT : h2.get? s.heap.objs.size = some { cls := .type "tuple", data := .seq #[u, v] } := (sm.2 _ (Nat.ne_of_gt zl)).trans nT
    have J : Inv X pins σ (upd H s.heap.objs.size (.tup [x, y])) { s with heap := h2, toks := tk } := by
      refine I.turnedNew (ch := [z, TI, TO, i1, i2]) ?_ hf (Nat.le_refl _) (show ObjOk X.prog X.w (upd H s.heap.objs.size (.tup [x, y])) h2 s.heap.objs.size (.tup [x, y]) from ⟨by show 2 ≤ sizeLine; decide, [u, v], .cons rx (.cons ry .nil), _, hT, rfl, _, rfl⟩)
      intro c o hn q
      rw [sm.2 c fun e => hn (by simp [e])]
      exact kp c o (fun e => hn (by simp [e])) (fun e => hn (by simp [e])) (fun e => hn (by simp [e])) (fun e => hn (by simp [e])) q
    have ne : ∀ c ∈ [z, TI, TO, i1, i2], c ≠ s.heap.objs.size := by
      intro c hc
      apply Nat.ne_of_lt
      rcases fivefold hc with rfl | rfl | rfl | rfl | rfl
      · exact zl
      · exact Heap.lt_size p2
      · exact Heap.lt_size p3
      · obtain ⟨_, e, _⟩ := iterG_obj p4; exact Heap.lt_size e
      · obtain ⟨_, e, _⟩ := iterG_obj p5; exact Heap.lt_size e
    refine ⟨.ref s.heap.objs.size, _, J, rfl, ⟨_, x, y, rfl, I.hok.fresh (Nat.le_refl _), rfl, fun l hl => by rw [sqG_inj I hl qx]; exact gx, fun l hl => by rw [sqG_inj I hl qy]; exact gy⟩, ⟨n3, ?_, ⟨u, v, ?_⟩, ?_, ?_⟩, fun c hc => ?_⟩
    · exact (sm.2 _ S.TIz).trans (kp _ _ S.TIz S.TITO S.TIi1 S.TIi2 p2)
    · exact (sm.2 _ S.TOz).trans n2
    · exact iterG_at m1.1 fun o q => (sm.2 _ S.zi1.symm).trans q
    · exact iterG_at m2.1 fun o q => (sm.2 _ S.zi2.symm).trans q
    · rw [upd_ne (ne c hc)]
      exact (hf c hc).1
  done := by
    rintro X rfl rfl rfl hc i pins s σ H E I hf ⟨p1, p2, ⟨x0, y0, p3⟩, p4, p5⟩ ⟨xs, ys, qx, qy, hi⟩
    obtain ⟨us, rv, sa, _⟩ := sqG_items I qx
    obtain ⟨vs, rw2, sb, _⟩ := sqG_items I qy
    have hd : X.A.handled = none := I.ok.hd hc
    have D1 : Draws X.prog X.w X.A.in1 i1 [i1, a] us.toArray.size (fun i v => us.toArray[i]? = some v) (fun i h => IterG t1 h i1 a i ∧ SeqAtG t1 h a us.toArray) := drawsG (A := X.A.in1) hd t1 i1 a ha _
    have D2 : Draws X.prog X.w X.A.in1 i2 [i2, b] vs.toArray.size (fun i v => vs.toArray[i]? = some v) (fun i h => IterG t2 h i2 b i ∧ SeqAtG t2 h b vs.toArray) := drawsG (A := X.A.in1) hd t2 i2 b hb _
    have l1 := rv.length
    have l2 := rw2.length
    apply wpAny_pyNext_zipD2_end S D1 D2 p1 p2 p3 ⟨p4, sa⟩ ⟨p5, sb⟩ (by simp; omega) (by simp; omega) (by simp; omega)
    intro h1 tk kp
    exact ⟨rfl, I.turnedL (ch := [z, TI, TO, i1, i2]) (fun c o hn q => kp c o (fun e => hn (by simp [e])) (fun e => hn (by simp [e])) (fun e => hn (by simp [e])) (fun e => hn (by simp [e])) q) hf⟩
  self := fun A i s Q E st h => wpAny_pyIter_zip st.1 h
def iZipG (K : PySem.W.Frag) (ta : TA) : TI := fun σ H R => ta σ H fun vs H1 => ∃ t1 t2 a b xs ys, vs = [.ref a, .ref b] ∧ SqG K H1 t1 a xs ∧ SqG K H1 t2 b ys ∧ R (ItzG K t1 t2 a b) H1
theorem pi_zipG {X : Cx} {e e2 : Expr} {ta : TA} {p pos tpos : Pos} {elts : List Expr} {kk : Nat} (hg : Gl X "zip") (hm : X.mg "zip" = none) (ha : PA X [e, e2] ta)
    (hs : starEach [e, e2] X.env = (false, eval e X.env) :: starEach [e2] X.env := by rfl) (hpl : (backTo pos (starEach [e2] X.env)).any (·.1) = false := by rfl) :
    PI X (.Tuple elts kk tpos) (.Call (.Name "zip" p) [e, e2] [] pos) (iZipG X.K ta) := by
  constructor
  intro pins s σ H R I h
  refine Call_ (ld_blt I hg hm PyProof.Rows.boot_zip (PyProof.Rows.callWith_type1 ?_ hs hpl))
  apply thn (ha.run pos pins s σ H _ I h)
  rintro us s1 ⟨vs, H1, J, r1, t1, t2, a, b, xs, ys, rfl, qx, qy, q⟩
  cases r1 with
  | cons ra rr =>
    cases rr with
    | cons rb rr =>
      cases rr
      cases ra
      cases rb
      obtain ⟨us, rv, sa, la⟩ := sqG_items J qx
      obtain ⟨vs, rw2, sb, lb⟩ := sqG_items J qy
      apply zip_begins2 (beginsG t1 a us.toArray) (beginsG t2 b vs.toArray) sa sb
      intro h2 n1 n2 n3 g1 g2 sz kp
      apply wpAny_pyIter_zip n1
      generalize hN : s1.heap.objs.size = N at *
      have la2 := nlt la
      have lb2 := nlt lb
      have S : ZipSep2 (N + 4) (N + 2) (N + 3) N (N + 1) [N, a] [N + 1, b] :=
        ⟨nne (by omega), nne (by omega), nne (by omega), nne (by omega), by simp, nin2 (by omega) (by omega), nin2 (by omega) (by omega), nne (by omega), by simp, nin2 (by omega) (by omega), nin2 (by omega) (by omega), nin2 (by omega) (by omega), nin2 (by omega) (by omega)⟩
      have J2 : Inv X pins σ H1 { s1 with heap := h2 } := J.kept (t' := s1.toks) kp
      refine ⟨N + 4, [N + 4, N + 2, N + 3, N, N + 1], _, _, H1, rfl, J2, turn_zipG (t1 := t1) (t2 := t2) S (nne (by omega)) (nne (by omega)), ⟨n1, n2, ⟨_, _, n3⟩, iterG_new g1, iterG_new g2⟩, ?_, q⟩
      intro c hc
      have hle : s1.heap.objs.size ≤ c := by
        rw [hN]
        rcases fivefold hc with e | e | e | e | e <;> (rw [e]; first | exact Nat.le_refl _ | exact Nat.le_add_right _ _)
      exact J.fpOk hle (J.hok.fresh hle)

/-! ### enumerate -/
def IteG (K : PySem.W.Frag) (t : Bool) (a : Addr) : It :=
  ⟨fun i H => ∃ xs : List V, SqG K H t a xs ∧ i < xs.length, fun i H v H2 => ∃ T x, v = .ref T ∧ H T = none ∧ H2 = upd H T (.tup [.int (i : Nat), x]) ∧ ∀ xs, SqG K H t a xs → xs[i]? = some x, fun i H => ∃ xs : List V, SqG K H t a xs ∧ i = xs.length⟩
theorem twofold {c e it : Addr} (h : c ∈ [e, it]) : c = e ∨ c = it := by simpa using h
theorem turn_enumG {P : Program} {w : World} {K : PySem.W.Frag} {elts : List Expr} {kk : Nat} {tpos : Pos} {t : Bool} {a e it : Addr} (n1 : a ≠ it) (n2 : e ≠ it) (n3 : e ≠ a) :
    Turn P w K (.Tuple elts kk tpos) (IteG K t a) [e, it] e (fun i h => (∃ old, IsEnum h e it ((i : Nat) : Int) old) ∧ IterG t h it a i) where
  mem := by simp
  obj := by
    rintro i h ⟨⟨old, p1⟩, p2⟩ c hc
    rcases twofold hc with rfl | rfl
    · exact ⟨_, p1, nofun⟩
    · exact iterG_obj p2
  keep := by
    rintro i h h2 ⟨⟨old, p1⟩, p2⟩ k
    exact ⟨⟨old, k e (by simp) _ p1⟩, iterG_at p2 (k it (by simp))⟩
  item := by
    rintro X rfl rfl rfl hc i pins s σ H E I hf ⟨⟨old, p1⟩, p2⟩ ⟨xs, qx, lx⟩
    obtain ⟨us, rv, sa, _⟩ := sqG_items I qx
    have hd : X.A.handled = none := I.ok.hd hc
    have D1 : Draws X.prog X.w X.A.in1 it [it, a] us.toArray.size (fun i v => us.toArray[i]? = some v) (fun i h => IterG t h it a i ∧ SeqAtG t h a us.toArray) := drawsG (A := X.A.in1) hd t it a n1 _
    have el : e < s.heap.objs.size := Heap.lt_size p1
    apply wpAny_pyNext_enum_itemD D1 p1 ⟨p2, sa⟩ (by rw [List.size_toArray, ← rv.length]; exact lx) n2 (by simp; exact ⟨n2, n3⟩)
    intro u h1 tk e1 o1 m1 nT sz kp
    refine ⟨_, rfl, ?_⟩
    apply wpAny_letOwnedTupleGo_enum (s := { s with heap := h1, toks := tk + 1 }) o1
    intro h2 n4 sm
    obtain ⟨x, gx, rx⟩ : ∃ x, xs[i]? = some x ∧ RelV x u := by
      obtain ⟨u2, q1, q2⟩ := rv.get (List.getElem?_eq_getElem lx)
      rw [List.getElem?_toArray] at e1
      rw [e1] at q1
      cases q1
      exact ⟨_, List.getElem?_eq_getElem lx, q2⟩
    have hT : h2.get? s.heap.objs.size = some { cls := .type "tuple", data := .seq #[.int i tk, u] } := (sm.2 _ (Nat.ne_of_gt el)).trans nT
    have J : Inv X pins σ (upd H s.heap.objs.size (.tup [.int (i : Nat), x])) { s with heap := h2, toks := tk + 1 } := by
      refine I.turnedNew (ch := [e, it]) ?_ hf (Nat.le_refl _) (show ObjOk X.prog X.w (upd H s.heap.objs.size (.tup [.int (i : Nat), x])) h2 s.heap.objs.size (.tup [.int (i : Nat), x]) from ⟨by show 2 ≤ sizeLine; decide, [.int i tk, u], .cons ⟨_, rfl⟩ (.cons rx .nil), _, hT, rfl, _, rfl⟩)
      intro c o hn q
      rw [sm.2 c fun e => hn (by simp [e])]
      exact kp c o (fun e => hn (by simp [e])) (fun e => hn (by simp [e])) q
    have ne : ∀ c ∈ [e, it], c ≠ s.heap.objs.size := by
      intro c hc
      apply Nat.ne_of_lt
      rcases twofold hc with rfl | rfl
      · exact el
      · obtain ⟨_, e, _⟩ := iterG_obj p2; exact Heap.lt_size e
    refine ⟨.ref s.heap.objs.size, _, J, rfl, ⟨_, x, rfl, I.hok.fresh (Nat.le_refl _), rfl, fun l hl => by rw [sqG_inj I hl qx]; exact gx⟩, ⟨⟨u, ?_⟩, iterG_at m1.1 fun o q => (sm.2 _ n2.symm).trans q⟩, fun c hc => ?_⟩
    · have e1 : ((i + 1 : Nat) : Int) = (i : Int) + 1 := by omega
      rw [e1]
      exact n4
    · rw [upd_ne (ne c hc)]
      exact (hf c hc).1
  done := by
    rintro X rfl rfl rfl hc i pins s σ H E I hf ⟨⟨old, p1⟩, p2⟩ ⟨xs, qx, rfl⟩
    obtain ⟨us, rv, sa, _⟩ := sqG_items I qx
    have hd : X.A.handled = none := I.ok.hd hc
    have D1 : Draws X.prog X.w X.A.in1 it [it, a] us.toArray.size (fun i v => us.toArray[i]? = some v) (fun i h => IterG t h it a i ∧ SeqAtG t h a us.toArray) := drawsG (A := X.A.in1) hd t it a n1 _
    have l1 : us.toArray.size = xs.length := by rw [List.size_toArray, ← rv.length]
    apply wpAny_pyNext_enum_endD D1 p1 (by rw [l1]; exact ⟨p2, sa⟩)
    intro h1 kp
    obtain ⟨f0, f1, f2, f3, f4, f5⟩ := hf it (by simp)
    exact ⟨rfl, I.turned (t' := s.toks) (fun c o hn q => kp c o hn q) f0 f1 f3 f4 f5⟩
  self := by
    rintro A i s Q E ⟨⟨_, he⟩, _⟩ h
    exact wpAny_pyIter_enum he h
theorem enum_new1 {v : Value} {o : Obj} {G : Heap → Prop} (B : Begins v o G) :
    Meets (Builtin.«enumerate.__new__» ⟨[.type "enumerate", v], []⟩) (fun _ R s => G s.heap ∧ R (.ok (.ret (.ref (s.heap.push o).objs.size)))
      { s with heap := (s.heap.push o).push { cls := .type "enumerate", data := .fields #[.none, .bool false, .ref s.heap.objs.size, rawInt 0, .none, .none] } }) := by
  apply Meets.of_wp
  rintro prog w A R ⟨hp, g, d, tk, os⟩ ⟨h1, h⟩
  have hsub := sub_enumerate
  have it : ∀ {A2 : Around} {E : Value → Shared → Prop} {Q : Value → Shared → Prop}, Q (.ref hp.objs.size) ⟨hp.push o, g, d, tk, os⟩ → wpAny (model prog w) A2 (pyIter v) Q E ⟨hp, g, d, tk, os⟩ :=
    fun q => B.iter prog w _ _ ⟨hp, g, d, tk, os⟩ _ h1 q
  wp_walk using it
  apply wpAny_stack_any
  intro st
  apply wpAny_pure
  split
  · rename_i c _ _ _ _ _
    cases (c == Value.type "enumerate") <;>
      (wp_walk using it
       exact ⟨_, rfl, h⟩)
  · wp_walk using it
    exact ⟨_, rfl, h⟩
theorem enum_call1 {prog : Program} {w : World} {A : Around} {E : Value → Shared → Prop} {s : Shared} {v : Value} {o : Obj} {G : Heap → Prop} {Q : Value → Shared → Prop} (B : Begins v o G) (h1 : G s.heap)
    (h : ∀ h2, IsEnum h2 (s.heap.objs.size + 1) s.heap.objs.size 0 .none → h2.get? s.heap.objs.size = some o → h2.objs.size = s.heap.objs.size + 2 → (∀ b o, s.heap.get? b = some o → h2.get? b = some o) → Q (.ref (s.heap.objs.size + 1)) { s with heap := h2 }) :
    wpAny (model prog w) A (call (.type "enumerate") [v]) Q E s := by
  refine callType_new F.called_enumerate (by decide) (F.typeCall_enumerate_1 _) (F.newCall_enumerate_1 _) (fun obj => F.args_object_init_2 obj _) F.entry_enumerate_new (enum_new1 B) ⟨h1, ?_⟩
  have sz : (s.heap.push o).objs.size = s.heap.objs.size + 1 := Heap.size_push ..
  have he : IsEnum ((s.heap.push o).push { cls := .type "enumerate", data := .fields #[.none, .bool false, .ref s.heap.objs.size, rawInt 0, .none, .none] }) (s.heap.objs.size + 1) s.heap.objs.size 0 .none := by
    rw [← sz]
    exact Heap.get?_push_size (s.heap.push o) rfl
  show _ ∧ _
  rw [sz]
  exact ⟨⟨_, he, rfl⟩, h _ he (Heap.get?_push_of_some _ (Heap.get?_push_size _ B.free)) (by rw [Heap.size_push, sz]) fun b o x => Heap.get?_push_of_some _ (Heap.get?_push_of_some _ x)⟩
def iEnumG (K : PySem.W.Frag) (ta : TA) : TI := fun σ H R => ta σ H fun vs H1 => ∃ t a xs, vs = [.ref a] ∧ SqG K H1 t a xs ∧ R (IteG K t a) H1
theorem pi_enumG {X : Cx} {e : Expr} {ta : TA} {p pos tpos : Pos} {elts : List Expr} {kk : Nat} (hg : Gl X "enumerate") (hm : X.mg "enumerate" = none) (ha : PA X [e] ta) (hs : starEach [e] X.env = [(false, eval e X.env)] := by rfl) :
    PI X (.Tuple elts kk tpos) (.Call (.Name "enumerate" p) [e] [] pos) (iEnumG X.K ta) := by
  constructor
  intro pins s σ H R I h
  refine Call_ (ld_blt I hg hm boot_enumerate (PyProof.Rows.callWith_type1 ?_ hs rfl))
  apply thn (ha.run pos pins s σ H _ I h)
  rintro us s1 ⟨vs, H1, J, r1, t, a, xs, rfl, qx, q⟩
  cases r1 with
  | cons ra rr =>
    cases rr
    cases ra
    obtain ⟨us, rv, sa, la⟩ := sqG_items J qx
    apply enum_call1 (beginsG t a us.toArray) sa
    intro h2 n1 g1 sz kp
    apply wpAny_pyIter_enum n1
    have J2 : Inv X pins σ H1 { s1 with heap := h2 } := J.kept (t' := s1.toks) kp
    refine ⟨s1.heap.objs.size + 1, [s1.heap.objs.size + 1, s1.heap.objs.size], _, _, H1, rfl, J2, turn_enumG (t := t) (Nat.ne_of_lt la) (Nat.succ_ne_self _) (nne (by have := nlt la; omega)), ⟨⟨_, n1⟩, iterG_new g1⟩, ?_, q⟩
    intro c hc
    have hle : s1.heap.objs.size ≤ c := by
      rcases twofold hc with e | e <;> (rw [e]; first | exact Nat.le_refl _ | exact Nat.le_add_right _ _)
    exact J.fpOk hle (J.hok.fresh hle)
end DS

set_option Elab.async false
set_option linter.all false
set_option maxRecDepth 100000
set_option maxHeartbeats 4000000
namespace DS
open PySem PySem.Spec PyProof.Rows L2

/-! ### a def as a function of data -/
inductive Res where
  | val (d : D)
  | own (ds : List D)
def Res.o : Res → Opd
  | .val d => .tmp d
  | .own ds => .own ds
/-- what a def makes of its arguments; io: what the list that was handed in to be changed holds behind it -/
inductive FOut where
  | ok (r : Res) (io : List D)
  | err (e : Exn) (io : List D)
  | bad
abbrev Fn := List D → FOut
def exR (ex : Addr → Prop) (v : V) : Res → Addr → Prop
  | .val _ => ex
  | .own _ => fun a => ex a ∨ v = .ref a
def ResOk (K : PySem.W.Frag) (ex : Addr → Prop) (H H' : Hp) (v : V) : Res → Prop
  | .val d => Rp K ex H' v d
  | .own ds => ∃ q us, v = .ref q ∧ H q = none ∧ H' q = some (.lst us) ∧ RpL K (fun a => ex a ∨ v = .ref a) H' us ds
def ExK (K : PySem.W.Frag) (mg : Str → Option Value) (ex : Addr → Prop) (H : Hp) (c : Value) (d : Option Addr) (e : Exn) : Prop := ∃ Cl, c = .ref Cl ∧ mg e.name = some (.ref Cl) ∧ match e.place with
  | none => d = none
  | some v => ∃ a x, d = some a ∧ H a = some (.xd [("place", x)]) ∧ Rp K ex H x v
def spD (K : PySem.W.Frag) (mg : Str → Option Value) (n : Nat) (io : Bool) (F : Fn) : Sp := fun vs H Q E => ∃ (ex : Addr → Prop) (ds : List D), ds.length = n ∧ (∀ a, ex a → H a ≠ none) ∧ match io with
  | false => RpL K ex H vs ds ∧ match F ds with
    | .ok r _ => ∀ v H', (∀ a o, H a = some o → H' a = some o) → ResOk K ex H H' v r → Q v H'
    | .err e _ => ∀ c d H', (∀ a o, H a = some o → H' a = some o) → ExK K mg ex H' c d e → E c d H'
    | .bad => False
  | true => ∃ p vr l dr us, vs = .ref p :: vr ∧ ds = .lst l :: dr ∧ ex p ∧ H p = some (.lst us) ∧ RpL K ex H us l ∧ RpL K ex H vr dr ∧ match F ds with
    | .ok r o => ∀ v H' us', (∀ a o, a ≠ p → H a = some o → H' a = some o) → H' p = some (.lst us') → RpL K (exR ex v r) H' us' o → ResOk K ex H H' v r → Q v H'
    | .err e o => ∀ c d H' us', (∀ a o, a ≠ p → H a = some o → H' a = some o) → H' p = some (.lst us') → RpL K ex H' us' o → ExK K mg ex H' c d e → E c d H'
    | .bad => False
theorem spD_len {K : PySem.W.Frag} {mg : Str → Option Value} {n : Nat} {io : Bool} {F : Fn} {vs : List V} {H : Hp} {Q : VK} {E : XK} (h : spD K mg n io F vs H Q E) : vs.length = n := by
  obtain ⟨ex, ds, hl, _, h⟩ := h
  cases io with
  | false => rw [h.1.length]; exact hl
  | true =>
    obtain ⟨p, vr, l, dr, us, rfl, rfl, _, _, _, r, _⟩ := h
    rw [← hl, List.length_cons, List.length_cons, r.length]

/-! ### calls of the program's own defs -/
/-- the def that the name x stands for, as a function of data -/
structure Cal (P : Program) (w : World) (K : PySem.W.Frag) (mg : Str → Option Value) (base : Heap) (k : Nat) (x : Str) (n : Nat) (io : Bool) (F : Fn) : Prop where
  ex : ∃ f fd ps, FnG P w K mg base k f fd ps (spD K mg n io F) ∧ mg x = some (.ref f) ∧ PySem.W.keepIn K (.ref f) = true ∧ Binds K fd ps []
section
variable {X : Cx} {W : WX}
def eCall (F : Fn) (a : Sm (List D)) : Sm Opd := bnd a fun ds ε => match F ds with
  | .ok r _ => .ok r.o ε
  | .err e _ => .err e ε
  | .bad => .bad
/-- a list stands in slot i that may be changed -/
def isMut (ε : Env') (i : Nat) : Bool := match ε[i]? with
  | some sv => (mutL sv).isSome
  | none => false
theorem EIw.isMut {C : Ct} {ow : Addr → Option Nat} {H : Hp} {σ : L2.St} {ε : Env'} {ps : List (V × Opd)} {i : Nat} (I : EIw C ow H σ ε ps) (h : isMut ε i = true) : ∃ p, σ[i]? = some (some (.ref p)) ∧ EIw C ow H σ ε ((.ref p, .plc i) :: ps) := by
  unfold DS.isMut at h
  split at h
  · rename_i sv e
    cases hm : mutL sv with
    | none => rw [hm] at h; cases h
    | some l =>
      have hi : i < σ.length := by rw [I.len]; exact (List.getElem?_eq_some_iff.mp e).1
      have hc := I.slots i _ _ (List.getElem?_eq_getElem hi) e
      cases sv with
      | un => cases hm
      | val d => cases hm
      | own ds =>
        obtain ⟨p, vs, e1, _⟩ := hc
        have hs : σ[i]? = some (some (.ref p)) := by rw [List.getElem?_eq_getElem hi, e1]
        exact ⟨p, hs, I.pushPlc hs (by unfold listAt; rw [e])⟩
      | inn ds =>
        obtain ⟨p, vs, e1, _⟩ := hc
        have hs : σ[i]? = some (some (.ref p)) := by rw [List.getElem?_eq_getElem hi, e1]
        exact ⟨p, hs, I.pushPlc hs (by unfold listAt; rw [e])⟩
  · cases h
/-- the first argument is the list in slot i, to be changed -/
def eCallIo (F : Fn) (i : Nat) (a : Sm (List D)) : Sm Opd := fun ε => if isMut ε i then bnd a (fun ds ε => match ε[i]? with
    | some sv => match mutL sv with
      | some l => match F (.lst l :: ds) with
        | .ok r o => .ok r.o (ε.set i (remut sv o))
        | .err e o => .err e (ε.set i (remut sv o))
        | .bad => .bad
      | none => .bad
    | none => .bad) ε else .bad
theorem exK_of {C : Ct} {H : Hp} {c : Value} {d : Option Addr} {e : Exn} {ex : Addr → Prop} (hx : ∀ a, C.E0 a → ex a) (h : ExK C.K C.mg ex H c d e) : ExR C H c d e := by
  obtain ⟨Cl, h1, h2, h3⟩ := h
  refine ⟨Cl, h1, h2, ?_⟩
  cases hp : e.place with
  | none => rw [hp] at h3; exact h3
  | some v =>
    rw [hp] at h3
    obtain ⟨a, x, e1, e2, r⟩ := h3
    exact ⟨a, x, e1, e2, r.mono (fun a z => .inl (hx a z)) fun _ _ _ z => z⟩
theorem EIw.excNe {C : Ct} {ow : Addr → Option Nat} {H : Hp} {σ : L2.St} {ε : Env'} {ps : List (V × Opd)} (I : EIw C ow H σ ε ps) : ∀ a, Exc C ow a → H a ≠ none := fun a z => by
  rcases z with z | z
  · exact (I.exh a z).1
  · cases q : ow a with
    | none => exact absurd q z
    | some t =>
      obtain ⟨⟨vs, e⟩, _⟩ := I.owd a t q
      rw [e]; exact fun z => by cases z
/-- a result comes back, as an operand -/
theorem EIw.back {C : Ct} {ow : Addr → Option Nat} {H H' : Hp} {σ : L2.St} {ε : Env'} {ps : List (V × Opd)} (I : EIw C ow H σ ε ps) (hk : ∀ a o, H a = some o → H' a = some o) {v : V} {r : Res} (hr : ResOk C.K (Exc C ow) H H' v r) : EI C H' σ ε ((v, r.o) :: ps) := by
  cases r with
  | val d =>
    obtain ⟨J, _, _⟩ := I.grow (ow' := ow) hk fun a z => absurd rfl z
    exact ⟨ow, J.push hr⟩
  | own ds =>
    obtain ⟨q, us, rfl, e1, e2, e3⟩ := hr
    obtain ⟨f1, f2, f3, f4⟩ := I.fresh e1
    have ht : ∀ a, tagOw ow q (some (ε.length + ps.length)) a ≠ ow a → H a = none ∧ (∃ us, H' a = some (.lst us)) ∧ C.H0 a = none := fun a z => by
      by_cases e : a = q
      · subst e; exact ⟨e1, ⟨us, e2⟩, f3⟩
      · exact absurd (tagOw_ne e) z
    obtain ⟨J, _, _⟩ := I.grow hk ht
    refine ⟨_, J.len, J.owd, J.exh, J.iot, J.keep, J.slots, ⟨q, us, rfl, tagOw_same, f3, e2, e3.mono (fun a z => ?_) fun _ _ _ z => z⟩, J.pend⟩
    rcases z with z | z
    · exact .inl (.inl (.inl z))
    · by_cases e : a = q
      · subst e; exact .inl (.inr rfl)
      · exact .inl (.inl (.inr (by rw [tagOw_ne e] at z; exact z)))
theorem EI.nil {C : Ct} {H : Hp} {σ : L2.St} {ε : Env'} : ∀ {ps : List (V × Opd)}, EI C H σ ε ps → EI C H σ ε []
  | [], I => I
  | (_, _) :: _, I => EI.nil I.drop
theorem call_reads {K : PySem.W.Frag} {mg : Str → Option Value} {n : Nat} {F : Fn} {t : TA} {a : Sm (List D)} (hK : X.K = K) (hM : X.mg = mg) (hn : ∀ ε ds ε', a ε = .ok ds ε' → ds.length = n) (q : ReA X W t a) : ReE X W (tCallS (spD K mg n false F) (WE W) t) (eCall F a) := by
  subst hK hM
  intro C H σ ε ps Q hK hM I h
  refine q hK hM I ?_
  have h := post_bnd h
  cases ha : a ε with
  | bad => rw [ha] at h; exact h
  | err e ε' => rw [ha] at h; exact h
  | ok ds ε1 =>
    rw [ha] at h
    intro xs H1 hl I1
    obtain ⟨ow, I1⟩ := I1
    obtain ⟨r, J⟩ := stk_rp hl I1
    have h : Out.post (match F ds with
      | .ok r _ => .ok r.o ε1
      | .err e _ => .err e ε1
      | .bad => .bad) (fun o ε' => ∀ x H', EI C H' σ ε' ((x, o) :: ps) → Q x H') (ErrW W C σ) := h
    refine ⟨Exc C ow, ds, hn ε ds ε1 ha, J.excNe, by rw [← hK]; exact r, ?_⟩
    cases hF : F ds with
    | bad => rw [hF] at h; exact h
    | ok res o =>
      rw [hF] at h
      exact fun v H' hk hr => h v H' (J.back hk (by rw [hK]; exact hr))
    | err e o =>
      rw [hF] at h
      intro c d H' hk hx
      obtain ⟨J', _, _⟩ := J.grow (ow' := ow) hk fun a z => absurd rfl z
      exact h c d H' (exK_of (ex := Exc C ow) (fun a z => .inl z) (by rw [hK, hM]; exact hx)) (EI.nil ⟨ow, J'⟩)
theorem de_call {k n : Nat} {x : Str} {p pos : Pos} {e : Expr} {es : List Expr} {F : Fn} {a : Sm (List D)} {j : Nat} (c : Cal X.prog X.w X.K X.mg X.base k x n false F) (hr : RmG j X.A) (hj : k ≤ j) (tk : Takes X W) (hg : Gl X x) (ha : DA X W (e :: es) a) (hn : ∀ ε ds ε', a ε = .ok ds ε' → ds.length = n)
    (hdb : (x == ("__debug__" : Str)) = false := by decide) (he : starEach (e :: es) X.env = (false, eval e X.env) :: starEach es X.env := by rfl) (hpl : (backTo pos (starEach es X.env)).any (·.1) = false := by rfl) :
    DE X W (.Call (.Name x p) (e :: es) [] pos) (eCall F a) := by
  obtain ⟨f, fd, ps, h1, h2, h3, h4⟩ := c
  obtain ⟨t, pa, q⟩ := ha
  exact ⟨_, pe_callG h1 (hr.mono hj) hg h2 h3 h4 (fun σ => passAt tk σ) pa hdb he hpl, call_reads rfl rfl hn q⟩
theorem aCons_len {f : Sm Opd} {r : Sm (List D)} {n : Nat} (h : ∀ ε ds ε', r ε = .ok ds ε' → ds.length = n) : ∀ ε ds ε', aCons f r ε = .ok ds ε' → ds.length = n + 1 := by
  intro ε ds ε' e
  simp only [aCons, bnd] at e
  split at e
  · split at e
    · rename_i h1
      cases e
      simp [h _ _ _ h1]
    · cases e
    · cases e
  · cases e
  · cases e
theorem aNil_len : ∀ ε ds ε', aNil ε = .ok ds ε' → ds.length = 0 := by
  intro ε ds ε' e
  cases e; rfl
/-- the list in slot i comes back changed, and a result -/
theorem EIw.backIo {C : Ct} {ow : Addr → Option Nat} {H H' : Hp} {σ : L2.St} {ε : Env'} {ps : List (V × Opd)} {i : Nat} {sv : SV} {p : Addr} {l o : List D} {us' : List V} (I : EIw C ow H σ ε ps) (hx : σ[i]? = some (some (.ref p))) (hs : ε[i]? = some sv) (hl : mutL sv = some l)
    (hk : ∀ a o, a ≠ p → H a = some o → H' a = some o) (hq : H' p = some (.lst us')) {v : V} {r : Res} (hu : RpL C.K (exR (Exc C ow) v r) H' us' o) (hr : ResOk C.K (Exc C ow) H H' v r) : EI C H' σ (ε.set i (remut sv o)) ((v, r.o) :: ps) := by
  cases r with
  | val d =>
    obtain ⟨J, _, _⟩ := I.mutB (ow' := ow) hx hs hl hk hq (fun a z => absurd rfl z) hu
    exact ⟨ow, J.push hr⟩
  | own ds =>
    obtain ⟨q, us, rfl, e1, e2, e3⟩ := hr
    obtain ⟨f1, f2, f3, f4⟩ := I.fresh e1
    have ht : ∀ a, tagOw ow q (some (ε.length + ps.length)) a ≠ ow a → H a = none ∧ (∃ us, H' a = some (.lst us)) ∧ C.H0 a = none := fun a z => by
      by_cases e : a = q
      · subst e; exact ⟨e1, ⟨us, e2⟩, f3⟩
      · exact absurd (tagOw_ne e) z
    have hex : ∀ a, Exc C (tagOw ow q (some (ε.length + ps.length))) a → (Exc C ow a ∨ V.ref q = V.ref a) ∨ H' a = none := fun a z => by
      rcases z with z | z
      · exact .inl (.inl (.inl z))
      · by_cases e : a = q
        · subst e; exact .inl (.inr rfl)
        · exact .inl (.inl (.inr (by rw [tagOw_ne e] at z; exact z)))
    obtain ⟨J, _, _⟩ := I.mutB hx hs hl hk hq ht (RpL.mono (E := fun a => Exc C ow a ∨ V.ref q = V.ref a) hex (fun _ _ _ z => z) hu)
    exact ⟨_, J.len, J.owd, J.exh, J.iot, J.keep, J.slots, ⟨q, us, rfl, by rw [List.length_set]; exact tagOw_same, f3, e2, e3.mono hex fun _ _ _ z => z⟩, J.pend⟩
theorem callIo_reads {K : PySem.W.Frag} {mg : Str → Option Value} {n i : Nat} {F : Fn} {t : TA} {a : Sm (List D)} (hK : X.K = K) (hM : X.mg = mg) (hn : ∀ ε ds ε', a ε = .ok ds ε' → ds.length = n) (q : ReA X W t a) : ReE X W (tCallS (spD K mg (n + 1) true F) (WE W) (tCons (tVar i) t)) (eCallIo F i a) := by
  subst hK hM
  intro C H σ ε ps Q hK hM I h
  unfold eCallIo at h
  split at h
  · rename_i him
    obtain ⟨ow0, I0⟩ := I
    obtain ⟨p0, hs0, I1⟩ := I0.isMut him
    refine ⟨_, hs0, q hK hM ⟨ow0, I1⟩ ?_⟩
    have h := post_bnd h
    cases ha : a ε with
    | bad => rw [ha] at h; exact h
    | err e ε' => rw [ha] at h; exact h
    | ok ds ε2 =>
      rw [ha] at h
      intro xs H2 hl I2
      obtain ⟨ow, I2⟩ := I2
      obtain ⟨r, J⟩ := stk_rp hl I2
      obtain ⟨hx, _⟩ := J.pend.1
      have J0 : EIw C ow H2 σ ε2 ps := ⟨J.len, J.owd, J.exh, J.iot, J.keep, J.slots, J.pend.2⟩
      cases hs : ε2[i]? with
      | none => simp only [Out.post, hs] at h
      | some sv =>
        cases hm : mutL sv with
        | none => simp only [Out.post, hs, hm] at h
        | some l =>
          simp only [Out.post, hs, hm] at h
          obtain ⟨p, vs, ep, h1, h2, h3, h4⟩ := J0.mutA hx hs hm
          cases ep
          have hp : Exc C ow p0 := .inr (by rw [h1]; exact fun z => by cases z)
          refine ⟨Exc C ow, .lst l :: ds, by rw [List.length_cons, hn ε ds ε2 ha], J.excNe, p0, xs, l, ds, vs, rfl, rfl, hp, h3, by rw [← hK]; exact h4, by rw [← hK]; exact r, ?_⟩
          cases hF : F (.lst l :: ds) with
          | bad => simp only [hF] at h
          | ok res o =>
            simp only [hF] at h
            exact fun v H' us' hk hq hu hr => h v H' (J0.backIo hx hs hm hk hq (by rw [hK]; exact hu) (by rw [hK]; exact hr))
          | err e o =>
            simp only [hF] at h
            intro c d H' us' hk hq hu hx'
            obtain ⟨J', _, _⟩ := J0.mutB (ow' := ow) hx hs hm hk hq (fun a z => absurd rfl z) (by rw [hK]; exact hu)
            exact h c d H' (exK_of (ex := Exc C ow) (fun a z => .inl z) (by rw [hK, hM]; exact hx')) (EI.nil ⟨ow, J'⟩)
  · exact h.elim
theorem de_callIo {k n i : Nat} {x y : Str} {p p2 pos : Pos} {es : List Expr} {F : Fn} {a : Sm (List D)} {j : Nat} (c : Cal X.prog X.w X.K X.mg X.base k x (n + 1) true F) (hr : RmG j X.A) (hj : k ≤ j) (tk : Takes X W) (hg : Gl X x) (hv : PE X (.Name y p2) (tVar i)) (ha : DA X W es a) (hn : ∀ ε ds ε', a ε = .ok ds ε' → ds.length = n)
    (hdb : (x == ("__debug__" : Str)) = false := by decide) (he : starEach (.Name y p2 :: es) X.env = (false, eval (.Name y p2) X.env) :: starEach es X.env := by rfl) (hpl : (backTo pos (starEach es X.env)).any (·.1) = false := by rfl) :
    DE X W (.Call (.Name x p) (.Name y p2 :: es) [] pos) (eCallIo F i a) := by
  obtain ⟨f, fd, ps, h1, h2, h3, h4⟩ := c
  obtain ⟨t, pa, q⟩ := ha
  exact ⟨_, pe_callG h1 (hr.mono hj) hg h2 h3 h4 (fun σ => passAt tk σ) (pa_cons hv pa he) hdb he hpl, callIo_reads rfl rfl hn q⟩
end
end DS

set_option Elab.async false
set_option linter.all false
set_option maxRecDepth 100000
set_option maxHeartbeats 4000000
namespace DS
open PySem PySem.Spec PyProof.Rows L2

/-! ### statements -/
inductive Fl where
  | nx
  | rt (r : Res)
  | bk
  | ct
def FlOk (C : Ct) (D : Ends) (ps : List (V × Opd)) : Fl → Env' → Prop
  | .nx, ε => ∀ σ H, EI C H σ ε ps → D.nx σ H
  | .rt r, ε => ∀ v σ H, EI C H σ ε ((v, r.o) :: ps) → D.rt v H
  | .bk, ε => ∀ σ H, EI C H σ ε ps → D.bk σ H
  | .ct, ε => ∀ σ H, EI C H σ ε ps → D.ct σ H
def ErrS (W : WX) (C : Ct) (e : Exn) (ε : Env') : Prop := ∀ σ, ErrW W C σ e ε
def ReS (X : Cx) (W : WX) (t : TS) (f : Sm Fl) : Prop := ∀ {C : Ct} {H : Hp} {σ : L2.St} {ε : Env'} {ps : List (V × Opd)} {D : Ends}, C.K = X.K → C.mg = X.mg → Solid ps → EI C H σ ε ps →
    (f ε).post (FlOk C D ps) (ErrS W C) → t D σ H
structure DSt (X : Cx) (W : WX) (st : Stmt) (f : Sm Fl) : Prop where
  ex : ∃ t, PS X st t ∧ ReS X W t f
structure DSs (X : Cx) (W : WX) (sts : List Stmt) (f : Sm Fl) : Prop where
  ex : ∃ t, PSs X sts t ∧ ReS X W t f
section
variable {X : Cx} {W : WX}
def sNil : Sm Fl := fun ε => .ok .nx ε
def sSeq (a b : Sm Fl) : Sm Fl := bnd a fun fl => match fl with
  | .nx => b
  | .rt r => fun ε => .ok (.rt r) ε
  | .bk => fun ε => .ok .bk ε
  | .ct => fun ε => .ok .ct ε
theorem dss_nil : DSs X W [] sNil := by
  refine ⟨_, pss_nil, ?_⟩
  intro C H σ ε ps D hK hM hs I h
  exact h σ H I
theorem dss_one {st : Stmt} {f : Sm Fl} (h : DSt X W st f) : DSs X W [st] f := by
  obtain ⟨t, p, q⟩ := h
  exact ⟨_, pss_one p, q⟩
theorem dss_cons {st : Stmt} {rest : List Stmt} {f g : Sm Fl} (h : DSt X W st f) (h' : DSs X W rest g) : DSs X W (st :: rest) (sSeq f g) := by
  obtain ⟨t, p, q⟩ := h
  obtain ⟨t', p', q'⟩ := h'
  refine ⟨_, pss_cons p p', ?_⟩
  intro C H σ ε ps D hK hM hs I h
  refine q (D := { D with nx := t' D }) hK hM hs I (Out.post.mono (post_bnd h) (fun fl ε1 h1 => ?_) fun _ _ z => z)
  cases fl with
  | nx => exact fun σ1 H1 I1 => q' hK hM hs I1 h1
  | rt r => exact h1
  | bk => exact h1
  | ct => exact h1
theorem ds_pass {pos : Pos} : DSt X W (.Pass pos) sNil := by
  refine ⟨_, ps_pass, ?_⟩
  intro C H σ ε ps D hK hM hs I h
  exact h σ H I
theorem ds_break {pos : Pos} : DSt X W (.Break pos) (fun ε => .ok .bk ε) := by
  refine ⟨_, ps_break, ?_⟩
  intro C H σ ε ps D hK hM hs I h
  exact h σ H I
theorem ds_continue {pos : Pos} : DSt X W (.Continue pos) (fun ε => .ok .ct ε) := by
  refine ⟨_, ps_continue, ?_⟩
  intro C H σ ε ps D hK hM hs I h
  exact h σ H I
theorem ErrS.w {C : Ct} {σ : L2.St} {e : Exn} {ε : Env'} (h : ErrS W C e ε) : ErrW W C σ e ε := h σ
def sEx (f : Sm Opd) : Sm Fl := bnd f fun _ ε => .ok .nx ε
theorem ds_expr {e : Expr} {f : Sm Opd} {pos : Pos} (h : DE X W e f) (hs : swapsWith e none pos.line X.env = pure false := by rfl) : DSt X W (.Expr e pos) (sEx f) := by
  obtain ⟨t, p, q⟩ := h
  refine ⟨_, ps_expr p hs, ?_⟩
  intro C H σ ε ps D hK hM hs I h
  exact q hK hM I (Out.post.mono (post_bnd h) (fun o ε1 h1 x H1 I1 => h1 σ H1 I1.drop) fun _ _ z => z.w)
/-- what is handed back -/
def retOf (o : Opd) (ε : Env') : Option (Res × Env') := match o with
  | .tmp d => some (.val d, ε)
  | .own ds => some (.own ds, ε)
  | .plc i => match ε[i]? with
    | some (.val d) => some (.val d, ε)
    | some (.own ds) => some (.own ds, ε.set i .un)
    | _ => none
def sRet (f : Sm Opd) : Sm Fl := bnd f fun o ε => match retOf o ε with
  | some (r, ε') => .ok (.rt r) ε'
  | none => .bad
theorem EI.ret {C : Ct} {H : Hp} {σ : L2.St} {ε ε' : Env'} {ps : List (V × Opd)} {x : V} {o : Opd} {r : Res} (hs : Solid ps) (I : EI C H σ ε ((x, o) :: ps)) (e : retOf o ε = some (r, ε')) : EI C H σ ε' ((x, r.o) :: ps) := by
  cases o with
  | tmp d => cases e; exact I
  | own ds => cases e; exact I
  | plc i =>
    simp only [retOf] at e
    split at e
    · rename_i d hd
      cases e
      exact I.freeze (by simp only [toVal, hd])
    · rename_i ds hd
      cases e
      obtain ⟨ow, I⟩ := I
      obtain ⟨⟨h0, _⟩, hp⟩ := I.pend
      obtain ⟨p, vs, e, h1, h2, h3, h4⟩ := I.slots i _ _ h0 hd
      cases e
      have hi := slot_lt I h0
      have he : ∀ a, Exc C (tagOw ow p (some (ε.length + ps.length))) a → Exc C ow a ∨ H a = none := fun a z => by
        rcases z with z | z
        · exact .inl (.inl z)
        · by_cases q : a = p
          · subst q; exact .inl (.inr (by rw [h1]; exact fun z => by cases z))
          · exact .inl (.inr (by rw [tagOw_ne q] at z; exact z))
      have hpp : ∀ q t, t ≠ i → ow q = some t → tagOw ow p (some (ε.length + ps.length)) q = some t ∧ H q = H q := fun q t n e => by
        have z : q ≠ p := fun z => by rw [z, h1] at e; cases e; exact n rfl
        exact ⟨by rw [tagOw_ne z]; exact e, rfl⟩
      refine ⟨tagOw ow p (some (ε.length + ps.length)), by rw [List.length_set]; exact I.len, fun a t e => ?_, I.exh, I.iot, I.keep, fun j y sv e1 e2 => ?_, ⟨p, vs, rfl, by rw [List.length_set]; exact tagOw_same, h2, h3, h4.mono he fun _ _ _ e => e⟩, ?_⟩
      · by_cases z : a = p
        · subst z; exact ⟨⟨vs, h3⟩, .inl h2⟩
        · rw [tagOw_ne z] at e; exact I.owd a t e
      · by_cases z : j = i
        · subst z
          rw [List.getElem?_set_self hi] at e2
          cases e2; trivial
        · rw [List.getElem?_set_ne (Ne.symm z)] at e2
          exact (I.slots j y sv e1 e2).mono (T := i) z hpp he fun _ _ _ e => e
      · exact Pend.mono (T := i) (List.length_set) hpp he (fun _ _ _ e => e) (fun k hk => by omega) (fun v j hm _ _ => absurd hm (hs v j)) hp
    · cases e
theorem retOf_post {o : Opd} {ε : Env'} {P : Fl → Env' → Prop} {R : Exn → Env' → Prop} (h : Out.post (match retOf o ε with
  | some (r, ε') => .ok (.rt r) ε'
  | none => .bad) P R) : ∃ r ε', retOf o ε = some (r, ε') ∧ P (.rt r) ε' := by
  split at h
  · exact ⟨_, _, by assumption, h⟩
  · exact h.elim
theorem ds_ret {e : Expr} {f : Sm Opd} {pos : Pos} (h : DE X W e f) : DSt X W (.Return (some e) pos) (sRet f) := by
  obtain ⟨t, p, q⟩ := h
  refine ⟨_, ps_ret p, ?_⟩
  intro C H σ ε ps D hK hM hs I h
  refine q hK hM I (Out.post.mono (post_bnd h) (fun o ε1 h1 x H1 I1 => ?_) fun _ _ z => z.w)
  obtain ⟨r, ε2, e, h2⟩ := retOf_post h1
  exact h2 x σ H1 (I1.ret hs e)
theorem ds_retN {pos : Pos} : DSt X W (.Return none pos) (fun ε => .ok (.rt (.val .non)) ε) := by
  refine ⟨_, ps_retN, ?_⟩
  intro C H σ ε ps D hK hM hs I h
  exact h .non σ H (I.push .non)
def sIf (c : Sm Bool) (a b : Sm Fl) : Sm Fl := bnd c fun k => if k then a else b
theorem ds_if {c : Expr} {a b : List Stmt} {fc : Sm Bool} {f g : Sm Fl} {pos : Pos} (hc : DT X W c fc) (h : DSs X W a f) (h' : DSs X W b g) : DSt X W (.If c a b pos) (sIf fc f g) := by
  obtain ⟨tc, pc, qc⟩ := hc
  obtain ⟨t, p, q⟩ := h
  obtain ⟨t', p', q'⟩ := h'
  refine ⟨_, ps_if pc p p', ?_⟩
  intro C H σ ε ps D hK hM hs I h
  refine qc hK hM I (Out.post.mono (post_bnd h) (fun k ε1 h1 H1 I1 => ?_) fun _ _ z => z.w)
  cases k with
  | true => exact iteT (q hK hM hs I1 h1)
  | false => exact iteF (q' hK hM hs I1 h1)

/-! ### stores -/
/-- the slot that may be set anew -/
def setOk (ε : Env') (i : Nat) : Bool := match ε[i]? with
  | some (.inn _) => false
  | some _ => true
  | none => false
theorem setOk_lt {ε : Env'} {i : Nat} (h : setOk ε i = true) : i < ε.length := by
  unfold setOk at h
  split at h
  · cases h
  · rename_i e; exact (List.getElem?_eq_some_iff.mp e).1
  · cases h
/-- an operand is stored; a name's list is a value for good then -/
def putO (i : Nat) (o : Opd) (ε : Env') : Option Env' := match o with
  | .tmp d => if setOk ε i then some (ε.set i (.val d)) else none
  | .own ds => if setOk ε i then some (ε.set i (.own ds)) else none
  | .plc j => match toVal ε (.plc j) with
    | some (d, ε') => if setOk ε' i then some (ε'.set i (.val d)) else none
    | none => none
theorem EI.put {C : Ct} {H : Hp} {σ : L2.St} {ε ε' : Env'} {ps : List (V × Opd)} {x : V} {o : Opd} {i : Nat} (hs : Free [i] ps) (I : EI C H σ ε ((x, o) :: ps)) (e : putO i o ε = some ε') : EI C H (σ.set i (some x)) ε' ps := by
  cases o with
  | tmp d =>
    simp only [putO] at e
    split at e
    · cases e
      exact I.store (setOk_lt (by assumption)) hs fun _ => by simp
    · cases e
  | own ds =>
    simp only [putO] at e
    split at e
    · cases e
      exact I.store (setOk_lt (by assumption)) hs fun _ => by simp
    · cases e
  | plc j =>
    simp only [putO] at e
    split at e
    · rename_i d ε1 h1
      split at e
      · cases e
        exact (I.freeze h1).store (setOk_lt (by assumption)) hs fun _ => by simp
      · cases e
    · cases e
def sSet (i : Nat) (f : Sm Opd) : Sm Fl := bnd f fun o ε => match putO i o ε with
  | some ε' => .ok .nx ε'
  | none => .bad
theorem put_post {o : Option Env'} {P : Fl → Env' → Prop} {R : Exn → Env' → Prop} (h : Out.post (match o with
  | some ε' => .ok .nx ε'
  | none => .bad) P R) : ∃ ε', o = some ε' ∧ P .nx ε' := by
  cases o with
  | none => exact h.elim
  | some e => exact ⟨e, rfl, h⟩
theorem ds_set {i : Nat} {x : Str} {e : Expr} {f : Sm Opd} {pos pos' : Pos} (hN : X.N.Nodup) (hi : X.N[i]? = some x) (hx : Loc X.env.scope x) (h : DE X W e f) (hs : swapsWith e (some (.Name x pos')) pos.line X.env = pure false := by rfl) (hf : X.fn x = true ∨ X.env.scope.names.lookup x = some .local := by first | exact .inl rfl | exact .inr rfl | assumption) :
    DSt X W (.Assign [.Name x pos'] e pos) (sSet i f) := by
  obtain ⟨t, p, q⟩ := h
  refine ⟨_, ps_set hN hi hx p hs hf, ?_⟩
  intro C H σ ε ps D hK hM hs I h
  refine q hK hM I (Out.post.mono (post_bnd h) (fun o ε1 h1 x H1 I1 => ?_) fun _ _ z => z.w)
  obtain ⟨ε2, e, h2⟩ := put_post h1
  exact h2 _ H1 (I1.put hs.free e)
/-- an operand that a name's list is not any more -/
def eNrm (f : Sm Opd) : Sm Opd := bnd f fun o ε => match o with
  | .plc i => match toVal ε (.plc i) with
    | some (d, ε') => .ok (.tmp d) ε'
    | none => .bad
  | o => .ok o ε
def noPlc : Opd → Bool
  | .plc _ => false
  | _ => true
def cNil : Sm (List Opd) := fun ε => .ok [] ε
def cCons (a : Sm Opd) (r : Sm (List Opd)) : Sm (List Opd) := bnd (eNrm a) fun d => bnd r fun ds ε => .ok (d :: ds) ε
structure DN (X : Cx) (W : WX) (es : List Expr) (f : Sm (List Opd)) : Prop where
  ex : ∃ t, PA X es t ∧ ∀ {C : Ct} {H : Hp} {σ : L2.St} {ε : Env'} {ps : List (V × Opd)} {Q : List V → Hp → Prop}, C.K = X.K → C.mg = X.mg → EI C H σ ε ps →
    (f ε).post (fun os ε' => ∀ xs H', xs.length = os.length → os.all noPlc = true → EI C H' σ ε' (stk xs os ps) → Q xs H') (ErrW W C σ) → t σ H Q
theorem dn_nil : DN X W [] cNil := by
  refine ⟨_, pa_nil, ?_⟩
  intro C H σ ε ps Q hK hM I h
  exact h [] H rfl rfl I
theorem dn_cons {e : Expr} {es : List Expr} {f : Sm Opd} {r : Sm (List Opd)} (h : DE X W e f) (h' : DN X W es r) (hs : starEach (e :: es) X.env = (false, eval e X.env) :: starEach es X.env := by rfl) : DN X W (e :: es) (cCons f r) := by
  obtain ⟨t, p, q⟩ := h
  obtain ⟨t', p', q'⟩ := h'
  refine ⟨_, pa_cons p p' hs, ?_⟩
  intro C H σ ε ps Q hK hM I h
  refine q hK hM I (Out.post.mono (post_bnd (post_bnd h)) (fun o ε1 h1 x H1 I1 => ?_) fun _ _ z => z)
  have go : ∀ (o : Opd) (ε1 : Env'), noPlc o = true → EI C H1 σ ε1 ((x, o) :: ps) → Out.post (bnd r (fun ds ε => .ok (o :: ds) ε) ε1) (fun os ε' => ∀ xs H', xs.length = os.length → os.all noPlc = true → EI C H' σ ε' (stk xs os ps) → Q xs H') (ErrW W C σ) → t' σ H1 fun xs H2 => Q (x :: xs) H2 := fun o ε1 hn J h2 => by
    refine q' hK hM J (Out.post.mono (post_bnd h2) (fun ds ε3 h3 xs H3 hl hal I3 => ?_) fun _ _ z => z)
    exact h3 (x :: xs) H3 (by simp [hl]) (by simp [hn, hal]) I3
  cases o with
  | tmp d => exact go _ _ rfl I1 h1
  | own ds => exact go _ _ rfl I1 h1
  | plc i =>
    simp only at h1
    split at h1
    · rename_i d ε2 e
      exact go _ _ rfl (I1.freeze e) h1
    · exact h1.elim
/-- a, b = x, y -/
def sPar (i j : Nat) (f : Sm (List Opd)) : Sm Fl := bnd f fun os ε => match os with
  | [o, p] => match putO j p ε with
    | some ε1 => match putO i o ε1 with
      | some ε2 => .ok .nx ε2
      | none => .bad
    | none => .bad
  | _ => .bad
theorem free_one {i : Nat} {x : V} {o : Opd} {ps : List (V × Opd)} (hn : noPlc o = true) (hs : Solid ps) : Free [i] ((x, o) :: ps) := fun v k m => by
  rcases List.mem_cons.mp m with e | m
  · cases e; cases hn
  · exact absurd m (hs v k)
theorem ds_par {i j : Nat} {x y : Str} {a b : Expr} {f : Sm (List Opd)} {px py pt pos : Pos} {kt k2 pt2} (hc : X.calm = true) (hN : X.N.Nodup) (hi : X.N[i]? = some x) (hj : X.N[j]? = some y) (hij : i ≠ j)
    (hx : X.env.scope.names.lookup x = some .local) (hy : X.env.scope.names.lookup y = some .local) (ha : DN X W [a, b] f)
    (hw : swappedStores [.Tuple [.Name x px, .Name y py] kt pt] (.Tuple [a, b] k2 pt2) X.env = pure (some [x, y]))
    (hs : swapsWithSole [.Tuple [.Name x px, .Name y py] kt pt] (.Tuple [a, b] k2 pt2) pos.line X.env = pure false := by rfl) :
    DSt X W (.Assign [.Tuple [.Name x px, .Name y py] kt pt] (.Tuple [a, b] k2 pt2) pos) (sPar i j f) := by
  obtain ⟨t, p, q⟩ := ha
  refine ⟨_, ps_par hc hN hi hj hij hx hy p hw hs, ?_⟩
  intro C H σ ε ps D hK hM hs I h
  refine q hK hM I (Out.post.mono (post_bnd h) (fun os ε1 h1 xs H1 hl hal I1 => ?_) fun _ _ z => z.w)
  split at h1
  · rename_i o p
    match xs, hl with
    | [v, w], _ =>
      simp only [List.all_cons, Bool.and_eq_true] at hal
      split at h1
      · rename_i ε2 e2
        obtain ⟨ε3, e3, h3⟩ := put_post h1
        have I2 : EI C H1 (σ.set j (some w)) ε2 ((v, o) :: ps) := EI.put (free_one hal.1 hs) I1 e2
        have I3 := I2.put hs.free e3
        refine ⟨v, w, rfl, h3 _ H1 ?_⟩
        rw [List.set_comm _ _ hij]
        exact I3
      · exact h1.elim
  · exact h1.elim
/-- three of them -/
def sPar3 (i j l : Nat) (f : Sm (List Opd)) : Sm Fl := bnd f fun os ε => match os with
  | [o, p, q] => match putO l q ε with
    | some ε0 => match putO j p ε0 with
      | some ε1 => match putO i o ε1 with
        | some ε2 => .ok .nx ε2
        | none => .bad
      | none => .bad
    | none => .bad
  | _ => .bad

/-! ### targets -/
structure DG (X : Cx) (is : List Nat) (tg : Expr) (g : D → Env' → Option Env') : Prop where
  ex : ∃ t, PG X tg t ∧ ∀ {C : Ct} {H : Hp} {σ : L2.St} {ε ε' : Env'} {ps : List (V × Opd)} {x : V} {d : D} {Q : L2.St → Hp → Prop}, C.K = X.K → Free is ps → EI C H σ ε ((x, .tmp d) :: ps) → g d ε = some ε' →
    (∀ σ' H', EI C H' σ' ε' ps → σ'.length = σ.length → (∀ j, j ∉ is → σ'[j]? = σ[j]?) → Q σ' H') → t x σ H Q
structure DGs (X : Cx) (is : List Nat) (tgs : List Expr) (g : List D → Env' → Option Env') : Prop where
  ex : ∃ t, PGs X tgs t ∧ ∀ {C : Ct} {H : Hp} {σ : L2.St} {ε ε' : Env'} {ps : List (V × Opd)} {xs : List V} {ds : List D} {Q : L2.St → Hp → Prop}, C.K = X.K → Free is ps → xs.length = ds.length → EI C H σ ε (xs.zip (ds.map Opd.tmp) ++ ps) → g ds ε = some ε' →
    (∀ σ' H', EI C H' σ' ε' ps → σ'.length = σ.length → (∀ j, j ∉ is → σ'[j]? = σ[j]?) → Q σ' H') → t xs σ H Q
def gN (i : Nat) (d : D) (ε : Env') : Option Env' := putO i (.tmp d) ε
theorem dg_name {i : Nat} {x : Str} {pos : Pos} (hN : X.N.Nodup) (hi : X.N[i]? = some x) (hx : Loc X.env.scope x) (hf : X.fn x = true ∨ X.env.scope.names.lookup x = some .local := by first | exact .inl rfl | exact .inr rfl | assumption) : DG X [i] (.Name x pos) (gN i) := by
  refine ⟨_, pg_name hN hi hx hf, ?_⟩
  intro C H σ ε ε' ps x d Q hK hs I e h
  exact h _ H (I.put hs e) (by rw [List.length_set]) fun j hj => List.getElem?_set_ne (fun z => hj (by rw [z]; exact List.mem_cons_self))
def gsN (ds : List D) (ε : Env') : Option Env' := match ds with
  | [] => some ε
  | _ => none
def gsC (g : D → Env' → Option Env') (gs : List D → Env' → Option Env') (ds : List D) (ε : Env') : Option Env' := match ds with
  | d :: r => match g d ε with
    | some ε' => gs r ε'
    | none => none
  | [] => none
theorem dgs_nil : DGs X [] [] gsN := by
  refine ⟨_, pgs_nil, ?_⟩
  intro C H σ ε ε' ps xs ds Q hK hs hl I e h
  cases ds with
  | nil =>
    cases xs with
    | nil => cases e; exact ⟨rfl, h σ H I rfl fun _ _ => rfl⟩
    | cons => simp at hl
  | cons => cases e
theorem Free.app {is : List Nat} {ps : List (V × Opd)} (h : Free is ps) : ∀ (xs : List V) (ds : List D), Free is (xs.zip (ds.map Opd.tmp) ++ ps) := fun xs ds v i m => by
  rcases List.mem_append.mp m with m | m
  · have := (List.of_mem_zip m).2
    simp at this
  · exact h v i m
theorem dgs_cons {is is' : List Nat} {e : Expr} {es : List Expr} {g : D → Env' → Option Env'} {gs : List D → Env' → Option Env'} (h : DG X is e g) (h' : DGs X is' es gs) (hs : (assignEach (e :: es) X.env).map (·.2) = assign e X.env :: (assignEach es X.env).map (·.2) := by rfl) : DGs X (is ++ is') (e :: es) (gsC g gs) := by
  obtain ⟨t, p, q⟩ := h
  obtain ⟨t', p', q'⟩ := h'
  refine ⟨_, pgs_cons p p' hs, ?_⟩
  intro C H σ ε ε' ps xs ds Q hK hs hl I e h
  cases ds with
  | nil => cases e
  | cons d r =>
    cases xs with
    | nil => simp at hl
    | cons x xs =>
      simp only [gsC] at e
      split at e
      · rename_i ε1 e1
        have fr : Free is ps := fun v i m z => hs v i m (List.mem_append_left _ z)
        have fr' : Free is' ps := fun v i m z => hs v i m (List.mem_append_right _ z)
        refine ⟨x, xs, rfl, q hK (fr.app xs r) I e1 fun σ1 H1 I1 l1 k1 => ?_⟩
        refine q' hK fr' (by simpa using hl) I1 e fun σ2 H2 I2 l2 k2 => ?_
        refine h σ2 H2 I2 (l2.trans l1) fun j hj => ?_
        rw [List.mem_append, not_or] at hj
        rw [k2 j hj.2, k1 j hj.1]
      · cases e
def gT (n : Nat) (gs : List D → Env' → Option Env') (d : D) (ε : Env') : Option Env' := match d with
  | .tup ds => if ds.length = n then gs ds ε else none
  | _ => none
theorem EIw.zip {C : Ct} {ow : Addr → Option Nat} {H : Hp} {σ : L2.St} {ε : Env'} {ps : List (V × Opd)} (I : EIw C ow H σ ε ps) : ∀ {xs : List V} {ds : List D}, RpL C.K (Exc C ow) H xs ds → EIw C ow H σ ε (xs.zip (ds.map Opd.tmp) ++ ps)
  | _, _, .nil => I
  | _, _, .cons a t => (I.zip t).push a
theorem dg_tup {is : List Nat} {es : List Expr} {k n : Nat} {pos : Pos} {gs : List D → Env' → Option Env'} (hc : X.calm = true) (h : DGs X is es gs)
    (hn : (assignEach es X.env).length = n := by rfl) (hst : (assignEach es X.env).findIdx? (·.1) = none := by rfl) : DG X is (.Tuple es k pos) (gT n gs) := by
  obtain ⟨t, p, q⟩ := h
  refine ⟨_, pg_tup hc p hn hst, ?_⟩
  intro C H σ ε ε' ps x d Q hK hs I e h
  unfold gT at e
  split at e
  · split at e
    · rename_i ds hl
      obtain ⟨ow, I⟩ := I
      obtain ⟨p', vs, rfl, h1, h2⟩ := Rb.tuple (.of I.pend.1)
      have J : EIw C ow H σ ε ps := ⟨I.len, I.owd, I.exh, I.iot, I.keep, I.slots, I.pend.2⟩
      exact ⟨p', vs, rfl, by rw [← hK]; exact h1, by rw [h2.length]; exact hl, q hK hs h2.length ⟨ow, J.zip h2⟩ e h⟩
    · cases e
  · cases e
/-- target = value -/
def sAsg (g : D → Env' → Option Env') (f : Sm Opd) : Sm Fl := bnd (eVal f) fun d ε => match g d ε with
  | some ε' => .ok .nx ε'
  | none => .bad
theorem ds_asg {is : List Nat} {tg e : Expr} {f : Sm Opd} {g : D → Env' → Option Env'} {pos : Pos} (he : DE X W e f) (hg : DG X is tg g) (hs : swapsWithSole [tg] e pos.line X.env = pure false := by rfl) (hw : swappedStores [tg] e X.env = pure none := by rfl)
    (h1 : (assignEach [tg] X.env).map (·.2) = [assign tg X.env] := by rfl) : DSt X W (.Assign [tg] e pos) (sAsg g f) := by
  obtain ⟨t, p, q⟩ := he
  obtain ⟨t', p', q'⟩ := hg
  refine ⟨_, ps_asg p p' hs hw h1, ?_⟩
  intro C H σ ε ps D hK hM hs I h
  refine q hK hM I (Out.post.mono (post_bnd (post_bnd h)) (fun o ε1 h1 x H1 I1 => ?_) fun _ _ z => z.w)
  obtain ⟨d, ε2, e, h2⟩ := toVal_post h1
  obtain ⟨ε3, e3, h3⟩ := put_post h2
  exact q' hK hs.free (I1.freeze e) e3 fun σ' H' I' _ _ => h3 σ' H' I'
/-- x[i] = v -/
def setIx (sv : SV) (k : Int) (d : D) : Option SV := (mutL sv).bind fun l => (ixN l.length k).map fun j => remut sv (l.set j d)
def sSetIx (i : Nat) (fk fv : Sm Opd) : Sm Fl := bnd (eVal fv) fun d => fun ε => if isMut ε i then bnd fk (fun k ε => match deref ε k, ε[i]? with
  | some (.int k), some sv => (match setIx sv k d with
    | some sv' => .ok .nx (ε.set i sv')
    | none => .bad)
  | _, _ => .bad) ε else .bad
theorem ds_setIx {i : Nat} {x : Str} {e ix : Expr} {fk fv : Sm Opd} {pos p2 pos' : Pos} (hv : DE X W e fv) (hx : PE X (.Name x p2) (tVar i)) (hk : DE X W ix fk) (hs : swapsWithSole [.Subscript (.Name x p2) ix pos'] e pos.line X.env = pure false := by rfl) (hw : swappedStores [.Subscript (.Name x p2) ix pos'] e X.env = pure none := by rfl)
    (h1 : (assignEach [.Subscript (.Name x p2) ix pos'] X.env).map (·.2) = [assign (.Subscript (.Name x p2) ix pos') X.env] := by rfl)
    (ha : ∀ v, assign (.Subscript (.Name x p2) ix pos') X.env v = (do
      let ov ← holding [v] (eval (.Name x p2) X.env)
      let iv ← holding [v, ov] (eval ix X.env)
      standAt pos'
      holding [v, ov, iv] (setItem ov iv v)
      release [v, ov, iv] []) := by intro _; rfl) : DSt X W (.Assign [.Subscript (.Name x p2) ix pos'] e pos) (sSetIx i fk fv) := by
  obtain ⟨t, p, q⟩ := hv
  obtain ⟨t', p', q'⟩ := hk
  refine ⟨_, ps_asg p (pg_sub hx p' set_list ha) hs hw h1, ?_⟩
  intro C H σ ε ps D hK hM hs I h
  refine q hK hM I (Out.post.mono (post_bnd (post_bnd h)) (fun o ε1 h1 x H1 I1 => ?_) fun _ _ z => z.w)
  obtain ⟨d, ε2, e, h2⟩ := toVal_post h1
  obtain ⟨ow, I2⟩ := I1.freeze e
  split at h2
  · rename_i him
    obtain ⟨p0, hs0, I3⟩ := I2.isMut him
    refine ⟨.ref p0, hs0, q' hK hM ⟨ow, I3⟩ (Out.post.mono (post_bnd h2) (fun k ε3 h3 y H3 I4 => ?_) fun _ _ z => z.w)⟩
    split at h3
    · rename_i k' sv e1 e2
      obtain ⟨sv', e3, h4⟩ : ∃ sv', setIx sv k' d = some sv' ∧ FlOk C D ps .nx (ε3.set i sv') := by
        cases q : setIx sv k' d with
        | none => rw [q] at h3; exact h3.elim
        | some sv' => rw [q] at h3; exact ⟨sv', rfl, h3⟩
      obtain ⟨l, e4, e5⟩ := Option.bind_eq_some_iff.mp e3
      obtain ⟨j, e6, rfl⟩ := Option.map_eq_some_iff.mp e5
      obtain ⟨ow4, J4, rb⟩ := I4.rb e1
      cases rb.int
      obtain ⟨hx4, _⟩ := J4.pend.1
      have rd := J4.pend.2.1
      have J5 : EIw C ow4 H3 σ ε3 ps := ⟨J4.len, J4.owd, J4.exh, J4.iot, J4.keep, J4.slots, J4.pend.2.2⟩
      obtain ⟨p1, vs, ep, f1, f2, f3, f4⟩ := J5.mutA hx4 e2 e4
      cases ep
      refine ⟨p0, vs, k', j, rfl, rfl, f3, by rw [f4.length]; exact e6, ?_⟩
      have hp0 : Exc C ow4 p0 := .inr (by rw [f1]; exact fun z => by cases z)
      obtain ⟨J6, _, _⟩ := J5.mutB (H' := upd H3 p0 (.lst (vs.set j x))) (ow' := ow4) hx4 e2 e4 (fun a o n z => by rw [upd_ne n]; exact z) upd_same (fun a z => absurd rfl z)
        (RpL.mono (fun a z => .inl z) (fun a o n z => by rw [upd_ne (fun w => n (by rw [w]; exact hp0))]; exact z) (f4.set rd j))
      exact h4 σ _ ⟨ow4, J6⟩
    · exact h3.elim
  · exact h2.elim
end
end DS

set_option Elab.async false
set_option linter.all false
set_option maxRecDepth 100000
set_option maxHeartbeats 4000000
namespace DS
open PySem PySem.Spec PyProof.Rows L2
section
variable {X : Cx} {W : WX} {C : Ct} {ow : Addr → Option Nat} {H : Hp} {σ : L2.St} {ε : Env'} {ps qs : List (V × Opd)}

/-! ### pending ones out of the middle -/
theorem EIw.under {x : V} {o : Opd} (I : EIw C ow H σ ε ((x, o) :: (qs ++ ps))) : ∃ ow', EIw C ow' H σ ε ((x, o) :: ps) ∧ ∀ {v : V} {d : D}, Rp C.K (Exc C ow) H v d → Rp C.K (Exc C ow') H v d := by
  have hp : Pend C ow H σ ε ps := by
    have : ∀ {qs : List (V × Opd)}, Pend C ow H σ ε (qs ++ ps) → Pend C ow H σ ε ps := fun {qs} => by
      induction qs with
      | nil => intro h; exact h
      | cons c r ih => intro h; exact ih h.2
    exact this I.pend.2
  cases o with
  | tmp d => exact ⟨ow, ⟨I.len, I.owd, I.exh, I.iot, I.keep, I.slots, I.pend.1, hp⟩, fun r => r⟩
  | plc i => exact ⟨ow, ⟨I.len, I.owd, I.exh, I.iot, I.keep, I.slots, I.pend.1, hp⟩, fun r => r⟩
  | own ds =>
    by_cases hq : qs = []
    · subst hq; exact ⟨ow, I, fun r => r⟩
    have hql : 0 < qs.length := by cases qs with
      | nil => exact absurd rfl hq
      | cons => simp
    obtain ⟨p, vs, rfl, h1, h2, h3, h4⟩ := I.pend.1
    have hT : ε.length + (qs ++ ps).length = ε.length + qs.length + ps.length := by rw [List.length_append]; omega
    have he : ∀ a, Exc C (tagOw ow p (some (ε.length + ps.length))) a → Exc C ow a ∨ H a = none := fun a z => by
      rcases z with z | z
      · exact .inl (.inl z)
      · by_cases q : a = p
        · subst q; exact .inl (.inr (by rw [h1]; exact fun z => by cases z))
        · exact .inl (.inr (by rw [tagOw_ne q] at z; exact z))
    have hpp : ∀ q t, t ≠ ε.length + (qs ++ ps).length → ow q = some t → tagOw ow p (some (ε.length + ps.length)) q = some t ∧ H q = H q := fun q t n e => by
      have z : q ≠ p := fun z => by rw [z, h1] at e; cases e; exact n rfl
      exact ⟨by rw [tagOw_ne z]; exact e, rfl⟩
    refine ⟨tagOw ow p (some (ε.length + ps.length)), ⟨I.len, fun a t e => ?_, I.exh, I.iot, I.keep, fun j y sv e1 e2 => ?_, ⟨p, vs, rfl, tagOw_same, h2, h3, h4.mono he fun _ _ _ e => e⟩, ?_⟩, fun r => r.mono he fun _ _ _ e => e⟩
    · by_cases z : a = p
      · subst z; exact ⟨⟨vs, h3⟩, .inl h2⟩
      · rw [tagOw_ne z] at e; exact I.owd a t e
    · have hj := slot_lt I e1
      exact (I.slots j y sv e1 e2).mono (T := ε.length + (qs ++ ps).length) (by omega) hpp he fun _ _ _ e => e
    · exact Pend.mono (T := ε.length + (qs ++ ps).length) rfl hpp he (fun _ _ _ e => e) (fun k hk => by omega) (fun v j hm h2 h1 => ⟨h1, h2⟩) hp
theorem EI.under {x : V} {o : Opd} (I : EI C H σ ε ((x, o) :: (qs ++ ps))) : EI C H σ ε ((x, o) :: ps) := by
  obtain ⟨ow, I⟩ := I
  obtain ⟨ow', J, _⟩ := I.under
  exact ⟨ow', J⟩
theorem mem_tmp {x : V} {d : D} : ∀ {ps : List (V × Opd)}, Pend C ow H σ ε ps → (x, Opd.tmp d) ∈ ps → Rp C.K (Exc C ow) H x d
  | [], _, m => nomatch m
  | (v, o) :: r, h, m => by
    rcases List.mem_cons.mp m with e | m
    · cases e; exact h.1
    · exact mem_tmp h.2 m
theorem EIw.pushes : ∀ {qs : List (V × Opd)}, EIw C ow H σ ε ps → (∀ q ∈ qs, ∃ d, q.2 = Opd.tmp d ∧ Rp C.K (Exc C ow) H q.1 d) → EIw C ow H σ ε (qs ++ ps)
  | [], I, _ => I
  | (v, o) :: r, I, h => by
    obtain ⟨d, e, rd⟩ := h _ List.mem_cons_self
    have e' : o = .tmp d := e
    subst e'
    exact (EIw.pushes I fun q m => h q (List.mem_cons_of_mem _ m)).push rd
/-- what is pending on top sinks below data -/
theorem EI.sink {x : V} {o : Opd} (hq : Tmps qs) (I : EI C H σ ε ((x, o) :: (qs ++ ps))) : EI C H σ ε (qs ++ (x, o) :: ps) := by
  obtain ⟨ow, I⟩ := I
  obtain ⟨ow', J, k⟩ := I.under
  refine ⟨ow', J.pushes fun q hm => ?_⟩
  obtain ⟨d, e⟩ := hq q hm
  obtain ⟨v, o'⟩ := q
  have e' : o' = .tmp d := e
  subst e'
  exact ⟨d, rfl, k (mem_tmp I.pend.2 (List.mem_append_left _ hm))⟩
/-- the list on top grows -/
theorem EI.grow1 {x y : V} {acc : List D} {d : D} (I : EI C H σ ε ((y, .tmp d) :: (x, .own acc) :: ps)) : ∃ p us, x = .ref p ∧ H p = some (.lst us) ∧ us.length = acc.length ∧ EI C (upd H p (.lst (us ++ [y]))) σ ε ((x, .own (acc ++ [d])) :: ps) := by
  obtain ⟨ow, I⟩ := I
  obtain ⟨p, us, rfl, h1, h2, h3, h4⟩ := I.pend.2.1
  refine ⟨p, us, rfl, h3, h4.length, ?_⟩
  have hp : Exc C ow p := .inr (by rw [h1]; exact fun z => by cases z)
  have hk : ∀ a o, ¬ Exc C ow a → H a = some o → upd H p (.lst (us ++ [y])) a = some o := fun a o n e => by
    rw [upd_ne (fun z => n (by rw [z]; exact hp))]; exact e
  have he : ∀ a, Exc C ow a → Exc C ow a ∨ H a = none := fun a z => .inl z
  have hpp : ∀ q t, t ≠ ε.length + ps.length → ow q = some t → ow q = some t ∧ upd H p (.lst (us ++ [y])) q = H q := fun q t n e => by
    have z : q ≠ p := fun z => by rw [z, h1] at e; cases e; exact n rfl
    exact ⟨e, upd_ne z⟩
  refine ⟨ow, I.len, fun a t e => ?_, fun a e => ?_, I.iot, fun a o n e => ?_, fun j y' sv e1 e2 => ?_, ⟨p, us ++ [y], rfl, h1, h2, upd_same, ?_⟩, ?_⟩
  · by_cases z : a = p
    · subst z; exact ⟨⟨_, upd_same⟩, .inl h2⟩
    · rw [upd_ne z]; exact I.owd a t e
  · refine ⟨?_, (I.exh a e).2⟩
    by_cases z : a = p
    · subst z; rw [upd_same]; exact fun z => by cases z
    · rw [upd_ne z]; exact (I.exh a e).1
  · have z : a ≠ p := fun z => by rw [z, h2] at e; cases e
    rw [upd_ne z]; exact I.keep a o n e
  · have hj := slot_lt I e1
    exact (I.slots j y' sv e1 e2).mono (T := ε.length + ps.length) (by omega) hpp he hk
  · exact (h4.mono he hk).app (.cons (Rp.mono he hk I.pend.1) .nil)
  · exact Pend.mono (T := ε.length + ps.length) rfl hpp he hk (fun k hk => by omega) (fun v j hm h2 h1 => ⟨h1, h2⟩) I.pend.2.2
/-- slots forgotten again -/
theorem EI.wipeF : ∀ {vs : List Nat}, Free vs ps → EI C H σ ε ps → EI C H (L2.wipe σ vs) (wipeE ε vs) ps
  | [], _, I => I
  | v :: vs, f, I => by
    have f1 : Free vs ps := fun x i m z => f x i m (List.mem_cons_of_mem _ z)
    obtain ⟨ow, J⟩ := EI.wipeF f1 I
    refine ⟨ow, by show ((L2.wipe σ vs).set v none).length = ((wipeE ε vs).set v .un).length; rw [List.length_set, List.length_set]; exact J.len, J.owd, J.exh, J.iot, J.keep, fun j y s' e1 e2 => ?_, ?_⟩
    · have e1 : ((L2.wipe σ vs).set v none)[j]? = some y := e1
      have e2 : ((wipeE ε vs).set v .un)[j]? = some s' := e2
      by_cases z : j = v
      · subst z
        have hj : j < (wipeE ε vs).length := by
          have := (List.getElem?_eq_some_iff.mp e2).1
          rwa [List.length_set] at this
        rw [List.getElem?_set_self hj] at e2
        cases e2; trivial
      · rw [List.getElem?_set_ne (Ne.symm z)] at e1 e2
        exact J.slots j y s' e1 e2
    · have hl : (wipeE ε (v :: vs)).length = (wipeE ε vs).length := by show ((wipeE ε vs).set v .un).length = _; rw [List.length_set]
      refine Pend.mono (T := (wipeE ε vs).length + ps.length) hl (fun _ _ _ e => ⟨e, rfl⟩) (fun a z => .inl z) (fun _ _ _ e => e) (fun k hk => by omega) (fun x j hm h2 h1 => ?_) J.pend
      have z : j ≠ v := fun z => f x j hm (by rw [z]; exact List.mem_cons_self)
      show ((L2.wipe σ vs).set v none)[j]? = _ ∧ ∃ ds, listAt ((wipeE ε vs).set v .un) j = some ds
      rw [List.getElem?_set_ne (Ne.symm z), listAt_set_ne z]
      exact ⟨h1, h2⟩
theorem wipe_get {σ : L2.St} {i : Nat} : ∀ {vs : List Nat}, i ∉ vs → (L2.wipe σ vs)[i]? = σ[i]?
  | [], _ => rfl
  | v :: vs, h => by
    rw [List.mem_cons, not_or] at h
    show ((L2.wipe σ vs).set v none)[i]? = _
    rw [List.getElem?_set_ne (Ne.symm h.1)]
    exact wipe_get h.2
theorem wipe_in {σ : L2.St} {i : Nat} : ∀ {vs : List Nat}, i ∈ vs → i < σ.length → (L2.wipe σ vs)[i]? = some none
  | v :: vs, h, hl => by
    show ((L2.wipe σ vs).set v none)[i]? = _
    by_cases e : i = v
    · subst e
      exact List.getElem?_set_self (by rw [L2.wipe_length]; exact hl)
    · rw [List.getElem?_set_ne (Ne.symm e)]
      exact wipe_in ((List.mem_cons.mp h).resolve_left e) hl
theorem wipe_eq {σ σ' : L2.St} {vs : List Nat} (hl : σ'.length = σ.length) (h : ∀ j, j ∉ vs → σ'[j]? = σ[j]?) : L2.wipe σ' vs = L2.wipe σ vs := by
  apply List.ext_getElem?
  intro i
  by_cases hi : i ∈ vs
  · by_cases hx : i < σ.length
    · rw [wipe_in hi hx, wipe_in hi (by rw [hl]; exact hx)]
    · rw [List.getElem?_eq_none (by rw [L2.wipe_length]; omega), List.getElem?_eq_none (by rw [L2.wipe_length]; omega)]
  · rw [wipe_get hi, wipe_get hi, h i hi]

/-! ### what is walked -/
structure WalkD (C : Ct) (J : It) (ds : List D) (qs : List (V × Opd)) : Prop where
  go : ∀ {σ : L2.St} {ε : Env'} {ps : List (V × Opd)} {i : Nat} {H : Hp}, EI C H σ ε ps → (∀ q ∈ qs, q ∈ ps) → i < ds.length → J.go i H
  yld : ∀ {σ : L2.St} {ε : Env'} {ps : List (V × Opd)} {i : Nat} {H : Hp} {x : V} {H' : Hp} {d : D}, EI C H σ ε ps → (∀ q ∈ qs, q ∈ ps) → ds[i]? = some d → J.yld i H x H' → EI C H' σ ε ((x, .tmp d) :: ps)
  stop : ∀ {σ : L2.St} {ε : Env'} {ps : List (V × Opd)} {H : Hp}, EI C H σ ε ps → (∀ q ∈ qs, q ∈ ps) → J.stop ds.length H
def ReI (X : Cx) (W : WX) (wi : TI) (f : Sm (List D)) : Prop := ∀ {C : Ct} {H : Hp} {σ : L2.St} {ε : Env'} {ps : List (V × Opd)} {R : It → Hp → Prop}, C.K = X.K → C.mg = X.mg → EI C H σ ε ps →
    (f ε).post (fun ds ε' => ∀ J H' qs, Tmps qs → EI C H' σ ε' (qs ++ ps) → WalkD C J ds qs → R J H') (ErrW W C σ) → wi σ H R
structure DI (X : Cx) (W : WX) (tg it : Expr) (f : Sm (List D)) : Prop where
  ex : ∃ wi, PI X tg it wi ∧ ReI X W wi f

/-! ### for -/
def forL (g : D → Env' → Option Env') (b : Sm Fl) : List D → Sm Fl
  | [], ε => .ok .nx ε
  | d :: r, ε => match g d ε with
    | some ε1 => match b ε1 with
      | .ok .nx ε2 => forL g b r ε2
      | .ok .ct ε2 => forL g b r ε2
      | .ok .bk ε2 => .ok .nx ε2
      | .ok (.rt r) ε2 => .ok (.rt r) ε2
      | .err e ε2 => .err e ε2
      | .bad => .bad
    | none => .bad
def sFor (it : Sm (List D)) (g : D → Env' → Option Env') (b : Sm Fl) : Sm Fl := bnd it fun ds => forL g b ds
theorem Tmps.solid (h : Tmps qs) (s : Solid ps) : Solid (qs ++ ps) := fun v i m => by
  rcases List.mem_append.mp m with m | m
  · obtain ⟨d, e⟩ := h _ m
    cases e
  · exact s v i m
theorem ds_for {is : List Nat} {tg iter : Expr} {body : List Stmt} {f : Sm (List D)} {g : D → Env' → Option Env'} {b : Sm Fl} {pos : Pos} (hp : PassesOwn (model X.prog X.w) X.A X.env X.xe) (hc : X.calm = true) (hi : DI X W tg iter f) (hg : DG X is tg g) (hb : DSs X W body b)
    (hs : ∀ x, foldedSetIterable iter X.env x = pure x := by intro _; rfl) : DSt X W (.For tg iter body [] pos) (sFor f g b) := by
  obtain ⟨wi, pi, qi⟩ := hi
  obtain ⟨tgt, pg, qg⟩ := hg
  obtain ⟨tb, pb, qb⟩ := hb
  refine ⟨_, ps_for hp hc pi pg pb hs, ?_⟩
  intro C H σ ε ps D hK hM hso I h
  refine qi hK hM I (Out.post.mono (post_bnd h) (fun ds ε1 h1 J H1 qs hq I1 w => ?_) fun _ _ z => z.w)
  have sub : ∀ q ∈ qs, q ∈ qs ++ ps := fun q m => List.mem_append_left _ m
  have hso' : Solid (qs ++ ps) := hq.solid hso
  refine ⟨fun i m σ H => i + m = ds.length ∧ ∃ ε, EI C H σ ε (qs ++ ps) ∧ (forL g b (ds.drop i) ε).post (FlOk C D ps) (ErrS W C), ⟨ds.length, by omega, ε1, I1, by rw [List.drop_zero]; exact h1⟩, ?_⟩
  rintro i m σ2 H2 ⟨hm, ε2, I2, h2⟩
  cases hd : ds[i]? with
  | none =>
    have hle : ds.length ≤ i := List.getElem?_eq_none_iff.mp hd
    have e : i = ds.length := by omega
    subst e
    rw [List.drop_length] at h2
    exact .inl ⟨w.stop I2 sub, h2 σ2 H2 (EI.dropN qs I2)⟩
  | some d =>
    have hlt : i < ds.length := (List.getElem?_eq_some_iff.mp hd).1
    have ed : ds.drop i = d :: ds.drop (i + 1) := by
      rw [List.drop_eq_getElem_cons hlt]
      rw [List.getElem?_eq_getElem hlt] at hd
      cases hd; rfl
    rw [ed] at h2
    refine .inr ⟨w.go I2 sub hlt, fun σ' H' => ∃ ε', EI C H' σ' ε' (qs ++ ps) ∧ (forL g b (ds.drop (i + 1)) ε').post (FlOk C D ps) (ErrS W C), fun σ' H' ⟨ε', I', h'⟩ => ⟨m - 1, by omega, by omega, ε', I', h'⟩, fun x H' y => ?_⟩
    have I3 := w.yld I2 sub hd y
    simp only [forL] at h2
    split at h2
    · rename_i ε3 e3
      refine qg hK hso'.free I3 e3 fun σ4 H4 I4 _ _ => ?_
      refine qb hK hM hso' I4 ?_
      cases hbo : b ε3 with
      | bad => rw [hbo] at h2; exact h2
      | err e ε4 => rw [hbo] at h2; exact h2
      | ok fl ε4 =>
        rw [hbo] at h2
        cases fl with
        | nx => exact fun σ5 H5 I5 => ⟨ε4, I5, h2⟩
        | ct => exact fun σ5 H5 I5 => ⟨ε4, I5, h2⟩
        | bk => exact fun σ5 H5 I5 => h2 σ5 H5 (EI.dropN qs I5)
        | rt r => exact fun v σ5 H5 I5 => h2 v σ5 H5 I5.under
    · exact h2.elim

/-! ### while -/
def whileN (c : Sm Bool) (b : Sm Fl) : Nat → Sm Fl
  | 0, _ => .bad
  | n + 1, ε => match c ε with
    | .ok true ε1 => (match b ε1 with
      | .ok .nx ε2 => whileN c b n ε2
      | .ok .ct ε2 => whileN c b n ε2
      | .ok .bk ε2 => .ok .nx ε2
      | .ok (.rt r) ε2 => .ok (.rt r) ε2
      | .err e ε2 => .err e ε2
      | .bad => .bad)
    | .ok false ε1 => .ok .nx ε1
    | .err e ε1 => .err e ε1
    | .bad => .bad
theorem whileN_mono {c : Sm Bool} {b : Sm Fl} : ∀ {n : Nat} {ε : Env'}, whileN c b n ε ≠ .bad → whileN c b (n + 1) ε = whileN c b n ε
  | 0, _, h => absurd rfl h
  | n + 1, ε, h => by
    simp only [whileN] at h
    show whileN c b (n + 1 + 1) ε = whileN c b (n + 1) ε
    rw [whileN, whileN]
    cases hc : c ε with
    | bad => rfl
    | err e ε1 => rfl
    | ok k ε1 =>
      cases k with
      | false => rfl
      | true =>
        rw [hc] at h
        simp only at h ⊢
        cases hb : b ε1 with
        | bad => rfl
        | err e ε2 => rfl
        | ok fl ε2 =>
          rw [hb] at h
          cases fl with
          | nx => exact whileN_mono (n := n) h
          | ct => exact whileN_mono (n := n) h
          | bk => rfl
          | rt r => rfl
theorem whileN_add {c : Sm Bool} {b : Sm Fl} {n : Nat} {ε : Env'} (h : whileN c b n ε ≠ .bad) : ∀ k, whileN c b (n + k) ε = whileN c b n ε
  | 0 => rfl
  | k + 1 => by
    have e := whileN_add h k
    rw [← Nat.add_assoc, whileN_mono (by rw [e]; exact h), e]
open Classical in
/-- as many turns as it takes -/
noncomputable def sWhile (c : Sm Bool) (b : Sm Fl) : Sm Fl := fun ε => if h : ∃ n, whileN c b n ε ≠ .bad then whileN c b (Classical.choose h) ε else .bad
theorem sWhile_of {c : Sm Bool} {b : Sm Fl} {n : Nat} {ε : Env'} (h : whileN c b n ε ≠ .bad) : sWhile c b ε = whileN c b n ε := by
  have hx : ∃ n, whileN c b n ε ≠ .bad := ⟨n, h⟩
  unfold sWhile
  rw [dif_pos hx]
  have h2 := Classical.choose_spec hx
  rcases Nat.le_total n (Classical.choose hx) with q | q
  · obtain ⟨k, e⟩ := Nat.exists_eq_add_of_le q
    rw [e]; exact whileN_add h k
  · obtain ⟨k, e⟩ := Nat.exists_eq_add_of_le q
    have := whileN_add h2 k
    rw [← e] at this
    exact this.symm
theorem post_ne {α : Type} {o : Out α} {P : α → Env' → Prop} {R : Exn → Env' → Prop} (h : o.post P R) : o ≠ .bad := fun e => by rw [e] at h; exact h
theorem ds_while {c : Expr} {body : List Stmt} {fc : Sm Bool} {b : Sm Fl} {pos : Pos} (hp : PassesOwn (model X.prog X.w) X.A X.env X.xe) (hc : DT X W c fc) (hb : DSs X W body b) : DSt X W (.While c body [] pos) (sWhile fc b) := by
  obtain ⟨tc, pc, qc⟩ := hc
  obtain ⟨tb, pb, qb⟩ := hb
  refine ⟨_, ps_while hp pc pb, ?_⟩
  intro C H σ ε ps D hK hM hso I h
  have hn := post_ne h
  unfold sWhile at hn
  split at hn
  · rename_i hx
    have h0 : (whileN fc b (Classical.choose hx) ε).post (FlOk C D ps) (ErrS W C) := by rw [← sWhile_of hn]; exact h
    refine ⟨fun m σ H => ∃ ε, EI C H σ ε ps ∧ (whileN fc b m ε).post (FlOk C D ps) (ErrS W C), ⟨_, ε, I, h0⟩, ?_⟩
    rintro m σ1 H1 ⟨ε1, I1, h1⟩
    cases m with
    | zero => exact h1.elim
    | succ m =>
      simp only [whileN] at h1
      refine qc hK hM I1 ?_
      cases hcc : fc ε1 with
      | bad => rw [hcc] at h1; exact h1
      | err e ε2 => rw [hcc] at h1; exact ErrS.w h1
      | ok k ε2 =>
        rw [hcc] at h1
        intro H2 I2
        cases k with
        | false => exact iteF (h1 σ1 H2 I2)
        | true =>
          refine iteT ⟨fun σ' H' => ∃ ε', EI C H' σ' ε' ps ∧ (whileN fc b m ε').post (FlOk C D ps) (ErrS W C), fun σ' H' ⟨ε', I', h'⟩ => ⟨m, Nat.lt_succ_self _, ε', I', h'⟩, ?_⟩
          refine qb hK hM hso I2 ?_
          simp only at h1
          cases hbo : b ε2 with
          | bad => rw [hbo] at h1; exact h1
          | err e ε4 => rw [hbo] at h1; exact h1
          | ok fl ε4 =>
            rw [hbo] at h1
            cases fl with
            | nx => exact fun σ5 H5 I5 => ⟨ε4, I5, h1⟩
            | ct => exact fun σ5 H5 I5 => ⟨ε4, I5, h1⟩
            | bk => exact h1
            | rt r => exact h1
  · exact absurd rfl hn

/-! ### comprehensions -/
def lcL (vs : List Nat) (g : D → Env' → Option Env') (tt : Sm Bool) (te : Sm Opd) : List D → List D → Sm (List D)
  | [], acc, ε => .ok acc ε
  | d :: r, acc, ε => match g d ε with
    | some ε1 => match tt ε1 with
      | .ok true ε2 => (match eVal te ε2 with
        | .ok y ε3 => lcL vs g tt te r (acc ++ [y]) (wipeE ε3 vs)
        | _ => .bad)
      | .ok false ε2 => lcL vs g tt te r acc (wipeE ε2 vs)
      | _ => .bad
    | none => .bad
def eLc (vs : List Nat) (it : Sm (List D)) (g : D → Env' → Option Env') (tt : Sm Bool) (te : Sm Opd) : Sm Opd := bnd it fun ds ε => if ds.length ≤ sizeLine ∧ canWipe ε vs = true then (match lcL vs g tt te ds [] (wipeE ε vs) with
    | .ok acc ε' => .ok (.own acc) (restE ε vs ε')
    | _ => .bad) else .bad
def ttYes : Sm Bool := fun ε => .ok true ε
def WF : WX := fun _ _ _ _ => False
def ReG (X : Cx) (is : List Nat) (t : TG) (g : D → Env' → Option Env') : Prop := ∀ {C : Ct} {H : Hp} {σ : L2.St} {ε ε' : Env'} {ps : List (V × Opd)} {x : V} {d : D} {Q : L2.St → Hp → Prop}, C.K = X.K → Free is ps → EI C H σ ε ((x, .tmp d) :: ps) → g d ε = some ε' →
      (∀ σ' H', EI C H' σ' ε' ps → σ'.length = σ.length → (∀ j, j ∉ is → σ'[j]? = σ[j]?) → Q σ' H') → t x σ H Q
theorem lc_reads {vs : List Nat} {wi : TI} {tG : TG} {tT : TT} {tE : TE} {f : Sm (List D)} {g : D → Env' → Option Env'} {tt : Sm Bool} {te : Sm Opd} {is : List Nat} (his : ∀ i ∈ is, i ∈ vs)
    (qi : ReI X W wi f) (qg : ReG X is tG g) (qt : ReT X WF tT tt) (qe : ReE X WF tE te) : ReE X W (tLc wi tG tT tE vs) (eLc vs f g tt te) := by
  intro C H σ ε ps Q hK hM I h
  refine qi hK hM I (Out.post.mono (post_bnd h) (fun ds ε1 h1 J H1 qs hq I1 w => ?_) fun _ _ z => z)
  split at h1
  · rename_i hc
    obtain ⟨hsz, hcw⟩ := hc
    obtain ⟨fr, qv, hqv, I2, back⟩ := I1.wipe hcw
    intro D0 hD0
    cases hl : lcL vs g tt te ds [] (wipeE ε1 vs) with
    | bad => rw [hl] at h1; exact h1.elim
    | err e ε' => rw [hl] at h1; exact h1.elim
    | ok acc0 ε0 =>
      rw [hl] at h1
      have hfree : Free vs (qv ++ (qs ++ ps)) := hqv.free.both fr
      have hfree1 : ∀ {x : V} {acc : List D}, Free vs ((x, Opd.own acc) :: (qv ++ (qs ++ ps))) := fun {x acc} v i m => by
        rcases List.mem_cons.mp m with e | m
        · cases e
        · exact hfree v i m
      have sub : ∀ {x : V} {acc : List D}, ∀ q ∈ qs, q ∈ (x, Opd.own acc) :: (qv ++ (qs ++ ps)) := fun q m => List.mem_cons_of_mem _ (List.mem_append_right _ (List.mem_append_left _ m))
      obtain ⟨ow2, I2⟩ := I2
      refine ⟨fun i m H => i + m = ds.length ∧ ∃ ε acc, acc.length ≤ i ∧ EI C H (L2.wipe σ vs) ε ((.ref D0, .own acc) :: (qv ++ (qs ++ ps))) ∧ lcL vs g tt te (ds.drop i) acc ε = .ok acc0 ε0, ⟨ds.length, by omega, wipeE ε1 vs, [], Nat.le_refl _, I2.alloc hD0 .nil, by rw [List.drop_zero]; exact hl⟩, ?_⟩
      rintro i m H3 ⟨hm, ε3, acc, hacc, I3, h3⟩
      cases hd : ds[i]? with
      | none =>
        have hle : ds.length ≤ i := List.getElem?_eq_none_iff.mp hd
        have e : i = ds.length := by omega
        subst e
        rw [List.drop_length] at h3
        cases h3
        refine .inl ⟨w.stop I3 sub, h1 _ H3 ?_⟩
        have J1 := I3.sink hqv
        have J2 := back H3 ε0 ((.ref D0, .own acc0) :: (qs ++ ps)) (fun v i m => by
          rcases List.mem_cons.mp m with e | m
          · cases e
          · exact fr v i m) J1
        exact J2.under
      | some d =>
        have hlt : i < ds.length := (List.getElem?_eq_some_iff.mp hd).1
        have ed : ds.drop i = d :: ds.drop (i + 1) := by
          rw [List.drop_eq_getElem_cons hlt]
          rw [List.getElem?_eq_getElem hlt] at hd
          cases hd; rfl
        rw [ed] at h3
        refine .inr ⟨w.go I3 sub hlt, fun H' => ∃ ε' acc', acc'.length ≤ i + 1 ∧ EI C H' (L2.wipe σ vs) ε' ((.ref D0, .own acc') :: (qv ++ (qs ++ ps))) ∧ lcL vs g tt te (ds.drop (i + 1)) acc' ε' = .ok acc0 ε0, fun H' ⟨ε', acc', a1, a2, a3⟩ => ⟨m - 1, by omega, by omega, ε', acc', a1, a2, a3⟩, fun x H' y => ?_⟩
        have I4 := w.yld I3 sub hd y
        simp only [lcL] at h3
        split at h3
        · rename_i ε4 e4
          have fr4 : Free is ((V.ref D0, Opd.own acc) :: (qv ++ (qs ++ ps))) := fun v i m z => hfree1 v i m (his i z)
          refine qg hK fr4 I4 e4 fun σ5 H5 I5 l5 k5 => ?_
          have ew : L2.wipe σ5 vs = L2.wipe σ vs := by
            rw [wipe_eq (σ := L2.wipe σ vs) l5 fun j hj => k5 j fun z => hj (his j z)]
            exact wipe_eq (L2.wipe_length _ _) fun j hj => wipe_get hj
          refine ⟨ew, qt hK hM I5 ?_⟩
          cases ht : tt ε4 with
          | bad => rw [ht] at h3; cases h3
          | err e ε5 => rw [ht] at h3; cases h3
          | ok k ε5 =>
            rw [ht] at h3
            intro H6 I6
            cases k with
            | false =>
              refine iteF ⟨wipeE ε5 vs, acc, by omega, ?_, h3⟩
              rw [← ew]
              exact EI.wipeF hfree1 I6
            | true =>
              refine iteT ?_
              simp only at h3
              cases hv : eVal te ε5 with
              | bad => rw [hv] at h3; cases h3
              | err e ε6 => rw [hv] at h3; cases h3
              | ok y0 ε6 =>
                rw [hv] at h3
                have hp : (eVal te ε5).post (fun a e => a = y0 ∧ e = ε6) (fun _ _ => False) := by rw [hv]; exact ⟨rfl, rfl⟩
                refine qe hK hM I6 (Out.post.mono (post_bnd hp) (fun o ε7 h7 z H7 I7 => ?_) fun _ _ z => z.elim)
                obtain ⟨d8, ε8, e8, e9, e10⟩ := toVal_post h7
                subst e9 e10
                obtain ⟨p, us, ep, g1, g2, g3⟩ := (I7.freeze e8).grow1
                cases ep
                refine ⟨us, g1, by rw [g2]; omega, wipeE ε8 vs, acc ++ [d8], by simp; omega, ?_, h3⟩
                rw [← ew]
                exact EI.wipeF hfree1 g3
        · cases h3
  · exact h1.elim
/-- the block's judgements, at whatever block -/
structure Blk (X : Cx) (vs : List Nat) (scope : Scope) (tg : Expr) (ifs : List Expr) (elt : Expr) (g : D → Env' → Option Env') (tt : Sm Bool) (te : Sm Opd) : Prop where
  ex : ∃ (is : List Nat) (tG : TG) (tT : TT) (tE : TE), (∀ i ∈ is, i ∈ vs) ∧
    (∀ (s : Shared) (H : Hp) (c : Addr) (cl : List (Str × Addr)) (fp : List Addr), PG (X.blk s H scope (compEnvC scope cl c X.env) fp) tg tG) ∧
    (∀ (s : Shared) (H : Hp) (c : Addr) (cl : List (Str × Addr)) (fp : List Addr), PTs (X.blk s H scope (compEnvC scope cl c X.env) fp) ifs tT) ∧
    (∀ (s : Shared) (H : Hp) (c : Addr) (cl : List (Str × Addr)) (fp : List Addr), PE (X.blk s H scope (compEnvC scope cl c X.env) fp) elt tE) ∧
    ReG X is tG g ∧ ReT X WF tT tt ∧ ReE X WF tE te
theorem de_lc {vs : List Nat} {elt tg iter : Expr} {ifs : List Expr} {scope : Scope} {own : List (Str × Nat)} {pos : Pos} {f : Sm (List D)} {g : D → Env' → Option Env'} {tt : Sm Bool} {te : Sm Opd} (hc : X.calm = true) (hN : X.N.Nodup) (hi : DI X W tg iter f) (ok : BlkOk X.N X.env.scope scope own) (hv : own.map (·.2) = vs)
    (hb : Blk X vs scope tg ifs elt g tt te) (hs : ∀ x, foldedSetIterable iter X.env x = pure x := by intro _; rfl) : DE X W (.ListComp elt [⟨tg, iter, ifs, 0⟩] scope pos) (eLc vs f g tt te) := by
  subst hv
  obtain ⟨wi, pi, qi⟩ := hi
  obtain ⟨is, tG, tT, tE, his, p1, p2, p3, q1, q2, q3⟩ := hb
  exact ⟨_, pe_lc hc hN pi ok p1 p2 p3 hs, lc_reads his qi q1 q2 q3⟩
theorem ds_setLc {i : Nat} {y : Str} {py : Pos} {vs : List Nat} {elt tg iter : Expr} {ifs : List Expr} {scope : Scope} {own : List (Str × Nat)} {pos spos : Pos} {f : Sm (List D)} {g : D → Env' → Option Env'} {tt : Sm Bool} {te : Sm Opd} (hc : X.calm = true) (hN : X.N.Nodup) (hy : X.N[i]? = some y) (hyl : X.env.scope.names.lookup y = some .local)
    (hsw : swapsWith (.ListComp elt [⟨tg, iter, ifs, 0⟩] scope pos) (some (.Name y py)) spos.line X.env = pure true) (hi : DI X W tg iter f) (ok : BlkOk X.N X.env.scope scope own) (hv : own.map (·.2) = vs)
    (hb : Blk X vs scope tg ifs elt g tt te) (hs : ∀ x, foldedSetIterable iter X.env x = pure x := by intro _; rfl) : DSt X W (.Assign [.Name y py] (.ListComp elt [⟨tg, iter, ifs, 0⟩] scope pos) spos) (sSet i (eLc vs f g tt te)) := by
  subst hv
  obtain ⟨wi, pi, qi⟩ := hi
  obtain ⟨is, tG, tT, tE, his, p1, p2, p3, q1, q2, q3⟩ := hb
  refine ⟨_, ps_setLc hc hN hy hyl hsw pi ok p1 p2 p3 hs, ?_⟩
  intro C H σ ε ps D hK hM hso I h
  refine lc_reads his qi q1 q2 q3 hK hM I (Out.post.mono (post_bnd h) (fun o ε1 h1 x H1 I1 => ?_) fun _ _ z => z.w)
  obtain ⟨ε2, e, h2⟩ := put_post h1
  exact h2 _ H1 (I1.put hso.free e)
structure DTs (X : Cx) (ifs : List Expr) (f : Sm Bool) : Prop where
  ex : ∃ t, PTs X ifs t ∧ ReT X WF t f
theorem dts_nil : DTs X [] ttYes := by
  refine ⟨_, pts_nil, ?_⟩
  intro C H σ ε ps Q hK hM I h
  exact h H I
theorem dts_one {c : Expr} {f : Sm Bool} (h : DT X WF c f) : DTs X [c] f := by
  obtain ⟨t, p, q⟩ := h
  exact ⟨_, pts_one p, q⟩
theorem blk_mk {vs is : List Nat} {scope : Scope} {tg : Expr} {ifs : List Expr} {elt : Expr} {g : D → Env' → Option Env'} {tt : Sm Bool} {te : Sm Opd} (his : ∀ i ∈ is, i ∈ vs)
    (h : ∀ (s : Shared) (H : Hp) (c : Addr) (cl : List (Str × Addr)) (fp : List Addr), DG (X.blk s H scope (compEnvC scope cl c X.env) fp) is tg g ∧ DTs (X.blk s H scope (compEnvC scope cl c X.env) fp) ifs tt ∧ DE (X.blk s H scope (compEnvC scope cl c X.env) fp) WF elt te) : Blk X vs scope tg ifs elt g tt te := by
  refine ⟨is, fun v σ H Q => ∀ s G c cl fp t, PG (X.blk s G scope (compEnvC scope cl c X.env) fp) tg t → ReG (X.blk s G scope (compEnvC scope cl c X.env) fp) is t g → t v σ H Q, fun σ H Q => ∀ s G c cl fp t, PTs (X.blk s G scope (compEnvC scope cl c X.env) fp) ifs t → ReT (X.blk s G scope (compEnvC scope cl c X.env) fp) WF t tt → t σ H Q,
    fun σ H Q => ∀ s G c cl fp t, PE (X.blk s G scope (compEnvC scope cl c X.env) fp) elt t → ReE (X.blk s G scope (compEnvC scope cl c X.env) fp) WF t te → t σ H Q, his, fun s G c cl fp => ?_, fun s G c cl fp => ?_, fun s G c cl fp => ?_, ?_, ?_, ?_⟩
  · obtain ⟨⟨t, p, q⟩, _, _⟩ := h s G c cl fp
    exact ⟨fun pins s' σ H v u Q I r w => p.run pins s' σ H v u Q I r (w s G c cl fp t p q)⟩
  · obtain ⟨_, ⟨t, p, q⟩, _⟩ := h s G c cl fp
    exact ⟨fun pins s' σ H Q I w => p.run pins s' σ H Q I (w s G c cl fp t p q)⟩
  · obtain ⟨_, _, ⟨t, p, q⟩⟩ := h s G c cl fp
    exact ⟨fun pins s' σ H Q I w => p.run pins s' σ H Q I (w s G c cl fp t p q)⟩
  · intro C H σ ε ε' ps x d Q hK hf I e k s G c cl fp t p q
    exact q hK hf I e k
  · intro C H σ ε ps Q hK hM I k s G c cl fp t p q
    exact q hK hM I k
  · intro C H σ ε ps Q hK hM I k s G c cl fp t p q
    exact q hK hM I k
end
end DS

set_option Elab.async false
set_option linter.all false
set_option maxRecDepth 100000
set_option maxHeartbeats 4000000
namespace DS
open PySem PySem.Spec PyProof.Rows L2
section
variable {X : Cx} {W : WX}

/-! ### what is walked: lists, tuples, ranges, pairs -/
def iSeq (K : PySem.W.Frag) (tl : TE) : TI := fun σ H R => tl σ H fun x H1 => ∃ a, x = .ref a ∧ (((∃ xs, SqL K H1 a xs) ∧ R (Itl K a) H1) ∨ ((∃ xs, SqT K H1 a xs) ∧ R (Itt K a) H1))
theorem pi_seq {tg l : Expr} {tl : TE} (hl : PE X l tl) : PI X tg l (iSeq X.K tl) := by
  refine ⟨fun pins s σ H R I h => ?_⟩
  refine thn (hl.run pins s σ H _ I h) fun v s1 ⟨x, H1, I1, r1, a, ex, q⟩ => ?_
  subst ex
  cases r1
  have fr : ∀ b ∈ [s1.heap.objs.size], FpOk X pins H1 b := fun b hb => by
    have eb : b = s1.heap.objs.size := by simpa using hb
    rw [eb]; exact I1.fpOk (Nat.le_refl _) (I1.hok.fresh (Nat.le_refl _))
  rcases q with ⟨⟨xs, hq⟩, q⟩ | ⟨⟨xs, hq⟩, q⟩
  · obtain ⟨its, _, pl, _⟩ := I1.list hq
    exact wpAny_pyIter_list pl.isList ⟨_, [s1.heap.objs.size], _, _, H1, rfl, I1.kept (t' := s1.toks) (fun _ _ e => Heap.get?_push_of_some _ e), turn_list a _, ⟨_, Heap.get?_push_size _ rfl, rfl, rfl⟩, fr, q⟩
  · obtain ⟨its, _, pl, _⟩ := I1.tuple hq
    exact wpAny_pyIter_tuple (show s1.heap.IsTuple a its.toArray from pl) ⟨_, [s1.heap.objs.size], _, _, H1, rfl, I1.kept (t' := s1.toks) (fun _ _ e => Heap.get?_push_of_some _ e), turn_tuple a _, ⟨_, Heap.get?_push_size _ rfl, rfl, rfl⟩, fr, q⟩
def itemsD : D → Option (List D)
  | .lst ds => some ds
  | .tup ds => some ds
  | .fix ds => some ds
  | _ => none
def iItems (f : Sm Opd) : Sm (List D) := bnd (eVal f) fun d ε => .of (itemsD d) ε
theorem rb_mem {C : Ct} {H : Hp} {σ : L2.St} {ε : Env'} {ps : List (V × Opd)} {x : V} {d : D} (I : EI C H σ ε ps) (m : (x, Opd.tmp d) ∈ ps) : ∃ ow, EIw C ow H σ ε ps ∧ Rp C.K (Exc C ow) H x d := by
  obtain ⟨ow, I⟩ := I
  exact ⟨ow, I, mem_tmp I.pend m⟩
theorem walkL {C : Ct} {a : Addr} {ds : List D} {d : D} (hd : d = .lst ds ∨ d = .fix ds) : WalkD C (Itl C.K a) ds [(.ref a, .tmp d)] := by
  have seq : ∀ {σ : L2.St} {ε : Env'} {ps : List (V × Opd)} {H : Hp}, EI C H σ ε ps → (∀ q ∈ [(V.ref a, Opd.tmp d)], q ∈ ps) → ∃ ow vs, EIw C ow H σ ε ps ∧ SqL C.K H a vs ∧ RpL C.K (Exc C ow) H vs ds := fun {σ ε ps H} I hq => by
    obtain ⟨ow, J, r⟩ := rb_mem I (hq _ List.mem_cons_self)
    rcases hd with rfl | rfl
    · obtain ⟨p, vs, e, h1, h2⟩ := Rb.list (.of r)
      cases e
      exact ⟨ow, vs, J, .of h1, h2⟩
    · obtain ⟨p, vs, e, h1, h2⟩ := Rb.fix (.of r)
      cases e
      exact ⟨ow, vs, J, h1, h2⟩
  refine ⟨fun I hq hi => ?_, fun I hq hd' y => ?_, fun I hq => ?_⟩
  · obtain ⟨ow, vs, J, h1, h2⟩ := seq I hq
    obtain ⟨v, e, _⟩ := h2.get (List.getElem?_eq_getElem hi)
    exact ⟨vs, v, h1, e⟩
  · obtain ⟨ow, vs, J, h1, h2⟩ := seq I hq
    obtain ⟨e, y⟩ := y
    subst e
    obtain ⟨v, e, r⟩ := h2.get hd'
    have ev := y vs h1
    rw [e] at ev
    cases ev
    exact ⟨ow, J.push r⟩
  · obtain ⟨ow, vs, J, h1, h2⟩ := seq I hq
    exact ⟨vs, h1, by rw [h2.length]; exact Nat.le_refl _⟩
theorem walkT {C : Ct} {a : Addr} {ds : List D} : WalkD C (Itt C.K a) ds [(.ref a, .tmp (.tup ds))] := by
  have seq : ∀ {σ : L2.St} {ε : Env'} {ps : List (V × Opd)} {H : Hp}, EI C H σ ε ps → (∀ q ∈ [(V.ref a, Opd.tmp (.tup ds))], q ∈ ps) → ∃ ow vs, EIw C ow H σ ε ps ∧ SqT C.K H a vs ∧ RpL C.K (Exc C ow) H vs ds := fun {σ ε ps H} I hq => by
    obtain ⟨ow, J, r⟩ := rb_mem I (hq _ List.mem_cons_self)
    obtain ⟨p, vs, e, h1, h2⟩ := Rb.tuple (.of r)
    cases e
    exact ⟨ow, vs, J, h1, h2⟩
  refine ⟨fun I hq hi => ?_, fun I hq hd' y => ?_, fun I hq => ?_⟩
  · obtain ⟨ow, vs, J, h1, h2⟩ := seq I hq
    obtain ⟨v, e, _⟩ := h2.get (List.getElem?_eq_getElem hi)
    exact ⟨vs, v, h1, e⟩
  · obtain ⟨ow, vs, J, h1, h2⟩ := seq I hq
    obtain ⟨e, y⟩ := y
    subst e
    obtain ⟨v, e, r⟩ := h2.get hd'
    have ev := y vs h1
    rw [e] at ev
    cases ev
    exact ⟨ow, J.push r⟩
  · obtain ⟨ow, vs, J, h1, h2⟩ := seq I hq
    exact ⟨vs, h1, by rw [h2.length]; exact Nat.le_refl _⟩
theorem tmps_one {x : V} {d : D} : Tmps [(x, Opd.tmp d)] := fun q m => ⟨d, by simp at m; rw [m]⟩
theorem di_seq {tg e : Expr} {f : Sm Opd} (h : DE X W e f) : DI X W tg e (iItems f) := by
  obtain ⟨t, p, q⟩ := h
  refine ⟨_, pi_seq p, ?_⟩
  intro C H σ ε ps R hK hM I h
  refine q hK hM I (Out.post.mono (post_bnd (post_bnd h)) (fun o ε1 h1 x H1 I1 => ?_) fun _ _ z => z)
  obtain ⟨d, ε2, e, h2⟩ := toVal_post h1
  obtain ⟨ds, e2, h3⟩ := of_post h2
  have I2 := I1.freeze e
  obtain ⟨ow, J, r⟩ := I2.rb rfl
  unfold itemsD at e2
  split at e2
  · cases e2
    obtain ⟨a, vs, rfl, g1, g2⟩ := r.list
    exact ⟨a, rfl, .inl ⟨⟨vs, .of g1⟩, h3 _ H1 [_] tmps_one I2 (by rw [← hK]; exact walkL (.inl rfl))⟩⟩
  · cases e2
    obtain ⟨a, vs, rfl, g1, g2⟩ := r.tuple
    exact ⟨a, rfl, .inr ⟨⟨vs, by rw [← hK]; exact g1⟩, h3 _ H1 [_] tmps_one I2 (by rw [← hK]; exact walkT)⟩⟩
  · cases e2
    obtain ⟨a, vs, rfl, g1, g2⟩ := r.fix
    exact ⟨a, rfl, .inl ⟨⟨vs, by rw [← hK]; exact g1⟩, h3 _ H1 [_] tmps_one I2 (by rw [← hK]; exact walkL (.inr rfl))⟩⟩
  · cases e2
/-- lo, lo + 1, .. -/
def rangeL (lo : Int) (n : Nat) : List D := (List.range n).map fun (i : Nat) => D.int (lo + (i : Int))
theorem rangeL_len (lo : Int) (n : Nat) : (rangeL lo n).length = n := by simp [rangeL]
theorem rangeL_get {lo : Int} {n i : Nat} {d : D} (h : (rangeL lo n)[i]? = some d) : d = .int (lo + i) := by
  unfold rangeL at h
  rw [List.getElem?_map] at h
  obtain ⟨j, e, rfl⟩ := Option.map_eq_some_iff.mp h
  obtain ⟨h1, e1⟩ := List.getElem?_eq_some_iff.mp e
  rw [List.getElem_range] at e1
  rw [e1]
theorem walkR {C : Ct} {lo : Int} {n : Nat} : WalkD C (Itr lo n) (rangeL lo n) [] := by
  refine ⟨fun I _ hi => ?_, fun I _ hd y => ?_, fun I _ => ?_⟩
  · rw [rangeL_len] at hi; exact hi
  · obtain ⟨e, y⟩ := y
    subst e y
    rw [rangeL_get hd]
    exact I.push (.int _)
  · rw [rangeL_len]; exact Nat.le_refl _
theorem tmps_nil : Tmps [] := fun q (m : q ∈ []) => nomatch m
def range1D : List D → Option (List D)
  | [.int j] => if sm62 j = true then some (rangeL 0 j.toNat) else none
  | _ => none
def iB (g : List D → Option (List D)) (as : Sm (List Opd)) : Sm (List D) := bnd as fun os ε => .of ((derefs ε os).bind g) ε
theorem di_range1 {tg a : Expr} {as : Sm (List Opd)} {p pos : Pos} (hg : Gl X "range") (hm : X.mg "range" = none) (ha : DB X W [a] as) (hs : starEach [a] X.env = [(false, eval a X.env)] := by rfl) : DI X W tg (.Call (.Name "range" p) [a] [] pos) (iB range1D as) := by
  obtain ⟨t, pa, q⟩ := ha
  refine ⟨_, pi_range1 hg hm pa hs, ?_⟩
  intro C H σ ε ps R hK hM I h
  refine q hK hM I (Out.post.mono (post_bnd h) (fun os ε1 h1 xs H1 hl I1 => ?_) fun _ _ z => z)
  obtain ⟨ds, e, h2⟩ := of_post h1
  obtain ⟨es, e1, e2⟩ := Option.bind_eq_some_iff.mp e
  obtain ⟨ow, I1⟩ := I1
  obtain ⟨rl, J⟩ := stk_rb hl e1 I1
  unfold range1D at e2
  split at e2
  · split at e2
    · rename_i j hj
      cases e2
      obtain ⟨x, rfl, r⟩ := rl.one
      cases r.int
      exact ⟨j, rfl, (sm62_of hj).1, (sm62_of hj).2, h2 _ H1 [] tmps_nil ⟨ow, J⟩ walkR⟩
    · cases e2
  · cases e2
def range2D : List D → Option (List D)
  | [.int i, .int j] => if sm62 i = true ∧ sm62 j = true then some (rangeL i (j - i).toNat) else none
  | _ => none
theorem di_range2 {tg a b : Expr} {as : Sm (List Opd)} {p pos : Pos} (hg : Gl X "range") (hm : X.mg "range" = none) (ha : DB X W [a, b] as) (hs : starEach [a, b] X.env = [(false, eval a X.env), (false, eval b X.env)] := by rfl) (hs2 : starEach [b] X.env = [(false, eval b X.env)] := by rfl) : DI X W tg (.Call (.Name "range" p) [a, b] [] pos) (iB range2D as) := by
  obtain ⟨t, pa, q⟩ := ha
  refine ⟨_, pi_range2 hg hm pa hs hs2, ?_⟩
  intro C H σ ε ps R hK hM I h
  refine q hK hM I (Out.post.mono (post_bnd h) (fun os ε1 h1 xs H1 hl I1 => ?_) fun _ _ z => z)
  obtain ⟨ds, e, h2⟩ := of_post h1
  obtain ⟨es, e1, e2⟩ := Option.bind_eq_some_iff.mp e
  obtain ⟨ow, I1⟩ := I1
  obtain ⟨rl, J⟩ := stk_rb hl e1 I1
  unfold range2D at e2
  split at e2
  · split at e2
    · rename_i i j hj
      cases e2
      obtain ⟨x, y, rfl, r1, r2⟩ := rl.two
      cases r1.int; cases r2.int
      exact ⟨i, j, rfl, ⟨(sm62_of hj.1).1, (sm62_of hj.1).2, sm62_of hj.2⟩, h2 _ H1 [] tmps_nil ⟨ow, J⟩ walkR⟩
    · cases e2
  · cases e2
/-- pairs of two lists -/
def zipL : List D → List D → List D
  | x :: xs, y :: ys => .tup [x, y] :: zipL xs ys
  | _, _ => []
theorem zipL_len : ∀ (xs ys : List D), (zipL xs ys).length = min xs.length ys.length
  | x :: xs, y :: ys => by rw [zipL, List.length_cons, zipL_len xs ys, List.length_cons, List.length_cons]; omega
  | [], ys => by simp [zipL]
  | x :: xs, [] => by simp [zipL]
theorem zipL_get : ∀ {xs ys : List D} {i : Nat} {d : D}, (zipL xs ys)[i]? = some d → ∃ x y, xs[i]? = some x ∧ ys[i]? = some y ∧ d = .tup [x, y]
  | x :: xs, y :: ys, 0, d, h => by simp [zipL] at h; exact ⟨x, y, rfl, rfl, h.symm⟩
  | x :: xs, y :: ys, i + 1, d, h => by
    obtain ⟨a, b, h1, h2, h3⟩ := zipL_get (xs := xs) (ys := ys) (i := i) (by simpa [zipL] using h)
    exact ⟨a, b, by simpa using h1, by simpa using h2, h3⟩
  | [], ys, i, d, h => by simp [zipL] at h
  | x :: xs, [], i, d, h => by simp [zipL] at h
def listOf : D → Option (List D)
  | .lst xs => some xs
  | .fix xs => some xs
  | .tup xs => some xs
  | _ => none
def isTp : D → Bool
  | .tup _ => true
  | _ => false
theorem rp_listOf {C : Ct} {ow : Addr → Option Nat} {H : Hp} {x : V} {d : D} {xs : List D} (r : Rp C.K (Exc C ow) H x d) (h : listOf d = some xs) : ∃ p vs, x = .ref p ∧ SqG C.K H (isTp d) p vs ∧ RpL C.K (Exc C ow) H vs xs := by
  unfold listOf at h
  split at h
  · cases h
    obtain ⟨p, vs, e, h1, h2⟩ := Rb.list (.of r)
    exact ⟨p, vs, e, .of h1, h2⟩
  · cases h
    exact Rb.fix (.of r)
  · cases h
    exact Rb.tuple (.of r)
  · cases h
theorem walkZ {C : Ct} {a b : Addr} {d e : D} {xs ys : List D} (hd : listOf d = some xs) (he : listOf e = some ys) : WalkD C (ItzG C.K (isTp d) (isTp e) a b) (zipL xs ys) [(.ref b, .tmp e), (.ref a, .tmp d)] := by
  have seq : ∀ {σ : L2.St} {ε : Env'} {ps : List (V × Opd)} {H : Hp}, EI C H σ ε ps → (∀ q ∈ [(V.ref b, Opd.tmp e), (V.ref a, Opd.tmp d)], q ∈ ps) → ∃ ow vs us, EIw C ow H σ ε ps ∧ SqG C.K H (isTp d) a vs ∧ RpL C.K (Exc C ow) H vs xs ∧ SqG C.K H (isTp e) b us ∧ RpL C.K (Exc C ow) H us ys := fun {σ ε ps H} ⟨ow, I⟩ hq => by
    obtain ⟨p, vs, e1, h1, h2⟩ := rp_listOf (mem_tmp I.pend (hq _ (List.mem_cons_of_mem _ List.mem_cons_self))) hd
    obtain ⟨p', us, e2, h3, h4⟩ := rp_listOf (mem_tmp I.pend (hq _ List.mem_cons_self)) he
    cases e1; cases e2
    exact ⟨ow, vs, us, I, h1, h2, h3, h4⟩
  refine ⟨fun I hq hi => ?_, fun I hq hd' y => ?_, fun I hq => ?_⟩
  · obtain ⟨ow, vs, us, J, h1, h2, h3, h4⟩ := seq I hq
    rw [zipL_len] at hi
    obtain ⟨hi1, hi2⟩ := Nat.lt_min.mp hi
    exact ⟨vs, us, h1, h3, by rw [h2.length]; exact hi1, by rw [h4.length]; exact hi2⟩
  · obtain ⟨ow, vs, us, J, h1, h2, h3, h4⟩ := seq I hq
    obtain ⟨T, x1, y1, rfl, hT, rfl, f1, f2⟩ := y
    obtain ⟨x2, y2, g1, g2, rfl⟩ := zipL_get hd'
    obtain ⟨v, e1, r1⟩ := h2.get g1
    obtain ⟨u, e2, r2⟩ := h4.get g2
    have z1 := f1 vs h1
    have z2 := f2 us h3
    rw [e1] at z1; rw [e2] at z2
    cases z1; cases z2
    exact ⟨ow, J.allocTup hT (.cons r1 (.cons r2 .nil))⟩
  · obtain ⟨ow, vs, us, J, h1, h2, h3, h4⟩ := seq I hq
    refine ⟨vs, us, h1, h3, ?_⟩
    rw [zipL_len, h2.length, h4.length]
def zipD : List D → Option (List D)
  | [d, e] => match listOf d, listOf e with
    | some xs, some ys => some (zipL xs ys)
    | _, _ => none
  | _ => none
def iA (g : List D → Option (List D)) (as : Sm (List D)) : Sm (List D) := bnd as fun ds ε => .of (g ds) ε
theorem di_zip {a b : Expr} {as : Sm (List D)} {p pos tpos : Pos} {elts : List Expr} {kk : Nat} (hg : Gl X "zip") (hm : X.mg "zip" = none) (ha : DA X W [a, b] as)
    (hs : starEach [a, b] X.env = (false, eval a X.env) :: starEach [b] X.env := by rfl) (hpl : (backTo pos (starEach [b] X.env)).any (·.1) = false := by rfl) : DI X W (.Tuple elts kk tpos) (.Call (.Name "zip" p) [a, b] [] pos) (iA zipD as) := by
  obtain ⟨t, pa, q⟩ := ha
  refine ⟨_, pi_zipG hg hm pa hs hpl, ?_⟩
  intro C H σ ε ps R hK hM I h
  refine q hK hM I (Out.post.mono (post_bnd h) (fun ds ε1 h1 xs H1 hl I1 => ?_) fun _ _ z => z)
  obtain ⟨zs, e, h2⟩ := of_post h1
  unfold zipD at e
  split at e
  · rename_i d e'
    split at e
    · rename_i l1 l2 g1 g2
      cases e
      match xs, hl with
      | [v, u], _ =>
        obtain ⟨ow, J⟩ := I1
        obtain ⟨r2, r1, _⟩ : Rp C.K (Exc C ow) H1 u e' ∧ Rp C.K (Exc C ow) H1 v d ∧ True := ⟨J.pend.1, J.pend.2.1, trivial⟩
        obtain ⟨p1, vs, rfl, h3, h4⟩ := rp_listOf r1 g1
        obtain ⟨p2, us, rfl, h5, h6⟩ := rp_listOf r2 g2
        refine ⟨isTp d, isTp e', p1, p2, vs, us, rfl, by rw [← hK]; exact h3, by rw [← hK]; exact h5, h2 _ H1 [(.ref p2, .tmp e'), (.ref p1, .tmp d)] (fun q m => ?_) ⟨ow, J⟩ (by rw [← hK]; exact walkZ g1 g2)⟩
        simp at m
        rcases m with m | m <;> exact ⟨_, by rw [m]⟩
    · cases e
  · cases e
/-- numbered items -/
def enumL : Nat → List D → List D
  | i, x :: xs => .tup [.int (i : Int), x] :: enumL (i + 1) xs
  | _, [] => []
theorem enumL_len : ∀ (i : Nat) (xs : List D), (enumL i xs).length = xs.length
  | i, x :: xs => by simp [enumL, enumL_len (i + 1) xs]
  | i, [] => rfl
theorem enumL_get : ∀ {xs : List D} {k i : Nat} {d : D}, (enumL k xs)[i]? = some d → ∃ x, xs[i]? = some x ∧ d = .tup [.int ((k + i : Nat) : Int), x]
  | x :: xs, k, 0, d, h => by simp [enumL] at h; exact ⟨x, rfl, by rw [← h]; rfl⟩
  | x :: xs, k, i + 1, d, h => by
    obtain ⟨a, h1, h2⟩ := enumL_get (xs := xs) (k := k + 1) (i := i) (by simpa [enumL] using h)
    exact ⟨a, by simpa using h1, by rw [h2, show k + 1 + i = k + (i + 1) by omega]⟩
  | [], k, i, d, h => by simp [enumL] at h
theorem walkE {C : Ct} {a : Addr} {d : D} {xs : List D} (hd : listOf d = some xs) : WalkD C (IteG C.K (isTp d) a) (enumL 0 xs) [(.ref a, .tmp d)] := by
  have seq : ∀ {σ : L2.St} {ε : Env'} {ps : List (V × Opd)} {H : Hp}, EI C H σ ε ps → (∀ q ∈ [(V.ref a, Opd.tmp d)], q ∈ ps) → ∃ ow vs, EIw C ow H σ ε ps ∧ SqG C.K H (isTp d) a vs ∧ RpL C.K (Exc C ow) H vs xs := fun {σ ε ps H} ⟨ow, I⟩ hq => by
    obtain ⟨p, vs, e1, h1, h2⟩ := rp_listOf (mem_tmp I.pend (hq _ List.mem_cons_self)) hd
    cases e1
    exact ⟨ow, vs, I, h1, h2⟩
  refine ⟨fun I hq hi => ?_, fun I hq hd' y => ?_, fun I hq => ?_⟩
  · obtain ⟨ow, vs, J, h1, h2⟩ := seq I hq
    rw [enumL_len] at hi
    exact ⟨vs, h1, by rw [h2.length]; exact hi⟩
  · obtain ⟨ow, vs, J, h1, h2⟩ := seq I hq
    obtain ⟨T, x1, rfl, hT, rfl, f1⟩ := y
    obtain ⟨x2, g1, rfl⟩ := enumL_get hd'
    obtain ⟨v, e1, r1⟩ := h2.get g1
    have z1 := f1 vs h1
    rw [e1] at z1
    cases z1
    rw [Nat.zero_add]
    exact ⟨ow, J.allocTup hT (.cons (.int _) (.cons r1 .nil))⟩
  · obtain ⟨ow, vs, J, h1, h2⟩ := seq I hq
    refine ⟨vs, h1, ?_⟩
    rw [enumL_len, h2.length]
def enumD : List D → Option (List D)
  | [d] => (listOf d).map (enumL 0)
  | _ => none
theorem di_enum {a : Expr} {as : Sm (List D)} {p pos tpos : Pos} {elts : List Expr} {kk : Nat} (hg : Gl X "enumerate") (hm : X.mg "enumerate" = none) (ha : DA X W [a] as) (hs : starEach [a] X.env = [(false, eval a X.env)] := by rfl) : DI X W (.Tuple elts kk tpos) (.Call (.Name "enumerate" p) [a] [] pos) (iA enumD as) := by
  obtain ⟨t, pa, q⟩ := ha
  refine ⟨_, pi_enumG hg hm pa hs, ?_⟩
  intro C H σ ε ps R hK hM I h
  refine q hK hM I (Out.post.mono (post_bnd h) (fun ds ε1 h1 xs H1 hl I1 => ?_) fun _ _ z => z)
  obtain ⟨zs, e, h2⟩ := of_post h1
  unfold enumD at e
  split at e
  · rename_i d
    obtain ⟨l1, g1, rfl⟩ := Option.map_eq_some_iff.mp e
    match xs, hl with
    | [v], _ =>
      obtain ⟨ow, J⟩ := I1
      have r1 : Rp C.K (Exc C ow) H1 v d := J.pend.1
      obtain ⟨p1, vs, rfl, h3, h4⟩ := rp_listOf r1 g1
      exact ⟨isTp d, p1, vs, rfl, by rw [← hK]; exact h3, h2 _ H1 [(.ref p1, .tmp d)] tmps_one ⟨ow, J⟩ (by rw [← hK]; exact walkE g1)⟩
  · cases e

/-! ### raise, isinstance, methods of lists, constants -/
def sRaise (n : Str) : Sm Fl := fun ε => .err ⟨n, none⟩ ε
theorem ds_raise {x m : Str} {j : Nat} {p p2 pos pos' : Pos} {Cl : Addr} {bmB : List Value} {B newId initId : String} (hc : X.calm = true) (tk : Takes X W) (F : ExcBaseFacts B newId initId bmB) (q : PySem.W.excIn X.K Cl bmB newId = true) (gC : X.mg x = some (.ref Cl)) (kC : PySem.W.keepIn X.K (.ref Cl) = true)
    (h1 : PySem.W.subIn X.K (.ref Cl) (.type "BaseException") = some true) (h2 : PySem.W.typeIn X.K (.ref Cl) = some (.type "type")) (hg : Gl X x) (hdb : (x == ("__debug__" : Str)) = false := by decide) :
    DSt X W (.Raise (some (.Call (.Name x p) [.Constant (.str m) j p2] [] pos)) none pos') (sRaise x) := by
  refine ⟨_, ps_raise hc tk (pmk_own F q gC kC (raises_own h1 h2) hg hdb), ?_⟩
  intro C H σ ε ps D hK hM hs I h
  exact h σ _ _ H ⟨Cl, rfl, by rw [hM]; exact gC, rfl⟩ I.nil
def tyName : D → String
  | .non => "NoneType"
  | .bl _ => "bool"
  | .int _ => "int"
  | .str _ => "str"
  | .lst _ => "list"
  | .fix _ => "list"
  | .tup _ => "tuple"
theorem Rb.tyX {K : PySem.W.Frag} {E : Addr → Prop} {H : Hp} {x : V} {d : D} (r : Rb K E H x d) : TyX K H x (.type (tyName d)) := by
  cases r with
  | own h _ => exact .base (.lst h)
  | of r =>
    cases r with
    | non => exact .base .non
    | bl b => exact .base (.bl b)
    | int i => exact .base (.int i)
    | str s => exact .base (.str s)
    | lst n _ => exact .base (.lst n.2)
    | fix n _ =>
      rcases n with ⟨_, o, n⟩ | n
      · exact .base (.frz n)
      · rcases n (fun _ => none) with z | ⟨o, _, _, h1, h2, _⟩
        · rcases z with z | ⟨_, z⟩ <;> cases z
        · exact .kList h1 h2
    | tup n _ =>
      rcases n with ⟨_, n⟩ | n
      · rcases n with n | ⟨o, n⟩
        · exact .base (.tup n)
        · exact .fTuple n
      · rcases n (fun _ => none) with z | ⟨o, _, _, h1, h2, _⟩
        · rcases z with z | ⟨_, z⟩ <;> cases z
        · exact .kTuple h1 h2
/-- isinstance(x, int) .. by the type's name -/
def isiD (n : String) (d : D) : Option Bool :=
  if n = "int" then some (match d with
    | .int _ => true
    | .bl _ => true
    | _ => false)
  else if n = "bool" then some (match d with
    | .bl _ => true
    | _ => false)
  else if n = "tuple" then some (match d with
    | .tup _ => true
    | _ => false)
  else if n = "list" then some (match d with
    | .lst _ => true
    | .fix _ => true
    | _ => false)
  else if n = "str" then some (match d with
    | .str _ => true
    | _ => false)
  else none
theorem isiD_kit {n : String} {d : D} {b : Bool} (h : isiD n d = some b) : kitB (tyName d) n = some b := by
  unfold isiD at h
  split at h
  · rename_i e; subst e; cases h; cases d <;> first | decide +kernel | rfl
  · split at h
    · rename_i e; subst e; cases h; cases d <;> first | decide +kernel | rfl
    · split at h
      · rename_i e; subst e; cases h; cases d <;> first | decide +kernel | rfl
      · split at h
        · rename_i e; subst e; cases h; cases d <;> first | decide +kernel | rfl
        · split at h
          · rename_i e; subst e; cases h; cases d <;> first | decide +kernel | rfl
          · cases h
def eIsi (n : String) (f : Sm Opd) : Sm Opd := bnd f fun o ε => .of (((deref ε o).bind (isiD n)).map fun b => .tmp (.bl b)) ε
theorem de_isi {e : Expr} {n : String} {f : Sm Opd} {T : Str} {p p2 pos : Pos} (hg : Gl X "isinstance") (hm : X.mg "isinstance" = none) (hgT : Gl X T) (hmT : X.mg T = none) (hvT : bootBuiltins T = some (.type n)) (h : DE X W e f)
    (hn : T ≠ "__name__" := by decide) (hd : (T == ("__debug__" : Str)) = false := by decide)
    (hs : starEach (e :: [.Name T p2]) X.env = (false, eval e X.env) :: starEach [.Name T p2] X.env := by rfl) (hs2 : starEach [.Name T p2] X.env = (false, eval (.Name T p2) X.env) :: starEach [] X.env := by rfl) (hpl : (backTo pos (starEach [.Name T p2] X.env)).any (·.1) = false := by rfl) :
    DE X W (.Call (.Name "isinstance" p) [e, .Name T p2] [] pos) (eIsi n f) := by
  obtain ⟨t, pe, q⟩ := h
  refine ⟨_, pe_callB call_isi hg hm boot_isinstance (pa_cons pe (pa_cons (pe_bltn (v := .ty n) hgT hmT hvT rfl hn hd) pa_nil hs2) hs) (he := hs) (hpl := hpl), ?_⟩
  intro C H σ ε ps Q hK hM I h
  refine q hK hM I (Out.post.mono (post_bnd h) (fun o ε1 h1 x H1 I1 => ?_) fun _ _ z => z)
  obtain ⟨z, e, h2⟩ := of_post h1
  obtain ⟨b, e0, rfl⟩ := Option.map_eq_some_iff.mp e
  obtain ⟨d, e1, e2⟩ := Option.bind_eq_some_iff.mp e0
  obtain ⟨ow, J, r⟩ := I1.rb e1
  exact ⟨x, .ty n, _, _, b, rfl, .ty n, by rw [← hK]; exact r.tyX, kit_ty (isiD_kit e2), h2 _ H1 (I1.drop.push (.bl _))⟩
/-- a method that changes a list: h arguments items = (answer, items then) -/
def MethD (X : Cx) (id : String) (h : List D → List D → Option (D × List D)) : Prop := ∃ r, MtR X id r ∧ ∀ {K : PySem.W.Frag} {E : Addr → Prop} {H : Hp} {p : Addr} {vs xs : List V} {l ds : List D} {d : D} {l' : List D} {Q : VK},
  H p = some (.lst vs) → RpL K E H vs l → RpL K E H xs ds → h ds l = some (d, l') → (∀ v vs', Rp K E H v d → RpL K E H vs' l' → Q v (upd H p (.lst vs'))) → r (.ref p) xs H Q
def eMeth (h : List D → List D → Option (D × List D)) (i : Nat) (a : Sm (List D)) : Sm Opd := fun ε => if isMut ε i then bnd a (fun ds ε => match ε[i]? with
  | some sv => match (mutL sv).bind (h ds) with
    | some (d, l') => .ok (.tmp d) (ε.set i (remut sv l'))
    | none => .bad
  | none => .bad) ε else .bad
theorem meth_reads {h : List D → List D → Option (D × List D)} {i : Nat} {t : TA} {a : Sm (List D)} {r : V → List V → Hp → VK → Prop}
    (hr : ∀ {K : PySem.W.Frag} {E : Addr → Prop} {H : Hp} {p : Addr} {vs xs : List V} {l ds : List D} {d : D} {l' : List D} {Q : VK},
      H p = some (.lst vs) → RpL K E H vs l → RpL K E H xs ds → h ds l = some (d, l') → (∀ v vs', Rp K E H v d → RpL K E H vs' l' → Q v (upd H p (.lst vs'))) → r (.ref p) xs H Q) (q : ReA X W t a) : ReE X W (tBM X.K "list" r (tVar i) t) (eMeth h i a) := by
  intro C H σ ε ps Q hK hM I hh
  unfold eMeth at hh
  split at hh
  · rename_i him
    obtain ⟨ow0, I0⟩ := I
    obtain ⟨p0, hs0, I1⟩ := I0.isMut him
    have hl0 : ∃ vs, H p0 = some (.lst vs) := by
      obtain ⟨_, ds, hl⟩ := I1.pend.1
      rcases listAt_cases hl with e | e | e
      · obtain ⟨v, e1, r⟩ := I0.slots i _ _ hs0 e
        cases e1
        cases r with | lst n _ => exact ⟨_, n.2⟩
      · obtain ⟨p, vs, e1, _, _, z, _⟩ := I0.slots i _ _ hs0 e
        cases e1; exact ⟨vs, z⟩
      · obtain ⟨p, vs, e1, _, _, z, _⟩ := I0.slots i _ _ hs0 e
        cases e1; exact ⟨vs, z⟩
    obtain ⟨vs0, hl0⟩ := hl0
    refine ⟨.ref p0, hs0, .inl ⟨rfl, vs0, .of hl0⟩, q hK hM ⟨ow0, I1⟩ (Out.post.mono (post_bnd hh) (fun ds ε2 h2 xs H2 hl I2 => ?_) fun _ _ z => z)⟩
    obtain ⟨ow, I2⟩ := I2
    obtain ⟨rl, J⟩ := stk_rp hl I2
    obtain ⟨hx, _⟩ := J.pend.1
    have J0 : EIw C ow H2 σ ε2 ps := ⟨J.len, J.owd, J.exh, J.iot, J.keep, J.slots, J.pend.2⟩
    cases hs : ε2[i]? with
    | none => simp only [Out.post, hs] at h2
    | some sv =>
      cases hm : (mutL sv).bind (h ds) with
      | none => simp only [Out.post, hs, hm] at h2
      | some dl =>
        obtain ⟨d, l'⟩ := dl
        simp only [Out.post, hs, hm] at h2
        obtain ⟨l, e1, e2⟩ := Option.bind_eq_some_iff.mp hm
        obtain ⟨p, vs, ep, f1, f2, f3, f4⟩ := J0.mutA hx hs e1
        cases ep
        refine hr f3 f4 rl e2 fun v vs' rv rvs => ?_
        have hp : Exc C ow p0 := .inr (by rw [f1]; exact fun z => by cases z)
        have mk : ∀ a o, ¬ Exc C ow a → H2 a = some o → upd H2 p0 (.lst vs') a = some o := fun a o n z => by rw [upd_ne (fun w => n (by rw [w]; exact hp))]; exact z
        obtain ⟨J6, k1, _⟩ := J0.mutB (H' := upd H2 p0 (.lst vs')) (ow' := ow) hx hs e1 (fun a o n z => by rw [upd_ne n]; exact z) upd_same (fun a z => absurd rfl z) (RpL.mono (fun a z => .inl z) mk rvs)
        exact h2 v _ ⟨ow, J6.push (k1 rv)⟩
  · exact hh.elim
theorem de_meth {id : String} {i : Nat} {y name : Str} {h : List D → List D → Option (D × List D)} {e : Expr} {es : List Expr} {a : Sm (List D)} {p apos cpos : Pos} (M : MethD X id h) (slot : Slot "list" name id) (hty : typeOf (.builtin id) = pure (.type "method_descriptor")) (hv : PE X (.Name y p) (tVar i)) (ha : DA X W (e :: es) a)
    (hfew : ((backTo cpos (starEach (e :: es) X.env)).all (fun x => !x.1) && (backToKw cpos (keywordEach [] X.env)).all (fun x => x.1.isSome)
      && decide ((e :: es).length + ([] : List Keyword).length + (if ([] : List Keyword).isEmpty then 0 else 1) < 30)) = true := by rfl)
    (hbase : attributeBase (.Name y p) name X.env (eval (.Name y p) X.env) = eval (.Name y p) X.env := by rfl) (hline : (apos.endLine == cpos.line) = true := by rfl) (hs : starEach (e :: es) X.env = (false, eval e X.env) :: starEach es X.env := by rfl) (hplain : (backTo cpos (starEach es X.env)).any (·.1) = false := by rfl) :
    DE X W (.Call (.Attribute (.Name y p) name apos) (e :: es) [] cpos) (eMeth h i a) := by
  obtain ⟨r, hm, hr⟩ := M
  obtain ⟨t, pa, q⟩ := ha
  exact ⟨_, pe_bm PySem.F.plainAttrs_list slot hty hm hv pa hbase hfew hline hs hplain, meth_reads hr q⟩
theorem de_meth0 {id : String} {i : Nat} {y name : Str} {h : List D → List D → Option (D × List D)} {p apos cpos : Pos} (M : MethD X id h) (slot : Slot "list" name id) (hty : typeOf (.builtin id) = pure (.type "method_descriptor")) (hv : PE X (.Name y p) (tVar i))
    (hbase : attributeBase (.Name y p) name X.env (eval (.Name y p) X.env) = eval (.Name y p) X.env := by rfl) (hline : (apos.endLine == cpos.line) = true := by rfl) :
    DE X W (.Call (.Attribute (.Name y p) name apos) [] [] cpos) (eMeth h i aNil) := by
  obtain ⟨r, hm, hr⟩ := M
  refine ⟨_, pe_bm0 PySem.F.plainAttrs_list slot hty hm hv hbase hline, ?_⟩
  intro C H σ ε ps Q hK hM I hh
  have q0 : ReA X W tNil aNil := fun {C H σ ε ps Q} _ _ I h => h [] H rfl I
  exact meth_reads hr q0 hK hM I hh
def appendD : List D → List D → Option (D × List D)
  | [d], l => if l.length < sizeLine then some (.non, l ++ [d]) else none
  | _, _ => none
theorem m_append : MethD X "list.append" appendD := by
  refine ⟨_, mt_append, ?_⟩
  intro K E H p vs xs l ds d l' Q hp rl rx h q
  unfold appendD at h
  split at h
  · split at h
    · rename_i d hl
      cases h
      cases rx with
      | cons a t =>
        cases t
        exact ⟨p, vs, _, rfl, rfl, hp, by rw [rl.length]; exact hl, q _ _ .non (rl.app (.cons a .nil))⟩
    · cases h
  · cases h
def popD : List D → List D → Option (D × List D)
  | [], l => (l[l.length - 1]?).map fun d => (d, l.dropLast)
  | [.int i], l => if sm62 i = true then (seqIndex? i l.length).bind fun k => (l[k]?).map fun d => (d, l.eraseIdx k) else none
  | _, _ => none
theorem m_pop : MethD X "list.pop" popD := by
  have hm : MtR X "list.pop" (fun x xs H Q => rPop x xs H Q ∨ rPopAt x xs H Q) := MtR.or mt_pop mt_popAt
  refine ⟨_, hm, ?_⟩
  intro K E H p vs xs l ds d l' Q hp rl rx h q
  unfold popD at h
  split at h
  · obtain ⟨d, e, h⟩ := Option.map_eq_some_iff.mp h
    cases h
    cases rx
    obtain ⟨v, e1, r⟩ := rl.get e
    exact .inl ⟨p, vs, v, rfl, rfl, hp, by rw [rl.length]; exact e1, q _ _ r rl.dropLast⟩
  · split at h
    · rename_i i hb
      obtain ⟨k, e, h⟩ := Option.bind_eq_some_iff.mp h
      obtain ⟨d, e2, h⟩ := Option.map_eq_some_iff.mp h
      cases h
      cases rx with
      | cons a t =>
        cases t
        cases a
        obtain ⟨v, e1, r⟩ := rl.get e2
        have h62 := sm62_of hb
        exact .inr ⟨p, vs, i, k, v, rfl, rfl, hp, by omega, by omega, by rw [rl.length]; exact e, e1, q _ _ r (rl.erase k)⟩
    · cases h
  · cases h
/-- a module's constant -/
theorem de_globInt {x : Str} {i : Int} {t : Tok} {pos : Pos} (hg : Gl X x) (hm : X.mg x = some (.int i t)) (hd : (x == ("__debug__" : Str)) = false := by decide) : DE X W (.Name x pos) (eC (.int i)) := de_const (pe_glob (v := .int i) hg hm ⟨t, rfl⟩ hd) (.int i)
end
end DS

set_option Elab.async false
set_option linter.all false
set_option maxRecDepth 100000
set_option maxHeartbeats 4000000
namespace DS
open PySem PySem.Spec PyProof.Rows L2

/-! ### a def of the text as a function of data -/
def startE (io : Bool) (m : Nat) (ds : List D) : Env' := (match io with
  | false => ds.map SV.val
  | true => match ds with
    | .lst l :: r => .inn l :: r.map SV.val
    | ds => ds.map SV.val) ++ List.replicate (m - ds.length) .un
def ioOf (io : Bool) (ε : Env') : Option (List D) := match io with
  | false => some []
  | true => match (ε[0]? : Option SV) with
    | some (SV.inn o) => some o
    | _ => none
def finF (io : Bool) (r : Res) (ε : Env') : FOut := match ioOf io ε with
  | some o => .ok r o
  | none => .bad
def runF (m : Nat) (io : Bool) (body : Sm Fl) : Fn := fun ds => match body (startE io m ds) with
  | .ok .nx ε => finF io (.val .non) ε
  | .ok (.rt r) ε => finF io r ε
  | .ok .bk _ => .bad
  | .ok .ct _ => .bad
  | .err e ε => (match ioOf io ε with
    | some o => .err e o
    | none => .bad)
  | .bad => .bad
section
variable {C : Ct} {ow : Addr → Option Nat} {H : Hp} {σ : L2.St} {ε : Env'} {ps : List (V × Opd)}
theorem ret_ok {v : V} {r : Res} (I : EIw C ow H σ ε [(v, r.o)]) : ResOk C.K C.E0 C.H0 H v r ∧ ∀ {vs : List V} {ds : List D}, RpL C.K (Exc C ow) H vs ds → RpL C.K (exR C.E0 v r) H vs ds := by
  cases r with
  | val d => exact ⟨Rp.mono (fun a z => .inl (.inl z)) (fun _ _ _ e => e) I.pend.1, fun r => r.mono (fun a z => .inl (.inl z)) fun _ _ _ e => e⟩
  | own ds =>
    obtain ⟨p, us, rfl, h1, h2, h3, h4⟩ := I.pend.1
    have he : ∀ a, (C.E0 a ∨ V.ref p = V.ref a) → Exc C ow a ∨ H a = none := fun a z => by
      rcases z with z | z
      · exact .inl (.inl z)
      · cases z; exact .inl (.inr (by rw [h1]; exact fun z => by cases z))
    exact ⟨⟨p, us, rfl, h2, h3, h4.mono he fun _ _ _ e => e⟩, fun r => r.mono he fun _ _ _ e => e⟩
theorem io_ok {p : Addr} {o : List D} (I : EIw C ow H σ ε ps) (hp : C.io = some p) (h : ioOf true ε = some o) : ∃ us, H p = some (.lst us) ∧ RpL C.K (Exc C ow) H us o := by
  simp only [ioOf] at h
  split at h
  · rename_i o' e
    cases h
    have hi : 0 < σ.length := by rw [I.len]; exact (List.getElem?_eq_some_iff.mp e).1
    obtain ⟨q, us, e1, _, e2, e3, e4⟩ := I.slots 0 _ _ (List.getElem?_eq_getElem hi) e
    rw [hp] at e2
    cases e2
    exact ⟨us, e3, e4⟩
  · cases h
theorem slots_vals {K : PySem.W.Frag} {E : Addr → Prop} : ∀ {vs : List V} {ds : List D} {i : Nat} {x : Option V} {sv : SV} {m : Nat}, RpL K E H vs ds → (vs.map some ++ List.replicate m none)[i]? = some x → (ds.map SV.val ++ List.replicate m .un)[i]? = some sv → sv = .un ∨ ∃ v d, x = some v ∧ sv = .val d ∧ Rp K E H v d
  | [], [], i, x, sv, m, .nil, _, h2 => by
    simp only [List.map_nil, List.nil_append] at h2
    have := List.mem_of_getElem? h2
    exact .inl (List.eq_of_mem_replicate this)
  | v :: vs, d :: ds, 0, x, sv, m, .cons a _, h1, h2 => by
    simp at h1 h2
    exact .inr ⟨v, d, h1.symm, h2.symm, a⟩
  | v :: vs, d :: ds, i + 1, x, sv, m, .cons _ t, h1, h2 => slots_vals (i := i) t (by simpa using h1) (by simpa using h2)
end
section
variable {P : Program} {w : World} {K : PySem.W.Frag} {mg : Str → Option Value} {base : Heap}
theorem fn_D {x qual : Str} {st : Stmt} {f : Addr} {fd : FuncData} {N ps : List Str} {k n : Nat} {io : Bool} {body : Sm Fl} (F : Fun K x qual st f fd) (S : FnScope N ps (defScope st)) (hn : ps.length = n)
    (hb : ∀ (cdv : Value) (A : Around) (outer : List Env) (s : Shared) (H : Hp) (E : XK), RmG k (A.deeper (envOfC qual (defScope st) s.heap.objs.size f cdv)) →
      DSs (cxOf (L2.CX P w) P w K mg base N qual (defScope st) f cdv A outer s H E) (fun c d _ H' => E c d H') (defBody st) body) : FnG P w K mg base (k + 1) f fd ps (spD K mg n io (runF N.length io body)) := by
  refine fn_G F S (fun vs H Q E h => by rw [hn]; exact spD_len h) fun cdv A outer s H vs Q E hr h => ?_
  obtain ⟨t, p, q⟩ := hb cdv A outer s H E hr
  refine ⟨t, p, ?_⟩
  have hvl : vs.length = n := spD_len h
  have hNl : n ≤ N.length := by
    rw [← hn]
    have e : (N.take ps.length).length = ps.length := congrArg List.length S.pre
    rw [List.length_take] at e
    omega
  obtain ⟨ex, ds, hl, hex, h⟩ := h
  cases io with
  | false =>
    obtain ⟨rl, h⟩ := h
    let C : Ct := { K := K, mg := mg, E0 := ex, H0 := H, io := none }
    have I0 : EI C H (L2.start N vs) (startE false N.length ds) [] := by
      refine ⟨(fun _ => none : Addr → Option Nat), ?_, (fun a t e => nomatch e), fun a e => ⟨hex a e, hex a e⟩, (fun a e => nomatch e), fun a o _ e => e, fun i y sv e1 e2 => ?_, trivial⟩
      · simp [L2.start, startE, hvl, hl]
      · have rl' : RpL K (Exc C fun _ => none) H vs ds := rl.mono (fun a z => by
          rcases z with z | z
          · exact .inl z
          · exact absurd rfl z) fun _ _ _ e => e
        have e1 : (vs.map some ++ List.replicate (N.length - vs.length) none)[i]? = some y := e1
        have e2 : (ds.map SV.val ++ List.replicate (N.length - ds.length) .un)[i]? = some sv := e2
        rw [← rl.length] at e2
        rcases slots_vals rl' e1 e2 with e | ⟨v, d, e3, e4, r⟩
        · rw [e]; trivial
        · rw [e4]; exact ⟨v, e3, r⟩
    refine q (C := C) (ps := []) rfl rfl (fun v i m => by cases m) I0 ?_
    unfold runF at h
    cases hbo : body (startE false N.length ds) with
    | bad => rw [hbo] at h; exact h
    | err e ε =>
      rw [hbo] at h
      exact fun σ c d H' hx I => h c d H' (let ⟨ow, J⟩ := I; fun a o e => J.keep a o (fun z => nomatch z) e) hx
    | ok fl ε =>
      rw [hbo] at h
      cases fl with
      | bk => exact h.elim
      | ct => exact h.elim
      | nx => exact fun σ H' ⟨ow, J⟩ => h .non H' (fun a o e => J.keep a o (fun z => nomatch z) e) .non
      | rt r => exact fun v σ H' ⟨ow, J⟩ => h v H' (fun a o e => J.keep a o (fun z => nomatch z) e) (ret_ok J).1
  | true =>
    obtain ⟨p0, vr, l, dr, us, rfl, rfl, hp, hu, ru, rl, h⟩ := h
    let C : Ct := { K := K, mg := mg, E0 := ex, H0 := H, io := some p0 }
    let ow0 : Addr → Option Nat := fun a => if a = p0 then some 0 else none
    have exc : ∀ a, Exc C ow0 a → ex a ∨ H a = none := fun a z => by
      rcases z with z | z
      · exact .inl z
      · by_cases e : a = p0
        · rw [e]; exact .inl hp
        · exact absurd (if_neg e) z
    have I0 : EI C H (L2.start N (.ref p0 :: vr)) (startE true N.length (.lst l :: dr)) [] := by
      refine ⟨ow0, ?_, fun a t e => ?_, fun a e => ⟨hex a e, hex a e⟩, fun a e => by cases e; exact hp, fun a o _ e => e, fun i y sv e1 e2 => ?_, trivial⟩
      · simp at hvl hl
        simp [L2.start, startE, rl.length]
      · by_cases z : a = p0
        · subst z; exact ⟨⟨us, hu⟩, .inr rfl⟩
        · rw [show ow0 a = none from if_neg z] at e; cases e
      · have rl' : RpL K (Exc C ow0) H vr dr := rl.mono exc fun _ _ _ e => e
        cases i with
        | zero =>
          have e1 : some (some (V.ref p0)) = some y := e1
          have e2 : some (SV.inn l) = some sv := e2
          cases e1; cases e2
          exact ⟨p0, us, rfl, if_pos rfl, rfl, hu, ru.mono exc fun _ _ _ e => e⟩
        | succ i =>
          have e1 : (vr.map some ++ List.replicate (N.length - (vr.length + 1)) none)[i]? = some y := e1
          have e2 : (dr.map SV.val ++ List.replicate (N.length - (dr.length + 1)) .un)[i]? = some sv := e2
          rw [← rl.length] at e2
          rcases slots_vals rl' e1 e2 with e | ⟨v, d, e3, e4, r⟩
          · rw [e]; trivial
          · rw [e4]; exact ⟨v, e3, r⟩
    refine q (C := C) (ps := []) rfl rfl (fun v i m => by cases m) I0 ?_
    unfold runF at h
    have kp : ∀ {ow : Addr → Option Nat} {H' : Hp} {σ : L2.St} {ε : Env'} {ps : List (V × Opd)}, EIw C ow H' σ ε ps → ∀ a o, a ≠ p0 → H a = some o → H' a = some o := fun J a o n e => J.keep a o (fun z => n (Option.some.inj z).symm) e
    cases hbo : body (startE true N.length (.lst l :: dr)) with
    | bad => rw [hbo] at h; exact h
    | err e ε =>
      rw [hbo] at h
      intro σ c d H' hx ⟨ow, J⟩
      cases hio : ioOf true ε with
      | none => simp only [hio] at h
      | some o =>
        simp only [hio] at h
        obtain ⟨us', e1, e2⟩ := io_ok J rfl hio
        exact h c d H' us' (kp J) e1 (e2.mono (fun a z => .inl (.inl z)) fun _ _ _ e => e) hx
    | ok fl ε =>
      rw [hbo] at h
      cases fl with
      | bk => exact h.elim
      | ct => exact h.elim
      | nx =>
        intro σ H' ⟨ow, J⟩
        cases hio : ioOf true ε with
        | none => simp only [finF, hio] at h
        | some o =>
          simp only [finF, hio] at h
          obtain ⟨us', e1, e2⟩ := io_ok J rfl hio
          exact h .non H' us' (kp J) e1 (e2.mono (fun a z => .inl (.inl z)) fun _ _ _ e => e) .non
      | rt r =>
        intro v σ H' ⟨ow, J⟩
        cases hio : ioOf true ε with
        | none => simp only [finF, hio] at h
        | some o =>
          simp only [finF, hio] at h
          obtain ⟨us', e1, e2⟩ := io_ok J rfl hio
          obtain ⟨r1, r2⟩ := ret_ok J
          exact h v H' us' (kp J) e1 (r2 e2) r1
theorem cal_D {x qual : Str} {st : Stmt} {f : Addr} {fd : FuncData} {ps : List Str} {k n : Nat} {io : Bool} {F : Fn} (Fu : Fun K x qual st f fd) (hm : mg x = some (.ref f)) (hb : Binds K fd ps []) (h : FnG P w K mg base k f fd ps (spD K mg n io F)) : Cal P w K mg base k x n io F := ⟨f, fd, ps, h, hm, Fu.kp, hb⟩
end

/-! ### calls by name -/
/-- how keywords' values come to the parameters: for each parameter the place of its value among the written ones -/
def permV {α : Type} (z : α) (perm : List Nat) (l : List α) : List α := perm.map fun i => l.getD i z
section
variable {X : Cx} {W : WX}
theorem vals_perm {vs : List V} {us : List Value} (r : Vals vs us) : ∀ (perm : List Nat), Vals (permV .non perm vs) (permV .none perm us)
  | [] => .nil
  | i :: is => by
    refine .cons ?_ (vals_perm r is)
    show RelV (vs.getD i .non) (us.getD i .none)
    rw [List.getD_eq_getElem?_getD, List.getD_eq_getElem?_getD]
    cases hv : vs[i]? with
    | none =>
      rw [r.none_of hv]
      exact (rfl : Value.none = Value.none)
    | some v =>
      obtain ⟨u, e, ru⟩ := r.get hv
      rw [e]; exact ru
theorem rpl_perm {K : PySem.W.Frag} {E : Addr → Prop} {H : Hp} {vs : List V} {ds : List D} (r : RpL K E H vs ds) : ∀ (perm : List Nat), RpL K E H (permV .non perm vs) (permV .non perm ds)
  | [] => .nil
  | i :: is => by
    refine .cons ?_ (rpl_perm r is)
    show Rp K E H (vs.getD i .non) (ds.getD i .non)
    rw [List.getD_eq_getElem?_getD, List.getD_eq_getElem?_getD]
    cases hv : ds[i]? with
    | none =>
      have : vs[i]? = none := by
        rw [List.getElem?_eq_none_iff] at hv ⊢
        rw [r.length]; exact hv
      rw [this]; exact .non
    | some d =>
      obtain ⟨v, e, rv⟩ := r.get hv
      rw [e]; exact rv
/-- keywords' values, as data -/
structure DK (X : Cx) (W : WX) (kws : List Keyword) (f : Sm (List D)) : Prop where
  ex : ∃ t, PK X kws t ∧ ReA X W t f
theorem dk_nil : DK X W [] aNil := by
  refine ⟨_, pk_nil, ?_⟩
  intro C H σ ε ps Q hK hM I h
  exact h [] H rfl I
theorem dk_cons {e : Expr} {kws : List Keyword} {f : Sm Opd} {r : Sm (List D)} {nm : Option Str} {kpos : Pos} (h : DE X W e f) (h' : DK X W kws r) : DK X W (⟨nm, e, kpos⟩ :: kws) (aCons f r) := by
  obtain ⟨t, p, q⟩ := h
  obtain ⟨t', p', q'⟩ := h'
  refine ⟨_, pk_cons p p', ?_⟩
  intro C H σ ε ps Q hK hM I h
  refine q hK hM I (Out.post.mono (post_bnd (post_bnd h)) (fun o ε1 h1 x H1 I1 => ?_) fun _ _ z => z)
  obtain ⟨d, ε2, e, h2⟩ := toVal_post h1
  refine q' hK hM (I1.freeze e) (Out.post.mono (post_bnd h2) (fun ds ε3 h3 xs H3 hl I3 => ?_) fun _ _ z => z)
  exact h3 (x :: xs) H3 (by simp [hl]) I3
def eCallK (F : Fn) (perm : List Nat) (a : Sm (List D)) : Sm Opd := eCall (fun ds => F (permV .non perm ds)) a
def tPermK (sp : Sp) (n : Nat) (perm : List Nat) (E : L2.St → XK) (tk : TA) : TE := fun σ H Q => tk σ H fun zs H2 => zs.length = n ∧ sp (permV .non perm zs) H2 Q (E σ)
/-- f(k = v, ..) -/
theorem pe_permK {k : Nat} {f : Addr} {fd : FuncData} {ps ks : List Str} {sp : Sp} {perm : List Nat} {x : Str} {p pos : Pos} {kws : List Keyword} {tk : TA} {E : L2.St → XK} (F : FnG X.prog X.w X.K X.mg X.base k f fd ps sp) (hr : RmG k X.A) (hg : Gl X x) (hm : X.mg x = some (.ref f)) (hk : PySem.W.keepIn X.K (.ref f) = true)
    (hb : ∀ (us : List Value), us.length = ks.length → bindArgs fd ⟨[], ks.zip us⟩ = pure (ps.zip (permV .none perm us))) (hx : ∀ σ, PassesAt (L2.CX X.prog X.w) X σ (E σ)) (hkw : PK X kws tk)
    (hall : (backToKw pos (keywordEach kws X.env)).all (·.1.isSome) = true := by rfl) (hks : (backToKw pos (keywordEach kws X.env)).filterMap (·.1) = ks := by rfl)
    (hdb : (x == ("__debug__" : Str)) = false := by decide) (hpl : ((backTo pos (starEach [] X.env)).any (·.1) || (backToKw pos (keywordEach kws X.env)).any (·.1.isNone)) = false := by rfl) :
    PE X (.Call (.Name x p) [] kws pos) (tPermK sp ks.length perm E tk) := by
  refine ⟨fun pins s σ H Q I h => wpAny_Call_Name_kw (ld_glob I hg hm ?_ hdb)⟩
  refine PySem.W.callWith_KW0 (h₀ := X.base) I.ok.mod.kin hk hall (thn (hkw.run pos pins s σ H _ I h) fun ws s2 ⟨zs, H2, I2, rz, hz, q2⟩ => ⟨I2.kIn, ?_⟩) hpl
  rw [hks]
  have r2 := vals_perm rz perm
  have b := hb ws (by rw [← rz.length, hz])
  refine wpAny_call (codeAny_mono (F.run X.A X.stack s2 H2 ⟨[] ++ [], ks.zip ws⟩ (permV .none perm ws) (permV .non perm zs) Q (E σ) hr I2.env0 (BindsTo.of_eq b) r2 q2) fun r s' hq => ?_)
  cases r with
  | error e => exact hx σ pins H2 s2 e s' I2 hq
  | ok fl =>
    cases fl with
    | ret u => exact I2.after hq
    | next => exact False.elim hq
    | brk => exact False.elim hq
    | cont => exact False.elim hq
structure CalK (P : Program) (w : World) (K : PySem.W.Frag) (mg : Str → Option Value) (base : Heap) (k : Nat) (x : Str) (n : Nat) (F : Fn) (ks : List Str) (perm : List Nat) : Prop where
  ex : ∃ f fd ps, FnG P w K mg base k f fd ps (spD K mg n false F) ∧ mg x = some (.ref f) ∧ PySem.W.keepIn K (.ref f) = true ∧
    ∀ (us : List Value), us.length = ks.length → bindArgs fd ⟨[], ks.zip us⟩ = pure (ps.zip (permV .none perm us))
theorem callK_reads {K : PySem.W.Frag} {mg : Str → Option Value} {n m : Nat} {F : Fn} {perm : List Nat} {t : TA} {a : Sm (List D)} (hK : X.K = K) (hM : X.mg = mg) (hp : perm.length = n) (hn : ∀ ε ds ε', a ε = .ok ds ε' → ds.length = m) (q : ReA X W t a) : ReE X W (tPermK (spD K mg n false F) m perm (WE W) t) (eCallK F perm a) := by
  subst hK hM
  intro C H σ ε ps Q hK hM I h
  refine q hK hM I ?_
  have h := post_bnd h
  cases ha : a ε with
  | bad => rw [ha] at h; exact h
  | err e ε' => rw [ha] at h; exact h
  | ok ds ε1 =>
    rw [ha] at h
    intro xs H1 hl I1
    obtain ⟨ow, I1⟩ := I1
    obtain ⟨r, J⟩ := stk_rp hl I1
    have hl2 := hn ε ds ε1 ha
    refine ⟨by rw [hl, hl2], Exc C ow, permV .non perm ds, by simp [permV, hp], J.excNe, by rw [← hK]; exact rpl_perm r perm, ?_⟩
    cases hF : F (permV .non perm ds) with
    | bad => simp only [Out.post, hF] at h
    | ok res o =>
      simp only [Out.post, hF] at h
      exact fun v H' hk hr => h v H' (J.back hk (by rw [hK]; exact hr))
    | err e o =>
      simp only [Out.post, hF] at h
      intro c d H' hk hx
      obtain ⟨J', _, _⟩ := J.grow (ow' := ow) hk fun a z => absurd rfl z
      exact h c d H' (exK_of (ex := Exc C ow) (fun a z => .inl z) (by rw [hK, hM]; exact hx)) (EI.nil ⟨ow, J'⟩)
theorem de_callK {k n j : Nat} {x : Str} {p pos : Pos} {kws : List Keyword} {F : Fn} {ks : List Str} {perm : List Nat} {a : Sm (List D)} (c : CalK X.prog X.w X.K X.mg X.base k x n F ks perm) (hr : RmG j X.A) (hj : k ≤ j) (tk : Takes X W) (hg : Gl X x) (hp : perm.length = n) (ha : DK X W kws a) (hn : ∀ ε ds ε', a ε = .ok ds ε' → ds.length = ks.length)
    (hall : (backToKw pos (keywordEach kws X.env)).all (·.1.isSome) = true := by rfl) (hks : (backToKw pos (keywordEach kws X.env)).filterMap (·.1) = ks := by rfl)
    (hdb : (x == ("__debug__" : Str)) = false := by decide) (hpl : ((backTo pos (starEach [] X.env)).any (·.1) || (backToKw pos (keywordEach kws X.env)).any (·.1.isNone)) = false := by rfl) :
    DE X W (.Call (.Name x p) [] kws pos) (eCallK F perm a) := by
  obtain ⟨f, fd, ps, h1, h2, h3, h4⟩ := c
  obtain ⟨t, pa, q⟩ := ha
  exact ⟨_, pe_permK h1 (hr.mono hj) hg h2 h3 h4 (fun σ => passAt tk σ) pa hall hks hdb hpl, callK_reads rfl rfl hp hn q⟩
end

/-! ### the law -/
/-- the script in hand, the law's promise -/
def spLaw (K : PySem.W.Frag) : Sp := fun vs H Q _ => ∃ (a : Addr) (ns : List Int), vs = [.ref a] ∧ SqL K H a (ns.map V.int) ∧ Only H ∧ ns.length ≤ 63 ∧ (∀ z ∈ ns, Builtin.Int.intBits z ≤ 1048576) ∧ ∀ H', Q (.bl true) H'
theorem law_sp {K : PySem.W.Frag} {mg : Str → Option Value} {F : Fn} (h : ∀ ns : List Int, ns.length ≤ 63 → (∀ z ∈ ns, Builtin.Int.intBits z ≤ 1048576) → F [.fix (ns.map D.int)] = .ok (.val (.bl true)) []) : ∀ vs H Q E, spLaw K vs H Q E → spD K mg 1 false F vs H Q E := by
  rintro vs H Q E ⟨a, ns, rfl, hS, hO, hl, hb, q⟩
  refine ⟨fun _ => False, [.fix (ns.map D.int)], rfl, fun a z => z.elim, .cons (.fix ?_ (RpL.ofInts ns)) .nil, ?_⟩
  · rcases hS with hS | hS
    · rcases hS with hS | ⟨o, hS⟩
      · rcases hO a with z | ⟨o, xs, z⟩ <;> (rw [hS] at z; cases z)
      · exact .inl ⟨fun z => z, o, hS⟩
    · exact .inr fun G => .inr hS
  · rw [h ns hl hb]
    intro v H' _ hr
    have hr' : Rp K (fun _ => False) H' v (.bl true) := hr
    cases hr'
    exact q H'
end DS

set_option Elab.async false
set_option linter.all false
set_option maxRecDepth 100000
set_option maxHeartbeats 4000000
namespace DS
open PySem PySem.Spec PyProof.Rows L2
section
variable {X : Cx} {W : WX}
/-! ### several names at once -/
def putsR : List Nat → List Opd → Env' → Option Env'
  | i :: is, o :: os, ε => match putsR is os ε with
    | some ε1 => putO i o ε1
    | none => none
  | [], [], ε => some ε
  | _, _, _ => none
def setAll (σ : L2.St) : List Nat → List V → L2.St
  | i :: is, x :: xs => setAll (σ.set i (some x)) is xs
  | _, _ => σ
theorem setAll_comm {i : Nat} {y : Option V} : ∀ {is : List Nat} {xs : List V} {σ : L2.St}, i ∉ is → (setAll σ is xs).set i y = setAll (σ.set i y) is xs
  | [], _, _, _ => rfl
  | _ :: _, [], _, _ => rfl
  | k :: is, x :: xs, σ, h => by
    rw [List.mem_cons, not_or] at h
    show (setAll (σ.set k (some x)) is xs).set i y = setAll ((σ.set i y).set k (some x)) is xs
    rw [setAll_comm h.2, List.set_comm _ _ (Ne.symm h.1)]
theorem puts_ok {C : Ct} {H : Hp} {σ : L2.St} : ∀ {os : List Opd} {xs : List V} {is : List Nat} {ε ε' : Env'} {ps : List (V × Opd)}, Solid ps → is.Nodup → xs.length = os.length → os.all noPlc = true → EI C H σ ε (stk xs os ps) → putsR is os ε = some ε' → EI C H (setAll σ is xs) ε' ps ∧ is.length = xs.length
  | [], [], [], _, _, _, _, _, _, _, I, e => by cases e; exact ⟨I, rfl⟩
  | [], [], _ :: _, _, _, _, _, _, _, _, _, e => by simp [putsR] at e
  | [], _ :: _, _, _, _, _, _, _, h, _, _, _ => by simp at h
  | _ :: _, [], _, _, _, _, _, _, h, _, _, _ => by simp at h
  | _ :: _, _ :: _, [], _, _, _, _, _, _, _, _, e => by simp [putsR] at e
  | o :: os, x :: xs, i :: is, ε, ε', ps, hs, hn, hl, ha, I, e => by
    rw [List.all_cons, Bool.and_eq_true] at ha
    obtain ⟨hi, hn⟩ := List.nodup_cons.mp hn
    simp only [putsR] at e
    split at e
    · rename_i ε1 e1
      have hs' : Solid ((x, o) :: ps) := fun v k m => by
        rcases List.mem_cons.mp m with z | m
        · cases z; exact absurd ha.1 (by simp [noPlc])
        · exact hs v k m
      obtain ⟨J, jl⟩ := puts_ok (os := os) (xs := xs) (is := is) hs' hn (by simpa using hl) ha.2 I e1
      refine ⟨?_, by simp [jl]⟩
      show EI C H (setAll (σ.set i (some x)) is xs) ε' ps
      rw [← setAll_comm hi]
      exact J.put hs.free e
    · cases e
def sPars (is : List Nat) (f : Sm (List Opd)) : Sm Fl := bnd f fun os ε => match putsR is os ε with
  | some ε' => .ok .nx ε'
  | none => .bad
theorem ds_pars {i j : Nat} {x y : Str} {a b : Expr} {f : Sm (List Opd)} {px py pt pos : Pos} {kt k2 pt2} (hc : X.calm = true) (hN : X.N.Nodup) (hi : X.N[i]? = some x) (hj : X.N[j]? = some y) (hij : i ≠ j)
    (hx : X.env.scope.names.lookup x = some .local) (hy : X.env.scope.names.lookup y = some .local) (ha : DN X W [a, b] f)
    (hw : swappedStores [.Tuple [.Name x px, .Name y py] kt pt] (.Tuple [a, b] k2 pt2) X.env = pure (some [x, y]))
    (hs : swapsWithSole [.Tuple [.Name x px, .Name y py] kt pt] (.Tuple [a, b] k2 pt2) pos.line X.env = pure false := by rfl) :
    DSt X W (.Assign [.Tuple [.Name x px, .Name y py] kt pt] (.Tuple [a, b] k2 pt2) pos) (sPars [i, j] f) := by
  obtain ⟨t, p, q⟩ := ha
  refine ⟨_, ps_par hc hN hi hj hij hx hy p hw hs, ?_⟩
  intro C H σ ε ps D hK hM hs I h
  refine q hK hM I (Out.post.mono (post_bnd h) (fun os ε1 h1 xs H1 hl hal I1 => ?_) fun _ _ z => z.w)
  obtain ⟨ε2, e2, h2⟩ := put_post h1
  obtain ⟨J, jl⟩ := puts_ok hs (by simpa using hij) hl hal I1 e2
  match xs, jl with
  | [v, w], _ => exact ⟨v, w, rfl, h2 _ H1 J⟩
/-- names as targets, each at its slot -/
structure DNs (X : Cx) (is : List Nat) (tgs : List Expr) : Prop where
  ex : ∃ t, PGs X tgs t ∧ ∀ {σ : L2.St} {H : Hp} {xs : List V} {Q : L2.St → Hp → Prop}, is.length = xs.length → Q (setAll σ is xs) H → t xs σ H Q
theorem dns_nil : DNs X [] [] := by
  refine ⟨_, pgs_nil, ?_⟩
  intro σ H xs Q hl h
  match xs, hl with
  | [], _ => exact ⟨rfl, h⟩
theorem dns_cons {i : Nat} {is : List Nat} {x : Str} {pos : Pos} {es : List Expr} (hN : X.N.Nodup) (hi : X.N[i]? = some x) (hx : Loc X.env.scope x) (h : DNs X is es) (hf : X.fn x = true ∨ X.env.scope.names.lookup x = some .local := by first | exact .inl rfl | exact .inr rfl | assumption)
    (hs : (assignEach (.Name x pos :: es) X.env).map (·.2) = assign (.Name x pos) X.env :: (assignEach es X.env).map (·.2) := by rfl) : DNs X (i :: is) (.Name x pos :: es) := by
  obtain ⟨t, p, q⟩ := h
  refine ⟨_, pgs_cons (pg_name hN hi hx hf) p hs, ?_⟩
  intro σ H xs Q hl h
  match xs, hl with
  | y :: xs, hl => exact ⟨y, xs, rfl, q (by simpa using hl) h⟩
/-- a, b, .. = x, y, ..: the pair is made and taken apart -/
theorem ds_tups {is : List Nat} {tgs es : List Expr} {k k2 n : Nat} {tpos epos pos : Pos} {f : Sm (List Opd)} (hc : X.calm = true) (ha : DN X W es f) (hg : DNs X is tgs) (hnd : is.Nodup) (hlen : is.length ≤ 1000)
    (hs : swapsWithSole [.Tuple tgs k tpos] (.Tuple es k2 epos) pos.line X.env = pure false := by rfl) (hw : swappedStores [.Tuple tgs k tpos] (.Tuple es k2 epos) X.env = pure none := by rfl)
    (h1 : (assignEach [.Tuple tgs k tpos] X.env).map (·.2) = [assign (.Tuple tgs k tpos) X.env] := by rfl) (hn : (assignEach tgs X.env).length = n := by rfl) (hst : (assignEach tgs X.env).findIdx? (·.1) = none := by rfl) (hn2 : is.length = n := by rfl) :
    DSt X W (.Assign [.Tuple tgs k tpos] (.Tuple es k2 epos) pos) (sPars is f) := by
  obtain ⟨t, p, q⟩ := ha
  obtain ⟨tg, pg, qg⟩ := hg
  refine ⟨_, ps_asg (pe_tup p) (pg_tup hc pg hn hst) hs hw h1, ?_⟩
  intro C H σ ε ps D hK hM hs I h
  refine q hK hM I (Out.post.mono (post_bnd h) (fun os ε1 h1 xs H1 hl hal I1 => ?_) fun _ _ z => z.w)
  obtain ⟨ε2, e2, h2⟩ := put_post h1
  obtain ⟨J, jl⟩ := puts_ok hs hnd hl hal I1 e2
  refine ⟨Nat.le_of_lt (small1000 (by omega)), fun c hc => ⟨c, xs, rfl, .of upd_same, by rw [← jl]; exact hn2, qg jl (h2 _ _ ?_)⟩⟩
  obtain ⟨ow, J⟩ := J
  exact ⟨ow, (J.laid hc).1⟩

end
end DS

set_option Elab.async false
set_option linter.all false
set_option maxRecDepth 100000
set_option maxHeartbeats 4000000
namespace DS
open PySem PySem.Spec PyProof.Rows L2

/-! ### repr -/
section
variable {X : Cx} {W : WX}
theorem call_repr_seq (gd : X.A.guards = some []) (hu : X.A.units + 64 < cLine) : CallR X (.builtin "repr") (fun xs H Q => ∃ a d, xs = [.ref a] ∧ Dp X.K H (.ref a) d ∧ d.showable = true ∧ d.hasDict = false ∧ d.depth ≤ 60 ∧ d.shown.length ≤ sizeLine ∧ Q (.str d.shown) H) := by
  rintro pins s σ H xs us Q I r ⟨a, d, rfl, h1, h2, h3, h4, h5, q⟩
  obtain ⟨u, rfl, rx⟩ := vals1 r
  obtain ⟨as, rd⟩ := Dp.reads I d (.ref a) u h1 rx
  cases rx
  exact repr_of_reads' rd h2 (PyData.noDict_hsm h3) gd (by omega) (fun _ _ e => e) (fun h' u tk k => ⟨.str d.shown, H, I.kept k, ⟨u, rfl⟩, q⟩) h5
mutual
theorem noDict : ∀ d : D, (toPy d).hasDict = false
  | .non => by simp only [toPy, PyData.hasDict]
  | .bl _ => by simp only [toPy, PyData.hasDict]
  | .int _ => by simp only [toPy, PyData.hasDict]
  | .str _ => by simp only [toPy, PyData.hasDict]
  | .lst xs => by simp only [toPy, PyData.hasDict]; exact noDictL xs
  | .tup xs => by simp only [toPy, PyData.hasDict]; exact noDictL xs
  | .fix xs => by simp only [toPy, PyData.hasDict]; exact noDictL xs
theorem noDictL : ∀ ds : List D, PyData.hasDictAll (toPyL ds) = false
  | [] => by simp only [toPyL, PyData.hasDictAll]
  | d :: ds => by simp only [toPyL, PyData.hasDictAll]; rw [noDict d, noDictL ds]; rfl
end
def isSeqD : D → Bool
  | .lst _ => true
  | .tup _ => true
  | .fix _ => true
  | _ => false
def shownD (d : D) : Str := (toPy d).shown
def reprOk (d : D) : Bool := (toPy d).showable && decide ((toPy d).depth ≤ 60) && decide ((shownD d).length ≤ sizeLine)
def reprD : List D → Option Opd
  | [.int i] => if i.natAbs.log2 < 1920 then some (.tmp (.str (toString i))) else none
  | [d] => if (isSeqD d && reprOk d) = true then some (.tmp (.str (shownD d))) else none
  | _ => none
theorem b_repr {j : Nat} (hr : RmG j X.A) : CallD X (.builtin "repr") reprD := by
  refine ⟨_, SkE.call_repr_int.or (call_repr_seq hr.gd hr.units), ?_⟩
  intro C ow H σ ε ps xs ds z Q hK I rl h q
  unfold reprD at h
  split at h
  · split at h
    · cases h
      obtain ⟨x, rfl, r⟩ := rl.one
      cases r.int
      exact .inl ⟨_, rfl, by assumption, q _ H ⟨ow, I.push (.str _)⟩⟩
    · cases h
  · rename_i d _
    split at h
    · rename_i hc
      cases h
      rw [Bool.and_eq_true] at hc
      obtain ⟨h1, h2⟩ := hc
      simp only [reprOk, Bool.and_eq_true, decide_eq_true_eq] at h2
      obtain ⟨⟨h3, h4⟩, h5⟩ := h2
      obtain ⟨x, rfl, r⟩ := rl.one
      have rp := r.dp
      have hx : ∃ a, x = .ref a := by
        revert h1
        cases d with
        | lst _ => intro _; obtain ⟨p, vs, e, _⟩ := r.list; exact ⟨p, e⟩
        | tup _ => intro _; obtain ⟨p, vs, e, _⟩ := r.tuple; exact ⟨p, e⟩
        | fix _ => intro _; obtain ⟨p, vs, e, _⟩ := r.fix; exact ⟨p, e⟩
        | non => intro z; cases z
        | bl _ => intro z; cases z
        | int _ => intro z; cases z
        | str _ => intro z; cases z
      obtain ⟨a, rfl⟩ := hx
      exact .inr ⟨a, _, rfl, by rw [← hK]; exact rp, h3, noDict d, h4, h5, q _ H ⟨ow, I.push (.str _)⟩⟩
    · cases h
  · cases h
end
end DS

set_option Elab.async false
set_option linter.all false
set_option maxRecDepth 100000
set_option maxHeartbeats 4000000
namespace DS
open PySem

/-! ### evaluating -/
theorem ite_ap {α β : Type} {c : Prop} [Decidable c] (f g : α → β) (x : α) : (if c then f else g) x = if c then f x else g x := by split <;> rfl
theorem ite_b {α : Type} (b : Bool) (x y : α) : (if b = true then x else y) = bif b then x else y := by cases b <;> rfl
def iL (ns : List Int) : List D := ns.map D.int
theorem iL_len (ns : List Int) : (iL ns).length = ns.length := by simp [iL]
theorem iL_nil : iL [] = [] := rfl
theorem iL_cons (n : Int) (ns : List Int) : iL (n :: ns) = .int n :: iL ns := rfl
theorem iL_app (a b : List Int) : iL (a ++ b) = iL a ++ iL b := by simp [iL]
theorem iL_get (ns : List Int) (i : Nat) : (iL ns)[i]? = ns[i]?.map D.int := by simp [iL]
theorem iL_drop (ns : List Int) (i : Nat) : (iL ns).drop i = iL (ns.drop i) := by simp [iL, List.map_drop]
theorem iL_take (ns : List Int) (i : Nat) : (iL ns).take i = iL (ns.take i) := by simp [iL, List.map_take]
theorem intsOf_iL (ns : List Int) : intsOf (iL ns) = some ns := intsOf_of ns
theorem iL_inj {a b : List Int} (h : iL a = iL b) : a = b := by
  have := congrArg intsOf h
  rw [intsOf_iL, intsOf_iL] at this
  exact Option.some.inj this
theorem atI_at {α : Type} (xs : List α) (k : Nat) : L2.atI xs (k : Int) = xs[k]? := by
  unfold L2.atI L2.ixN
  rw [if_pos (by omega)]
  by_cases h : k < xs.length
  · rw [if_pos (by omega)]; simp
  · rw [if_neg (by omega)]
    simp only [Option.bind_none]
    rw [List.getElem?_eq_none (by omega)]
theorem atI_z {α : Type} (xs : List α) : L2.atI xs 0 = xs[0]? := atI_at xs 0
theorem atI_1 {α : Type} (xs : List α) : L2.atI xs 1 = xs[1]? := atI_at xs 1
theorem atI_2 {α : Type} (xs : List α) : L2.atI xs 2 = xs[2]? := atI_at xs 2
theorem atI_3 {α : Type} (xs : List α) : L2.atI xs 3 = xs[3]? := atI_at xs 3
theorem atI_nn {α : Type} (xs : List α) {i : Int} (h : 0 ≤ i) : L2.atI xs i = xs[i.toNat]? := by
  obtain ⟨k, rfl⟩ := Int.eq_ofNat_of_zero_le h
  exact atI_at xs k
theorem atI_m1 {α : Type} (xs : List α) : L2.atI xs (-1) = xs.getLast? := by
  unfold L2.atI L2.ixN
  rw [if_neg (by omega)]
  cases xs with
  | nil => rfl
  | cons x r =>
    rw [if_pos (by simp only [List.length_cons]; omega), Option.bind_some, List.getLast?_eq_getElem?]
    congr 1
    simp only [List.length_cons]
    omega
theorem nab10 : Int.natAbs 10 = 10 := rfl
theorem nab2 : Int.natAbs 2 = 2 := rfl
theorem ixN30 : L2.ixN 3 0 = some 0 := rfl
theorem ixN31 : L2.ixN 3 1 = some 1 := rfl
theorem ixN32 : L2.ixN 3 2 = some 2 := rfl
theorem sIx_n (n d k : Nat) : HT.sIx n d (some (k : Int)) = min k n := HT.sIx_nat n d k
theorem sIx_nn {n d : Nat} {i : Int} (h : 0 ≤ i) : HT.sIx n d (some i) = min i.toNat n := by
  obtain ⟨k, rfl⟩ := Int.eq_ofNat_of_zero_le h
  exact sIx_n n d k
theorem cut_from (xs : List D) {i : Int} (h : 0 ≤ i) : cutD xs (some i) none = xs.drop i.toNat := by
  unfold cutD
  rw [sIx_nn h, HT.sIx_none, List.take_of_length_le (by rw [List.length_drop]; omega)]
  by_cases hl : i.toNat ≤ xs.length
  · rw [Nat.min_eq_left hl]
  · rw [Nat.min_eq_right (by omega), List.drop_of_length_le (Nat.le_refl _), List.drop_of_length_le (by omega)]
theorem cut_to (xs : List D) {i : Int} (h : 0 ≤ i) : cutD xs none (some i) = xs.take i.toNat := by
  unfold cutD
  rw [sIx_nn h, HT.sIx_none, List.drop_zero]
  by_cases hl : i.toNat ≤ xs.length
  · rw [Nat.min_eq_left hl, Nat.sub_zero]
  · rw [Nat.min_eq_right (by omega), Nat.sub_zero, List.take_of_length_le (Nat.le_refl _), List.take_of_length_le (by omega)]
theorem cut_all (xs : List D) : cutD xs none none = xs := by
  unfold cutD
  rw [HT.sIx_none, HT.sIx_none, List.drop_zero, Nat.sub_zero, List.take_of_length_le (Nat.le_refl _)]
theorem cut_between (xs : List D) {i j : Int} (h : 0 ≤ i) (h2 : i ≤ j) : cutD xs (some i) (some j) = (xs.drop i.toNat).take (j.toNat - i.toNat) := by
  unfold cutD
  rw [sIx_nn h, sIx_nn (by omega)]
  by_cases hl : i.toNat ≤ xs.length
  · rw [Nat.min_eq_left hl]
    by_cases hj : j.toNat ≤ xs.length
    · rw [Nat.min_eq_left hj]
    · rw [Nat.min_eq_right (by omega), List.take_of_length_le (by rw [List.length_drop]; omega), List.take_of_length_le (by rw [List.length_drop]; omega)]
  · rw [List.drop_of_length_le (i := min i.toNat xs.length) (by omega), List.drop_of_length_le (i := i.toNat) (by omega)]
    simp
def pr (p : Int × Int) : D := .tup [.int p.1, .int p.2]
theorem zipL_iL : ∀ (a b : List Int), zipL (iL a) (iL b) = (List.zip a b).map pr
  | [], b => by simp [iL, zipL]
  | x :: xs, [] => by simp [iL, zipL]
  | x :: xs, y :: ys => by
    rw [iL_cons, iL_cons, zipL, zipL_iL xs ys]
    rfl
def npr (p : Int × Nat) : D := .tup [.int (p.2 : Int), .int p.1]
theorem enumL_iL : ∀ (k : Nat) (a : List Int), enumL k (iL a) = (a.zipIdx k).map npr
  | k, [] => rfl
  | k, x :: xs => by
    rw [iL_cons, enumL, enumL_iL (k + 1) xs]
    rfl
theorem rangeL0 (n : Nat) : rangeL 0 n = (List.range n).map fun (i : Nat) => D.int (i : Int) := by
  unfold rangeL
  apply List.map_congr_left
  intro i _
  rw [Int.zero_add]

theorem listOf_lst (xs : List D) : listOf (.lst xs) = some xs := rfl
theorem listOf_tup (xs : List D) : listOf (.tup xs) = some xs := rfl
theorem listOf_fix (xs : List D) : listOf (.fix xs) = some xs := rfl
/-- slots that may be stored to -/
def nI : SV → Bool
  | .inn _ => false
  | _ => true
theorem nI_un : nI .un = true := rfl
theorem nI_val (d : D) : nI (.val d) = true := rfl
theorem nI_own (d : List D) : nI (.own d) = true := rfl
theorem nI_inn (d : List D) : nI (.inn d) = false := rfl
theorem setOk_z (s : SV) (r : Env') : setOk (s :: r) 0 = nI s := by cases s <;> rfl
theorem setOk_s (s : SV) (r : Env') (i : Nat) : setOk (s :: r) (i + 1) = setOk r i := rfl

/-! ### equality -/
theorem canLay_iL : ∀ ns : List Int, PyData.canLayAll0 (toPyL (iL ns)) = true
  | [] => by simp only [iL_nil, toPyL, PyData.canLayAll0]
  | n :: r => by simp only [iL_cons, toPyL, toPy, PyData.canLayAll0, PyData.canLay0, canLay_iL r]; rfl
theorem depth_iL : ∀ ns : List Int, PyData.depthAll (toPyL (iL ns)) = 0
  | [] => by simp only [iL_nil, toPyL, PyData.depthAll]
  | n :: r => by simp only [iL_cons, toPyL, toPy, PyData.depthAll, PyData.depth, depth_iL r]; rfl
theorem eqv_iL : ∀ a b : List Int, PyData.eqvAll (toPyL (iL a)) (toPyL (iL b)) = decide (a = b)
  | [], [] => by simp [iL_nil, toPyL, PyData.eqvAll]
  | [], y :: ys => by simp [iL_nil, iL_cons, toPyL, PyData.eqvAll]
  | x :: xs, [] => by simp [iL_nil, iL_cons, toPyL, PyData.eqvAll]
  | x :: xs, y :: ys => by
    simp only [iL_cons, toPyL, toPy, PyData.eqvAll, PyData.eqv, eqv_iL xs ys]
    by_cases h : x = y <;> by_cases h2 : xs = ys <;> simp [h, h2]
theorem shaped_int (i : Int) : SeqAt.shaped (toPy (.int i)) = true := by
  unfold SeqAt.shaped
  simp only [toPy, PyData.canLay0, PyData.depth]
  rfl
theorem shaped_lst (ns : List Int) : SeqAt.shaped (toPy (.lst (iL ns))) = true := by
  unfold SeqAt.shaped
  simp only [toPy, PyData.canLay0, PyData.depth, canLay_iL, depth_iL]
  rfl
theorem shaped_tup (ns : List Int) : SeqAt.shaped (toPy (.tup (iL ns))) = true := by
  unfold SeqAt.shaped
  simp only [toPy, PyData.canLay0, PyData.depth, canLay_iL, depth_iL]
  rfl
theorem eqD_int (i j : Int) : eqD (.int i) (.int j) = some (.tmp (.bl (decide (i = j)))) := by
  unfold eqD
  dsimp only
  rw [shaped_int, shaped_int]
  simp only [Bool.and_self, if_true, toPy, PyData.eqv]
  congr 3
theorem neD_int (i j : Int) : neD (.int i) (.int j) = some (.tmp (.bl (!decide (i = j)))) := by
  unfold neD
  dsimp only
  rw [shaped_int, shaped_int]
  simp only [Bool.and_self, if_true, toPy, PyData.eqv]
  congr 3
theorem eqD_iL (a b : List Int) : eqD (.lst (iL a)) (.lst (iL b)) = some (.tmp (.bl (decide (a = b)))) := by
  unfold eqD
  dsimp only
  rw [shaped_lst, shaped_lst]
  simp only [Bool.and_self, if_true, toPy, PyData.eqv, eqv_iL]
theorem neD_iL (a b : List Int) : neD (.lst (iL a)) (.lst (iL b)) = some (.tmp (.bl (!decide (a = b)))) := by
  unfold neD
  dsimp only
  rw [shaped_lst, shaped_lst]
  simp only [Bool.and_self, if_true, toPy, PyData.eqv, eqv_iL]
theorem eqD_tups (a b : List Int) : eqD (.tup (iL a)) (.tup (iL b)) = some (.tmp (.bl (decide (a = b)))) := by
  unfold eqD
  dsimp only
  rw [shaped_tup, shaped_tup]
  simp only [Bool.and_self, if_true, toPy, PyData.eqv, eqv_iL]
theorem neD_tups (a b : List Int) : neD (.tup (iL a)) (.tup (iL b)) = some (.tmp (.bl (!decide (a = b)))) := by
  unfold neD
  dsimp only
  rw [shaped_tup, shaped_tup]
  simp only [Bool.and_self, if_true, toPy, PyData.eqv, eqv_iL]
theorem eqD_nil (a : List Int) : eqD (.lst (iL a)) (.lst []) = some (.tmp (.bl (decide (a = [])))) := eqD_iL a []
theorem neD_nil (a : List Int) : neD (.lst (iL a)) (.lst []) = some (.tmp (.bl (!decide (a = [])))) := neD_iL a []
theorem eqD_str (a b : Str) : eqD (.str a) (.str b) = some (.tmp (.bl (decide (a = b)))) := rfl
theorem neD_str (a b : Str) : neD (.str a) (.str b) = some (.tmp (.bl (!decide (a = b)))) := rfl

/-! ### factors -/
theorem mulOk_of {i j : Int} {a b : Nat} (h1 : i.natAbs < 2 ^ a) (h2 : j.natAbs < 2 ^ b) (h : a + b ≤ 134217728) : mulOk i j = true := by
  have x := PyProof.Rows.intBits_le h1
  have y := PyProof.Rows.intBits_le h2
  unfold mulOk
  rw [Bool.or_eq_true, decide_eq_true_eq]
  exact .inr (by omega)
theorem mulOk_k {i j : Int} (h1 : i.natAbs < 2 ^ 4000) (h2 : j.natAbs < 2 ^ 4000) : mulOk i j = true := mulOk_of h1 h2 (by omega)
theorem mulOk_s {i j : Int} (h1 : -(2 ^ 64) < i) (h2 : i < 2 ^ 64) : mulOk i j = true := by
  unfold mulOk
  rw [decide_eq_true h1, decide_eq_true h2]
  rfl
theorem mulOk_t {i j : Int} (h1 : -(2 ^ 64) < j) (h2 : j < 2 ^ 64) : mulOk i j = true := by
  unfold mulOk
  rw [decide_eq_true h1, decide_eq_true h2]
  simp

theorem ab_mul {x y : Int} {a b : Nat} (h1 : x.natAbs < 2 ^ a) (h2 : y.natAbs < 2 ^ b) : (x * y).natAbs < 2 ^ (a + b) := by
  rw [Int.natAbs_mul, Nat.pow_add]
  exact Nat.mul_lt_mul'' h1 h2
theorem ab_add {x y : Int} {a : Nat} (h1 : x.natAbs < 2 ^ a) (h2 : y.natAbs < 2 ^ a) : (x + y).natAbs < 2 ^ (a + 1) := by
  have := Int.natAbs_add_le x y
  rw [Nat.pow_succ]
  omega
theorem ab_up {x : Int} {a b : Nat} (h : x.natAbs < 2 ^ a) (hab : a ≤ b) : x.natAbs < 2 ^ b := Nat.lt_of_lt_of_le h (Nat.pow_le_pow_right (by decide) hab)
theorem ab_bits (a : Int) : a.natAbs < 2 ^ Builtin.Int.intBits a := PyProof.Rows.natAbs_lt_pow_bits a
theorem bits_div {a m : Int} (h : 0 ≤ a) (hm : 0 < m) : Builtin.Int.intBits (a / m) ≤ Builtin.Int.intBits a := by
  apply PyProof.Rows.intBits_le
  refine Nat.lt_of_le_of_lt ?_ (ab_bits a)
  have h1 : 0 ≤ a / m := Int.ediv_nonneg h (by omega)
  have h2 : a / m ≤ a := Int.ediv_le_self _ h
  omega
theorem powD_k {i : Int} {k : Nat} (h : i.natAbs < 2 ^ 64) (hk : k ≤ 1000000) : powD (.int i) (.int (k : Int)) = some (.tmp (.int (i ^ k))) := by
  unfold powD
  dsimp only
  rw [if_pos ⟨by omega, by omega, h⟩, Int.toNat_natCast]
theorem powD10 {k : Nat} (hk : k ≤ 1000000) : powD (.int 10) (.int (k : Int)) = some (.tmp (.int (10 ^ k))) := powD_k (by decide) hk

/-! ### loops and comprehensions -/
theorem lcL_pure {ι : Type} {vs : List Nat} {g : D → Env' → Option Env'} {te : Sm Opd} {mk : ι → D} {f : ι → D} {ε : Env'} : ∀ (xs : List ι) (acc : List D),
    (∀ x ∈ xs, ∃ ε1 ε3, g (mk x) ε = some ε1 ∧ eVal te ε1 = .ok (f x) ε3 ∧ wipeE ε3 vs = ε) → lcL vs g ttYes te (xs.map mk) acc ε = .ok (acc ++ xs.map f) ε
  | [], acc, _ => by simp [lcL]
  | x :: xs, acc, h => by
    obtain ⟨ε1, ε3, h1, h2, h3⟩ := h x List.mem_cons_self
    simp only [List.map_cons, lcL, h1, ttYes, h2, h3]
    rw [lcL_pure xs (acc ++ [f x]) fun y hy => h y (List.mem_cons_of_mem _ hy), List.append_assoc]
    rfl
theorem lcL_filter {ι : Type} {vs : List Nat} {g : D → Env' → Option Env'} {tt : Sm Bool} {te : Sm Opd} {mk : ι → D} {p : ι → Bool} {f : ι → D} {ε : Env'} : ∀ (xs : List ι) (acc : List D),
    (∀ x ∈ xs, ∃ ε1 ε2 ε3, g (mk x) ε = some ε1 ∧ tt ε1 = .ok (p x) ε2 ∧ (p x = true → eVal te ε2 = .ok (f x) ε3 ∧ wipeE ε3 vs = ε) ∧ (p x = false → wipeE ε2 vs = ε)) → lcL vs g tt te (xs.map mk) acc ε = .ok (acc ++ (xs.filter p).map f) ε
  | [], acc, _ => by simp [lcL]
  | x :: xs, acc, h => by
    obtain ⟨ε1, ε2, ε3, h1, h2, h3, h4⟩ := h x List.mem_cons_self
    have ih := fun acc => lcL_filter (te := te) xs acc fun y hy => h y (List.mem_cons_of_mem _ hy)
    cases hp : p x with
    | true =>
      obtain ⟨h5, h6⟩ := h3 hp
      rw [hp] at h2
      simp only [List.map_cons, lcL, h1, h2, h5, h6]
      rw [ih, List.append_assoc, List.filter_cons_of_pos hp]
      rfl
    | false =>
      rw [hp] at h2
      simp only [List.map_cons, lcL, h1, h2, h4 hp]
      rw [ih, List.filter_cons_of_neg (by rw [hp]; exact nofun)]
theorem lcL_inv {vs : List Nat} {g : D → Env' → Option Env'} {te : Sm Opd} (J : Nat → List D → Env' → Prop) : ∀ (ds : List D) (i : Nat) (acc : List D) (ε : Env'),
    (∀ k d acc ε, ds[k]? = some d → J (i + k) acc ε → ∃ ε1 y ε3, g d ε = some ε1 ∧ eVal te ε1 = .ok y ε3 ∧ J (i + k + 1) (acc ++ [y]) (wipeE ε3 vs)) → J i acc ε → ∃ acc' ε', lcL vs g ttYes te ds acc ε = .ok acc' ε' ∧ J (i + ds.length) acc' ε'
  | [], i, acc, ε, _, j => ⟨acc, ε, rfl, j⟩
  | d :: ds, i, acc, ε, h, j => by
    obtain ⟨ε1, y, ε3, h1, h2, h3⟩ := h 0 d acc ε rfl j
    obtain ⟨acc', ε', h4, h5⟩ := lcL_inv (te := te) J ds (i + 1) (acc ++ [y]) (wipeE ε3 vs) (fun k d' acc ε hk jj => by
      have := h (k + 1) d' acc ε hk (by rw [← Nat.add_assoc, Nat.add_right_comm]; exact jj)
      rw [show i + (k + 1) = i + 1 + k by omega] at this
      exact this) h3
    refine ⟨acc', ε', ?_, by rw [List.length_cons, show i + (ds.length + 1) = i + 1 + ds.length by omega]; exact h5⟩
    simp only [lcL, h1, ttYes, h2]
    exact h4
theorem forL_inv {g : D → Env' → Option Env'} {b : Sm Fl} (J : Nat → Env' → Prop) : ∀ (ds : List D) (i : Nat) (ε : Env'),
    (∀ k d ε, ds[k]? = some d → J (i + k) ε → ∃ ε1 ε2, g d ε = some ε1 ∧ (b ε1 = .ok .nx ε2 ∨ b ε1 = .ok .ct ε2) ∧ J (i + k + 1) ε2) → J i ε → ∃ ε', forL g b ds ε = .ok .nx ε' ∧ J (i + ds.length) ε'
  | [], i, ε, _, j => ⟨ε, rfl, j⟩
  | d :: ds, i, ε, h, j => by
    obtain ⟨ε1, ε2, h1, h2, h3⟩ := h 0 d ε rfl j
    obtain ⟨ε', h4, h5⟩ := forL_inv J ds (i + 1) ε2 (fun k d' ε hk jj => by
      have := h (k + 1) d' ε hk (by rw [← Nat.add_assoc, Nat.add_right_comm]; exact jj)
      rw [show i + (k + 1) = i + 1 + k by omega] at this
      exact this) h3
    refine ⟨ε', ?_, by rw [List.length_cons, show i + (ds.length + 1) = i + 1 + ds.length by omega]; exact h5⟩
    rcases h2 with h2 | h2 <;> simp only [forL, h1, h2] <;> exact h4
/-- with a way out -/
theorem forL_out {g : D → Env' → Option Env'} {b : Sm Fl} (J : Nat → Env' → Prop) (R : Nat → Res → Env' → Prop) : ∀ (ds : List D) (i : Nat) (ε : Env'),
    (∀ k d ε, ds[k]? = some d → J (i + k) ε → ∃ ε1, g d ε = some ε1 ∧ ((∃ ε2, (b ε1 = .ok .nx ε2 ∨ b ε1 = .ok .ct ε2) ∧ J (i + k + 1) ε2) ∨ ∃ r ε2, b ε1 = .ok (.rt r) ε2 ∧ R (i + k) r ε2)) → J i ε →
      (∃ ε', forL g b ds ε = .ok .nx ε' ∧ J (i + ds.length) ε') ∨ ∃ k r ε', k < ds.length ∧ forL g b ds ε = .ok (.rt r) ε' ∧ R (i + k) r ε'
  | [], i, ε, _, j => .inl ⟨ε, rfl, j⟩
  | d :: ds, i, ε, h, j => by
    obtain ⟨ε1, h1, h2⟩ := h 0 d ε rfl j
    rcases h2 with ⟨ε2, h2, h3⟩ | ⟨r, ε2, h2, h3⟩
    · have ih := forL_out J R ds (i + 1) ε2 (fun k d' ε hk jj => by
        have := h (k + 1) d' ε hk (by rw [← Nat.add_assoc, Nat.add_right_comm]; exact jj)
        rw [show i + (k + 1) = i + 1 + k by omega] at this
        exact this) h3
      rcases ih with ⟨ε', h4, h5⟩ | ⟨k, r, ε', hk, h4, h5⟩
      · refine .inl ⟨ε', ?_, by rw [List.length_cons, show i + (ds.length + 1) = i + 1 + ds.length by omega]; exact h5⟩
        rcases h2 with h2 | h2 <;> simp only [forL, h1, h2] <;> exact h4
      · refine .inr ⟨k + 1, r, ε', by rw [List.length_cons]; omega, ?_, by rw [show i + (k + 1) = i + 1 + k by omega]; exact h5⟩
        rcases h2 with h2 | h2 <;> simp only [forL, h1, h2] <;> exact h4
    · exact .inr ⟨0, r, ε2, by simp, by simp only [forL, h1, h2], h3⟩
/-! ### comprehensions in one step -/
theorem eLc_pure {ι : Type} {vs : List Nat} {it : Sm (List D)} {g : D → Env' → Option Env'} {te : Sm Opd} (mk : ι → D) (f : ι → D) (xs : List ι) {ε ε1 ε2 : Env'} (hi : it ε = .ok (xs.map mk) ε1) (hl : xs.length ≤ sizeLine) (hw : canWipe ε1 vs = true)
    (h : ∀ x ∈ xs, ∃ εa εb, g (mk x) (wipeE ε1 vs) = some εa ∧ eVal te εa = .ok (f x) εb ∧ wipeE εb vs = wipeE ε1 vs) (hr : restE ε1 vs (wipeE ε1 vs) = ε2) : eLc vs it g ttYes te ε = .ok (.own (xs.map f)) ε2 := by
  unfold eLc bnd
  rw [hi]
  dsimp only
  rw [if_pos ⟨by rw [List.length_map]; exact hl, hw⟩, lcL_pure xs [] h]
  dsimp only
  rw [hr]; rfl
theorem eLc_filter {ι : Type} {vs : List Nat} {it : Sm (List D)} {g : D → Env' → Option Env'} {tt : Sm Bool} {te : Sm Opd} (mk : ι → D) (p : ι → Bool) (f : ι → D) (xs : List ι) {ε ε1 ε2 : Env'} (hi : it ε = .ok (xs.map mk) ε1) (hl : xs.length ≤ sizeLine) (hw : canWipe ε1 vs = true)
    (h : ∀ x ∈ xs, ∃ εa εb εc, g (mk x) (wipeE ε1 vs) = some εa ∧ tt εa = .ok (p x) εb ∧ (p x = true → eVal te εb = .ok (f x) εc ∧ wipeE εc vs = wipeE ε1 vs) ∧ (p x = false → wipeE εb vs = wipeE ε1 vs)) (hr : restE ε1 vs (wipeE ε1 vs) = ε2) :
    eLc vs it g tt te ε = .ok (.own ((xs.filter p).map f)) ε2 := by
  unfold eLc bnd
  rw [hi]
  dsimp only
  rw [if_pos ⟨by rw [List.length_map]; exact hl, hw⟩, lcL_filter xs [] h]
  dsimp only
  rw [hr]; rfl
theorem eLc_p {ι : Type} {vs : List Nat} {it : Sm (List D)} {g : D → Env' → Option Env'} {te : Sm Opd} (mk : ι → D) (f : ι → D) (xs : List ι) {ε : Env'} (hi : it ε = .ok (xs.map mk) ε) (hl : xs.length ≤ sizeLine) (hw : canWipe ε vs = true)
    (h : ∀ x ∈ xs, ∃ εa εb, g (mk x) (wipeE ε vs) = some εa ∧ eVal te εa = .ok (f x) εb ∧ wipeE εb vs = wipeE ε vs) (hr : restE ε vs (wipeE ε vs) = ε) : eLc vs it g ttYes te ε = .ok (.own (xs.map f)) ε := eLc_pure mk f xs hi hl hw h hr
theorem eLc_f {ι : Type} {vs : List Nat} {it : Sm (List D)} {g : D → Env' → Option Env'} {tt : Sm Bool} {te : Sm Opd} (mk : ι → D) (p : ι → Bool) (f : ι → D) (xs : List ι) {ε : Env'} (hi : it ε = .ok (xs.map mk) ε) (hl : xs.length ≤ sizeLine) (hw : canWipe ε vs = true)
    (h : ∀ x ∈ xs, ∃ εa εb εc, g (mk x) (wipeE ε vs) = some εa ∧ tt εa = .ok (p x) εb ∧ (p x = true → eVal te εb = .ok (f x) εc ∧ wipeE εc vs = wipeE ε vs) ∧ (p x = false → wipeE εb vs = wipeE ε vs)) (hr : restE ε vs (wipeE ε vs) = ε) :
    eLc vs it g tt te ε = .ok (.own ((xs.filter p).map f)) ε := eLc_filter mk p f xs hi hl hw h hr
theorem eLc_inv {vs : List Nat} {it : Sm (List D)} {g : D → Env' → Option Env'} {te : Sm Opd} (ds : List D) (J : Nat → List D → Env' → Prop) {ε ε1 : Env'} (hi : it ε = .ok ds ε1) (hl : ds.length ≤ sizeLine) (hw : canWipe ε1 vs = true)
    (h : ∀ k d acc ε, ds[k]? = some d → J k acc ε → ∃ εa y εb, g d ε = some εa ∧ eVal te εa = .ok y εb ∧ J (k + 1) (acc ++ [y]) (wipeE εb vs)) (h0 : J 0 [] (wipeE ε1 vs)) :
    ∃ acc ε', eLc vs it g ttYes te ε = .ok (.own acc) (restE ε1 vs ε') ∧ J ds.length acc ε' := by
  obtain ⟨acc, ε', h1, h2⟩ := lcL_inv (te := te) J ds 0 [] (wipeE ε1 vs) (fun k d acc ε hk jj => by rw [Nat.zero_add] at jj ⊢; exact h k d acc ε hk jj) h0
  rw [Nat.zero_add] at h2
  refine ⟨acc, ε', ?_, h2⟩
  unfold eLc bnd
  rw [hi]
  dsimp only
  rw [if_pos ⟨hl, hw⟩, h1]
theorem sFor_inv {it : Sm (List D)} {g : D → Env' → Option Env'} {b : Sm Fl} (ds : List D) (J : Nat → Env' → Prop) {ε ε1 : Env'} (hi : it ε = .ok ds ε1)
    (h : ∀ k d ε, ds[k]? = some d → J k ε → ∃ εa εb, g d ε = some εa ∧ (b εa = .ok .nx εb ∨ b εa = .ok .ct εb) ∧ J (k + 1) εb) (h0 : J 0 ε1) : ∃ ε', sFor it g b ε = .ok .nx ε' ∧ J ds.length ε' := by
  obtain ⟨ε', h1, h2⟩ := forL_inv (b := b) J ds 0 ε1 (fun k d ε hk jj => by rw [Nat.zero_add] at jj ⊢; exact h k d ε hk jj) h0
  rw [Nat.zero_add] at h2
  refine ⟨ε', ?_, h2⟩
  unfold sFor bnd
  rw [hi]
  exact h1
theorem sFor_out {it : Sm (List D)} {g : D → Env' → Option Env'} {b : Sm Fl} (ds : List D) (J : Nat → Env' → Prop) (R : Nat → Res → Env' → Prop) {ε ε1 : Env'} (hi : it ε = .ok ds ε1)
    (h : ∀ k d ε, ds[k]? = some d → J k ε → ∃ εa, g d ε = some εa ∧ ((∃ εb, (b εa = .ok .nx εb ∨ b εa = .ok .ct εb) ∧ J (k + 1) εb) ∨ ∃ r εb, b εa = .ok (.rt r) εb ∧ R k r εb)) (h0 : J 0 ε1) :
    (∃ ε', sFor it g b ε = .ok .nx ε' ∧ J ds.length ε') ∨ ∃ k r ε', k < ds.length ∧ sFor it g b ε = .ok (.rt r) ε' ∧ R k r ε' := by
  have := forL_out (b := b) J R ds 0 ε1 (fun k d ε hk jj => by rw [Nat.zero_add] at jj ⊢; exact h k d ε hk jj) h0
  have e : sFor it g b ε = forL g b ds ε1 := by
    unfold sFor bnd
    rw [hi]
  rw [e]
  rcases this with ⟨ε', h1, h2⟩ | ⟨k, r, ε', hk, h1, h2⟩
  · rw [Nat.zero_add] at h2
    exact .inl ⟨ε', h1, h2⟩
  · rw [Nat.zero_add] at h2
    exact .inr ⟨k, r, ε', hk, h1, h2⟩
theorem iL_map {ι : Type} (f : ι → Int) (xs : List ι) : xs.map (fun x => D.int (f x)) = iL (xs.map f) := by simp [iL]
theorem listOf_cases {d : D} {xs : List D} (h : listOf d = some xs) : d = .lst xs ∨ d = .tup xs ∨ d = .fix xs := by
  cases d <;> first | (cases h; exact .inl rfl) | (cases h; exact .inr (.inl rfl)) | (cases h; exact .inr (.inr rfl)) | cases h
/-! ### statements in a row -/
theorem sSeq_nx {a b : Sm Fl} {ε ε1 : Env'} (h : a ε = .ok .nx ε1) : sSeq a b ε = b ε1 := by
  unfold sSeq bnd
  rw [h]
theorem sSeq_rt {a b : Sm Fl} {ε ε1 : Env'} {r : Res} (h : a ε = .ok (.rt r) ε1) : sSeq a b ε = .ok (.rt r) ε1 := by
  unfold sSeq bnd
  rw [h]
theorem sSeq_err {a b : Sm Fl} {ε ε1 : Env'} {e : Exn} (h : a ε = .err e ε1) : sSeq a b ε = .err e ε1 := by
  unfold sSeq bnd
  rw [h]
/-- for k in range(m): if p(k): return k -/
theorem forL_find {g : D → Env' → Option Env'} {b : Sm Fl} (p : Nat → Bool) (J : Env' → Prop) : ∀ (m k : Nat) (ε : Env'),
    (∀ i, k ≤ i → i < k + m → ∀ ε, J ε → ∃ εa, g (.int (i : Int)) ε = some εa ∧ (p i = false → ∃ εb, b εa = .ok .nx εb ∧ J εb) ∧ (p i = true → ∃ εb, b εa = .ok (.rt (.val (.int (i : Int)))) εb)) → J ε →
      match (List.range' k m).find? p with
      | some i => ∃ ε', forL g b ((List.range' k m).map fun (i : Nat) => D.int (i : Int)) ε = .ok (.rt (.val (.int (i : Int)))) ε'
      | none => ∃ ε', forL g b ((List.range' k m).map fun (i : Nat) => D.int (i : Int)) ε = .ok .nx ε' ∧ J ε'
  | 0, k, ε, _, j => ⟨ε, rfl, j⟩
  | m + 1, k, ε, h, j => by
    obtain ⟨εa, h1, h2, h3⟩ := h k (Nat.le_refl _) (by omega) ε j
    rw [List.range'_succ, List.find?_cons]
    cases hp : p k with
    | true =>
      obtain ⟨εb, h4⟩ := h3 hp
      exact ⟨εb, by simp only [List.map_cons, forL, h1, h4]⟩
    | false =>
      obtain ⟨εb, h4, h5⟩ := h2 hp
      have ih := forL_find p J m (k + 1) εb (fun i hi hm => h i (by omega) (by omega)) h5
      dsimp only at ih ⊢
      split <;> (rename_i q; rw [q] at ih; simp only [List.map_cons, forL, h1, h4]; exact ih)
theorem sFor_find {it : Sm (List D)} {g : D → Env' → Option Env'} {b : Sm Fl} (p : Nat → Bool) (J : Env' → Prop) (m : Nat) {ε ε1 : Env'} (hi : it ε = .ok ((List.range m).map fun (i : Nat) => D.int (i : Int)) ε1)
    (h : ∀ i, i < m → ∀ ε, J ε → ∃ εa, g (.int (i : Int)) ε = some εa ∧ (p i = false → ∃ εb, b εa = .ok .nx εb ∧ J εb) ∧ (p i = true → ∃ εb, b εa = .ok (.rt (.val (.int (i : Int)))) εb)) (h0 : J ε1) :
    match (List.range m).find? p with
      | some i => ∃ ε', sFor it g b ε = .ok (.rt (.val (.int (i : Int)))) ε'
      | none => ∃ ε', sFor it g b ε = .ok .nx ε' ∧ J ε' := by
  have e : sFor it g b ε = forL g b ((List.range m).map fun (i : Nat) => D.int (i : Int)) ε1 := by
    unfold sFor bnd
    rw [hi]
  rw [e, List.range_eq_range']
  exact forL_find p J m 0 ε1 (fun i _ hm => h i (by omega)) h0
theorem isi_int (i : Int) : isiD "int" (.int i) = some true := rfl
theorem isi_bool (i : Int) : isiD "bool" (.int i) = some false := rfl
theorem isi_tup (xs : List D) : isiD "tuple" (.tup xs) = some true := rfl
theorem maxL_le : ∀ (ns : List Int) (n : Int), n ≤ maxL n ns ∧ ∀ y ∈ ns, y ≤ maxL n ns
  | [], n => ⟨Int.le_refl _, nofun⟩
  | x :: r, n => by
    obtain ⟨h1, h2⟩ := maxL_le r (if x > n then x else n)
    have e : maxL n (x :: r) = maxL (if x > n then x else n) r := rfl
    rw [e]
    have h3 : n ≤ (if x > n then x else n) ∧ x ≤ (if x > n then x else n) := by split <;> omega
    refine ⟨by omega, fun y hy => ?_⟩
    rcases List.mem_cons.mp hy with rfl | hy
    · omega
    · exact h2 y hy
theorem maxL_mem : ∀ (ns : List Int) (n : Int), maxL n ns = n ∨ maxL n ns ∈ ns
  | [], n => .inl rfl
  | x :: r, n => by
    have e : maxL n (x :: r) = maxL (if x > n then x else n) r := rfl
    rw [e]
    rcases maxL_mem r (if x > n then x else n) with h | h
    · rw [h]
      split
      · exact .inr List.mem_cons_self
      · exact .inl rfl
    · exact .inr (List.mem_cons_of_mem _ h)
theorem all_true (n : Nat) {ι : Type} (xs : List ι) : allD [.lst (xs.map fun _ => D.bl true)] = some (.tmp (.bl true)) := by
  have e : (xs.map fun _ => D.bl true) = (xs.map fun _ => true).map D.bl := by simp
  rw [e]
  unfold allD
  dsimp only
  rw [blsOf_of]
  simp
theorem range1_n {n : Nat} (h : n ≤ 1000000) : range1D [.int (n : Int)] = some ((List.range n).map fun (i : Nat) => D.int (i : Int)) := by
  unfold range1D
  dsimp only
  rw [if_pos (sm62_nat h), Int.toNat_natCast, rangeL0]
theorem range1_neg {i : Int} (h : i ≤ 0) (h2 : -1000000 ≤ i) : range1D [.int i] = some [] := by
  unfold range1D
  dsimp only
  rw [if_pos (sm62_abs (by omega)), Int.toNat_of_nonpos h]
  rfl
theorem range2_n {a b : Nat} (h : b ≤ 1000000) (ha : a ≤ 1000000) : range2D [.int (a : Int), .int (b : Int)] = some ((List.range' a (b - a)).map fun (i : Nat) => D.int (i : Int)) := by
  unfold range2D
  dsimp only
  rw [if_pos ⟨sm62_nat ha, sm62_nat h⟩, show ((b : Int) - (a : Int)).toNat = b - a by omega]
  congr 1
  unfold rangeL
  rw [List.range'_eq_map_range, List.map_map]
  apply List.map_congr_left
  intro i _
  show D.int ((a : Int) + (i : Int)) = D.int ((a + i : Nat) : Int)
  rw [Int.natCast_add]
theorem eLc_run {vs : List Nat} {it : Sm (List D)} {g : D → Env' → Option Env'} {tt : Sm Bool} {te : Sm Opd} {ds acc : List D} {ε ε1 ε' ε2 : Env'} (hi : it ε = .ok ds ε1) (hl : ds.length ≤ sizeLine) (hw : canWipe ε1 vs = true)
    (h : lcL vs g tt te ds [] (wipeE ε1 vs) = .ok acc ε') (hr : restE ε1 vs ε' = ε2) : eLc vs it g tt te ε = .ok (.own acc) ε2 := by
  unfold eLc bnd
  rw [hi]
  dsimp only
  rw [if_pos ⟨hl, hw⟩, h]
  dsimp only
  rw [hr]
end DS

set_option Elab.async false
set_option linter.all false
set_option maxRecDepth 100000
set_option maxHeartbeats 4000000
set_option exponentiation.threshold 5000
namespace DS
open PySem
/-! ### repr of what is small -/
theorem log2_1920 {i : Int} (h : i.natAbs < 2 ^ 1900) : i.natAbs.log2 < 1920 := by
  by_cases h0 : i.natAbs = 0
  · rw [h0]; decide
  · have := (Nat.log2_lt h0).mpr h
    omega
def Small (a : List Int) : Prop := a.length ≤ 1000 ∧ ∀ x ∈ a, x.natAbs < 2 ^ 1900
theorem shown_iL : ∀ (a : List Int), (∀ x ∈ a, x.natAbs < 2 ^ 1900) → PyData.showableAll (toPyL (iL a)) = true ∧ piled (PyData.shownAll (toPyL (iL a))) ≤ a.length * 1923
  | [], _ => by
    simp only [iL_nil, toPyL, PyData.showableAll, PyData.shownAll, piled_nil]
    exact ⟨trivial, Nat.zero_le _⟩
  | x :: r, h => by
    obtain ⟨h1, h2⟩ := shown_iL r fun y hy => h y (List.mem_cons_of_mem _ hy)
    have hx := log2_1920 (h x List.mem_cons_self)
    have hl := PyProof.Rows.int_text_len_1921 hx
    simp only [iL_cons, toPyL, toPy, PyData.showableAll, PyData.showable, PyData.shownAll, PyData.shown, piled_cons, List.length_cons]
    refine ⟨by rw [h1, decide_eq_true hx]; rfl, ?_⟩
    have : ((toString x : String) : Str).length ≤ 1921 := hl
    omega
theorem tup_len {a : List Int} (h : Small a) : (shownD (.tup (iL a))).length ≤ 1923002 := by
  have := (shown_iL a h.2).2
  have h2 := fmt_text (PyData.shownAll (toPyL (iL a)))
  have h3 := h.1
  unfold shownD
  simp only [toPy, PyData.shown]
  omega
theorem listText_le (ts : List Str) : (listText ts).length ≤ piled ts + 2 := by
  cases ts with
  | nil => decide
  | cons t r =>
    have e : listText (t :: r) = textFrom 1 (("[" : Str) ++ (if (0 : Nat) > 0 then ", " else "" : String) ++ t) r ++ "]" := rfl
    rw [e, strLen_append, textFrom_length_pos r 1 _ (by omega), strLen_append, strLen_append, piled_cons]
    have e1 : ((("[" : String) : Str)).length = 1 := rfl
    have e2 : ((("]" : String) : Str)).length = 1 := rfl
    have e3 : (((if (0 : Nat) > 0 then ", " else "" : String) : Str)).length = 0 := rfl
    omega
theorem lst2_len (d e : D) : (shownD (.lst [d, e])).length ≤ (shownD d).length + (shownD e).length + 6 := by
  have := listText_le [shownD d, shownD e]
  unfold shownD at this ⊢
  simp only [toPy, toPyL, PyData.shown, PyData.shownAll]
  simp only [piled_cons, piled_nil] at this
  omega
theorem repr_tup {a : List Int} (h : Small a) : reprD [.tup (iL a)] = some (.tmp (.str (shownD (.tup (iL a))))) := by
  have h1 := (shown_iL a h.2).1
  have h2 := tup_len h
  have ok : reprOk (.tup (iL a)) = true := by
    unfold reprOk
    rw [Bool.and_eq_true, Bool.and_eq_true, decide_eq_true_eq, decide_eq_true_eq]
    refine ⟨⟨?_, ?_⟩, by unfold sizeLine; omega⟩
    · simp only [toPy, PyData.showable, h1]
    · simp only [toPy, PyData.depth, depth_iL]; decide
  show (if (isSeqD (.tup (iL a)) && reprOk (.tup (iL a))) = true then _ else _) = _
  rw [ok]; rfl
/-- a list of two -/
theorem repr_two {d e : D} (hd : (toPy d).showable = true ∧ (toPy d).depth ≤ 10 ∧ (shownD d).length ≤ 4000000) (he : (toPy e).showable = true ∧ (toPy e).depth ≤ 10 ∧ (shownD e).length ≤ 4000000) : reprD [.lst [d, e]] = some (.tmp (.str (shownD (.lst [d, e])))) := by
  have h2 := lst2_len d e
  have ok : reprOk (.lst [d, e]) = true := by
    unfold reprOk
    rw [Bool.and_eq_true, Bool.and_eq_true, decide_eq_true_eq, decide_eq_true_eq]
    refine ⟨⟨?_, ?_⟩, by have := hd.2.2; have := he.2.2; unfold sizeLine; omega⟩
    · simp only [toPy, toPyL, PyData.showable, PyData.showableAll, hd.1, he.1]; rfl
    · simp only [toPy, toPyL, PyData.depth, PyData.depthAll]
      have := hd.2.1; have := he.2.1
      omega
  show (if (isSeqD (.lst [d, e]) && reprOk (.lst [d, e])) = true then _ else _) = _
  rw [ok]; rfl
theorem ok_tup {a : List Int} (h : Small a) : (toPy (.tup (iL a))).showable = true ∧ (toPy (.tup (iL a))).depth ≤ 10 ∧ (shownD (.tup (iL a))).length ≤ 4000000 := by
  refine ⟨?_, ?_, by have := tup_len h; omega⟩
  · simp only [toPy, PyData.showable, (shown_iL a h.2).1]
  · simp only [toPy, PyData.depth, depth_iL]; decide
theorem ok_int {i : Int} (h : i.natAbs < 2 ^ 1900) : (toPy (.int i)).showable = true ∧ (toPy (.int i)).depth ≤ 10 ∧ (shownD (.int i)).length ≤ 4000000 := by
  have hx := log2_1920 h
  have hl : ((toString i : String) : Str).length ≤ 1921 := PyProof.Rows.int_text_len_1921 hx
  refine ⟨?_, ?_, ?_⟩
  · simp only [toPy, PyData.showable, decide_eq_true hx]
  · simp only [toPy, PyData.depth]; decide
  · unfold shownD
    simp only [toPy, PyData.shown]
    omega
theorem ok_non : (toPy .non).showable = true ∧ (toPy .non).depth ≤ 10 ∧ (shownD .non).length ≤ 4000000 := by
  refine ⟨by simp only [toPy, PyData.showable], by simp only [toPy, PyData.depth]; decide, ?_⟩
  unfold shownD
  simp only [toPy, PyData.shown]
  decide
theorem repr_tups {a b : List Int} (h : Small a) (h2 : Small b) : reprD [.lst [.tup (iL a), .tup (iL b)]] = some (.tmp (.str (shownD (.lst [.tup (iL a), .tup (iL b)])))) := repr_two (ok_tup h) (ok_tup h2)
end DS

set_option Elab.async false
set_option linter.all false
set_option maxRecDepth 100000
set_option maxHeartbeats 4000000
namespace K34
open PySem PySem.Spec PyProof.Rows L2 DS
/-! ### the text (printed by gen.py) -/
abbrev topS (i : Nat) : Stmt := PySem.Challenge.pw_wholefurther_k34_whole_rows_their_differ.main.body.getD i (.Pass ⟨0, 0, 0, 0⟩)
def c_MOST_ENTRIES : Int := 40
def c_ENTRY_LIMIT : Int := 1000000000000000000000000000000
def c_MOST_DEGREE : Int := 10
abbrev st_law_choices : Stmt := topS 31
abbrev st_law_feed : Stmt := topS 26
abbrev st_law_differences : Stmt := topS 32
abbrev st_law_draw : Stmt := topS 27
abbrev st_law_fits : Stmt := topS 37
abbrev st_law_is : Stmt := topS 34
abbrev st_law_one : Stmt := topS 28
abbrev st_law_value : Stmt := topS 33
abbrev st_law_row : Stmt := topS 35
abbrev st_law_settled : Stmt := topS 36
abbrev st_is_integer : Stmt := topS 5
abbrev st_in_range : Stmt := topS 6
abbrev st_is_row : Stmt := topS 18
abbrev st_check_row : Stmt := topS 19
abbrev st_differences_at : Stmt := topS 9
abbrev st_degree_in : Stmt := topS 12
abbrev st_degree_of_row : Stmt := topS 22
abbrev st_differences : Stmt := topS 20
abbrev st_check_count : Stmt := topS 7
abbrev st_row_of : Stmt := topS 11
abbrev st_further : Stmt := topS 23
abbrev st_row_by : Stmt := topS 21
abbrev st_first_settled : Stmt := topS 13
abbrev st_settled_from : Stmt := topS 24
abbrev st_law_right : Stmt := topS 38
abbrev st_law : Stmt := topS 39
theorem sc_law_choices : FnScope ["many", "lines", "turn", "last", "one", "other"] ["many"] (defScope st_law_choices) := ⟨rfl, rfl, rfl, by decide +kernel, rfl, by decide +kernel, by decide +kernel⟩
theorem sc_law_feed : FnScope ["script", "k", "cell"] ["script", "k"] (defScope st_law_feed) := ⟨rfl, rfl, rfl, by decide +kernel, rfl, by decide +kernel, by decide +kernel⟩
theorem sc_law_differences : FnScope ["row", "lines", "found", "order", "at", "many"] ["row", "lines"] (defScope st_law_differences) := ⟨rfl, rfl, rfl, by decide +kernel, rfl, by decide +kernel, by decide +kernel⟩
theorem sc_law_draw : FnScope ["feed", "many", "rest", "got", "stir"] ["feed", "many"] (defScope st_law_draw) := ⟨rfl, rfl, rfl, by decide +kernel, rfl, by decide +kernel, by decide +kernel⟩
theorem sc_law_fits : FnScope ["row", "value"] ["row"] (defScope st_law_fits) := ⟨rfl, rfl, rfl, by decide +kernel, rfl, by decide +kernel, by decide +kernel⟩
theorem sc_law_is : FnScope ["actual", "due"] ["actual", "due"] (defScope st_law_is) := ⟨rfl, rfl, rfl, by decide +kernel, rfl, by decide +kernel, by decide +kernel⟩
theorem sc_law_one : FnScope ["feed", "things"] ["feed", "things"] (defScope st_law_one) := ⟨rfl, rfl, rfl, by decide +kernel, rfl, by decide +kernel, by decide +kernel⟩
theorem sc_law_value : FnScope ["entries", "lines", "at", "many", "entry"] ["entries", "lines", "at"] (defScope st_law_value) := ⟨rfl, rfl, rfl, by decide +kernel, rfl, by decide +kernel, by decide +kernel⟩
theorem sc_law_row : FnScope ["feed", "lines", "many", "size", "way", "entries", "row", "spot", "some", "turn", "at"] ["feed", "lines"] (defScope st_law_row) := ⟨rfl, rfl, rfl, by decide +kernel, rfl, by decide +kernel, by decide +kernel⟩
theorem sc_law_settled : FnScope ["row", "degree", "lines", "order", "steps", "start", "at", "many", "step"] ["row", "degree", "lines"] (defScope st_law_settled) := ⟨rfl, rfl, rfl, by decide +kernel, rfl, by decide +kernel, by decide +kernel⟩
theorem sc_is_integer : FnScope ["thing"] ["thing"] (defScope st_is_integer) := ⟨rfl, rfl, rfl, by decide +kernel, rfl, by decide +kernel, by decide +kernel⟩
theorem sc_in_range : FnScope ["thing", "low", "high"] ["thing", "low", "high"] (defScope st_in_range) := ⟨rfl, rfl, rfl, by decide +kernel, rfl, by decide +kernel, by decide +kernel⟩
theorem sc_is_row : FnScope ["thing", "value"] ["thing"] (defScope st_is_row) := ⟨rfl, rfl, rfl, by decide +kernel, rfl, by decide +kernel, by decide +kernel⟩
theorem sc_check_row : FnScope ["row"] ["row"] (defScope st_check_row) := ⟨rfl, rfl, rfl, by decide +kernel, rfl, by decide +kernel, by decide +kernel⟩
theorem sc_differences_at : FnScope ["values", "found", "row", "one", "other"] ["values"] (defScope st_differences_at) := ⟨rfl, rfl, rfl, by decide +kernel, rfl, by decide +kernel, by decide +kernel⟩
theorem sc_degree_in : FnScope ["row", "places", "at", "difference"] ["row"] (defScope st_degree_in) := ⟨rfl, rfl, rfl, by decide +kernel, rfl, by decide +kernel, by decide +kernel⟩
theorem sc_degree_of_row : FnScope ["row"] ["row"] (defScope st_degree_of_row) := ⟨rfl, rfl, rfl, by decide +kernel, rfl, by decide +kernel, by decide +kernel⟩
theorem sc_differences : FnScope ["row"] ["row"] (defScope st_differences) := ⟨rfl, rfl, rfl, by decide +kernel, rfl, by decide +kernel, by decide +kernel⟩
theorem sc_check_count : FnScope ["thing", "low", "high"] ["thing", "low", "high"] (defScope st_check_count) := ⟨rfl, rfl, rfl, by decide +kernel, rfl, by decide +kernel, by decide +kernel⟩
theorem sc_row_of : FnScope ["differences", "many", "state", "found", "turn", "one", "other"] ["differences", "many"] (defScope st_row_of) := ⟨rfl, rfl, rfl, by decide +kernel, rfl, by decide +kernel, by decide +kernel⟩
theorem sc_further : FnScope ["row", "count"] ["row", "count"] (defScope st_further) := ⟨rfl, rfl, rfl, by decide +kernel, rfl, by decide +kernel, by decide +kernel⟩
theorem sc_row_by : FnScope ["entries"] ["entries"] (defScope st_row_by) := ⟨rfl, rfl, rfl, by decide +kernel, rfl, by decide +kernel, by decide +kernel⟩
theorem sc_first_settled : FnScope ["row", "degree", "at"] ["row", "degree"] (defScope st_first_settled) := ⟨rfl, rfl, rfl, by decide +kernel, rfl, by decide +kernel, by decide +kernel⟩
theorem sc_settled_from : FnScope ["row", "degree"] ["row", "degree"] (defScope st_settled_from) := ⟨rfl, rfl, rfl, by decide +kernel, rfl, by decide +kernel, by decide +kernel⟩
theorem sc_law_right : FnScope ["feed", "lines", "row", "made", "due", "degree", "whole", "count", "later", "most", "start", "at", "entry"] ["feed", "lines"] (defScope st_law_right) := ⟨rfl, rfl, rfl, by decide +kernel, rfl, by decide +kernel, by decide +kernel⟩
theorem sc_law : FnScope ["script", "lines", "k", "feed", "turn"] ["script"] (defScope st_law) := ⟨rfl, rfl, rfl, by decide +kernel, rfl, by decide +kernel, by decide +kernel⟩
def C1_law_choices : Sm Opd := (eLc [4, 5] (iA zipD (aCons (eVar 3) (aCons (eSl (eVar 3) (oSome (eC (.int 1))) oNone) aNil))) (gT 2 (gsC (gN 4) (gsC (gN 5) gsN))) ttYes (eOp addD (eVar 4) (eVar 5)))
def FB1_law_choices : Sm Fl := (sSeq (sSet 3 (eOp addD (eOp addD (eLst (aCons (eC (.int 0)) aNil)) (eIx (eVar 1) (eUn negD (eC (.int 1))))) (eLst (aCons (eC (.int 0)) aNil))))
 (sEx (eMeth appendD 1 (aCons C1_law_choices aNil))))
def B_law_choices : Sm Fl := (sSeq (sSet 1 (eLst (aCons (eLst (aCons (eC (.int 1)) aNil)) aNil)))
 (sSeq (sFor (iB range1D (bCons (eVar 0) bNil)) (gN 2) FB1_law_choices)
 (sRet (eVar 1))))
def S_law_choices : Fn := runF 6 false B_law_choices
def B_law_feed : Sm Fl := (sSeq (sSet 2 (eOp addD (eOp mulD (eC (.int 977)) (eVar 1)) (eB sumD (bCons (eSl (eVar 0) oNone (oSome (eC (.int 1)))) bNil))))
 (sSeq (sIf (tCmpD ltD (eVar 1) (eB lenD (bCons (eVar 0) bNil)))
 (sSet 2 (eIx (eVar 0) (eVar 1)))
 sNil)
 (sRet (eLst (aCons (eB maxD (bCons (eC (.int 0)) (bCons (eOp subD (eVar 2) (eOp powD (eC (.int 10)) (eC (.int 18)))) bNil))) (aCons (eOp modD (eB intD (bCons (eOp addD (eOp mulD (eVar 2) (eC (.int 19))) (eOp mulD (eC (.int 7)) (eVar 1))) bNil)) (eOp addD (eOp powD (eC (.int 10)) (eC (.int 39))) (eC (.int 23)))) (aCons (eC (.int 0)) aNil)))))))
def S_law_feed : Fn := runF 3 false B_law_feed
def C1_law_differences : Sm Opd := (eLc [4, 5] (iA enumD (aCons (eIx (eVar 1) (eVar 3)) aNil)) (gT 2 (gsC (gN 4) (gsC (gN 5) gsN))) ttYes (eOp mulD (eOp mulD (eVar 5) (eIx (eVar 0) (eVar 4))) (eIf (tCmpD eqD (eOp modD (eB intD (bCons (eOp subD (eVar 3) (eVar 4)) bNil)) (eC (.int 2))) (eC (.int 0))) (eC (.int 1)) (eUn negD (eC (.int 1))))))
def FB1_law_differences : Sm Fl := (sEx (eMeth appendD 2 (aCons (eB sumD (bCons C1_law_differences bNil)) aNil)))
def B_law_differences : Sm Fl := (sSeq (sSet 2 (eLst aNil))
 (sSeq (sFor (iB range1D (bCons (eB lenD (bCons (eVar 0) bNil)) bNil)) (gN 3) FB1_law_differences)
 (sRet (eB tupleD (bCons (eVar 2) bNil)))))
def S_law_differences : Fn := runF 6 false B_law_differences
def B_law_draw : Sm Fl := (sSeq (sIf (tCmpD gtD (eIx (eVar 0) (eC (.int 0))) (eC (.int 0)))
 (sSeq (sSet 2 (eOp fdivD (eIx (eVar 0) (eC (.int 0))) (eVar 1)))
 (sSeq (sSet 3 (eOp subD (eIx (eVar 0) (eC (.int 0))) (eOp mulD (eVar 2) (eVar 1))))
 (sSeq (sSetIx 0 (eC (.int 0)) (eVar 2))
 (sRet (eVar 3)))))
 sNil)
 (sSeq (sSetIx 0 (eC (.int 2)) (eOp addD (eIx (eVar 0) (eC (.int 2))) (eC (.int 1))))
 (sSeq (sSet 4 (eOp addD (eIx (eVar 0) (eC (.int 1))) (eOp mulD (eC (.int 6700417)) (eIx (eVar 0) (eC (.int 2))))))
 (sSeq (sSet 4 (eOp modD (eB intD (bCons (eOp addD (eOp mulD (eOp mulD (eVar 4) (eVar 4)) (eVar 4)) (eOp mulD (eC (.int 15485863)) (eIx (eVar 0) (eC (.int 2))))) bNil)) (eOp addD (eOp powD (eC (.int 10)) (eC (.int 43))) (eC (.int 57)))))
 (sSeq (sSet 4 (eOp modD (eB intD (bCons (eOp addD (eOp mulD (eVar 4) (eVar 4)) (eC (.int 32452843))) bNil)) (eOp addD (eOp powD (eC (.int 10)) (eC (.int 38))) (eC (.int 133)))))
 (sRet (eOp modD (eB intD (bCons (eOp fdivD (eVar 4) (eOp powD (eC (.int 10)) (eC (.int 9)))) bNil)) (eVar 1))))))))
def S_law_draw : Fn := runF 5 true B_law_draw
def C1_law_fits : Sm Opd := (eLc [1] (iItems (eVar 0)) (gN 1) ttYes (eB maxD (bCons (eVar 1) (bCons (eUn negD (eVar 1)) bNil))))
def B_law_fits : Sm Fl := (sRet (eAnd (eChain ltD ltD (eC (.int 0)) (eB lenD (bCons (eVar 0) bNil)) (eC (.int 41))) (eOp ltD (eB maxD (bCons C1_law_fits bNil)) (eOp powD (eC (.int 10)) (eC (.int 30))))))
def S_law_fits : Fn := runF 2 false B_law_fits
def B_law_is : Sm Fl := (sRet (eAnd (eIsi "int" (eVar 0)) (eAnd (eNot (eIsi "bool" (eVar 0))) (eOp eqD (eVar 0) (eVar 1)))))
def S_law_is : Fn := runF 2 false B_law_is
def B_law_one : Sm Fl := (sRet (eIx (eVar 1) (eCallIo S_law_draw 0 (aCons (eB lenD (bCons (eVar 1) bNil)) aNil))))
def S_law_one : Fn := runF 2 true B_law_one
def C1_law_value : Sm Opd := (eLc [3, 4] (iA zipD (aCons (eIx (eVar 1) (eVar 2)) (aCons (eVar 0) aNil))) (gT 2 (gsC (gN 3) (gsC (gN 4) gsN))) ttYes (eOp mulD (eVar 3) (eVar 4)))
def B_law_value : Sm Fl := (sRet (eB sumD (bCons C1_law_value bNil)))
def S_law_value : Fn := runF 5 false B_law_value
def C1_law_row : Sm Opd := (eLc [9] (iB range1D (bCons (eVar 2) bNil)) (gN 9) ttYes (eOp subD (eCallIo S_law_draw 0 (aCons (eOp addD (eOp mulD (eC (.int 2)) (eVar 3)) (eC (.int 1))) aNil)) (eVar 3)))
def C2_law_row : Sm Opd := (eLc [9] (iB range1D (bCons (eVar 2) bNil)) (gN 9) ttYes (eCallIo S_law_one 0 (aCons (eLst (aCons (eOp subD (eOp powD (eC (.int 10)) (eC (.int 30))) (eC (.int 1))) (aCons (eOp subD (eC (.int 1)) (eOp powD (eC (.int 10)) (eC (.int 30)))) (aCons (eC (.int 0)) (aCons (eCallIo S_law_draw 0 (aCons (eOp powD (eC (.int 10)) (eC (.int 30))) aNil)) aNil))))) aNil)))
def C3_law_row : Sm Opd := (eLc [9] (iB range1D (bCons (eCallIo S_law_draw 0 (aCons (eC (.int 11)) aNil)) bNil)) (gN 9) ttYes (eOp subD (eCallIo S_law_draw 0 (aCons (eOp addD (eOp mulD (eC (.int 2)) (eVar 3)) (eC (.int 1))) aNil)) (eVar 3)))
def C4_law_row : Sm Opd := (eLc [10] (iB range1D (bCons (eVar 2) bNil)) (gN 10) ttYes (eCall S_law_value (aCons (eVar 5) (aCons (eVar 1) (aCons (eVar 10) aNil)))))
def C5_law_row : Sm Opd := (eLc [9] (iB range1D (bCons (eVar 8) bNil)) (gN 9) ttYes (eOp subD (eCallIo S_law_draw 0 (aCons (eC (.int 21)) aNil)) (eC (.int 10))))
def B_law_row : Sm Fl := (sSeq (sPars [2, 3] (cCons (eCallIo S_law_one 0 (aCons (eLst (aCons (eC (.int 1)) (aCons (eC (.int 2)) (aCons (eC (.int 3)) (aCons (eC (.int 5)) (aCons (eC (.int 8)) (aCons (eC (.int 13)) (aCons (eC (.int 40)) (aCons (eOp addD (eC (.int 1)) (eCallIo S_law_draw 0 (aCons (eC (.int 40)) aNil))) aNil))))))))) aNil)) (cCons (eCallIo S_law_one 0 (aCons (eLst (aCons (eC (.int 1)) (aCons (eC (.int 3)) (aCons (eC (.int 10)) (aCons (eOp powD (eC (.int 10)) (eC (.int 6))) (aCons (eOp powD (eC (.int 10)) (eC (.int 12))) aNil)))))) aNil)) cNil)))
 (sSeq (sSet 4 (eCallIo S_law_draw 0 (aCons (eC (.int 9)) aNil)))
 (sSeq (sIf (tCmpD eqD (eVar 4) (eC (.int 0)))
 (sRet (eTup (aCons (eB tupleD (bCons C1_law_row bNil)) (aCons (eC .non) aNil))))
 sNil)
 (sSeq (sIf (tCmpD eqD (eVar 4) (eC (.int 1)))
 (sRet (eTup (aCons (eB tupleD (bCons C2_law_row bNil)) (aCons (eC .non) aNil))))
 sNil)
 (sSeq (sSet 5 C3_law_row)
 (sSeq (sSet 6 C4_law_row)
 (sSeq (sIf (tCmpD eqD (eVar 4) (eC (.int 2)))
 (sSeq (sSet 7 (eCallIo S_law_draw 0 (aCons (eVar 2) aNil)))
 (sRet (eTup (aCons (eB tupleD (bCons (eOp addD (eOp addD (eSl (eVar 6) oNone (oSome (eVar 7))) (eLst (aCons (eOp addD (eIx (eVar 6) (eVar 7)) (eCallIo S_law_one 0 (aCons (eLst (aCons (eC (.int 1)) (aCons (eUn negD (eC (.int 1))) (aCons (eC (.int 60)) aNil)))) aNil))) aNil))) (eSl (eVar 6) (oSome (eOp addD (eVar 7) (eC (.int 1)))) oNone)) bNil)) (aCons (eC .non) aNil)))))
 sNil)
 (sSeq (sIf (tCmpD (inD false) (eVar 4) (eTup (aCons (eC (.int 3)) (aCons (eC (.int 4)) aNil))))
 (sSeq (sSet 8 (eCallIo S_law_draw 0 (aCons (eOp addD (eVar 2) (eC (.int 1))) aNil)))
 (sRet (eTup (aCons (eB tupleD (bCons (eOp addD C5_law_row (eSl (eVar 6) (oSome (eVar 8)) oNone)) bNil)) (aCons (eC .non) aNil)))))
 sNil)
 (sRet (eTup (aCons (eB tupleD (bCons (eVar 6) bNil)) (aCons (eVar 5) aNil))))))))))))
def S_law_row : Fn := runF 11 true B_law_row
def C1_law_settled : Sm Opd := (eLc [6, 7] (iA enumD (aCons (eIx (eVar 2) (eVar 3)) aNil)) (gT 2 (gsC (gN 6) (gsC (gN 7) gsN))) ttYes (eOp mulD (eOp mulD (eVar 7) (eIx (eVar 0) (eOp addD (eVar 5) (eVar 6)))) (eIf (tCmpD eqD (eOp modD (eB intD (bCons (eOp subD (eVar 3) (eVar 6)) bNil)) (eC (.int 2))) (eC (.int 0))) (eC (.int 1)) (eUn negD (eC (.int 1))))))
def FB1_law_settled : Sm Fl := (sEx (eMeth appendD 4 (aCons (eB sumD (bCons C1_law_settled bNil)) aNil)))
def C2_law_settled : Sm Opd := (eLc [8] (iItems (eSl (eVar 4) (oSome (eVar 6)) oNone)) (gN 8) (tCmpD neD (eVar 8) (eC (.int 0))) (eVar 8))
def FB2_law_settled : Sm Fl := (sIf (tCmpD eqD C2_law_settled (eLst aNil))
 (sRet (eVar 6))
 sNil)
def B_law_settled : Sm Fl := (sSeq (sPars [3, 4] (cCons (eOp addD (eVar 1) (eC (.int 1))) (cCons (eLst aNil) cNil)))
 (sSeq (sFor (iB range1D (bCons (eOp subD (eB lenD (bCons (eVar 0) bNil)) (eVar 3)) bNil)) (gN 5) FB1_law_settled)
 (sSeq (sFor (iB range1D (bCons (eB lenD (bCons (eVar 4) bNil)) bNil)) (gN 6) FB2_law_settled)
 (sRet (eC .non)))))
def S_law_settled : Fn := runF 9 false B_law_settled
def B_is_integer : Sm Fl := (sRet (eAnd (eIsi "int" (eVar 0)) (eNot (eIsi "bool" (eVar 0)))))
def S_is_integer : Fn := runF 1 false B_is_integer
def B_in_range : Sm Fl := (sRet (eAnd (eCall S_is_integer (aCons (eVar 0) aNil)) (eChain leD leD (eVar 1) (eVar 0) (eVar 2))))
def S_in_range : Fn := runF 3 false B_in_range
def C1_is_row : Sm Opd := (eLc [1] (iItems (eVar 0)) (gN 1) ttYes (eCall S_in_range (aCons (eVar 1) (aCons (eOp subD (eC (.int 1)) (eC (.int c_ENTRY_LIMIT))) (aCons (eOp subD (eC (.int c_ENTRY_LIMIT)) (eC (.int 1))) aNil)))))
def B_is_row : Sm Fl := (sSeq (sIf (tOr (tNot (tTru (eIsi "tuple" (eVar 0)))) (tNot (tOf (eChain leD leD (eC (.int 1)) (eB lenD (bCons (eVar 0) bNil)) (eC (.int c_MOST_ENTRIES))))))
 (sRet (eC (.bl false)))
 sNil)
 (sRet (eB allD (bCons C1_is_row bNil))))
def S_is_row : Fn := runF 2 false B_is_row
def B_check_row : Sm Fl := (sIf (tNot (tTru (eCall S_is_row (aCons (eVar 0) aNil))))
 (sRaise "BadRow")
 sNil)
def S_check_row : Fn := runF 1 false B_check_row
noncomputable def C1_differences_at : Sm Opd := (eLc [3, 4] (iA zipD (aCons (eVar 2) (aCons (eSl (eVar 2) (oSome (eC (.int 1))) oNone) aNil))) (gT 2 (gsC (gN 3) (gsC (gN 4) gsN))) ttYes (eOp subD (eVar 4) (eVar 3)))
noncomputable def WC1_differences_at : Sm Bool := (tCmpD neD (eVar 2) (eLst aNil))
noncomputable def WB1_differences_at : Sm Fl := (sSeq (sEx (eMeth appendD 1 (aCons (eIx (eVar 2) (eC (.int 0))) aNil)))
 (sSet 2 C1_differences_at))
noncomputable def B_differences_at : Sm Fl := (sSeq (sPars [1, 2] (cCons (eLst aNil) (cCons (eB listD (bCons (eVar 0) bNil)) cNil)))
 (sSeq (sWhile WC1_differences_at WB1_differences_at)
 (sRet (eVar 1))))
noncomputable def S_differences_at : Fn := runF 5 false B_differences_at
noncomputable def C1_degree_in : Sm Opd := (eLc [2, 3] (iA enumD (aCons (eCall S_differences_at (aCons (eVar 0) aNil)) aNil)) (gT 2 (gsC (gN 2) (gsC (gN 3) gsN))) (tCmpD neD (eVar 3) (eC (.int 0))) (eVar 2))
noncomputable def B_degree_in : Sm Fl := (sSeq (sSet 1 C1_degree_in)
 (sRet (eIf (tCmpD neD (eVar 1) (eLst aNil)) (eIx (eVar 1) (eUn negD (eC (.int 1)))) (eUn negD (eC (.int 1))))))
noncomputable def S_degree_in : Fn := runF 4 false B_degree_in
noncomputable def B_degree_of_row : Sm Fl := (sSeq (sEx (eCall S_check_row (aCons (eVar 0) aNil)))
 (sRet (eCall S_degree_in (aCons (eVar 0) aNil))))
noncomputable def S_degree_of_row : Fn := runF 1 false B_degree_of_row
noncomputable def B_differences : Sm Fl := (sSeq (sEx (eCall S_check_row (aCons (eVar 0) aNil)))
 (sRet (eB tupleD (bCons (eCall S_differences_at (aCons (eVar 0) aNil)) bNil))))
noncomputable def S_differences : Fn := runF 1 false B_differences
def B_check_count : Sm Fl := (sIf (tNot (tTru (eCall S_in_range (aCons (eVar 0) (aCons (eVar 1) (aCons (eVar 2) aNil))))))
 (sRaise "BadCount")
 sNil)
def S_check_count : Fn := runF 3 false B_check_count
def C1_row_of : Sm Opd := (eLc [5, 6] (iA zipD (aCons (eVar 2) (aCons (eOp addD (eSl (eVar 2) (oSome (eC (.int 1))) oNone) (eLst (aCons (eC (.int 0)) aNil))) aNil))) (gT 2 (gsC (gN 5) (gsC (gN 6) gsN))) ttYes (eOp addD (eVar 5) (eVar 6)))
def FB1_row_of : Sm Fl := (sSeq (sEx (eMeth appendD 3 (aCons (eIf (tCmpD neD (eVar 2) (eLst aNil)) (eIx (eVar 2) (eC (.int 0))) (eC (.int 0))) aNil)))
 (sSet 2 C1_row_of))
def B_row_of : Sm Fl := (sSeq (sPars [2, 3] (cCons (eB listD (bCons (eVar 0) bNil)) (cCons (eLst aNil) cNil)))
 (sSeq (sFor (iB range1D (bCons (eVar 1) bNil)) (gN 4) FB1_row_of)
 (sRet (eB tupleD (bCons (eVar 3) bNil)))))
def S_row_of : Fn := runF 7 false B_row_of
noncomputable def B_further : Sm Fl := (sSeq (sEx (eCall S_check_row (aCons (eVar 0) aNil)))
 (sSeq (sEx (eCall S_check_count (aCons (eVar 1) (aCons (eC (.int 1)) (aCons (eC (.int c_MOST_ENTRIES)) aNil)))))
 (sRet (eSl (eCall S_row_of (aCons (eCall S_differences_at (aCons (eVar 0) aNil)) (aCons (eOp addD (eB lenD (bCons (eVar 0) bNil)) (eVar 1)) aNil))) (oSome (eB lenD (bCons (eVar 0) bNil))) oNone))))
noncomputable def S_further : Fn := runF 2 false B_further
def B_row_by : Sm Fl := (sSeq (sEx (eCall S_check_row (aCons (eVar 0) aNil)))
 (sRet (eCall S_row_of (aCons (eVar 0) (aCons (eB lenD (bCons (eVar 0) bNil)) aNil)))))
def S_row_by : Fn := runF 1 false B_row_by
noncomputable def FB1_first_settled : Sm Fl := (sIf (tCmpD leD (eCall S_degree_in (aCons (eSl (eVar 0) (oSome (eVar 2)) oNone) aNil)) (eVar 1))
 (sRet (eVar 2))
 sNil)
noncomputable def B_first_settled : Sm Fl := (sSeq (sFor (iB range1D (bCons (eOp subD (eOp subD (eB lenD (bCons (eVar 0) bNil)) (eVar 1)) (eC (.int 1))) bNil)) (gN 2) FB1_first_settled)
 (sRet (eC .non)))
noncomputable def S_first_settled : Fn := runF 3 false B_first_settled
noncomputable def B_settled_from : Sm Fl := (sSeq (sEx (eCall S_check_row (aCons (eVar 0) aNil)))
 (sSeq (sEx (eCall S_check_count (aCons (eVar 1) (aCons (eC (.int 0)) (aCons (eC (.int c_MOST_DEGREE)) aNil)))))
 (sRet (eCall S_first_settled (aCons (eVar 0) (aCons (eVar 1) aNil))))))
noncomputable def S_settled_from : Fn := runF 2 false B_settled_from
noncomputable def C1_law_right : Sm Opd := (eLc [11, 12] (iA enumD (aCons (eVar 4) aNil)) (gT 2 (gsC (gN 11) (gsC (gN 12) gsN))) (tCmpD neD (eVar 12) (eC (.int 0))) (eVar 11))
noncomputable def C2_law_right : Sm Opd := (eLc [11] (iB range1D (bCons (eB lenD (bCons (eVar 2) bNil)) bNil)) (gN 11) ttYes (eCall S_law_value (aCons (eVar 2) (aCons (eVar 1) (aCons (eVar 11) aNil)))))
noncomputable def C3_law_right : Sm Opd := (eLc [11] (iB range2D (bCons (eB lenD (bCons (eVar 2) bNil)) (bCons (eOp addD (eB lenD (bCons (eVar 2) bNil)) (eVar 7)) bNil))) (gN 11) ttYes (eCall S_law_value (aCons (eVar 4) (aCons (eVar 1) (aCons (eVar 11) aNil)))))
noncomputable def C4_law_right : Sm Opd := (eLc [11] (iB range2D (bCons (eB lenD (bCons (eVar 2) bNil)) (bCons (eOp addD (eB lenD (bCons (eVar 2) bNil)) (eVar 7)) bNil))) (gN 11) ttYes (eCall S_law_value (aCons (eVar 3) (aCons (eVar 1) (aCons (eVar 11) aNil)))))
noncomputable def FB1_law_right : Sm Fl := (sSeq (sSet 10 (eCall S_law_settled (aCons (eVar 2) (aCons (eVar 9) (aCons (eVar 1) aNil)))))
 (sSeq (sIf (tCmpD neD (eB reprD (bCons (eLst (aCons (eCall S_settled_from (aCons (eVar 2) (aCons (eVar 9) aNil))) (aCons (eCallK S_settled_from [1, 0] (aCons (eVar 9) (aCons (eVar 2) aNil))) aNil))) bNil)) (eB reprD (bCons (eLst (aCons (eVar 10) (aCons (eVar 10) aNil))) bNil)))
 (sRet (eC (.bl false)))
 sNil)
 (sIf (tOr (tAnd (tCmpD isNotD (eVar 10) (eC .non)) (tCmpD gtD (eCall S_degree_of_row (aCons (eSl (eVar 2) (oSome (eVar 10)) oNone) aNil)) (eVar 9))) (tAnd (tCmpD isNotD (eVar 10) (eC .non)) (tAnd (tCmpD gtD (eVar 10) (eC (.int 0))) (tCmpD leD (eCall S_degree_of_row (aCons (eSl (eVar 2) (oSome (eOp subD (eVar 10) (eC (.int 1)))) oNone) aNil)) (eVar 9)))))
 (sRet (eC (.bl false)))
 sNil)))
noncomputable def B_law_right : Sm Fl := (sSeq (sAsg (gT 2 (gsC (gN 2) (gsC (gN 3) gsN))) (eCallIo S_law_row 0 (aCons (eVar 1) aNil)))
 (sSeq (sIf (tNot (tTru (eCall S_law_fits (aCons (eVar 2) aNil))))
 (sRet (eC (.bl true)))
 sNil)
 (sSeq (sSet 4 (eCall S_law_differences (aCons (eVar 2) (aCons (eVar 1) aNil))))
 (sSeq (sSet 5 (eB maxD (bCons (eOp addD C1_law_right (eLst (aCons (eUn negD (eC (.int 1))) aNil))) bNil)))
 (sSeq (sIf (tCmpD neD (eB reprD (bCons (eLst (aCons (eCall S_differences (aCons (eVar 2) aNil)) (aCons (eCallK S_differences [0] (aCons (eVar 2) aNil)) aNil))) bNil)) (eB reprD (bCons (eLst (aCons (eVar 4) (aCons (eVar 4) aNil))) bNil)))
 (sRet (eC (.bl false)))
 sNil)
 (sSeq (sIf (tOr (tNot (tTru (eCall S_law_is (aCons (eCall S_degree_of_row (aCons (eVar 2) aNil)) (aCons (eVar 5) aNil))))) (tNot (tTru (eCall S_law_is (aCons (eCallK S_degree_of_row [0] (aCons (eVar 2) aNil)) (aCons (eVar 5) aNil))))))
 (sRet (eC (.bl false)))
 sNil)
 (sSeq (sIf (tAnd (tTru (eCall S_law_fits (aCons (eVar 4) aNil))) (tCmpD neD (eB reprD (bCons (eCall S_row_by (aCons (eVar 4) aNil)) bNil)) (eB reprD (bCons (eVar 2) bNil))))
 (sRet (eC (.bl false)))
 sNil)
 (sSeq (sSet 6 (eB tupleD (bCons C2_law_right bNil)))
 (sSeq (sIf (tOr (tCmpD neD (eB reprD (bCons (eLst (aCons (eCall S_row_by (aCons (eVar 2) aNil)) (aCons (eCallK S_row_by [0] (aCons (eVar 2) aNil)) aNil))) bNil)) (eB reprD (bCons (eLst (aCons (eVar 6) (aCons (eVar 6) aNil))) bNil))) (tAnd (tTru (eCall S_law_fits (aCons (eVar 6) aNil))) (tCmpD neD (eB reprD (bCons (eCall S_differences (aCons (eVar 6) aNil)) bNil)) (eB reprD (bCons (eVar 2) bNil)))))
 (sRet (eC (.bl false)))
 sNil)
 (sSeq (sSet 7 (eCallIo S_law_one 0 (aCons (eLst (aCons (eC (.int 1)) (aCons (eC (.int 2)) (aCons (eOp addD (eC (.int 1)) (eCallIo S_law_draw 0 (aCons (eC (.int 40)) aNil))) (aCons (eC (.int 40)) aNil))))) aNil)))
 (sSeq (sSet 8 (eB tupleD (bCons C3_law_right bNil)))
 (sSeq (sIf (tCmpD neD (eB reprD (bCons (eLst (aCons (eCall S_further (aCons (eVar 2) (aCons (eVar 7) aNil))) (aCons (eCallK S_further [1, 0] (aCons (eVar 7) (aCons (eVar 2) aNil))) aNil))) bNil)) (eB reprD (bCons (eLst (aCons (eVar 8) (aCons (eVar 8) aNil))) bNil)))
 (sRet (eC (.bl false)))
 sNil)
 (sSeq (sIf (tAnd (tTru (eCall S_law_fits (aCons (eOp addD (eVar 2) (eVar 8)) aNil))) (tOr (tCmpD neD (eCall S_degree_of_row (aCons (eOp addD (eVar 2) (eVar 8)) aNil)) (eVar 5)) (tCmpD neD (eSl (eCall S_differences (aCons (eOp addD (eVar 2) (eVar 8)) aNil)) oNone (oSome (eB lenD (bCons (eVar 2) bNil)))) (eVar 4))))
 (sRet (eC (.bl false)))
 sNil)
 (sSeq (sIf (tAnd (tCmpD isNotD (eVar 3) (eC .non)) (tAnd (tCmpD leD (eB lenD (bCons (eVar 3) bNil)) (eB lenD (bCons (eVar 2) bNil))) (tCmpD neD (eVar 8) (eB tupleD (bCons C4_law_right bNil)))))
 (sRet (eC (.bl false)))
 sNil)
 (sSeq (sFor (iItems (eLst (aCons (eC (.int 0)) (aCons (eC (.int 10)) (aCons (eCallIo S_law_draw 0 (aCons (eC (.int 11)) aNil)) (aCons (eB maxD (bCons (eC (.int 0)) (bCons (eB minD (bCons (eC (.int 10)) (bCons (eVar 5) bNil))) bNil))) (aCons (eB maxD (bCons (eC (.int 0)) (bCons (eB minD (bCons (eC (.int 10)) (bCons (eOp subD (eVar 5) (eC (.int 1))) bNil))) bNil))) aNil))))))) (gN 9) FB1_law_right)
 (sRet (eC (.bl true))))))))))))))))))
noncomputable def S_law_right : Fn := runF 13 true B_law_right
noncomputable def FB1_law : Sm Fl := (sIf (tNot (tTru (eCallIo S_law_right 3 (aCons (eVar 1) aNil))))
 (sRet (eC (.bl false)))
 sNil)
noncomputable def FB2_law : Sm Fl := (sSeq (sSet 3 (eCall S_law_feed (aCons (eVar 0) (aCons (eVar 2) aNil))))
 (sFor (iB range1D (bCons (eC (.int 2)) bNil)) (gN 4) FB1_law))
noncomputable def B_law : Sm Fl := (sSeq (sSet 1 (eCall S_law_choices (aCons (eC (.int 80)) aNil)))
 (sSeq (sFor (iB range1D (bCons (eB maxD (bCons (eC (.int 1)) (bCons (eB minD (bCons (eB lenD (bCons (eVar 0) bNil)) (bCons (eC (.int 4)) bNil))) bNil))) bNil)) (gN 2) FB2_law)
 (sRet (eC (.bl true)))))
noncomputable def S_law : Fn := runF 5 false B_law
structure Tx (K : PySem.W.Frag) (mg : Str → Option Value) : Prop where
  n_all : mg "all" = none
  n_bool : mg "bool" = none
  n_enumerate : mg "enumerate" = none
  n_int : mg "int" = none
  n_isinstance : mg "isinstance" = none
  n_len : mg "len" = none
  n_list : mg "list" = none
  n_max : mg "max" = none
  n_min : mg "min" = none
  n_range : mg "range" = none
  n_repr : mg "repr" = none
  n_sum : mg "sum" = none
  n_tuple : mg "tuple" = none
  n_zip : mg "zip" = none
  c_MOST_ENTRIES : ∃ t, mg "MOST_ENTRIES" = some (.int c_MOST_ENTRIES t)
  c_ENTRY_LIMIT : ∃ t, mg "ENTRY_LIMIT" = some (.int c_ENTRY_LIMIT t)
  c_MOST_DEGREE : ∃ t, mg "MOST_DEGREE" = some (.int c_MOST_DEGREE t)
  e_BadCount : ∃ Cl, PySem.W.excIn K Cl [.type "ValueError", .type "Exception", .type "BaseException", .type "object"] "ValueError.__new__" = true ∧ mg "BadCount" = some (.ref Cl) ∧ PySem.W.keepIn K (.ref Cl) = true ∧ PySem.W.subIn K (.ref Cl) (.type "BaseException") = some true ∧ PySem.W.typeIn K (.ref Cl) = some (.type "type")
  e_BadRow : ∃ Cl, PySem.W.excIn K Cl [.type "ValueError", .type "Exception", .type "BaseException", .type "object"] "ValueError.__new__" = true ∧ mg "BadRow" = some (.ref Cl) ∧ PySem.W.keepIn K (.ref Cl) = true ∧ PySem.W.subIn K (.ref Cl) (.type "BaseException") = some true ∧ PySem.W.typeIn K (.ref Cl) = some (.type "type")
  d_law_choices : ∃ f fd, Fun K "_law_choices" "_law_choices" st_law_choices f fd ∧ mg "_law_choices" = some (.ref f)
  d_law_feed : ∃ f fd, Fun K "_law_feed" "_law_feed" st_law_feed f fd ∧ mg "_law_feed" = some (.ref f)
  d_law_differences : ∃ f fd, Fun K "_law_differences" "_law_differences" st_law_differences f fd ∧ mg "_law_differences" = some (.ref f)
  d_law_draw : ∃ f fd, Fun K "_law_draw" "_law_draw" st_law_draw f fd ∧ mg "_law_draw" = some (.ref f)
  d_law_fits : ∃ f fd, Fun K "_law_fits" "_law_fits" st_law_fits f fd ∧ mg "_law_fits" = some (.ref f)
  d_law_is : ∃ f fd, Fun K "_law_is" "_law_is" st_law_is f fd ∧ mg "_law_is" = some (.ref f)
  d_law_one : ∃ f fd, Fun K "_law_one" "_law_one" st_law_one f fd ∧ mg "_law_one" = some (.ref f)
  d_law_value : ∃ f fd, Fun K "_law_value" "_law_value" st_law_value f fd ∧ mg "_law_value" = some (.ref f)
  d_law_row : ∃ f fd, Fun K "_law_row" "_law_row" st_law_row f fd ∧ mg "_law_row" = some (.ref f)
  d_law_settled : ∃ f fd, Fun K "_law_settled" "_law_settled" st_law_settled f fd ∧ mg "_law_settled" = some (.ref f)
  d_is_integer : ∃ f fd, Fun K "is_integer" "is_integer" st_is_integer f fd ∧ mg "is_integer" = some (.ref f)
  d_in_range : ∃ f fd, Fun K "in_range" "in_range" st_in_range f fd ∧ mg "in_range" = some (.ref f)
  d_is_row : ∃ f fd, Fun K "is_row" "is_row" st_is_row f fd ∧ mg "is_row" = some (.ref f)
  d_check_row : ∃ f fd, Fun K "check_row" "check_row" st_check_row f fd ∧ mg "check_row" = some (.ref f)
  d_differences_at : ∃ f fd, Fun K "differences_at" "differences_at" st_differences_at f fd ∧ mg "differences_at" = some (.ref f)
  d_degree_in : ∃ f fd, Fun K "degree_in" "degree_in" st_degree_in f fd ∧ mg "degree_in" = some (.ref f)
  d_degree_of_row : ∃ f fd, Fun K "degree_of_row" "degree_of_row" st_degree_of_row f fd ∧ mg "degree_of_row" = some (.ref f)
  d_differences : ∃ f fd, Fun K "differences" "differences" st_differences f fd ∧ mg "differences" = some (.ref f)
  d_check_count : ∃ f fd, Fun K "check_count" "check_count" st_check_count f fd ∧ mg "check_count" = some (.ref f)
  d_row_of : ∃ f fd, Fun K "row_of" "row_of" st_row_of f fd ∧ mg "row_of" = some (.ref f)
  d_further : ∃ f fd, Fun K "further" "further" st_further f fd ∧ mg "further" = some (.ref f)
  d_row_by : ∃ f fd, Fun K "row_by" "row_by" st_row_by f fd ∧ mg "row_by" = some (.ref f)
  d_first_settled : ∃ f fd, Fun K "first_settled" "first_settled" st_first_settled f fd ∧ mg "first_settled" = some (.ref f)
  d_settled_from : ∃ f fd, Fun K "settled_from" "settled_from" st_settled_from f fd ∧ mg "settled_from" = some (.ref f)
  d_law_right : ∃ f fd, Fun K "_law_right" "_law_right" st_law_right f fd ∧ mg "_law_right" = some (.ref f)
  d_law : ∃ f fd, Fun K "law" "law" st_law f fd ∧ mg "law" = some (.ref f)
section
variable {P : Program} {w : World} {K : PySem.W.Frag} {mg : Str → Option Value} {base : Heap}
theorem ok_law_choices (T : Tx K mg) {f : Addr} {fd : FuncData} (F : Fun K "_law_choices" "_law_choices" st_law_choices f fd) : FnG P w K mg base 1 f fd ["many"] (spD K mg 1 false S_law_choices) :=
  fn_D (N := ["many", "lines", "turn", "last", "one", "other"]) (body := B_law_choices) F sc_law_choices rfl fun cdv A outer s H E hr => by
    have tk : Takes (cxOf (L2.CX P w) P w K mg base ["many", "lines", "turn", "last", "one", "other"] "_law_choices" (defScope st_law_choices) f cdv A outer s H E) (fun c d _ H' => E c d H') := takes_of rfl rfl rfl rfl
    exact dss_cons (ds_set (i := 1) sc_law_choices.nd rfl (by first | exact Or.inl rfl | exact Or.inr rfl) (de_lst (da_cons (de_lst (da_cons (de_int) da_nil)) da_nil)))
       (dss_cons (ds_for (passes_of rfl) rfl (di_range1 (by rfl) T.n_range (db_cons (de_var 0) db_nil)) (dg_name (i := 2) sc_law_choices.nd rfl (by first | exact Or.inl rfl | exact Or.inr rfl))
       (dss_cons (ds_set (i := 3) sc_law_choices.nd rfl (by first | exact Or.inl rfl | exact Or.inr rfl) (de_bin op_addD (de_bin op_addD (de_lst (da_cons (de_int) da_nil)) (de_ix (de_var 1) (de_neg (de_int)))) (de_lst (da_cons (de_int) da_nil))))
       (dss_one (ds_expr (de_meth (i := 1) m_append PySem.F.slot_list_append PySem.F.type_list_append (pv 1) (da_cons (de_lc (vs := [4, 5]) (own := [("one", 4), ("other", 5)]) rfl sc_law_choices.nd (di_zip (by rfl) T.n_zip (da_cons (de_var 3) (da_cons (de_slice (de_var 3) (do_some (de_int)) do_none) da_nil))) (blkOk_by (N := ["many", "lines", "turn", "last", "one", "other"]) (sc := defScope st_law_choices) (own := [("one", 4), ("other", 5)]) (by decide +kernel)) rfl
       (blk_mk (is := [4, 5]) (by decide) fun _ _ _ _ _ => ⟨dg_tup rfl (dgs_cons (dg_name (i := 4) sc_law_choices.nd rfl (by first | exact Or.inl rfl | exact Or.inr rfl)) (dgs_cons (dg_name (i := 5) sc_law_choices.nd rfl (by first | exact Or.inl rfl | exact Or.inr rfl)) dgs_nil)), dts_nil, de_bin op_addD (de_var 4) (de_var 5)⟩)) da_nil))))))
       (dss_one (ds_ret (de_var 1))))
theorem cal_law_choices (T : Tx K mg) : Cal P w K mg base 1 "_law_choices" 1 false S_law_choices := by
  obtain ⟨f, fd, F, m⟩ := T.d_law_choices
  exact cal_D F m (F.binds (ps := ["many"]) fun _ _ _ _ _ _ us hl => match us, hl with | [_], _ => rfl) (ok_law_choices T F)
theorem ok_law_feed (T : Tx K mg) {f : Addr} {fd : FuncData} (F : Fun K "_law_feed" "_law_feed" st_law_feed f fd) : FnG P w K mg base 1 f fd ["script", "k"] (spD K mg 2 false S_law_feed) :=
  fn_D (N := ["script", "k", "cell"]) (body := B_law_feed) F sc_law_feed rfl fun cdv A outer s H E hr => by
    have tk : Takes (cxOf (L2.CX P w) P w K mg base ["script", "k", "cell"] "_law_feed" (defScope st_law_feed) f cdv A outer s H E) (fun c d _ H' => E c d H') := takes_of rfl rfl rfl rfl
    exact dss_cons (ds_set (i := 2) sc_law_feed.nd rfl (by first | exact Or.inl rfl | exact Or.inr rfl) (de_bin op_addD (de_bin op_mulD (de_int) (de_var 1)) (de_callB (b_sum rfl) (by rfl) T.n_sum (by decide +kernel) (db_cons (de_slice (de_var 0) do_none (do_some (de_int))) db_nil))))
       (dss_cons (ds_if (dt_cmp op_ltD (de_var 1) (de_callB b_len (by rfl) T.n_len (by decide +kernel) (db_cons (de_var 0) db_nil)) (by rfl))
       (dss_one (ds_set (i := 2) sc_law_feed.nd rfl (by first | exact Or.inl rfl | exact Or.inr rfl) (de_ix (de_var 0) (de_var 1))))
       (dss_nil))
       (dss_one (ds_ret (de_lst (da_cons (de_callB (b_max rfl) (by rfl) T.n_max (by decide +kernel) (db_cons (de_int) (db_cons (de_bin op_subD (de_var 2) (de_bin op_powD (de_int) (de_int))) db_nil))) (da_cons (de_bin op_modD (de_callTy b_int (by rfl) T.n_int (by decide +kernel) (db_cons (de_bin op_addD (de_bin op_mulD (de_var 2) (de_int)) (de_bin op_mulD (de_int) (de_var 1))) db_nil)) (de_bin op_addD (de_bin op_powD (de_int) (de_int)) (de_int))) (da_cons (de_int) da_nil)))))))
theorem cal_law_feed (T : Tx K mg) : Cal P w K mg base 1 "_law_feed" 2 false S_law_feed := by
  obtain ⟨f, fd, F, m⟩ := T.d_law_feed
  exact cal_D F m (F.binds (ps := ["script", "k"]) fun _ _ _ _ _ _ us hl => match us, hl with | [_, _], _ => rfl) (ok_law_feed T F)
theorem ok_law_differences (T : Tx K mg) {f : Addr} {fd : FuncData} (F : Fun K "_law_differences" "_law_differences" st_law_differences f fd) : FnG P w K mg base 1 f fd ["row", "lines"] (spD K mg 2 false S_law_differences) :=
  fn_D (N := ["row", "lines", "found", "order", "at", "many"]) (body := B_law_differences) F sc_law_differences rfl fun cdv A outer s H E hr => by
    have tk : Takes (cxOf (L2.CX P w) P w K mg base ["row", "lines", "found", "order", "at", "many"] "_law_differences" (defScope st_law_differences) f cdv A outer s H E) (fun c d _ H' => E c d H') := takes_of rfl rfl rfl rfl
    exact dss_cons (ds_set (i := 2) sc_law_differences.nd rfl (by first | exact Or.inl rfl | exact Or.inr rfl) (de_lst da_nil))
       (dss_cons (ds_for (passes_of rfl) rfl (di_range1 (by rfl) T.n_range (db_cons (de_callB b_len (by rfl) T.n_len (by decide +kernel) (db_cons (de_var 0) db_nil)) db_nil)) (dg_name (i := 3) sc_law_differences.nd rfl (by first | exact Or.inl rfl | exact Or.inr rfl))
       (dss_one (ds_expr (de_meth (i := 2) m_append PySem.F.slot_list_append PySem.F.type_list_append (pv 2) (da_cons (de_callB (b_sum rfl) (by rfl) T.n_sum (by decide +kernel) (db_cons (de_lc (vs := [4, 5]) (own := [("at", 4), ("many", 5)]) rfl sc_law_differences.nd (di_enum (by rfl) T.n_enumerate (da_cons (de_ix (de_var 1) (de_var 3)) da_nil)) (blkOk_by (N := ["row", "lines", "found", "order", "at", "many"]) (sc := defScope st_law_differences) (own := [("at", 4), ("many", 5)]) (by decide +kernel)) rfl
       (blk_mk (is := [4, 5]) (by decide) fun _ _ _ _ _ => ⟨dg_tup rfl (dgs_cons (dg_name (i := 4) sc_law_differences.nd rfl (by first | exact Or.inl rfl | exact Or.inr rfl)) (dgs_cons (dg_name (i := 5) sc_law_differences.nd rfl (by first | exact Or.inl rfl | exact Or.inr rfl)) dgs_nil)), dts_nil, de_bin op_mulD (de_bin op_mulD (de_var 5) (de_ix (de_var 0) (de_var 4))) (de_if (dt_cmp (op_eqDD hr.units) (de_bin op_modD (de_callTy b_int (by rfl) T.n_int (by decide +kernel) (db_cons (de_bin op_subD (de_var 3) (de_var 4)) db_nil)) (de_int)) (de_int) (by rfl)) (de_int) (de_neg (de_int)))⟩)) db_nil)) da_nil)))))
       (dss_one (ds_ret (de_callTy b_tuple (by rfl) T.n_tuple (by decide +kernel) (db_cons (de_var 2) db_nil)))))
theorem cal_law_differences (T : Tx K mg) : Cal P w K mg base 1 "_law_differences" 2 false S_law_differences := by
  obtain ⟨f, fd, F, m⟩ := T.d_law_differences
  exact cal_D F m (F.binds (ps := ["row", "lines"]) fun _ _ _ _ _ _ us hl => match us, hl with | [_, _], _ => rfl) (ok_law_differences T F)
theorem ok_law_draw (T : Tx K mg) {f : Addr} {fd : FuncData} (F : Fun K "_law_draw" "_law_draw" st_law_draw f fd) : FnG P w K mg base 1 f fd ["feed", "many"] (spD K mg 2 true S_law_draw) :=
  fn_D (N := ["feed", "many", "rest", "got", "stir"]) (body := B_law_draw) F sc_law_draw rfl fun cdv A outer s H E hr => by
    have tk : Takes (cxOf (L2.CX P w) P w K mg base ["feed", "many", "rest", "got", "stir"] "_law_draw" (defScope st_law_draw) f cdv A outer s H E) (fun c d _ H' => E c d H') := takes_of rfl rfl rfl rfl
    exact dss_cons (ds_if (dt_cmp op_gtD (de_ix (de_var 0) (de_int)) (de_int) (by rfl))
       (dss_cons (ds_set (i := 2) sc_law_draw.nd rfl (by first | exact Or.inl rfl | exact Or.inr rfl) (de_bin op_fdivD (de_ix (de_var 0) (de_int)) (de_var 1)))
       (dss_cons (ds_set (i := 3) sc_law_draw.nd rfl (by first | exact Or.inl rfl | exact Or.inr rfl) (de_bin op_subD (de_ix (de_var 0) (de_int)) (de_bin op_mulD (de_var 2) (de_var 1))))
       (dss_cons (ds_setIx (i := 0) (de_var 2) (pv 0) (de_int))
       (dss_one (ds_ret (de_var 3))))))
       (dss_nil))
       (dss_cons (ds_setIx (i := 0) (de_bin op_addD (de_ix (de_var 0) (de_int)) (de_int)) (pv 0) (de_int))
       (dss_cons (ds_set (i := 4) sc_law_draw.nd rfl (by first | exact Or.inl rfl | exact Or.inr rfl) (de_bin op_addD (de_ix (de_var 0) (de_int)) (de_bin op_mulD (de_int) (de_ix (de_var 0) (de_int)))))
       (dss_cons (ds_set (i := 4) sc_law_draw.nd rfl (by first | exact Or.inl rfl | exact Or.inr rfl) (de_bin op_modD (de_callTy b_int (by rfl) T.n_int (by decide +kernel) (db_cons (de_bin op_addD (de_bin op_mulD (de_bin op_mulD (de_var 4) (de_var 4)) (de_var 4)) (de_bin op_mulD (de_int) (de_ix (de_var 0) (de_int)))) db_nil)) (de_bin op_addD (de_bin op_powD (de_int) (de_int)) (de_int))))
       (dss_cons (ds_set (i := 4) sc_law_draw.nd rfl (by first | exact Or.inl rfl | exact Or.inr rfl) (de_bin op_modD (de_callTy b_int (by rfl) T.n_int (by decide +kernel) (db_cons (de_bin op_addD (de_bin op_mulD (de_var 4) (de_var 4)) (de_int)) db_nil)) (de_bin op_addD (de_bin op_powD (de_int) (de_int)) (de_int))))
       (dss_one (ds_ret (de_bin op_modD (de_callTy b_int (by rfl) T.n_int (by decide +kernel) (db_cons (de_bin op_fdivD (de_var 4) (de_bin op_powD (de_int) (de_int))) db_nil)) (de_var 1))))))))
theorem cal_law_draw (T : Tx K mg) : Cal P w K mg base 1 "_law_draw" 2 true S_law_draw := by
  obtain ⟨f, fd, F, m⟩ := T.d_law_draw
  exact cal_D F m (F.binds (ps := ["feed", "many"]) fun _ _ _ _ _ _ us hl => match us, hl with | [_, _], _ => rfl) (ok_law_draw T F)
theorem ok_law_fits (T : Tx K mg) {f : Addr} {fd : FuncData} (F : Fun K "_law_fits" "_law_fits" st_law_fits f fd) : FnG P w K mg base 1 f fd ["row"] (spD K mg 1 false S_law_fits) :=
  fn_D (N := ["row", "value"]) (body := B_law_fits) F sc_law_fits rfl fun cdv A outer s H E hr => by
    have tk : Takes (cxOf (L2.CX P w) P w K mg base ["row", "value"] "_law_fits" (defScope st_law_fits) f cdv A outer s H E) (fun c d _ H' => E c d H') := takes_of rfl rfl rfl rfl
    exact dss_one (ds_ret (de_and (de_chain op_ltD op_ltD (de_int) (de_callB b_len (by rfl) T.n_len (by decide +kernel) (db_cons (de_var 0) db_nil)) (de_int) (by with_unfolding_all rfl)) (de_one (de_cmp op_ltD (de_callB (b_max rfl) (by rfl) T.n_max (by decide +kernel) (db_cons (de_lc (vs := [1]) (own := [("value", 1)]) rfl sc_law_fits.nd (di_seq (de_var 0)) (blkOk_by (N := ["row", "value"]) (sc := defScope st_law_fits) (own := [("value", 1)]) (by decide +kernel)) rfl
       (blk_mk (is := [1]) (by decide) fun _ _ _ _ _ => ⟨dg_name (i := 1) sc_law_fits.nd rfl (by first | exact Or.inl rfl | exact Or.inr rfl), dts_nil, de_callB (b_max rfl) (by rfl) T.n_max (by decide +kernel) (db_cons (de_var 1) (db_cons (de_neg (de_var 1)) db_nil))⟩)) db_nil)) (de_bin op_powD (de_int) (de_int)) (by rfl)))))
theorem cal_law_fits (T : Tx K mg) : Cal P w K mg base 1 "_law_fits" 1 false S_law_fits := by
  obtain ⟨f, fd, F, m⟩ := T.d_law_fits
  exact cal_D F m (F.binds (ps := ["row"]) fun _ _ _ _ _ _ us hl => match us, hl with | [_], _ => rfl) (ok_law_fits T F)
theorem ok_law_is (T : Tx K mg) {f : Addr} {fd : FuncData} (F : Fun K "_law_is" "_law_is" st_law_is f fd) : FnG P w K mg base 1 f fd ["actual", "due"] (spD K mg 2 false S_law_is) :=
  fn_D (N := ["actual", "due"]) (body := B_law_is) F sc_law_is rfl fun cdv A outer s H E hr => by
    have tk : Takes (cxOf (L2.CX P w) P w K mg base ["actual", "due"] "_law_is" (defScope st_law_is) f cdv A outer s H E) (fun c d _ H' => E c d H') := takes_of rfl rfl rfl rfl
    exact dss_one (ds_ret (de_and (de_isi (n := "int") (by rfl) T.n_isinstance (by rfl) T.n_int (by decide +kernel) (de_var 0)) (de_and (de_not (de_isi (n := "bool") (by rfl) T.n_isinstance (by rfl) T.n_bool (by decide +kernel) (de_var 0))) (de_one (de_cmp (op_eqDD hr.units) (de_var 0) (de_var 1) (by rfl))))))
theorem cal_law_is (T : Tx K mg) : Cal P w K mg base 1 "_law_is" 2 false S_law_is := by
  obtain ⟨f, fd, F, m⟩ := T.d_law_is
  exact cal_D F m (F.binds (ps := ["actual", "due"]) fun _ _ _ _ _ _ us hl => match us, hl with | [_, _], _ => rfl) (ok_law_is T F)
theorem ok_law_one (T : Tx K mg) {f : Addr} {fd : FuncData} (F : Fun K "_law_one" "_law_one" st_law_one f fd) : FnG P w K mg base 2 f fd ["feed", "things"] (spD K mg 2 true S_law_one) :=
  fn_D (N := ["feed", "things"]) (body := B_law_one) F sc_law_one rfl fun cdv A outer s H E hr => by
    have tk : Takes (cxOf (L2.CX P w) P w K mg base ["feed", "things"] "_law_one" (defScope st_law_one) f cdv A outer s H E) (fun c d _ H' => E c d H') := takes_of rfl rfl rfl rfl
    exact dss_one (ds_ret (de_ix (de_var 1) (de_callIo (i := 0) (cal_law_draw T) hr (by decide) tk (by rfl) (pv 0) (da_cons (de_callB b_len (by rfl) T.n_len (by decide +kernel) (db_cons (de_var 1) db_nil)) da_nil) (aCons_len aNil_len))))
theorem cal_law_one (T : Tx K mg) : Cal P w K mg base 2 "_law_one" 2 true S_law_one := by
  obtain ⟨f, fd, F, m⟩ := T.d_law_one
  exact cal_D F m (F.binds (ps := ["feed", "things"]) fun _ _ _ _ _ _ us hl => match us, hl with | [_, _], _ => rfl) (ok_law_one T F)
theorem ok_law_value (T : Tx K mg) {f : Addr} {fd : FuncData} (F : Fun K "_law_value" "_law_value" st_law_value f fd) : FnG P w K mg base 1 f fd ["entries", "lines", "at"] (spD K mg 3 false S_law_value) :=
  fn_D (N := ["entries", "lines", "at", "many", "entry"]) (body := B_law_value) F sc_law_value rfl fun cdv A outer s H E hr => by
    have tk : Takes (cxOf (L2.CX P w) P w K mg base ["entries", "lines", "at", "many", "entry"] "_law_value" (defScope st_law_value) f cdv A outer s H E) (fun c d _ H' => E c d H') := takes_of rfl rfl rfl rfl
    exact dss_one (ds_ret (de_callB (b_sum rfl) (by rfl) T.n_sum (by decide +kernel) (db_cons (de_lc (vs := [3, 4]) (own := [("many", 3), ("entry", 4)]) rfl sc_law_value.nd (di_zip (by rfl) T.n_zip (da_cons (de_ix (de_var 1) (de_var 2)) (da_cons (de_var 0) da_nil))) (blkOk_by (N := ["entries", "lines", "at", "many", "entry"]) (sc := defScope st_law_value) (own := [("many", 3), ("entry", 4)]) (by decide +kernel)) rfl
       (blk_mk (is := [3, 4]) (by decide) fun _ _ _ _ _ => ⟨dg_tup rfl (dgs_cons (dg_name (i := 3) sc_law_value.nd rfl (by first | exact Or.inl rfl | exact Or.inr rfl)) (dgs_cons (dg_name (i := 4) sc_law_value.nd rfl (by first | exact Or.inl rfl | exact Or.inr rfl)) dgs_nil)), dts_nil, de_bin op_mulD (de_var 3) (de_var 4)⟩)) db_nil)))
theorem cal_law_value (T : Tx K mg) : Cal P w K mg base 1 "_law_value" 3 false S_law_value := by
  obtain ⟨f, fd, F, m⟩ := T.d_law_value
  exact cal_D F m (F.binds (ps := ["entries", "lines", "at"]) fun _ _ _ _ _ _ us hl => match us, hl with | [_, _, _], _ => rfl) (ok_law_value T F)
theorem ok_law_row (T : Tx K mg) {f : Addr} {fd : FuncData} (F : Fun K "_law_row" "_law_row" st_law_row f fd) : FnG P w K mg base 3 f fd ["feed", "lines"] (spD K mg 2 true S_law_row) :=
  fn_D (N := ["feed", "lines", "many", "size", "way", "entries", "row", "spot", "some", "turn", "at"]) (body := B_law_row) F sc_law_row rfl fun cdv A outer s H E hr => by
    have tk : Takes (cxOf (L2.CX P w) P w K mg base ["feed", "lines", "many", "size", "way", "entries", "row", "spot", "some", "turn", "at"] "_law_row" (defScope st_law_row) f cdv A outer s H E) (fun c d _ H' => E c d H') := takes_of rfl rfl rfl rfl
    exact dss_cons (ds_tups (is := [2, 3]) rfl (dn_cons (de_callIo (i := 0) (cal_law_one T) hr (by decide) tk (by rfl) (pv 0) (da_cons (de_lst (da_cons (de_int) (da_cons (de_int) (da_cons (de_int) (da_cons (de_int) (da_cons (de_int) (da_cons (de_int) (da_cons (de_int) (da_cons (de_bin op_addD (de_int) (de_callIo (i := 0) (cal_law_draw T) hr (by decide) tk (by rfl) (pv 0) (da_cons (de_int) da_nil) (aCons_len aNil_len))) da_nil))))))))) da_nil) (aCons_len aNil_len)) (dn_cons (de_callIo (i := 0) (cal_law_one T) hr (by decide) tk (by rfl) (pv 0) (da_cons (de_lst (da_cons (de_int) (da_cons (de_int) (da_cons (de_int) (da_cons (de_bin op_powD (de_int) (de_int)) (da_cons (de_bin op_powD (de_int) (de_int)) da_nil)))))) da_nil) (aCons_len aNil_len)) dn_nil)) (dns_cons (i := 2) sc_law_row.nd rfl (by first | exact Or.inl rfl | exact Or.inr rfl) (dns_cons (i := 3) sc_law_row.nd rfl (by first | exact Or.inl rfl | exact Or.inr rfl) dns_nil)) (by decide) (by decide))
       (dss_cons (ds_set (i := 4) sc_law_row.nd rfl (by first | exact Or.inl rfl | exact Or.inr rfl) (de_callIo (i := 0) (cal_law_draw T) hr (by decide) tk (by rfl) (pv 0) (da_cons (de_int) da_nil) (aCons_len aNil_len)))
       (dss_cons (ds_if (dt_cmp (op_eqDD hr.units) (de_var 4) (de_int) (by rfl))
       (dss_one (ds_ret (de_tup (da_cons (de_callTy b_tuple (by rfl) T.n_tuple (by decide +kernel) (db_cons (de_lc (vs := [9]) (own := [("turn", 9)]) rfl sc_law_row.nd (di_range1 (by rfl) T.n_range (db_cons (de_var 2) db_nil)) (blkOk_by (N := ["feed", "lines", "many", "size", "way", "entries", "row", "spot", "some", "turn", "at"]) (sc := defScope st_law_row) (own := [("turn", 9)]) (by decide +kernel)) rfl
       (blk_mk (is := [9]) (by decide) fun _ _ _ _ _ => ⟨dg_name (i := 9) sc_law_row.nd rfl (by first | exact Or.inl rfl | exact Or.inr rfl), dts_nil, de_bin op_subD (de_callIo (i := 0) (cal_law_draw T) hr (by decide) takes0 (by rfl) (pv 0) (da_cons (de_bin op_addD (de_bin op_mulD (de_int) (de_var 3)) (de_int)) da_nil) (aCons_len aNil_len)) (de_var 3)⟩)) db_nil)) (da_cons (de_non) da_nil)))))
       (dss_nil))
       (dss_cons (ds_if (dt_cmp (op_eqDD hr.units) (de_var 4) (de_int) (by rfl))
       (dss_one (ds_ret (de_tup (da_cons (de_callTy b_tuple (by rfl) T.n_tuple (by decide +kernel) (db_cons (de_lc (vs := [9]) (own := [("turn", 9)]) rfl sc_law_row.nd (di_range1 (by rfl) T.n_range (db_cons (de_var 2) db_nil)) (blkOk_by (N := ["feed", "lines", "many", "size", "way", "entries", "row", "spot", "some", "turn", "at"]) (sc := defScope st_law_row) (own := [("turn", 9)]) (by decide +kernel)) rfl
       (blk_mk (is := [9]) (by decide) fun _ _ _ _ _ => ⟨dg_name (i := 9) sc_law_row.nd rfl (by first | exact Or.inl rfl | exact Or.inr rfl), dts_nil, de_callIo (i := 0) (cal_law_one T) hr (by decide) takes0 (by rfl) (pv 0) (da_cons (de_lst (da_cons (de_bin op_subD (de_bin op_powD (de_int) (de_int)) (de_int)) (da_cons (de_bin op_subD (de_int) (de_bin op_powD (de_int) (de_int))) (da_cons (de_int) (da_cons (de_callIo (i := 0) (cal_law_draw T) hr (by decide) takes0 (by rfl) (pv 0) (da_cons (de_bin op_powD (de_int) (de_int)) da_nil) (aCons_len aNil_len)) da_nil))))) da_nil) (aCons_len aNil_len)⟩)) db_nil)) (da_cons (de_non) da_nil)))))
       (dss_nil))
       (dss_cons (ds_set (i := 5) sc_law_row.nd rfl (by first | exact Or.inl rfl | exact Or.inr rfl) (de_lc (vs := [9]) (own := [("turn", 9)]) rfl sc_law_row.nd (di_range1 (by rfl) T.n_range (db_cons (de_callIo (i := 0) (cal_law_draw T) hr (by decide) tk (by rfl) (pv 0) (da_cons (de_int) da_nil) (aCons_len aNil_len)) db_nil)) (blkOk_by (N := ["feed", "lines", "many", "size", "way", "entries", "row", "spot", "some", "turn", "at"]) (sc := defScope st_law_row) (own := [("turn", 9)]) (by decide +kernel)) rfl
       (blk_mk (is := [9]) (by decide) fun _ _ _ _ _ => ⟨dg_name (i := 9) sc_law_row.nd rfl (by first | exact Or.inl rfl | exact Or.inr rfl), dts_nil, de_bin op_subD (de_callIo (i := 0) (cal_law_draw T) hr (by decide) takes0 (by rfl) (pv 0) (da_cons (de_bin op_addD (de_bin op_mulD (de_int) (de_var 3)) (de_int)) da_nil) (aCons_len aNil_len)) (de_var 3)⟩)))
       (dss_cons (ds_setLc (i := 6) (vs := [10]) (own := [("at", 10)]) rfl sc_law_row.nd rfl rfl (sw_true rfl rfl rfl (by decide +kernel)) (di_range1 (by rfl) T.n_range (db_cons (de_var 2) db_nil)) (blkOk_by (N := ["feed", "lines", "many", "size", "way", "entries", "row", "spot", "some", "turn", "at"]) (sc := defScope st_law_row) (own := [("at", 10)]) (by decide +kernel)) rfl
       (blk_mk (is := [10]) (by decide) fun _ _ _ _ _ => ⟨dg_name (i := 10) sc_law_row.nd rfl (by first | exact Or.inl rfl | exact Or.inr rfl), dts_nil, de_call (cal_law_value T) hr (by decide) takes0 (by rfl) (da_cons (de_var 5) (da_cons (de_var 1) (da_cons (de_var 10) da_nil))) (aCons_len (aCons_len (aCons_len aNil_len)))⟩))
       (dss_cons (ds_if (dt_cmp (op_eqDD hr.units) (de_var 4) (de_int) (by rfl))
       (dss_cons (ds_set (i := 7) sc_law_row.nd rfl (by first | exact Or.inl rfl | exact Or.inr rfl) (de_callIo (i := 0) (cal_law_draw T) hr (by decide) tk (by rfl) (pv 0) (da_cons (de_var 2) da_nil) (aCons_len aNil_len)))
       (dss_one (ds_ret (de_tup (da_cons (de_callTy b_tuple (by rfl) T.n_tuple (by decide +kernel) (db_cons (de_bin op_addD (de_bin op_addD (de_slice (de_var 6) do_none (do_some (de_var 7))) (de_lst (da_cons (de_bin op_addD (de_ix (de_var 6) (de_var 7)) (de_callIo (i := 0) (cal_law_one T) hr (by decide) tk (by rfl) (pv 0) (da_cons (de_lst (da_cons (de_int) (da_cons (de_neg (de_int)) (da_cons (de_int) da_nil)))) da_nil) (aCons_len aNil_len))) da_nil))) (de_slice (de_var 6) (do_some (de_bin op_addD (de_var 7) (de_int))) do_none)) db_nil)) (da_cons (de_non) da_nil))))))
       (dss_nil))
       (dss_cons (ds_if (dt_cmp op_inD (de_var 4) (de_tup (da_cons (de_int) (da_cons (de_int) da_nil))) (by rfl))
       (dss_cons (ds_set (i := 8) sc_law_row.nd rfl (by first | exact Or.inl rfl | exact Or.inr rfl) (de_callIo (i := 0) (cal_law_draw T) hr (by decide) tk (by rfl) (pv 0) (da_cons (de_bin op_addD (de_var 2) (de_int)) da_nil) (aCons_len aNil_len)))
       (dss_one (ds_ret (de_tup (da_cons (de_callTy b_tuple (by rfl) T.n_tuple (by decide +kernel) (db_cons (de_bin op_addD (de_lc (vs := [9]) (own := [("turn", 9)]) rfl sc_law_row.nd (di_range1 (by rfl) T.n_range (db_cons (de_var 8) db_nil)) (blkOk_by (N := ["feed", "lines", "many", "size", "way", "entries", "row", "spot", "some", "turn", "at"]) (sc := defScope st_law_row) (own := [("turn", 9)]) (by decide +kernel)) rfl
       (blk_mk (is := [9]) (by decide) fun _ _ _ _ _ => ⟨dg_name (i := 9) sc_law_row.nd rfl (by first | exact Or.inl rfl | exact Or.inr rfl), dts_nil, de_bin op_subD (de_callIo (i := 0) (cal_law_draw T) hr (by decide) takes0 (by rfl) (pv 0) (da_cons (de_int) da_nil) (aCons_len aNil_len)) (de_int)⟩)) (de_slice (de_var 6) (do_some (de_var 8)) do_none)) db_nil)) (da_cons (de_non) da_nil))))))
       (dss_nil))
       (dss_one (ds_ret (de_tup (da_cons (de_callTy b_tuple (by rfl) T.n_tuple (by decide +kernel) (db_cons (de_var 6) db_nil)) (da_cons (de_var 5) da_nil))))))))))))
theorem cal_law_row (T : Tx K mg) : Cal P w K mg base 3 "_law_row" 2 true S_law_row := by
  obtain ⟨f, fd, F, m⟩ := T.d_law_row
  exact cal_D F m (F.binds (ps := ["feed", "lines"]) fun _ _ _ _ _ _ us hl => match us, hl with | [_, _], _ => rfl) (ok_law_row T F)
theorem ok_law_settled (T : Tx K mg) {f : Addr} {fd : FuncData} (F : Fun K "_law_settled" "_law_settled" st_law_settled f fd) : FnG P w K mg base 1 f fd ["row", "degree", "lines"] (spD K mg 3 false S_law_settled) :=
  fn_D (N := ["row", "degree", "lines", "order", "steps", "start", "at", "many", "step"]) (body := B_law_settled) F sc_law_settled rfl fun cdv A outer s H E hr => by
    have tk : Takes (cxOf (L2.CX P w) P w K mg base ["row", "degree", "lines", "order", "steps", "start", "at", "many", "step"] "_law_settled" (defScope st_law_settled) f cdv A outer s H E) (fun c d _ H' => E c d H') := takes_of rfl rfl rfl rfl
    exact dss_cons (ds_tups (is := [3, 4]) rfl (dn_cons (de_bin op_addD (de_var 1) (de_int)) (dn_cons (de_lst da_nil) dn_nil)) (dns_cons (i := 3) sc_law_settled.nd rfl (by first | exact Or.inl rfl | exact Or.inr rfl) (dns_cons (i := 4) sc_law_settled.nd rfl (by first | exact Or.inl rfl | exact Or.inr rfl) dns_nil)) (by decide) (by decide))
       (dss_cons (ds_for (passes_of rfl) rfl (di_range1 (by rfl) T.n_range (db_cons (de_bin op_subD (de_callB b_len (by rfl) T.n_len (by decide +kernel) (db_cons (de_var 0) db_nil)) (de_var 3)) db_nil)) (dg_name (i := 5) sc_law_settled.nd rfl (by first | exact Or.inl rfl | exact Or.inr rfl))
       (dss_one (ds_expr (de_meth (i := 4) m_append PySem.F.slot_list_append PySem.F.type_list_append (pv 4) (da_cons (de_callB (b_sum rfl) (by rfl) T.n_sum (by decide +kernel) (db_cons (de_lc (vs := [6, 7]) (own := [("at", 6), ("many", 7)]) rfl sc_law_settled.nd (di_enum (by rfl) T.n_enumerate (da_cons (de_ix (de_var 2) (de_var 3)) da_nil)) (blkOk_by (N := ["row", "degree", "lines", "order", "steps", "start", "at", "many", "step"]) (sc := defScope st_law_settled) (own := [("at", 6), ("many", 7)]) (by decide +kernel)) rfl
       (blk_mk (is := [6, 7]) (by decide) fun _ _ _ _ _ => ⟨dg_tup rfl (dgs_cons (dg_name (i := 6) sc_law_settled.nd rfl (by first | exact Or.inl rfl | exact Or.inr rfl)) (dgs_cons (dg_name (i := 7) sc_law_settled.nd rfl (by first | exact Or.inl rfl | exact Or.inr rfl)) dgs_nil)), dts_nil, de_bin op_mulD (de_bin op_mulD (de_var 7) (de_ix (de_var 0) (de_bin op_addD (de_var 5) (de_var 6)))) (de_if (dt_cmp (op_eqDD hr.units) (de_bin op_modD (de_callTy b_int (by rfl) T.n_int (by decide +kernel) (db_cons (de_bin op_subD (de_var 3) (de_var 6)) db_nil)) (de_int)) (de_int) (by rfl)) (de_int) (de_neg (de_int)))⟩)) db_nil)) da_nil)))))
       (dss_cons (ds_for (passes_of rfl) rfl (di_range1 (by rfl) T.n_range (db_cons (de_callB b_len (by rfl) T.n_len (by decide +kernel) (db_cons (de_var 4) db_nil)) db_nil)) (dg_name (i := 6) sc_law_settled.nd rfl (by first | exact Or.inl rfl | exact Or.inr rfl))
       (dss_one (ds_if (dt_cmp (op_eqDD hr.units) (de_lc (vs := [8]) (own := [("step", 8)]) rfl sc_law_settled.nd (di_seq (de_slice (de_var 4) (do_some (de_var 6)) do_none)) (blkOk_by (N := ["row", "degree", "lines", "order", "steps", "start", "at", "many", "step"]) (sc := defScope st_law_settled) (own := [("step", 8)]) (by decide +kernel)) rfl
       (blk_mk (is := [8]) (by decide) fun _ _ _ _ _ => ⟨dg_name (i := 8) sc_law_settled.nd rfl (by first | exact Or.inl rfl | exact Or.inr rfl), dts_one (dt_cmp (op_neDD hr.units) (de_var 8) (de_int) (by rfl)), de_var 8⟩)) (de_lst da_nil) (by rfl))
       (dss_one (ds_ret (de_var 6)))
       (dss_nil))))
       (dss_one (ds_ret (de_non)))))
theorem cal_law_settled (T : Tx K mg) : Cal P w K mg base 1 "_law_settled" 3 false S_law_settled := by
  obtain ⟨f, fd, F, m⟩ := T.d_law_settled
  exact cal_D F m (F.binds (ps := ["row", "degree", "lines"]) fun _ _ _ _ _ _ us hl => match us, hl with | [_, _, _], _ => rfl) (ok_law_settled T F)
theorem ok_is_integer (T : Tx K mg) {f : Addr} {fd : FuncData} (F : Fun K "is_integer" "is_integer" st_is_integer f fd) : FnG P w K mg base 1 f fd ["thing"] (spD K mg 1 false S_is_integer) :=
  fn_D (N := ["thing"]) (body := B_is_integer) F sc_is_integer rfl fun cdv A outer s H E hr => by
    have tk : Takes (cxOf (L2.CX P w) P w K mg base ["thing"] "is_integer" (defScope st_is_integer) f cdv A outer s H E) (fun c d _ H' => E c d H') := takes_of rfl rfl rfl rfl
    exact dss_one (ds_ret (de_and (de_isi (n := "int") (by rfl) T.n_isinstance (by rfl) T.n_int (by decide +kernel) (de_var 0)) (de_one (de_not (de_isi (n := "bool") (by rfl) T.n_isinstance (by rfl) T.n_bool (by decide +kernel) (de_var 0))))))
theorem cal_is_integer (T : Tx K mg) : Cal P w K mg base 1 "is_integer" 1 false S_is_integer := by
  obtain ⟨f, fd, F, m⟩ := T.d_is_integer
  exact cal_D F m (F.binds (ps := ["thing"]) fun _ _ _ _ _ _ us hl => match us, hl with | [_], _ => rfl) (ok_is_integer T F)
theorem ok_in_range (T : Tx K mg) {f : Addr} {fd : FuncData} (F : Fun K "in_range" "in_range" st_in_range f fd) : FnG P w K mg base 2 f fd ["thing", "low", "high"] (spD K mg 3 false S_in_range) :=
  fn_D (N := ["thing", "low", "high"]) (body := B_in_range) F sc_in_range rfl fun cdv A outer s H E hr => by
    have tk : Takes (cxOf (L2.CX P w) P w K mg base ["thing", "low", "high"] "in_range" (defScope st_in_range) f cdv A outer s H E) (fun c d _ H' => E c d H') := takes_of rfl rfl rfl rfl
    exact dss_one (ds_ret (de_and (de_call (cal_is_integer T) hr (by decide) tk (by rfl) (da_cons (de_var 0) da_nil) (aCons_len aNil_len)) (de_one (de_chain op_leD op_leD (de_var 1) (de_var 0) (de_var 2) (by with_unfolding_all rfl)))))
theorem cal_in_range (T : Tx K mg) : Cal P w K mg base 2 "in_range" 3 false S_in_range := by
  obtain ⟨f, fd, F, m⟩ := T.d_in_range
  exact cal_D F m (F.binds (ps := ["thing", "low", "high"]) fun _ _ _ _ _ _ us hl => match us, hl with | [_, _, _], _ => rfl) (ok_in_range T F)
theorem ok_is_row (T : Tx K mg) {f : Addr} {fd : FuncData} (F : Fun K "is_row" "is_row" st_is_row f fd) : FnG P w K mg base 3 f fd ["thing"] (spD K mg 1 false S_is_row) :=
  fn_D (N := ["thing", "value"]) (body := B_is_row) F sc_is_row rfl fun cdv A outer s H E hr => by
    have tk : Takes (cxOf (L2.CX P w) P w K mg base ["thing", "value"] "is_row" (defScope st_is_row) f cdv A outer s H E) (fun c d _ H' => E c d H') := takes_of rfl rfl rfl rfl
    exact dss_cons (ds_if (dt_w (dw_or (dt_not (dt_truth (de_isi (n := "tuple") (by rfl) T.n_isinstance (by rfl) T.n_tuple (by decide +kernel) (de_var 0)) (fun _ => rfl))) (dw_one (dt_not (dt_chain op_leD op_leD (de_int) (de_callB b_len (by rfl) T.n_len (by decide +kernel) (db_cons (de_var 0) db_nil)) (de_globInt (i := c_MOST_ENTRIES) (by rfl) T.c_MOST_ENTRIES.choose_spec) (by with_unfolding_all rfl))))))
       (dss_one (ds_ret (de_bl)))
       (dss_nil))
       (dss_one (ds_ret (de_callB (b_all rfl) (by rfl) T.n_all (by decide +kernel) (db_cons (de_lc (vs := [1]) (own := [("value", 1)]) rfl sc_is_row.nd (di_seq (de_var 0)) (blkOk_by (N := ["thing", "value"]) (sc := defScope st_is_row) (own := [("value", 1)]) (by decide +kernel)) rfl
       (blk_mk (is := [1]) (by decide) fun _ _ _ _ _ => ⟨dg_name (i := 1) sc_is_row.nd rfl (by first | exact Or.inl rfl | exact Or.inr rfl), dts_nil, de_call (cal_in_range T) hr (by decide) takes0 (by rfl) (da_cons (de_var 1) (da_cons (de_bin op_subD (de_int) (de_globInt (i := c_ENTRY_LIMIT) (by rfl) T.c_ENTRY_LIMIT.choose_spec)) (da_cons (de_bin op_subD (de_globInt (i := c_ENTRY_LIMIT) (by rfl) T.c_ENTRY_LIMIT.choose_spec) (de_int)) da_nil))) (aCons_len (aCons_len (aCons_len aNil_len)))⟩)) db_nil))))
theorem cal_is_row (T : Tx K mg) : Cal P w K mg base 3 "is_row" 1 false S_is_row := by
  obtain ⟨f, fd, F, m⟩ := T.d_is_row
  exact cal_D F m (F.binds (ps := ["thing"]) fun _ _ _ _ _ _ us hl => match us, hl with | [_], _ => rfl) (ok_is_row T F)
theorem ok_check_row (T : Tx K mg) {f : Addr} {fd : FuncData} (F : Fun K "check_row" "check_row" st_check_row f fd) : FnG P w K mg base 4 f fd ["row"] (spD K mg 1 false S_check_row) :=
  fn_D (N := ["row"]) (body := B_check_row) F sc_check_row rfl fun cdv A outer s H E hr => by
    have tk : Takes (cxOf (L2.CX P w) P w K mg base ["row"] "check_row" (defScope st_check_row) f cdv A outer s H E) (fun c d _ H' => E c d H') := takes_of rfl rfl rfl rfl
    exact dss_one (ds_if (dt_not (dt_truth (de_call (cal_is_row T) hr (by decide) tk (by rfl) (da_cons (de_var 0) da_nil) (aCons_len aNil_len)) (fun _ => rfl)))
       (dss_one (ds_raise rfl tk PySem.F.excBase_ValueError T.e_BadRow.choose_spec.1 T.e_BadRow.choose_spec.2.1 T.e_BadRow.choose_spec.2.2.1 T.e_BadRow.choose_spec.2.2.2.1 T.e_BadRow.choose_spec.2.2.2.2 (by rfl)))
       (dss_nil))
theorem cal_check_row (T : Tx K mg) : Cal P w K mg base 4 "check_row" 1 false S_check_row := by
  obtain ⟨f, fd, F, m⟩ := T.d_check_row
  exact cal_D F m (F.binds (ps := ["row"]) fun _ _ _ _ _ _ us hl => match us, hl with | [_], _ => rfl) (ok_check_row T F)
theorem ok_differences_at (T : Tx K mg) {f : Addr} {fd : FuncData} (F : Fun K "differences_at" "differences_at" st_differences_at f fd) : FnG P w K mg base 1 f fd ["values"] (spD K mg 1 false S_differences_at) :=
  fn_D (N := ["values", "found", "row", "one", "other"]) (body := B_differences_at) F sc_differences_at rfl fun cdv A outer s H E hr => by
    have tk : Takes (cxOf (L2.CX P w) P w K mg base ["values", "found", "row", "one", "other"] "differences_at" (defScope st_differences_at) f cdv A outer s H E) (fun c d _ H' => E c d H') := takes_of rfl rfl rfl rfl
    exact dss_cons (ds_pars (i := 1) (j := 2) rfl sc_differences_at.nd rfl rfl (by decide) rfl rfl (dn_cons (de_lst da_nil) (dn_cons (de_callTy b_list (by rfl) T.n_list (by decide +kernel) (db_cons (de_var 0) db_nil)) dn_nil)) rfl)
       (dss_cons (ds_while (passes_of rfl) (dt_cmp (op_neDD hr.units) (de_var 2) (de_lst da_nil) (by rfl)) (dss_cons (ds_expr (de_meth (i := 1) m_append PySem.F.slot_list_append PySem.F.type_list_append (pv 1) (da_cons (de_ix (de_var 2) (de_int)) da_nil)))
       (dss_one (ds_setLc (i := 2) (vs := [3, 4]) (own := [("one", 3), ("other", 4)]) rfl sc_differences_at.nd rfl rfl (sw_true rfl rfl rfl (by decide +kernel)) (di_zip (by rfl) T.n_zip (da_cons (de_var 2) (da_cons (de_slice (de_var 2) (do_some (de_int)) do_none) da_nil))) (blkOk_by (N := ["values", "found", "row", "one", "other"]) (sc := defScope st_differences_at) (own := [("one", 3), ("other", 4)]) (by decide +kernel)) rfl
       (blk_mk (is := [3, 4]) (by decide) fun _ _ _ _ _ => ⟨dg_tup rfl (dgs_cons (dg_name (i := 3) sc_differences_at.nd rfl (by first | exact Or.inl rfl | exact Or.inr rfl)) (dgs_cons (dg_name (i := 4) sc_differences_at.nd rfl (by first | exact Or.inl rfl | exact Or.inr rfl)) dgs_nil)), dts_nil, de_bin op_subD (de_var 4) (de_var 3)⟩)))))
       (dss_one (ds_ret (de_var 1))))
theorem cal_differences_at (T : Tx K mg) : Cal P w K mg base 1 "differences_at" 1 false S_differences_at := by
  obtain ⟨f, fd, F, m⟩ := T.d_differences_at
  exact cal_D F m (F.binds (ps := ["values"]) fun _ _ _ _ _ _ us hl => match us, hl with | [_], _ => rfl) (ok_differences_at T F)
theorem ok_degree_in (T : Tx K mg) {f : Addr} {fd : FuncData} (F : Fun K "degree_in" "degree_in" st_degree_in f fd) : FnG P w K mg base 2 f fd ["row"] (spD K mg 1 false S_degree_in) :=
  fn_D (N := ["row", "places", "at", "difference"]) (body := B_degree_in) F sc_degree_in rfl fun cdv A outer s H E hr => by
    have tk : Takes (cxOf (L2.CX P w) P w K mg base ["row", "places", "at", "difference"] "degree_in" (defScope st_degree_in) f cdv A outer s H E) (fun c d _ H' => E c d H') := takes_of rfl rfl rfl rfl
    exact dss_cons (ds_setLc (i := 1) (vs := [2, 3]) (own := [("at", 2), ("difference", 3)]) rfl sc_degree_in.nd rfl rfl (sw_true rfl rfl rfl (by decide +kernel)) (di_enum (by rfl) T.n_enumerate (da_cons (de_call (cal_differences_at T) hr (by decide) tk (by rfl) (da_cons (de_var 0) da_nil) (aCons_len aNil_len)) da_nil)) (blkOk_by (N := ["row", "places", "at", "difference"]) (sc := defScope st_degree_in) (own := [("at", 2), ("difference", 3)]) (by decide +kernel)) rfl
       (blk_mk (is := [2, 3]) (by decide) fun _ _ _ _ _ => ⟨dg_tup rfl (dgs_cons (dg_name (i := 2) sc_degree_in.nd rfl (by first | exact Or.inl rfl | exact Or.inr rfl)) (dgs_cons (dg_name (i := 3) sc_degree_in.nd rfl (by first | exact Or.inl rfl | exact Or.inr rfl)) dgs_nil)), dts_one (dt_cmp (op_neDD hr.units) (de_var 3) (de_int) (by rfl)), de_var 2⟩))
       (dss_one (ds_ret (de_if (dt_cmp (op_neDD hr.units) (de_var 1) (de_lst da_nil) (by rfl)) (de_ix (de_var 1) (de_neg (de_int))) (de_neg (de_int)))))
theorem cal_degree_in (T : Tx K mg) : Cal P w K mg base 2 "degree_in" 1 false S_degree_in := by
  obtain ⟨f, fd, F, m⟩ := T.d_degree_in
  exact cal_D F m (F.binds (ps := ["row"]) fun _ _ _ _ _ _ us hl => match us, hl with | [_], _ => rfl) (ok_degree_in T F)
theorem ok_degree_of_row (T : Tx K mg) {f : Addr} {fd : FuncData} (F : Fun K "degree_of_row" "degree_of_row" st_degree_of_row f fd) : FnG P w K mg base 5 f fd ["row"] (spD K mg 1 false S_degree_of_row) :=
  fn_D (N := ["row"]) (body := B_degree_of_row) F sc_degree_of_row rfl fun cdv A outer s H E hr => by
    have tk : Takes (cxOf (L2.CX P w) P w K mg base ["row"] "degree_of_row" (defScope st_degree_of_row) f cdv A outer s H E) (fun c d _ H' => E c d H') := takes_of rfl rfl rfl rfl
    exact dss_cons (ds_expr (de_call (cal_check_row T) hr (by decide) tk (by rfl) (da_cons (de_var 0) da_nil) (aCons_len aNil_len)))
       (dss_one (ds_ret (de_call (cal_degree_in T) hr (by decide) tk (by rfl) (da_cons (de_var 0) da_nil) (aCons_len aNil_len))))
theorem cal_degree_of_row (T : Tx K mg) : Cal P w K mg base 5 "degree_of_row" 1 false S_degree_of_row := by
  obtain ⟨f, fd, F, m⟩ := T.d_degree_of_row
  exact cal_D F m (F.binds (ps := ["row"]) fun _ _ _ _ _ _ us hl => match us, hl with | [_], _ => rfl) (ok_degree_of_row T F)
theorem calK_degree_of_row_row (T : Tx K mg) : CalK P w K mg base 5 "degree_of_row" 1 S_degree_of_row ["row"] [0] := by
  obtain ⟨f, fd, F, m⟩ := T.d_degree_of_row
  refine ⟨f, fd, ["row"], ok_degree_of_row T F, m, F.kp, ?_⟩
  obtain ⟨oc, od, kV, doc, pm, an, cdv, ct, osl, rfl, lk, hcd⟩ := F.ex
  exact fun us hl => match us, hl with | [_], _ => rfl
theorem ok_differences (T : Tx K mg) {f : Addr} {fd : FuncData} (F : Fun K "differences" "differences" st_differences f fd) : FnG P w K mg base 5 f fd ["row"] (spD K mg 1 false S_differences) :=
  fn_D (N := ["row"]) (body := B_differences) F sc_differences rfl fun cdv A outer s H E hr => by
    have tk : Takes (cxOf (L2.CX P w) P w K mg base ["row"] "differences" (defScope st_differences) f cdv A outer s H E) (fun c d _ H' => E c d H') := takes_of rfl rfl rfl rfl
    exact dss_cons (ds_expr (de_call (cal_check_row T) hr (by decide) tk (by rfl) (da_cons (de_var 0) da_nil) (aCons_len aNil_len)))
       (dss_one (ds_ret (de_callTy b_tuple (by rfl) T.n_tuple (by decide +kernel) (db_cons (de_call (cal_differences_at T) hr (by decide) tk (by rfl) (da_cons (de_var 0) da_nil) (aCons_len aNil_len)) db_nil))))
theorem cal_differences (T : Tx K mg) : Cal P w K mg base 5 "differences" 1 false S_differences := by
  obtain ⟨f, fd, F, m⟩ := T.d_differences
  exact cal_D F m (F.binds (ps := ["row"]) fun _ _ _ _ _ _ us hl => match us, hl with | [_], _ => rfl) (ok_differences T F)
theorem calK_differences_row (T : Tx K mg) : CalK P w K mg base 5 "differences" 1 S_differences ["row"] [0] := by
  obtain ⟨f, fd, F, m⟩ := T.d_differences
  refine ⟨f, fd, ["row"], ok_differences T F, m, F.kp, ?_⟩
  obtain ⟨oc, od, kV, doc, pm, an, cdv, ct, osl, rfl, lk, hcd⟩ := F.ex
  exact fun us hl => match us, hl with | [_], _ => rfl
theorem ok_check_count (T : Tx K mg) {f : Addr} {fd : FuncData} (F : Fun K "check_count" "check_count" st_check_count f fd) : FnG P w K mg base 3 f fd ["thing", "low", "high"] (spD K mg 3 false S_check_count) :=
  fn_D (N := ["thing", "low", "high"]) (body := B_check_count) F sc_check_count rfl fun cdv A outer s H E hr => by
    have tk : Takes (cxOf (L2.CX P w) P w K mg base ["thing", "low", "high"] "check_count" (defScope st_check_count) f cdv A outer s H E) (fun c d _ H' => E c d H') := takes_of rfl rfl rfl rfl
    exact dss_one (ds_if (dt_not (dt_truth (de_call (cal_in_range T) hr (by decide) tk (by rfl) (da_cons (de_var 0) (da_cons (de_var 1) (da_cons (de_var 2) da_nil))) (aCons_len (aCons_len (aCons_len aNil_len)))) (fun _ => rfl)))
       (dss_one (ds_raise rfl tk PySem.F.excBase_ValueError T.e_BadCount.choose_spec.1 T.e_BadCount.choose_spec.2.1 T.e_BadCount.choose_spec.2.2.1 T.e_BadCount.choose_spec.2.2.2.1 T.e_BadCount.choose_spec.2.2.2.2 (by rfl)))
       (dss_nil))
theorem cal_check_count (T : Tx K mg) : Cal P w K mg base 3 "check_count" 3 false S_check_count := by
  obtain ⟨f, fd, F, m⟩ := T.d_check_count
  exact cal_D F m (F.binds (ps := ["thing", "low", "high"]) fun _ _ _ _ _ _ us hl => match us, hl with | [_, _, _], _ => rfl) (ok_check_count T F)
theorem ok_row_of (T : Tx K mg) {f : Addr} {fd : FuncData} (F : Fun K "row_of" "row_of" st_row_of f fd) : FnG P w K mg base 1 f fd ["differences", "many"] (spD K mg 2 false S_row_of) :=
  fn_D (N := ["differences", "many", "state", "found", "turn", "one", "other"]) (body := B_row_of) F sc_row_of rfl fun cdv A outer s H E hr => by
    have tk : Takes (cxOf (L2.CX P w) P w K mg base ["differences", "many", "state", "found", "turn", "one", "other"] "row_of" (defScope st_row_of) f cdv A outer s H E) (fun c d _ H' => E c d H') := takes_of rfl rfl rfl rfl
    exact dss_cons (ds_pars (i := 2) (j := 3) rfl sc_row_of.nd rfl rfl (by decide) rfl rfl (dn_cons (de_callTy b_list (by rfl) T.n_list (by decide +kernel) (db_cons (de_var 0) db_nil)) (dn_cons (de_lst da_nil) dn_nil)) rfl)
       (dss_cons (ds_for (passes_of rfl) rfl (di_range1 (by rfl) T.n_range (db_cons (de_var 1) db_nil)) (dg_name (i := 4) sc_row_of.nd rfl (by first | exact Or.inl rfl | exact Or.inr rfl))
       (dss_cons (ds_expr (de_meth (i := 3) m_append PySem.F.slot_list_append PySem.F.type_list_append (pv 3) (da_cons (de_if (dt_cmp (op_neDD hr.units) (de_var 2) (de_lst da_nil) (by rfl)) (de_ix (de_var 2) (de_int)) (de_int)) da_nil)))
       (dss_one (ds_setLc (i := 2) (vs := [5, 6]) (own := [("one", 5), ("other", 6)]) rfl sc_row_of.nd rfl rfl (sw_true rfl rfl rfl (by decide +kernel)) (di_zip (by rfl) T.n_zip (da_cons (de_var 2) (da_cons (de_bin op_addD (de_slice (de_var 2) (do_some (de_int)) do_none) (de_lst (da_cons (de_int) da_nil))) da_nil))) (blkOk_by (N := ["differences", "many", "state", "found", "turn", "one", "other"]) (sc := defScope st_row_of) (own := [("one", 5), ("other", 6)]) (by decide +kernel)) rfl
       (blk_mk (is := [5, 6]) (by decide) fun _ _ _ _ _ => ⟨dg_tup rfl (dgs_cons (dg_name (i := 5) sc_row_of.nd rfl (by first | exact Or.inl rfl | exact Or.inr rfl)) (dgs_cons (dg_name (i := 6) sc_row_of.nd rfl (by first | exact Or.inl rfl | exact Or.inr rfl)) dgs_nil)), dts_nil, de_bin op_addD (de_var 5) (de_var 6)⟩)))))
       (dss_one (ds_ret (de_callTy b_tuple (by rfl) T.n_tuple (by decide +kernel) (db_cons (de_var 3) db_nil)))))
theorem cal_row_of (T : Tx K mg) : Cal P w K mg base 1 "row_of" 2 false S_row_of := by
  obtain ⟨f, fd, F, m⟩ := T.d_row_of
  exact cal_D F m (F.binds (ps := ["differences", "many"]) fun _ _ _ _ _ _ us hl => match us, hl with | [_, _], _ => rfl) (ok_row_of T F)
theorem ok_further (T : Tx K mg) {f : Addr} {fd : FuncData} (F : Fun K "further" "further" st_further f fd) : FnG P w K mg base 5 f fd ["row", "count"] (spD K mg 2 false S_further) :=
  fn_D (N := ["row", "count"]) (body := B_further) F sc_further rfl fun cdv A outer s H E hr => by
    have tk : Takes (cxOf (L2.CX P w) P w K mg base ["row", "count"] "further" (defScope st_further) f cdv A outer s H E) (fun c d _ H' => E c d H') := takes_of rfl rfl rfl rfl
    exact dss_cons (ds_expr (de_call (cal_check_row T) hr (by decide) tk (by rfl) (da_cons (de_var 0) da_nil) (aCons_len aNil_len)))
       (dss_cons (ds_expr (de_call (cal_check_count T) hr (by decide) tk (by rfl) (da_cons (de_var 1) (da_cons (de_int) (da_cons (de_globInt (i := c_MOST_ENTRIES) (by rfl) T.c_MOST_ENTRIES.choose_spec) da_nil))) (aCons_len (aCons_len (aCons_len aNil_len)))))
       (dss_one (ds_ret (de_slice (de_call (cal_row_of T) hr (by decide) tk (by rfl) (da_cons (de_call (cal_differences_at T) hr (by decide) tk (by rfl) (da_cons (de_var 0) da_nil) (aCons_len aNil_len)) (da_cons (de_bin op_addD (de_callB b_len (by rfl) T.n_len (by decide +kernel) (db_cons (de_var 0) db_nil)) (de_var 1)) da_nil)) (aCons_len (aCons_len aNil_len))) (do_some (de_callB b_len (by rfl) T.n_len (by decide +kernel) (db_cons (de_var 0) db_nil))) do_none))))
theorem cal_further (T : Tx K mg) : Cal P w K mg base 5 "further" 2 false S_further := by
  obtain ⟨f, fd, F, m⟩ := T.d_further
  exact cal_D F m (F.binds (ps := ["row", "count"]) fun _ _ _ _ _ _ us hl => match us, hl with | [_, _], _ => rfl) (ok_further T F)
theorem calK_further_count_row (T : Tx K mg) : CalK P w K mg base 5 "further" 2 S_further ["count", "row"] [1, 0] := by
  obtain ⟨f, fd, F, m⟩ := T.d_further
  refine ⟨f, fd, ["row", "count"], ok_further T F, m, F.kp, ?_⟩
  obtain ⟨oc, od, kV, doc, pm, an, cdv, ct, osl, rfl, lk, hcd⟩ := F.ex
  exact fun us hl => match us, hl with | [_, _], _ => rfl
theorem ok_row_by (T : Tx K mg) {f : Addr} {fd : FuncData} (F : Fun K "row_by" "row_by" st_row_by f fd) : FnG P w K mg base 5 f fd ["entries"] (spD K mg 1 false S_row_by) :=
  fn_D (N := ["entries"]) (body := B_row_by) F sc_row_by rfl fun cdv A outer s H E hr => by
    have tk : Takes (cxOf (L2.CX P w) P w K mg base ["entries"] "row_by" (defScope st_row_by) f cdv A outer s H E) (fun c d _ H' => E c d H') := takes_of rfl rfl rfl rfl
    exact dss_cons (ds_expr (de_call (cal_check_row T) hr (by decide) tk (by rfl) (da_cons (de_var 0) da_nil) (aCons_len aNil_len)))
       (dss_one (ds_ret (de_call (cal_row_of T) hr (by decide) tk (by rfl) (da_cons (de_var 0) (da_cons (de_callB b_len (by rfl) T.n_len (by decide +kernel) (db_cons (de_var 0) db_nil)) da_nil)) (aCons_len (aCons_len aNil_len)))))
theorem cal_row_by (T : Tx K mg) : Cal P w K mg base 5 "row_by" 1 false S_row_by := by
  obtain ⟨f, fd, F, m⟩ := T.d_row_by
  exact cal_D F m (F.binds (ps := ["entries"]) fun _ _ _ _ _ _ us hl => match us, hl with | [_], _ => rfl) (ok_row_by T F)
theorem calK_row_by_entries (T : Tx K mg) : CalK P w K mg base 5 "row_by" 1 S_row_by ["entries"] [0] := by
  obtain ⟨f, fd, F, m⟩ := T.d_row_by
  refine ⟨f, fd, ["entries"], ok_row_by T F, m, F.kp, ?_⟩
  obtain ⟨oc, od, kV, doc, pm, an, cdv, ct, osl, rfl, lk, hcd⟩ := F.ex
  exact fun us hl => match us, hl with | [_], _ => rfl
theorem ok_first_settled (T : Tx K mg) {f : Addr} {fd : FuncData} (F : Fun K "first_settled" "first_settled" st_first_settled f fd) : FnG P w K mg base 3 f fd ["row", "degree"] (spD K mg 2 false S_first_settled) :=
  fn_D (N := ["row", "degree", "at"]) (body := B_first_settled) F sc_first_settled rfl fun cdv A outer s H E hr => by
    have tk : Takes (cxOf (L2.CX P w) P w K mg base ["row", "degree", "at"] "first_settled" (defScope st_first_settled) f cdv A outer s H E) (fun c d _ H' => E c d H') := takes_of rfl rfl rfl rfl
    exact dss_cons (ds_for (passes_of rfl) rfl (di_range1 (by rfl) T.n_range (db_cons (de_bin op_subD (de_bin op_subD (de_callB b_len (by rfl) T.n_len (by decide +kernel) (db_cons (de_var 0) db_nil)) (de_var 1)) (de_int)) db_nil)) (dg_name (i := 2) sc_first_settled.nd rfl (by first | exact Or.inl rfl | exact Or.inr rfl))
       (dss_one (ds_if (dt_cmp op_leD (de_call (cal_degree_in T) hr (by decide) tk (by rfl) (da_cons (de_slice (de_var 0) (do_some (de_var 2)) do_none) da_nil) (aCons_len aNil_len)) (de_var 1) (by rfl))
       (dss_one (ds_ret (de_var 2)))
       (dss_nil))))
       (dss_one (ds_ret (de_non)))
theorem cal_first_settled (T : Tx K mg) : Cal P w K mg base 3 "first_settled" 2 false S_first_settled := by
  obtain ⟨f, fd, F, m⟩ := T.d_first_settled
  exact cal_D F m (F.binds (ps := ["row", "degree"]) fun _ _ _ _ _ _ us hl => match us, hl with | [_, _], _ => rfl) (ok_first_settled T F)
theorem ok_settled_from (T : Tx K mg) {f : Addr} {fd : FuncData} (F : Fun K "settled_from" "settled_from" st_settled_from f fd) : FnG P w K mg base 5 f fd ["row", "degree"] (spD K mg 2 false S_settled_from) :=
  fn_D (N := ["row", "degree"]) (body := B_settled_from) F sc_settled_from rfl fun cdv A outer s H E hr => by
    have tk : Takes (cxOf (L2.CX P w) P w K mg base ["row", "degree"] "settled_from" (defScope st_settled_from) f cdv A outer s H E) (fun c d _ H' => E c d H') := takes_of rfl rfl rfl rfl
    exact dss_cons (ds_expr (de_call (cal_check_row T) hr (by decide) tk (by rfl) (da_cons (de_var 0) da_nil) (aCons_len aNil_len)))
       (dss_cons (ds_expr (de_call (cal_check_count T) hr (by decide) tk (by rfl) (da_cons (de_var 1) (da_cons (de_int) (da_cons (de_globInt (i := c_MOST_DEGREE) (by rfl) T.c_MOST_DEGREE.choose_spec) da_nil))) (aCons_len (aCons_len (aCons_len aNil_len)))))
       (dss_one (ds_ret (de_call (cal_first_settled T) hr (by decide) tk (by rfl) (da_cons (de_var 0) (da_cons (de_var 1) da_nil)) (aCons_len (aCons_len aNil_len))))))
theorem cal_settled_from (T : Tx K mg) : Cal P w K mg base 5 "settled_from" 2 false S_settled_from := by
  obtain ⟨f, fd, F, m⟩ := T.d_settled_from
  exact cal_D F m (F.binds (ps := ["row", "degree"]) fun _ _ _ _ _ _ us hl => match us, hl with | [_, _], _ => rfl) (ok_settled_from T F)
theorem calK_settled_from_degree_row (T : Tx K mg) : CalK P w K mg base 5 "settled_from" 2 S_settled_from ["degree", "row"] [1, 0] := by
  obtain ⟨f, fd, F, m⟩ := T.d_settled_from
  refine ⟨f, fd, ["row", "degree"], ok_settled_from T F, m, F.kp, ?_⟩
  obtain ⟨oc, od, kV, doc, pm, an, cdv, ct, osl, rfl, lk, hcd⟩ := F.ex
  exact fun us hl => match us, hl with | [_, _], _ => rfl
theorem ok_law_right (T : Tx K mg) {f : Addr} {fd : FuncData} (F : Fun K "_law_right" "_law_right" st_law_right f fd) : FnG P w K mg base 6 f fd ["feed", "lines"] (spD K mg 2 true S_law_right) :=
  fn_D (N := ["feed", "lines", "row", "made", "due", "degree", "whole", "count", "later", "most", "start", "at", "entry"]) (body := B_law_right) F sc_law_right rfl fun cdv A outer s H E hr => by
    have tk : Takes (cxOf (L2.CX P w) P w K mg base ["feed", "lines", "row", "made", "due", "degree", "whole", "count", "later", "most", "start", "at", "entry"] "_law_right" (defScope st_law_right) f cdv A outer s H E) (fun c d _ H' => E c d H') := takes_of rfl rfl rfl rfl
    exact dss_cons (ds_asg (de_callIo (i := 0) (cal_law_row T) hr (by decide) tk (by rfl) (pv 0) (da_cons (de_var 1) da_nil) (aCons_len aNil_len)) (dg_tup rfl (dgs_cons (dg_name (i := 2) sc_law_right.nd rfl (by first | exact Or.inl rfl | exact Or.inr rfl)) (dgs_cons (dg_name (i := 3) sc_law_right.nd rfl (by first | exact Or.inl rfl | exact Or.inr rfl)) dgs_nil))))
       (dss_cons (ds_if (dt_not (dt_truth (de_call (cal_law_fits T) hr (by decide) tk (by rfl) (da_cons (de_var 2) da_nil) (aCons_len aNil_len)) (fun _ => rfl)))
       (dss_one (ds_ret (de_bl)))
       (dss_nil))
       (dss_cons (ds_set (i := 4) sc_law_right.nd rfl (by first | exact Or.inl rfl | exact Or.inr rfl) (de_call (cal_law_differences T) hr (by decide) tk (by rfl) (da_cons (de_var 2) (da_cons (de_var 1) da_nil)) (aCons_len (aCons_len aNil_len))))
       (dss_cons (ds_set (i := 5) sc_law_right.nd rfl (by first | exact Or.inl rfl | exact Or.inr rfl) (de_callB (b_max rfl) (by rfl) T.n_max (by decide +kernel) (db_cons (de_bin op_addD (de_lc (vs := [11, 12]) (own := [("at", 11), ("entry", 12)]) rfl sc_law_right.nd (di_enum (by rfl) T.n_enumerate (da_cons (de_var 4) da_nil)) (blkOk_by (N := ["feed", "lines", "row", "made", "due", "degree", "whole", "count", "later", "most", "start", "at", "entry"]) (sc := defScope st_law_right) (own := [("at", 11), ("entry", 12)]) (by decide +kernel)) rfl
       (blk_mk (is := [11, 12]) (by decide) fun _ _ _ _ _ => ⟨dg_tup rfl (dgs_cons (dg_name (i := 11) sc_law_right.nd rfl (by first | exact Or.inl rfl | exact Or.inr rfl)) (dgs_cons (dg_name (i := 12) sc_law_right.nd rfl (by first | exact Or.inl rfl | exact Or.inr rfl)) dgs_nil)), dts_one (dt_cmp (op_neDD hr.units) (de_var 12) (de_int) (by rfl)), de_var 11⟩)) (de_lst (da_cons (de_neg (de_int)) da_nil))) db_nil)))
       (dss_cons (ds_if (dt_cmp (op_neDD hr.units) (de_callB (b_repr hr) (by rfl) T.n_repr (by decide +kernel) (db_cons (de_lst (da_cons (de_call (cal_differences T) hr (by decide) tk (by rfl) (da_cons (de_var 2) da_nil) (aCons_len aNil_len)) (da_cons (de_callK (perm := [0]) (calK_differences_row T) hr (by decide) tk (by rfl) rfl (dk_cons (de_var 2) dk_nil) (aCons_len aNil_len)) da_nil))) db_nil)) (de_callB (b_repr hr) (by rfl) T.n_repr (by decide +kernel) (db_cons (de_lst (da_cons (de_var 4) (da_cons (de_var 4) da_nil))) db_nil)) (by rfl))
       (dss_one (ds_ret (de_bl)))
       (dss_nil))
       (dss_cons (ds_if (dt_w (dw_or (dt_not (dt_truth (de_call (cal_law_is T) hr (by decide) tk (by rfl) (da_cons (de_call (cal_degree_of_row T) hr (by decide) tk (by rfl) (da_cons (de_var 2) da_nil) (aCons_len aNil_len)) (da_cons (de_var 5) da_nil)) (aCons_len (aCons_len aNil_len))) (fun _ => rfl))) (dw_one (dt_not (dt_truth (de_call (cal_law_is T) hr (by decide) tk (by rfl) (da_cons (de_callK (perm := [0]) (calK_degree_of_row_row T) hr (by decide) tk (by rfl) rfl (dk_cons (de_var 2) dk_nil) (aCons_len aNil_len)) (da_cons (de_var 5) da_nil)) (aCons_len (aCons_len aNil_len))) (fun _ => rfl))))))
       (dss_one (ds_ret (de_bl)))
       (dss_nil))
       (dss_cons (ds_if (dt_w (dw_and (dt_truth (de_call (cal_law_fits T) hr (by decide) tk (by rfl) (da_cons (de_var 4) da_nil) (aCons_len aNil_len)) (fun _ => rfl)) (dw_one (dt_cmp (op_neDD hr.units) (de_callB (b_repr hr) (by rfl) T.n_repr (by decide +kernel) (db_cons (de_call (cal_row_by T) hr (by decide) tk (by rfl) (da_cons (de_var 4) da_nil) (aCons_len aNil_len)) db_nil)) (de_callB (b_repr hr) (by rfl) T.n_repr (by decide +kernel) (db_cons (de_var 2) db_nil)) (by rfl)))))
       (dss_one (ds_ret (de_bl)))
       (dss_nil))
       (dss_cons (ds_set (i := 6) sc_law_right.nd rfl (by first | exact Or.inl rfl | exact Or.inr rfl) (de_callTy b_tuple (by rfl) T.n_tuple (by decide +kernel) (db_cons (de_lc (vs := [11]) (own := [("at", 11)]) rfl sc_law_right.nd (di_range1 (by rfl) T.n_range (db_cons (de_callB b_len (by rfl) T.n_len (by decide +kernel) (db_cons (de_var 2) db_nil)) db_nil)) (blkOk_by (N := ["feed", "lines", "row", "made", "due", "degree", "whole", "count", "later", "most", "start", "at", "entry"]) (sc := defScope st_law_right) (own := [("at", 11)]) (by decide +kernel)) rfl
       (blk_mk (is := [11]) (by decide) fun _ _ _ _ _ => ⟨dg_name (i := 11) sc_law_right.nd rfl (by first | exact Or.inl rfl | exact Or.inr rfl), dts_nil, de_call (cal_law_value T) hr (by decide) takes0 (by rfl) (da_cons (de_var 2) (da_cons (de_var 1) (da_cons (de_var 11) da_nil))) (aCons_len (aCons_len (aCons_len aNil_len)))⟩)) db_nil)))
       (dss_cons (ds_if (dt_w (dw_or (dt_cmp (op_neDD hr.units) (de_callB (b_repr hr) (by rfl) T.n_repr (by decide +kernel) (db_cons (de_lst (da_cons (de_call (cal_row_by T) hr (by decide) tk (by rfl) (da_cons (de_var 2) da_nil) (aCons_len aNil_len)) (da_cons (de_callK (perm := [0]) (calK_row_by_entries T) hr (by decide) tk (by rfl) rfl (dk_cons (de_var 2) dk_nil) (aCons_len aNil_len)) da_nil))) db_nil)) (de_callB (b_repr hr) (by rfl) T.n_repr (by decide +kernel) (db_cons (de_lst (da_cons (de_var 6) (da_cons (de_var 6) da_nil))) db_nil)) (by rfl)) (dw_one (dt_w (dw_and (dt_truth (de_call (cal_law_fits T) hr (by decide) tk (by rfl) (da_cons (de_var 6) da_nil) (aCons_len aNil_len)) (fun _ => rfl)) (dw_one (dt_cmp (op_neDD hr.units) (de_callB (b_repr hr) (by rfl) T.n_repr (by decide +kernel) (db_cons (de_call (cal_differences T) hr (by decide) tk (by rfl) (da_cons (de_var 6) da_nil) (aCons_len aNil_len)) db_nil)) (de_callB (b_repr hr) (by rfl) T.n_repr (by decide +kernel) (db_cons (de_var 2) db_nil)) (by rfl))))))))
       (dss_one (ds_ret (de_bl)))
       (dss_nil))
       (dss_cons (ds_set (i := 7) sc_law_right.nd rfl (by first | exact Or.inl rfl | exact Or.inr rfl) (de_callIo (i := 0) (cal_law_one T) hr (by decide) tk (by rfl) (pv 0) (da_cons (de_lst (da_cons (de_int) (da_cons (de_int) (da_cons (de_bin op_addD (de_int) (de_callIo (i := 0) (cal_law_draw T) hr (by decide) tk (by rfl) (pv 0) (da_cons (de_int) da_nil) (aCons_len aNil_len))) (da_cons (de_int) da_nil))))) da_nil) (aCons_len aNil_len)))
       (dss_cons (ds_set (i := 8) sc_law_right.nd rfl (by first | exact Or.inl rfl | exact Or.inr rfl) (de_callTy b_tuple (by rfl) T.n_tuple (by decide +kernel) (db_cons (de_lc (vs := [11]) (own := [("at", 11)]) rfl sc_law_right.nd (di_range2 (by rfl) T.n_range (db_cons (de_callB b_len (by rfl) T.n_len (by decide +kernel) (db_cons (de_var 2) db_nil)) (db_cons (de_bin op_addD (de_callB b_len (by rfl) T.n_len (by decide +kernel) (db_cons (de_var 2) db_nil)) (de_var 7)) db_nil))) (blkOk_by (N := ["feed", "lines", "row", "made", "due", "degree", "whole", "count", "later", "most", "start", "at", "entry"]) (sc := defScope st_law_right) (own := [("at", 11)]) (by decide +kernel)) rfl
       (blk_mk (is := [11]) (by decide) fun _ _ _ _ _ => ⟨dg_name (i := 11) sc_law_right.nd rfl (by first | exact Or.inl rfl | exact Or.inr rfl), dts_nil, de_call (cal_law_value T) hr (by decide) takes0 (by rfl) (da_cons (de_var 4) (da_cons (de_var 1) (da_cons (de_var 11) da_nil))) (aCons_len (aCons_len (aCons_len aNil_len)))⟩)) db_nil)))
       (dss_cons (ds_if (dt_cmp (op_neDD hr.units) (de_callB (b_repr hr) (by rfl) T.n_repr (by decide +kernel) (db_cons (de_lst (da_cons (de_call (cal_further T) hr (by decide) tk (by rfl) (da_cons (de_var 2) (da_cons (de_var 7) da_nil)) (aCons_len (aCons_len aNil_len))) (da_cons (de_callK (perm := [1, 0]) (calK_further_count_row T) hr (by decide) tk (by rfl) rfl (dk_cons (de_var 7) (dk_cons (de_var 2) dk_nil)) (aCons_len (aCons_len aNil_len))) da_nil))) db_nil)) (de_callB (b_repr hr) (by rfl) T.n_repr (by decide +kernel) (db_cons (de_lst (da_cons (de_var 8) (da_cons (de_var 8) da_nil))) db_nil)) (by rfl))
       (dss_one (ds_ret (de_bl)))
       (dss_nil))
       (dss_cons (ds_if (dt_w (dw_and (dt_truth (de_call (cal_law_fits T) hr (by decide) tk (by rfl) (da_cons (de_bin op_addD (de_var 2) (de_var 8)) da_nil) (aCons_len aNil_len)) (fun _ => rfl)) (dw_one (dt_w (dw_or (dt_cmp (op_neDD hr.units) (de_call (cal_degree_of_row T) hr (by decide) tk (by rfl) (da_cons (de_bin op_addD (de_var 2) (de_var 8)) da_nil) (aCons_len aNil_len)) (de_var 5) (by rfl)) (dw_one (dt_cmp (op_neDD hr.units) (de_slice (de_call (cal_differences T) hr (by decide) tk (by rfl) (da_cons (de_bin op_addD (de_var 2) (de_var 8)) da_nil) (aCons_len aNil_len)) do_none (do_some (de_callB b_len (by rfl) T.n_len (by decide +kernel) (db_cons (de_var 2) db_nil)))) (de_var 4) (by rfl))))))))
       (dss_one (ds_ret (de_bl)))
       (dss_nil))
       (dss_cons (ds_if (dt_w (dw_and (dt_cmp op_isNotD (de_var 3) (de_non) (by rfl)) (dw_and (dt_cmp op_leD (de_callB b_len (by rfl) T.n_len (by decide +kernel) (db_cons (de_var 3) db_nil)) (de_callB b_len (by rfl) T.n_len (by decide +kernel) (db_cons (de_var 2) db_nil)) (by rfl)) (dw_one (dt_cmp (op_neDD hr.units) (de_var 8) (de_callTy b_tuple (by rfl) T.n_tuple (by decide +kernel) (db_cons (de_lc (vs := [11]) (own := [("at", 11)]) rfl sc_law_right.nd (di_range2 (by rfl) T.n_range (db_cons (de_callB b_len (by rfl) T.n_len (by decide +kernel) (db_cons (de_var 2) db_nil)) (db_cons (de_bin op_addD (de_callB b_len (by rfl) T.n_len (by decide +kernel) (db_cons (de_var 2) db_nil)) (de_var 7)) db_nil))) (blkOk_by (N := ["feed", "lines", "row", "made", "due", "degree", "whole", "count", "later", "most", "start", "at", "entry"]) (sc := defScope st_law_right) (own := [("at", 11)]) (by decide +kernel)) rfl
       (blk_mk (is := [11]) (by decide) fun _ _ _ _ _ => ⟨dg_name (i := 11) sc_law_right.nd rfl (by first | exact Or.inl rfl | exact Or.inr rfl), dts_nil, de_call (cal_law_value T) hr (by decide) takes0 (by rfl) (da_cons (de_var 3) (da_cons (de_var 1) (da_cons (de_var 11) da_nil))) (aCons_len (aCons_len (aCons_len aNil_len)))⟩)) db_nil)) (by rfl))))))
       (dss_one (ds_ret (de_bl)))
       (dss_nil))
       (dss_cons (ds_for (passes_of rfl) rfl (di_seq (de_lst (da_cons (de_int) (da_cons (de_int) (da_cons (de_callIo (i := 0) (cal_law_draw T) hr (by decide) tk (by rfl) (pv 0) (da_cons (de_int) da_nil) (aCons_len aNil_len)) (da_cons (de_callB (b_max rfl) (by rfl) T.n_max (by decide +kernel) (db_cons (de_int) (db_cons (de_callB (b_min rfl) (by rfl) T.n_min (by decide +kernel) (db_cons (de_int) (db_cons (de_var 5) db_nil))) db_nil))) (da_cons (de_callB (b_max rfl) (by rfl) T.n_max (by decide +kernel) (db_cons (de_int) (db_cons (de_callB (b_min rfl) (by rfl) T.n_min (by decide +kernel) (db_cons (de_int) (db_cons (de_bin op_subD (de_var 5) (de_int)) db_nil))) db_nil))) da_nil))))))) (dg_name (i := 9) sc_law_right.nd rfl (by first | exact Or.inl rfl | exact Or.inr rfl))
       (dss_cons (ds_set (i := 10) sc_law_right.nd rfl (by first | exact Or.inl rfl | exact Or.inr rfl) (de_call (cal_law_settled T) hr (by decide) tk (by rfl) (da_cons (de_var 2) (da_cons (de_var 9) (da_cons (de_var 1) da_nil))) (aCons_len (aCons_len (aCons_len aNil_len)))))
       (dss_cons (ds_if (dt_cmp (op_neDD hr.units) (de_callB (b_repr hr) (by rfl) T.n_repr (by decide +kernel) (db_cons (de_lst (da_cons (de_call (cal_settled_from T) hr (by decide) tk (by rfl) (da_cons (de_var 2) (da_cons (de_var 9) da_nil)) (aCons_len (aCons_len aNil_len))) (da_cons (de_callK (perm := [1, 0]) (calK_settled_from_degree_row T) hr (by decide) tk (by rfl) rfl (dk_cons (de_var 9) (dk_cons (de_var 2) dk_nil)) (aCons_len (aCons_len aNil_len))) da_nil))) db_nil)) (de_callB (b_repr hr) (by rfl) T.n_repr (by decide +kernel) (db_cons (de_lst (da_cons (de_var 10) (da_cons (de_var 10) da_nil))) db_nil)) (by rfl))
       (dss_one (ds_ret (de_bl)))
       (dss_nil))
       (dss_one (ds_if (dt_w (dw_or (dt_w (dw_and (dt_cmp op_isNotD (de_var 10) (de_non) (by rfl)) (dw_one (dt_cmp op_gtD (de_call (cal_degree_of_row T) hr (by decide) tk (by rfl) (da_cons (de_slice (de_var 2) (do_some (de_var 10)) do_none) da_nil) (aCons_len aNil_len)) (de_var 9) (by rfl))))) (dw_one (dt_w (dw_and (dt_cmp op_isNotD (de_var 10) (de_non) (by rfl)) (dw_and (dt_cmp op_gtD (de_var 10) (de_int) (by rfl)) (dw_one (dt_cmp op_leD (de_call (cal_degree_of_row T) hr (by decide) tk (by rfl) (da_cons (de_slice (de_var 2) (do_some (de_bin op_subD (de_var 10) (de_int))) do_none) da_nil) (aCons_len aNil_len)) (de_var 9) (by rfl)))))))))
       (dss_one (ds_ret (de_bl)))
       (dss_nil))))))
       (dss_one (ds_ret (de_bl)))))))))))))))))
theorem cal_law_right (T : Tx K mg) : Cal P w K mg base 6 "_law_right" 2 true S_law_right := by
  obtain ⟨f, fd, F, m⟩ := T.d_law_right
  exact cal_D F m (F.binds (ps := ["feed", "lines"]) fun _ _ _ _ _ _ us hl => match us, hl with | [_, _], _ => rfl) (ok_law_right T F)
theorem ok_law (T : Tx K mg) {f : Addr} {fd : FuncData} (F : Fun K "law" "law" st_law f fd) : FnG P w K mg base 7 f fd ["script"] (spD K mg 1 false S_law) :=
  fn_D (N := ["script", "lines", "k", "feed", "turn"]) (body := B_law) F sc_law rfl fun cdv A outer s H E hr => by
    have tk : Takes (cxOf (L2.CX P w) P w K mg base ["script", "lines", "k", "feed", "turn"] "law" (defScope st_law) f cdv A outer s H E) (fun c d _ H' => E c d H') := takes_of rfl rfl rfl rfl
    exact dss_cons (ds_set (i := 1) sc_law.nd rfl (by first | exact Or.inl rfl | exact Or.inr rfl) (de_call (cal_law_choices T) hr (by decide) tk (by rfl) (da_cons (de_int) da_nil) (aCons_len aNil_len)))
       (dss_cons (ds_for (passes_of rfl) rfl (di_range1 (by rfl) T.n_range (db_cons (de_callB (b_max rfl) (by rfl) T.n_max (by decide +kernel) (db_cons (de_int) (db_cons (de_callB (b_min rfl) (by rfl) T.n_min (by decide +kernel) (db_cons (de_callB b_len (by rfl) T.n_len (by decide +kernel) (db_cons (de_var 0) db_nil)) (db_cons (de_int) db_nil))) db_nil))) db_nil)) (dg_name (i := 2) sc_law.nd rfl (by first | exact Or.inl rfl | exact Or.inr rfl))
       (dss_cons (ds_set (i := 3) sc_law.nd rfl (by first | exact Or.inl rfl | exact Or.inr rfl) (de_call (cal_law_feed T) hr (by decide) tk (by rfl) (da_cons (de_var 0) (da_cons (de_var 2) da_nil)) (aCons_len (aCons_len aNil_len))))
       (dss_one (ds_for (passes_of rfl) rfl (di_range1 (by rfl) T.n_range (db_cons (de_int) db_nil)) (dg_name (i := 4) sc_law.nd rfl (by first | exact Or.inl rfl | exact Or.inr rfl))
       (dss_one (ds_if (dt_not (dt_truth (de_callIo (i := 3) (cal_law_right T) hr (by decide) tk (by rfl) (pv 3) (da_cons (de_var 1) da_nil) (aCons_len aNil_len)) (fun _ => rfl)))
       (dss_one (ds_ret (de_bl)))
       (dss_nil)))))))
       (dss_one (ds_ret (de_bl))))
theorem cal_law (T : Tx K mg) : Cal P w K mg base 7 "law" 1 false S_law := by
  obtain ⟨f, fd, F, m⟩ := T.d_law
  exact cal_D F m (F.binds (ps := ["script"]) fun _ _ _ _ _ _ us hl => match us, hl with | [_], _ => rfl) (ok_law T F)
end
/-! ### what the top has written -/
theorem all_mk {l : PySem.W.OpenLaw} {w : World} {K : PySem.W.Frag} {h : Heap} {mg : Str → Option Value} {fa : Addr} (X : K.In h) (G : h.Ns mainGlobals mg) (hfa : mg "law" = some (.ref fa))
    {t_MOST_ENTRIES : Tok}
    {t_ENTRY_LIMIT : Tok}
    {t_MOST_DEGREE : Tok}
    {C_BadCount : Addr}
    {C_BadRow : Addr}
    {f_law_choices : Addr} {od_law_choices an_law_choices : Option Addr} {sl_law_choices : Array (Option Value)} {oc_law_choices kV_law_choices dc_law_choices pm_law_choices cd_law_choices ct_law_choices : Value}
    {f_law_feed : Addr} {od_law_feed an_law_feed : Option Addr} {sl_law_feed : Array (Option Value)} {oc_law_feed kV_law_feed dc_law_feed pm_law_feed cd_law_feed ct_law_feed : Value}
    {f_law_differences : Addr} {od_law_differences an_law_differences : Option Addr} {sl_law_differences : Array (Option Value)} {oc_law_differences kV_law_differences dc_law_differences pm_law_differences cd_law_differences ct_law_differences : Value}
    {f_law_draw : Addr} {od_law_draw an_law_draw : Option Addr} {sl_law_draw : Array (Option Value)} {oc_law_draw kV_law_draw dc_law_draw pm_law_draw cd_law_draw ct_law_draw : Value}
    {f_law_fits : Addr} {od_law_fits an_law_fits : Option Addr} {sl_law_fits : Array (Option Value)} {oc_law_fits kV_law_fits dc_law_fits pm_law_fits cd_law_fits ct_law_fits : Value}
    {f_law_is : Addr} {od_law_is an_law_is : Option Addr} {sl_law_is : Array (Option Value)} {oc_law_is kV_law_is dc_law_is pm_law_is cd_law_is ct_law_is : Value}
    {f_law_one : Addr} {od_law_one an_law_one : Option Addr} {sl_law_one : Array (Option Value)} {oc_law_one kV_law_one dc_law_one pm_law_one cd_law_one ct_law_one : Value}
    {f_law_value : Addr} {od_law_value an_law_value : Option Addr} {sl_law_value : Array (Option Value)} {oc_law_value kV_law_value dc_law_value pm_law_value cd_law_value ct_law_value : Value}
    {f_law_row : Addr} {od_law_row an_law_row : Option Addr} {sl_law_row : Array (Option Value)} {oc_law_row kV_law_row dc_law_row pm_law_row cd_law_row ct_law_row : Value}
    {f_law_settled : Addr} {od_law_settled an_law_settled : Option Addr} {sl_law_settled : Array (Option Value)} {oc_law_settled kV_law_settled dc_law_settled pm_law_settled cd_law_settled ct_law_settled : Value}
    {f_is_integer : Addr} {od_is_integer an_is_integer : Option Addr} {sl_is_integer : Array (Option Value)} {oc_is_integer kV_is_integer dc_is_integer pm_is_integer cd_is_integer ct_is_integer : Value}
    {f_in_range : Addr} {od_in_range an_in_range : Option Addr} {sl_in_range : Array (Option Value)} {oc_in_range kV_in_range dc_in_range pm_in_range cd_in_range ct_in_range : Value}
    {f_is_row : Addr} {od_is_row an_is_row : Option Addr} {sl_is_row : Array (Option Value)} {oc_is_row kV_is_row dc_is_row pm_is_row cd_is_row ct_is_row : Value}
    {f_check_row : Addr} {od_check_row an_check_row : Option Addr} {sl_check_row : Array (Option Value)} {oc_check_row kV_check_row dc_check_row pm_check_row cd_check_row ct_check_row : Value}
    {f_differences_at : Addr} {od_differences_at an_differences_at : Option Addr} {sl_differences_at : Array (Option Value)} {oc_differences_at kV_differences_at dc_differences_at pm_differences_at cd_differences_at ct_differences_at : Value}
    {f_degree_in : Addr} {od_degree_in an_degree_in : Option Addr} {sl_degree_in : Array (Option Value)} {oc_degree_in kV_degree_in dc_degree_in pm_degree_in cd_degree_in ct_degree_in : Value}
    {f_degree_of_row : Addr} {od_degree_of_row an_degree_of_row : Option Addr} {sl_degree_of_row : Array (Option Value)} {oc_degree_of_row kV_degree_of_row dc_degree_of_row pm_degree_of_row cd_degree_of_row ct_degree_of_row : Value}
    {f_differences : Addr} {od_differences an_differences : Option Addr} {sl_differences : Array (Option Value)} {oc_differences kV_differences dc_differences pm_differences cd_differences ct_differences : Value}
    {f_check_count : Addr} {od_check_count an_check_count : Option Addr} {sl_check_count : Array (Option Value)} {oc_check_count kV_check_count dc_check_count pm_check_count cd_check_count ct_check_count : Value}
    {f_row_of : Addr} {od_row_of an_row_of : Option Addr} {sl_row_of : Array (Option Value)} {oc_row_of kV_row_of dc_row_of pm_row_of cd_row_of ct_row_of : Value}
    {f_further : Addr} {od_further an_further : Option Addr} {sl_further : Array (Option Value)} {oc_further kV_further dc_further pm_further cd_further ct_further : Value}
    {f_row_by : Addr} {od_row_by an_row_by : Option Addr} {sl_row_by : Array (Option Value)} {oc_row_by kV_row_by dc_row_by pm_row_by cd_row_by ct_row_by : Value}
    {f_first_settled : Addr} {od_first_settled an_first_settled : Option Addr} {sl_first_settled : Array (Option Value)} {oc_first_settled kV_first_settled dc_first_settled pm_first_settled cd_first_settled ct_first_settled : Value}
    {f_settled_from : Addr} {od_settled_from an_settled_from : Option Addr} {sl_settled_from : Array (Option Value)} {oc_settled_from kV_settled_from dc_settled_from pm_settled_from cd_settled_from ct_settled_from : Value}
    {f_law_right : Addr} {od_law_right an_law_right : Option Addr} {sl_law_right : Array (Option Value)} {oc_law_right kV_law_right dc_law_right pm_law_right cd_law_right ct_law_right : Value}
    {f_law : Addr} {od_law an_law : Option Addr} {sl_law : Array (Option Value)} {oc_law kV_law dc_law pm_law cd_law ct_law : Value}
    (z_all : PySem.W.nsIn K mainGlobals "all" = some none)
    (z_bool : PySem.W.nsIn K mainGlobals "bool" = some none)
    (z_enumerate : PySem.W.nsIn K mainGlobals "enumerate" = some none)
    (z_int : PySem.W.nsIn K mainGlobals "int" = some none)
    (z_isinstance : PySem.W.nsIn K mainGlobals "isinstance" = some none)
    (z_len : PySem.W.nsIn K mainGlobals "len" = some none)
    (z_list : PySem.W.nsIn K mainGlobals "list" = some none)
    (z_max : PySem.W.nsIn K mainGlobals "max" = some none)
    (z_min : PySem.W.nsIn K mainGlobals "min" = some none)
    (z_range : PySem.W.nsIn K mainGlobals "range" = some none)
    (z_repr : PySem.W.nsIn K mainGlobals "repr" = some none)
    (z_sum : PySem.W.nsIn K mainGlobals "sum" = some none)
    (z_tuple : PySem.W.nsIn K mainGlobals "tuple" = some none)
    (z_zip : PySem.W.nsIn K mainGlobals "zip" = some none)
    (v_MOST_ENTRIES : PySem.W.nsIn K mainGlobals "MOST_ENTRIES" = some (some (.int c_MOST_ENTRIES t_MOST_ENTRIES)))
    (v_ENTRY_LIMIT : PySem.W.nsIn K mainGlobals "ENTRY_LIMIT" = some (some (.int c_ENTRY_LIMIT t_ENTRY_LIMIT)))
    (v_MOST_DEGREE : PySem.W.nsIn K mainGlobals "MOST_DEGREE" = some (some (.int c_MOST_DEGREE t_MOST_DEGREE)))
    (ga_BadCount : PySem.W.nsIn K mainGlobals "BadCount" = some (some (.ref C_BadCount)))
    (gb_BadCount : PySem.W.excIn K C_BadCount [.type "ValueError", .type "Exception", .type "BaseException", .type "object"] "ValueError.__new__" = true)
    (gc_BadCount : PySem.W.keepIn K (.ref C_BadCount) = true)
    (gd_BadCount : PySem.W.subIn K (.ref C_BadCount) (.type "BaseException") = some true)
    (ge_BadCount : PySem.W.typeIn K (.ref C_BadCount) = some (.type "type"))
    (ga_BadRow : PySem.W.nsIn K mainGlobals "BadRow" = some (some (.ref C_BadRow)))
    (gb_BadRow : PySem.W.excIn K C_BadRow [.type "ValueError", .type "Exception", .type "BaseException", .type "object"] "ValueError.__new__" = true)
    (gc_BadRow : PySem.W.keepIn K (.ref C_BadRow) = true)
    (gd_BadRow : PySem.W.subIn K (.ref C_BadRow) (.type "BaseException") = some true)
    (ge_BadRow : PySem.W.typeIn K (.ref C_BadRow) = some (.type "type"))
    (a_law_choices : PySem.W.nsIn K mainGlobals "_law_choices" = some (some (.ref f_law_choices)))
    (l_law_choices : K.lookup f_law_choices = some ⟨oc_law_choices, od_law_choices, .func (PySem.W.fnOf "_law_choices" "_law_choices" (defArgs st_law_choices) (defBody st_law_choices) (defScope st_law_choices) .none kV_law_choices dc_law_choices pm_law_choices an_law_choices cd_law_choices ct_law_choices), sl_law_choices⟩)
    (c_law_choices : PySem.W.codeIn K cd_law_choices "_law_choices" = true)
    (k_law_choices : PySem.W.keepIn K (.ref f_law_choices) = true)
    (a_law_feed : PySem.W.nsIn K mainGlobals "_law_feed" = some (some (.ref f_law_feed)))
    (l_law_feed : K.lookup f_law_feed = some ⟨oc_law_feed, od_law_feed, .func (PySem.W.fnOf "_law_feed" "_law_feed" (defArgs st_law_feed) (defBody st_law_feed) (defScope st_law_feed) .none kV_law_feed dc_law_feed pm_law_feed an_law_feed cd_law_feed ct_law_feed), sl_law_feed⟩)
    (c_law_feed : PySem.W.codeIn K cd_law_feed "_law_feed" = true)
    (k_law_feed : PySem.W.keepIn K (.ref f_law_feed) = true)
    (a_law_differences : PySem.W.nsIn K mainGlobals "_law_differences" = some (some (.ref f_law_differences)))
    (l_law_differences : K.lookup f_law_differences = some ⟨oc_law_differences, od_law_differences, .func (PySem.W.fnOf "_law_differences" "_law_differences" (defArgs st_law_differences) (defBody st_law_differences) (defScope st_law_differences) .none kV_law_differences dc_law_differences pm_law_differences an_law_differences cd_law_differences ct_law_differences), sl_law_differences⟩)
    (c_law_differences : PySem.W.codeIn K cd_law_differences "_law_differences" = true)
    (k_law_differences : PySem.W.keepIn K (.ref f_law_differences) = true)
    (a_law_draw : PySem.W.nsIn K mainGlobals "_law_draw" = some (some (.ref f_law_draw)))
    (l_law_draw : K.lookup f_law_draw = some ⟨oc_law_draw, od_law_draw, .func (PySem.W.fnOf "_law_draw" "_law_draw" (defArgs st_law_draw) (defBody st_law_draw) (defScope st_law_draw) .none kV_law_draw dc_law_draw pm_law_draw an_law_draw cd_law_draw ct_law_draw), sl_law_draw⟩)
    (c_law_draw : PySem.W.codeIn K cd_law_draw "_law_draw" = true)
    (k_law_draw : PySem.W.keepIn K (.ref f_law_draw) = true)
    (a_law_fits : PySem.W.nsIn K mainGlobals "_law_fits" = some (some (.ref f_law_fits)))
    (l_law_fits : K.lookup f_law_fits = some ⟨oc_law_fits, od_law_fits, .func (PySem.W.fnOf "_law_fits" "_law_fits" (defArgs st_law_fits) (defBody st_law_fits) (defScope st_law_fits) .none kV_law_fits dc_law_fits pm_law_fits an_law_fits cd_law_fits ct_law_fits), sl_law_fits⟩)
    (c_law_fits : PySem.W.codeIn K cd_law_fits "_law_fits" = true)
    (k_law_fits : PySem.W.keepIn K (.ref f_law_fits) = true)
    (a_law_is : PySem.W.nsIn K mainGlobals "_law_is" = some (some (.ref f_law_is)))
    (l_law_is : K.lookup f_law_is = some ⟨oc_law_is, od_law_is, .func (PySem.W.fnOf "_law_is" "_law_is" (defArgs st_law_is) (defBody st_law_is) (defScope st_law_is) .none kV_law_is dc_law_is pm_law_is an_law_is cd_law_is ct_law_is), sl_law_is⟩)
    (c_law_is : PySem.W.codeIn K cd_law_is "_law_is" = true)
    (k_law_is : PySem.W.keepIn K (.ref f_law_is) = true)
    (a_law_one : PySem.W.nsIn K mainGlobals "_law_one" = some (some (.ref f_law_one)))
    (l_law_one : K.lookup f_law_one = some ⟨oc_law_one, od_law_one, .func (PySem.W.fnOf "_law_one" "_law_one" (defArgs st_law_one) (defBody st_law_one) (defScope st_law_one) .none kV_law_one dc_law_one pm_law_one an_law_one cd_law_one ct_law_one), sl_law_one⟩)
    (c_law_one : PySem.W.codeIn K cd_law_one "_law_one" = true)
    (k_law_one : PySem.W.keepIn K (.ref f_law_one) = true)
    (a_law_value : PySem.W.nsIn K mainGlobals "_law_value" = some (some (.ref f_law_value)))
    (l_law_value : K.lookup f_law_value = some ⟨oc_law_value, od_law_value, .func (PySem.W.fnOf "_law_value" "_law_value" (defArgs st_law_value) (defBody st_law_value) (defScope st_law_value) .none kV_law_value dc_law_value pm_law_value an_law_value cd_law_value ct_law_value), sl_law_value⟩)
    (c_law_value : PySem.W.codeIn K cd_law_value "_law_value" = true)
    (k_law_value : PySem.W.keepIn K (.ref f_law_value) = true)
    (a_law_row : PySem.W.nsIn K mainGlobals "_law_row" = some (some (.ref f_law_row)))
    (l_law_row : K.lookup f_law_row = some ⟨oc_law_row, od_law_row, .func (PySem.W.fnOf "_law_row" "_law_row" (defArgs st_law_row) (defBody st_law_row) (defScope st_law_row) .none kV_law_row dc_law_row pm_law_row an_law_row cd_law_row ct_law_row), sl_law_row⟩)
    (c_law_row : PySem.W.codeIn K cd_law_row "_law_row" = true)
    (k_law_row : PySem.W.keepIn K (.ref f_law_row) = true)
    (a_law_settled : PySem.W.nsIn K mainGlobals "_law_settled" = some (some (.ref f_law_settled)))
    (l_law_settled : K.lookup f_law_settled = some ⟨oc_law_settled, od_law_settled, .func (PySem.W.fnOf "_law_settled" "_law_settled" (defArgs st_law_settled) (defBody st_law_settled) (defScope st_law_settled) .none kV_law_settled dc_law_settled pm_law_settled an_law_settled cd_law_settled ct_law_settled), sl_law_settled⟩)
    (c_law_settled : PySem.W.codeIn K cd_law_settled "_law_settled" = true)
    (k_law_settled : PySem.W.keepIn K (.ref f_law_settled) = true)
    (a_is_integer : PySem.W.nsIn K mainGlobals "is_integer" = some (some (.ref f_is_integer)))
    (l_is_integer : K.lookup f_is_integer = some ⟨oc_is_integer, od_is_integer, .func (PySem.W.fnOf "is_integer" "is_integer" (defArgs st_is_integer) (defBody st_is_integer) (defScope st_is_integer) .none kV_is_integer dc_is_integer pm_is_integer an_is_integer cd_is_integer ct_is_integer), sl_is_integer⟩)
    (c_is_integer : PySem.W.codeIn K cd_is_integer "is_integer" = true)
    (k_is_integer : PySem.W.keepIn K (.ref f_is_integer) = true)
    (a_in_range : PySem.W.nsIn K mainGlobals "in_range" = some (some (.ref f_in_range)))
    (l_in_range : K.lookup f_in_range = some ⟨oc_in_range, od_in_range, .func (PySem.W.fnOf "in_range" "in_range" (defArgs st_in_range) (defBody st_in_range) (defScope st_in_range) .none kV_in_range dc_in_range pm_in_range an_in_range cd_in_range ct_in_range), sl_in_range⟩)
    (c_in_range : PySem.W.codeIn K cd_in_range "in_range" = true)
    (k_in_range : PySem.W.keepIn K (.ref f_in_range) = true)
    (a_is_row : PySem.W.nsIn K mainGlobals "is_row" = some (some (.ref f_is_row)))
    (l_is_row : K.lookup f_is_row = some ⟨oc_is_row, od_is_row, .func (PySem.W.fnOf "is_row" "is_row" (defArgs st_is_row) (defBody st_is_row) (defScope st_is_row) .none kV_is_row dc_is_row pm_is_row an_is_row cd_is_row ct_is_row), sl_is_row⟩)
    (c_is_row : PySem.W.codeIn K cd_is_row "is_row" = true)
    (k_is_row : PySem.W.keepIn K (.ref f_is_row) = true)
    (a_check_row : PySem.W.nsIn K mainGlobals "check_row" = some (some (.ref f_check_row)))
    (l_check_row : K.lookup f_check_row = some ⟨oc_check_row, od_check_row, .func (PySem.W.fnOf "check_row" "check_row" (defArgs st_check_row) (defBody st_check_row) (defScope st_check_row) .none kV_check_row dc_check_row pm_check_row an_check_row cd_check_row ct_check_row), sl_check_row⟩)
    (c_check_row : PySem.W.codeIn K cd_check_row "check_row" = true)
    (k_check_row : PySem.W.keepIn K (.ref f_check_row) = true)
    (a_differences_at : PySem.W.nsIn K mainGlobals "differences_at" = some (some (.ref f_differences_at)))
    (l_differences_at : K.lookup f_differences_at = some ⟨oc_differences_at, od_differences_at, .func (PySem.W.fnOf "differences_at" "differences_at" (defArgs st_differences_at) (defBody st_differences_at) (defScope st_differences_at) .none kV_differences_at dc_differences_at pm_differences_at an_differences_at cd_differences_at ct_differences_at), sl_differences_at⟩)
    (c_differences_at : PySem.W.codeIn K cd_differences_at "differences_at" = true)
    (k_differences_at : PySem.W.keepIn K (.ref f_differences_at) = true)
    (a_degree_in : PySem.W.nsIn K mainGlobals "degree_in" = some (some (.ref f_degree_in)))
    (l_degree_in : K.lookup f_degree_in = some ⟨oc_degree_in, od_degree_in, .func (PySem.W.fnOf "degree_in" "degree_in" (defArgs st_degree_in) (defBody st_degree_in) (defScope st_degree_in) .none kV_degree_in dc_degree_in pm_degree_in an_degree_in cd_degree_in ct_degree_in), sl_degree_in⟩)
    (c_degree_in : PySem.W.codeIn K cd_degree_in "degree_in" = true)
    (k_degree_in : PySem.W.keepIn K (.ref f_degree_in) = true)
    (a_degree_of_row : PySem.W.nsIn K mainGlobals "degree_of_row" = some (some (.ref f_degree_of_row)))
    (l_degree_of_row : K.lookup f_degree_of_row = some ⟨oc_degree_of_row, od_degree_of_row, .func (PySem.W.fnOf "degree_of_row" "degree_of_row" (defArgs st_degree_of_row) (defBody st_degree_of_row) (defScope st_degree_of_row) .none kV_degree_of_row dc_degree_of_row pm_degree_of_row an_degree_of_row cd_degree_of_row ct_degree_of_row), sl_degree_of_row⟩)
    (c_degree_of_row : PySem.W.codeIn K cd_degree_of_row "degree_of_row" = true)
    (k_degree_of_row : PySem.W.keepIn K (.ref f_degree_of_row) = true)
    (a_differences : PySem.W.nsIn K mainGlobals "differences" = some (some (.ref f_differences)))
    (l_differences : K.lookup f_differences = some ⟨oc_differences, od_differences, .func (PySem.W.fnOf "differences" "differences" (defArgs st_differences) (defBody st_differences) (defScope st_differences) .none kV_differences dc_differences pm_differences an_differences cd_differences ct_differences), sl_differences⟩)
    (c_differences : PySem.W.codeIn K cd_differences "differences" = true)
    (k_differences : PySem.W.keepIn K (.ref f_differences) = true)
    (a_check_count : PySem.W.nsIn K mainGlobals "check_count" = some (some (.ref f_check_count)))
    (l_check_count : K.lookup f_check_count = some ⟨oc_check_count, od_check_count, .func (PySem.W.fnOf "check_count" "check_count" (defArgs st_check_count) (defBody st_check_count) (defScope st_check_count) .none kV_check_count dc_check_count pm_check_count an_check_count cd_check_count ct_check_count), sl_check_count⟩)
    (c_check_count : PySem.W.codeIn K cd_check_count "check_count" = true)
    (k_check_count : PySem.W.keepIn K (.ref f_check_count) = true)
    (a_row_of : PySem.W.nsIn K mainGlobals "row_of" = some (some (.ref f_row_of)))
    (l_row_of : K.lookup f_row_of = some ⟨oc_row_of, od_row_of, .func (PySem.W.fnOf "row_of" "row_of" (defArgs st_row_of) (defBody st_row_of) (defScope st_row_of) .none kV_row_of dc_row_of pm_row_of an_row_of cd_row_of ct_row_of), sl_row_of⟩)
    (c_row_of : PySem.W.codeIn K cd_row_of "row_of" = true)
    (k_row_of : PySem.W.keepIn K (.ref f_row_of) = true)
    (a_further : PySem.W.nsIn K mainGlobals "further" = some (some (.ref f_further)))
    (l_further : K.lookup f_further = some ⟨oc_further, od_further, .func (PySem.W.fnOf "further" "further" (defArgs st_further) (defBody st_further) (defScope st_further) .none kV_further dc_further pm_further an_further cd_further ct_further), sl_further⟩)
    (c_further : PySem.W.codeIn K cd_further "further" = true)
    (k_further : PySem.W.keepIn K (.ref f_further) = true)
    (a_row_by : PySem.W.nsIn K mainGlobals "row_by" = some (some (.ref f_row_by)))
    (l_row_by : K.lookup f_row_by = some ⟨oc_row_by, od_row_by, .func (PySem.W.fnOf "row_by" "row_by" (defArgs st_row_by) (defBody st_row_by) (defScope st_row_by) .none kV_row_by dc_row_by pm_row_by an_row_by cd_row_by ct_row_by), sl_row_by⟩)
    (c_row_by : PySem.W.codeIn K cd_row_by "row_by" = true)
    (k_row_by : PySem.W.keepIn K (.ref f_row_by) = true)
    (a_first_settled : PySem.W.nsIn K mainGlobals "first_settled" = some (some (.ref f_first_settled)))
    (l_first_settled : K.lookup f_first_settled = some ⟨oc_first_settled, od_first_settled, .func (PySem.W.fnOf "first_settled" "first_settled" (defArgs st_first_settled) (defBody st_first_settled) (defScope st_first_settled) .none kV_first_settled dc_first_settled pm_first_settled an_first_settled cd_first_settled ct_first_settled), sl_first_settled⟩)
    (c_first_settled : PySem.W.codeIn K cd_first_settled "first_settled" = true)
    (k_first_settled : PySem.W.keepIn K (.ref f_first_settled) = true)
    (a_settled_from : PySem.W.nsIn K mainGlobals "settled_from" = some (some (.ref f_settled_from)))
    (l_settled_from : K.lookup f_settled_from = some ⟨oc_settled_from, od_settled_from, .func (PySem.W.fnOf "settled_from" "settled_from" (defArgs st_settled_from) (defBody st_settled_from) (defScope st_settled_from) .none kV_settled_from dc_settled_from pm_settled_from an_settled_from cd_settled_from ct_settled_from), sl_settled_from⟩)
    (c_settled_from : PySem.W.codeIn K cd_settled_from "settled_from" = true)
    (k_settled_from : PySem.W.keepIn K (.ref f_settled_from) = true)
    (a_law_right : PySem.W.nsIn K mainGlobals "_law_right" = some (some (.ref f_law_right)))
    (l_law_right : K.lookup f_law_right = some ⟨oc_law_right, od_law_right, .func (PySem.W.fnOf "_law_right" "_law_right" (defArgs st_law_right) (defBody st_law_right) (defScope st_law_right) .none kV_law_right dc_law_right pm_law_right an_law_right cd_law_right ct_law_right), sl_law_right⟩)
    (c_law_right : PySem.W.codeIn K cd_law_right "_law_right" = true)
    (k_law_right : PySem.W.keepIn K (.ref f_law_right) = true)
    (a_law : PySem.W.nsIn K mainGlobals "law" = some (some (.ref f_law)))
    (l_law : K.lookup f_law = some ⟨oc_law, od_law, .func (PySem.W.fnOf "law" "law" (defArgs st_law) (defBody st_law) (defScope st_law) .none kV_law dc_law pm_law an_law cd_law ct_law), sl_law⟩)
    (c_law : PySem.W.codeIn K cd_law "law" = true)
    (k_law : PySem.W.keepIn K (.ref f_law) = true)
    (fin : ∀ ns : List Int, ns.length ≤ 63 → (∀ z ∈ ns, Builtin.Int.intBits z ≤ 1048576) → S_law [.fix (ns.map D.int)] = .ok (.val (.bl true)) []) :
    ∃ fd : FuncData, (∀ (s : Shared) (v : Value), BindsTo s fd ⟨[v], []⟩ [("script", v)]) ∧ ∀ base : Heap, K.In base → base.Ns mainGlobals mg → FnG l.prog w K mg base 7 fa fd ["script"] (spLaw K) := by
  have T : Tx K mg := by
    constructor
    · exact PySem.W.mg_none_of X G z_all
    · exact PySem.W.mg_none_of X G z_bool
    · exact PySem.W.mg_none_of X G z_enumerate
    · exact PySem.W.mg_none_of X G z_int
    · exact PySem.W.mg_none_of X G z_isinstance
    · exact PySem.W.mg_none_of X G z_len
    · exact PySem.W.mg_none_of X G z_list
    · exact PySem.W.mg_none_of X G z_max
    · exact PySem.W.mg_none_of X G z_min
    · exact PySem.W.mg_none_of X G z_range
    · exact PySem.W.mg_none_of X G z_repr
    · exact PySem.W.mg_none_of X G z_sum
    · exact PySem.W.mg_none_of X G z_tuple
    · exact PySem.W.mg_none_of X G z_zip
    · exact ⟨t_MOST_ENTRIES, PySem.W.mg_of X G v_MOST_ENTRIES⟩
    · exact ⟨t_ENTRY_LIMIT, PySem.W.mg_of X G v_ENTRY_LIMIT⟩
    · exact ⟨t_MOST_DEGREE, PySem.W.mg_of X G v_MOST_DEGREE⟩
    · exact ⟨C_BadCount, gb_BadCount, PySem.W.mg_of X G ga_BadCount, gc_BadCount, gd_BadCount, ge_BadCount⟩
    · exact ⟨C_BadRow, gb_BadRow, PySem.W.mg_of X G ga_BadRow, gc_BadRow, gd_BadRow, ge_BadRow⟩
    · exact ⟨f_law_choices, _, fun_mk l_law_choices c_law_choices k_law_choices, PySem.W.mg_of X G a_law_choices⟩
    · exact ⟨f_law_feed, _, fun_mk l_law_feed c_law_feed k_law_feed, PySem.W.mg_of X G a_law_feed⟩
    · exact ⟨f_law_differences, _, fun_mk l_law_differences c_law_differences k_law_differences, PySem.W.mg_of X G a_law_differences⟩
    · exact ⟨f_law_draw, _, fun_mk l_law_draw c_law_draw k_law_draw, PySem.W.mg_of X G a_law_draw⟩
    · exact ⟨f_law_fits, _, fun_mk l_law_fits c_law_fits k_law_fits, PySem.W.mg_of X G a_law_fits⟩
    · exact ⟨f_law_is, _, fun_mk l_law_is c_law_is k_law_is, PySem.W.mg_of X G a_law_is⟩
    · exact ⟨f_law_one, _, fun_mk l_law_one c_law_one k_law_one, PySem.W.mg_of X G a_law_one⟩
    · exact ⟨f_law_value, _, fun_mk l_law_value c_law_value k_law_value, PySem.W.mg_of X G a_law_value⟩
    · exact ⟨f_law_row, _, fun_mk l_law_row c_law_row k_law_row, PySem.W.mg_of X G a_law_row⟩
    · exact ⟨f_law_settled, _, fun_mk l_law_settled c_law_settled k_law_settled, PySem.W.mg_of X G a_law_settled⟩
    · exact ⟨f_is_integer, _, fun_mk l_is_integer c_is_integer k_is_integer, PySem.W.mg_of X G a_is_integer⟩
    · exact ⟨f_in_range, _, fun_mk l_in_range c_in_range k_in_range, PySem.W.mg_of X G a_in_range⟩
    · exact ⟨f_is_row, _, fun_mk l_is_row c_is_row k_is_row, PySem.W.mg_of X G a_is_row⟩
    · exact ⟨f_check_row, _, fun_mk l_check_row c_check_row k_check_row, PySem.W.mg_of X G a_check_row⟩
    · exact ⟨f_differences_at, _, fun_mk l_differences_at c_differences_at k_differences_at, PySem.W.mg_of X G a_differences_at⟩
    · exact ⟨f_degree_in, _, fun_mk l_degree_in c_degree_in k_degree_in, PySem.W.mg_of X G a_degree_in⟩
    · exact ⟨f_degree_of_row, _, fun_mk l_degree_of_row c_degree_of_row k_degree_of_row, PySem.W.mg_of X G a_degree_of_row⟩
    · exact ⟨f_differences, _, fun_mk l_differences c_differences k_differences, PySem.W.mg_of X G a_differences⟩
    · exact ⟨f_check_count, _, fun_mk l_check_count c_check_count k_check_count, PySem.W.mg_of X G a_check_count⟩
    · exact ⟨f_row_of, _, fun_mk l_row_of c_row_of k_row_of, PySem.W.mg_of X G a_row_of⟩
    · exact ⟨f_further, _, fun_mk l_further c_further k_further, PySem.W.mg_of X G a_further⟩
    · exact ⟨f_row_by, _, fun_mk l_row_by c_row_by k_row_by, PySem.W.mg_of X G a_row_by⟩
    · exact ⟨f_first_settled, _, fun_mk l_first_settled c_first_settled k_first_settled, PySem.W.mg_of X G a_first_settled⟩
    · exact ⟨f_settled_from, _, fun_mk l_settled_from c_settled_from k_settled_from, PySem.W.mg_of X G a_settled_from⟩
    · exact ⟨f_law_right, _, fun_mk l_law_right c_law_right k_law_right, PySem.W.mg_of X G a_law_right⟩
    · exact ⟨f_law, _, fun_mk l_law c_law k_law, PySem.W.mg_of X G a_law⟩
  have e := hfa.symm.trans (PySem.W.mg_of X G a_law)
  cases e
  exact ⟨_, fun s v => .of_eq rfl, fun base _ _ => (ok_law T (fun_mk l_law c_law k_law)).imp (law_sp fin)⟩
end K34

set_option Elab.async false
set_option linter.all false
/-! rows and their differences, in plain Lean -/
namespace K34
abbrev Sq := Nat → Int
def shf (f : Sq) : Sq := fun n => f (n + 1)
def up (f : Sq) : Sq := fun n => f n + f (n + 1)
def dn (f : Sq) : Sq := fun n => f (n + 1) - f n
def itr (op : Sq → Sq) : Nat → Sq → Sq
  | 0, f => f
  | n + 1, f => itr op n (op f)
theorem itr_out (op : Sq → Sq) : ∀ (n : Nat) (f : Sq), itr op n (op f) = op (itr op n f)
  | 0, f => rfl
  | n + 1, f => itr_out op n (op f)
theorem itr_com {op op2 : Sq → Sq} (h : ∀ f, op (op2 f) = op2 (op f)) : ∀ (n : Nat) (f : Sq), itr op n (op2 f) = op2 (itr op n f)
  | 0, f => rfl
  | n + 1, f => by rw [itr, h, itr_com h n, itr]
theorem up_shf (f : Sq) : up (shf f) = shf (up f) := rfl
theorem dn_shf (f : Sq) : dn (shf f) = shf (dn f) := rfl
def VV (d : Sq) : Sq := fun i => itr up i d 0
def DD (f : Sq) : Sq := fun k => itr dn k f 0
theorem VV_zero (d : Sq) : VV d 0 = d 0 := rfl
theorem VV_up (d : Sq) (i : Nat) : VV d (i + 1) = VV (up d) i := rfl
theorem DD_dn (f : Sq) (k : Nat) : DD f (k + 1) = DD (dn f) k := rfl
theorem VV_succ (d : Sq) (i : Nat) : VV d (i + 1) = VV d i + VV (shf d) i := by
  show itr up i (up d) 0 = itr up i d 0 + itr up i (shf d) 0
  rw [itr_out, itr_com (op := up) (op2 := shf) up_shf]
  rfl
theorem dn_VV (d : Sq) : dn (VV d) = VV (shf d) := by
  funext i
  show VV d (i + 1) - VV d i = _
  rw [VV_succ]; omega
theorem itr_dn_VV : ∀ (k : Nat) (d : Sq), itr dn k (VV d) = VV (itr shf k d)
  | 0, d => rfl
  | k + 1, d => by rw [itr, dn_VV, itr_dn_VV k, itr]
theorem itr_shf_at : ∀ (k : Nat) (d : Sq) (i : Nat), itr shf k d i = d (i + k)
  | 0, d, i => rfl
  | k + 1, d, i => by
    rw [itr, itr_shf_at k]
    show d (i + k + 1) = d (i + (k + 1))
    rw [Nat.add_assoc]
theorem DD_VV (d : Sq) (k : Nat) : DD (VV d) k = d k := by
  show itr dn k (VV d) 0 = _
  rw [itr_dn_VV, VV_zero, itr_shf_at, Nat.zero_add]
theorem itr_dn_add : ∀ (k : Nat) (f g : Sq) (n : Nat), itr dn k (fun i => f i + g i) n = itr dn k f n + itr dn k g n
  | 0, f, g, n => rfl
  | k + 1, f, g, n => by
    rw [itr, itr, itr, ← itr_dn_add k]
    congr 1
    funext i
    show f (i + 1) + g (i + 1) - (f i + g i) = f (i + 1) - f i + (g (i + 1) - g i)
    omega
theorem up_DD (f : Sq) : up (DD f) = DD (shf f) := by
  funext k
  show itr dn k f 0 + itr dn k (dn f) 0 = itr dn k (shf f) 0
  rw [← itr_dn_add]
  congr 1
  funext i
  show f i + (f (i + 1) - f i) = f (i + 1)
  omega
theorem VV_DD : ∀ (i : Nat) (f : Sq), VV (DD f) i = f i
  | 0, f => rfl
  | i + 1, f => by rw [VV_up, up_DD, VV_DD i]; rfl
theorem itr_dn_loc : ∀ (k : Nat) {f g : Sq} (n : Nat), (∀ i, i ≤ n + k → f i = g i) → itr dn k f n = itr dn k g n
  | 0, f, g, n, h => h n (Nat.le_refl _)
  | k + 1, f, g, n, h => itr_dn_loc k n fun i hi => by
    show f (i + 1) - f i = g (i + 1) - g i
    rw [h i (by omega), h (i + 1) (by omega)]
theorem itr_up_loc : ∀ (k : Nat) {f g : Sq} (n : Nat), (∀ i, i ≤ n + k → f i = g i) → itr up k f n = itr up k g n
  | 0, f, g, n, h => h n (Nat.le_refl _)
  | k + 1, f, g, n, h => itr_up_loc k n fun i hi => by
    show f i + f (i + 1) = g i + g (i + 1)
    rw [h i (by omega), h (i + 1) (by omega)]
theorem DD_loc {f g : Sq} {k : Nat} (h : ∀ i, i ≤ k → f i = g i) : DD f k = DD g k := itr_dn_loc k 0 fun i hi => h i (by omega)
theorem VV_loc {f g : Sq} {k : Nat} (h : ∀ i, i ≤ k → f i = g i) : VV f k = VV g k := itr_up_loc k 0 fun i hi => h i (by omega)

/-! ### lists -/
def sq (l : List Int) : Sq := fun i => l[i]?.getD 0
theorem sq_nil : sq [] = fun _ => 0 := by funext i; rfl
theorem sq_zero (x : Int) (r : List Int) : sq (x :: r) 0 = x := rfl
theorem sq_succ (x : Int) (r : List Int) (i : Nat) : sq (x :: r) (i + 1) = sq r i := rfl
theorem shf_sq (x : Int) (r : List Int) : shf (sq (x :: r)) = sq r := rfl
theorem sq_big {l : List Int} {i : Nat} (h : l.length ≤ i) : sq l i = 0 := by
  unfold sq
  rw [List.getElem?_eq_none h]; rfl
theorem sq_drop (l : List Int) (n : Nat) : sq (l.drop n) = itr shf n (sq l) := by
  funext i
  rw [itr_shf_at]
  unfold sq
  rw [List.getElem?_drop, Nat.add_comm]
theorem sq_tab (n : Nat) (f : Sq) {i : Nat} (h : i < n) : sq ((List.range n).map f) i = f i := by
  unfold sq
  rw [List.getElem?_map, List.getElem?_range h]; rfl
theorem tab_sq (l : List Int) : (List.range l.length).map (sq l) = l := by
  apply List.ext_getElem?
  intro i
  rw [List.getElem?_map]
  by_cases h : i < l.length
  · rw [List.getElem?_range h, List.getElem?_eq_getElem h]
    show some (sq l i) = _
    unfold sq
    rw [List.getElem?_eq_getElem h]; rfl
  · rw [List.getElem?_eq_none (by rw [List.length_range]; omega), List.getElem?_eq_none (by omega)]; rfl
def dot : List Int → Sq → Int
  | [], _ => 0
  | c :: cs, f => c * f 0 + dot cs (shf f)
def nxt (l : List Int) : List Int := List.zipWith (fun one other => one + other) (0 :: (l ++ [0])) (l ++ [0])
def pas : Nat → List Int
  | 0 => [1]
  | n + 1 => nxt (pas n)
theorem dot_zip : ∀ (l : List Int) (a : Int) (f : Sq), dot (List.zipWith (fun one other => one + other) (a :: (l ++ [0])) (l ++ [0])) f = a * f 0 + dot l f + dot l (shf f)
  | [], a, f => by simp [dot]
  | x :: r, a, f => by
    have ih := dot_zip r x (shf f)
    show (a + x) * f 0 + dot (List.zipWith (fun one other => one + other) (x :: (r ++ [0])) (r ++ [0])) (shf f) = a * f 0 + (x * f 0 + dot r (shf f)) + (x * shf f 0 + dot r (shf (shf f)))
    rw [ih, Int.add_mul]
    omega
theorem dot_nxt (l : List Int) (f : Sq) : dot (nxt l) f = dot l f + dot l (shf f) := by
  unfold nxt
  rw [dot_zip]; omega
theorem dot_pas : ∀ (n : Nat) (f : Sq), dot (pas n) f = VV f n
  | 0, f => by simp [pas, dot, VV, itr]
  | n + 1, f => by rw [pas, dot_nxt, dot_pas n, dot_pas n, VV_succ]
theorem nxt_len (l : List Int) : (nxt l).length = l.length + 1 := by simp [nxt]
theorem pas_len : ∀ n : Nat, (pas n).length = n + 1
  | 0 => rfl
  | n + 1 => by rw [pas, nxt_len, pas_len n]
theorem dot_none : ∀ l : List Int, dot l (fun _ => 0) = 0
  | [] => rfl
  | c :: cs => by
    show c * 0 + dot cs (fun _ => 0) = 0
    rw [dot_none cs]; simp
theorem zip_dot : ∀ (c e : List Int), ((List.zip c e).map fun p => p.1 * p.2).sum = dot c (sq e)
  | [], e => rfl
  | c :: cs, [] => by rw [sq_nil, dot_none]; rfl
  | c :: cs, x :: e => by
    show c * x + ((List.zip cs e).map fun p => p.1 * p.2).sum = c * x + dot cs (shf (sq (x :: e)))
    rw [zip_dot cs e, shf_sq]
/-! signs -/
def sg (m : Int) : Int := if m % 2 = 0 then 1 else -1
theorem sg_pred (m : Int) : sg m = - sg (m - 1) := by
  unfold sg
  split <;> split <;> omega
def sdot : List Int → Int → Sq → Int
  | [], _, _ => 0
  | c :: cs, m, f => c * f 0 * sg m + sdot cs (m - 1) (shf f)
theorem sdot_zip : ∀ (l : List Int) (a m : Int) (f : Sq), sdot (List.zipWith (fun one other => one + other) (a :: (l ++ [0])) (l ++ [0])) m f = a * f 0 * sg m + sdot l m f + sdot l (m - 1) (shf f)
  | [], a, m, f => by simp [sdot]
  | x :: r, a, m, f => by
    have ih := sdot_zip r x (m - 1) (shf f)
    show (a + x) * f 0 * sg m + sdot (List.zipWith (fun one other => one + other) (x :: (r ++ [0])) (r ++ [0])) (m - 1) (shf f) = a * f 0 * sg m + (x * f 0 * sg m + sdot r (m - 1) (shf f)) + (x * shf f 0 * sg (m - 1) + sdot r (m - 1 - 1) (shf (shf f)))
    rw [ih, Int.add_mul, Int.add_mul]
    omega
theorem sdot_pred : ∀ (l : List Int) (m : Int) (f : Sq), sdot l m f = - sdot l (m - 1) f
  | [], m, f => rfl
  | c :: cs, m, f => by
    show c * f 0 * sg m + sdot cs (m - 1) (shf f) = -(c * f 0 * sg (m - 1) + sdot cs (m - 1 - 1) (shf f))
    rw [sdot_pred cs (m - 1), sg_pred m, Int.mul_neg]; omega
theorem sdot_sub : ∀ (l : List Int) (m : Int) (f g : Sq), sdot l m (fun i => f i - g i) = sdot l m f - sdot l m g
  | [], m, f, g => rfl
  | c :: cs, m, f, g => by
    show c * (f 0 - g 0) * sg m + sdot cs (m - 1) (fun i => shf f i - shf g i) = c * f 0 * sg m + sdot cs (m - 1) (shf f) - (c * g 0 * sg m + sdot cs (m - 1) (shf g))
    rw [sdot_sub cs, Int.mul_sub, Int.sub_mul]; omega
theorem sdot_nxt (l : List Int) (m : Int) (f : Sq) : sdot (nxt l) m f = sdot l (m - 1) (dn f) := by
  unfold nxt
  rw [sdot_zip]
  show _ = sdot l (m - 1) (fun i => shf f i - f i)
  rw [sdot_sub, sdot_pred l m f]; omega
theorem sdot_pas : ∀ (k : Nat) (f : Sq), sdot (pas k) (k : Int) f = DD f k
  | 0, f => by simp [pas, sdot, DD, itr, sg]
  | k + 1, f => by
    rw [pas, sdot_nxt, show ((k + 1 : Nat) : Int) - 1 = (k : Int) by omega, sdot_pas k]; rfl
theorem zip_sdot : ∀ (c : List Int) (k : Nat) (m : Int) (f : Sq), ((c.zipIdx k).map fun p => p.1 * f p.2 * sg (m - (p.2 : Int))).sum = sdot c (m - k) (itr shf k f)
  | [], k, m, f => rfl
  | c :: cs, k, m, f => by
    rw [List.zipIdx_cons, List.map_cons, List.sum_cons, zip_sdot cs (k + 1)]
    show c * f k * sg (m - k) + _ = c * itr shf k f 0 * sg (m - k) + sdot cs (m - k - 1) (shf (itr shf k f))
    rw [itr_shf_at, Nat.zero_add, show m - ((k + 1 : Nat) : Int) = m - k - 1 by omega]
    rw [itr, itr_out]
theorem sum_DD (k : Nat) (f : Sq) : (((pas k).zipIdx).map fun p => p.1 * f p.2 * sg ((k : Int) - (p.2 : Int))).sum = DD f k := by
  rw [zip_sdot, show ((k : Int) - ((0 : Nat) : Int)) = k by omega]
  exact sdot_pas k f

/-! ### the two reckonings of the program -/
def dfs (l : List Int) : List Int := List.zipWith (fun one other => other - one) l l.tail
theorem dfs_len (l : List Int) : (dfs l).length = l.length - 1 := by simp [dfs]
theorem dfs_sq : ∀ (l : List Int) (i : Nat), i + 1 < l.length → sq (dfs l) i = dn (sq l) i
  | [], i, h => by simp at h
  | [x], i, h => by simp at h
  | x :: y :: r, 0, _ => rfl
  | x :: y :: r, i + 1, h => by
    have ih := dfs_sq (y :: r) i (by simpa using h)
    exact ih
def dlN : Nat → List Int → List Int
  | 0, _ => []
  | n + 1, l => sq l 0 :: dlN n (dfs l)
theorem range_map_succ (n : Nat) (f : Nat → Int) : (List.range (n + 1)).map f = f 0 :: (List.range n).map fun i => f (i + 1) := by
  rw [List.range_succ_eq_map, List.map_cons, List.map_map]; rfl
theorem dlN_eq : ∀ (n : Nat) (l : List Int), n ≤ l.length → dlN n l = (List.range n).map (DD (sq l))
  | 0, l, _ => rfl
  | n + 1, l, h => by
    rw [dlN, dlN_eq n (dfs l) (by rw [dfs_len]; omega), range_map_succ]
    congr 1
    apply List.map_congr_left
    intro k hk
    rw [List.mem_range] at hk
    rw [DD_dn]
    exact DD_loc fun i hi => dfs_sq l i (by omega)
def ups (l : List Int) : List Int := List.zipWith (fun one other => one + other) l (l.tail ++ [0])
theorem ups_len (l : List Int) : (ups l).length = l.length := by
  cases l with
  | nil => rfl
  | cons x r => simp [ups]
theorem ups_sq : ∀ (l : List Int), sq (ups l) = up (sq l)
  | [] => by funext i; rfl
  | [x] => by
    funext i
    cases i with
    | zero => rfl
    | succ i => rfl
  | x :: y :: r => by
    have ih := ups_sq (y :: r)
    funext i
    cases i with
    | zero => rfl
    | succ i => exact congrFun ih i
def due (l : List Int) : List Int := (List.range l.length).map (DD (sq l))
theorem due_len (l : List Int) : (due l).length = l.length := by simp [due]
theorem due_sq {l : List Int} {i : Nat} (h : i < l.length) : sq (due l) i = DD (sq l) i := sq_tab _ _ h
def vals (l : List Int) (m : Nat) : List Int := (List.range m).map (VV (sq l))
theorem vals_len (l : List Int) (m : Nat) : (vals l m).length = m := by simp [vals]
theorem vals_sq {l : List Int} {m i : Nat} (h : i < m) : sq (vals l m) i = VV (sq l) i := sq_tab _ _ h
/-- the row comes back from its differences -/
theorem VV_due {l : List Int} {i : Nat} (h : i < l.length) : VV (sq (due l)) i = sq l i := by
  rw [VV_loc (g := DD (sq l)) fun j hj => due_sq (by omega), VV_DD]
theorem vals_due (l : List Int) : vals (due l) l.length = l := by
  refine Eq.trans (List.map_congr_left fun i hi => ?_) (tab_sq l)
  exact VV_due (List.mem_range.mp hi)
theorem due_vals (l : List Int) : due (vals l l.length) = l := by
  unfold due
  rw [vals_len]
  refine Eq.trans (List.map_congr_left fun i hi => ?_) (tab_sq l)
  have hi := List.mem_range.mp hi
  rw [DD_loc (g := VV (sq l)) fun j hj => vals_sq (by omega), DD_VV]
/-- what follows: the row and what comes behind it have the same differences -/
theorem ext_eq (l : List Int) (m : Nat) : l ++ (List.range m).map (fun i => VV (sq (due l)) (l.length + i)) = vals (due l) (l.length + m) := by
  unfold vals
  rw [List.range_add, List.map_append, List.map_map]
  congr 1
  exact (vals_due l).symm
theorem due_ext_sq (l : List Int) (m : Nat) : sq (due (vals (due l) (l.length + m))) = sq (due l) := by
  funext i
  by_cases h : i < l.length + m
  · rw [due_sq (by rw [vals_len]; exact h), DD_loc (g := VV (sq (due l))) fun j hj => vals_sq (by omega), DD_VV]
  · rw [sq_big (by rw [due_len, vals_len]; omega), sq_big (by rw [due_len]; omega)]
theorem due_made {e : List Int} {n : Nat} (h : e.length ≤ n) : sq (due (vals e n)) = sq e := by
  funext i
  by_cases hi : i < n
  · rw [due_sq (by rw [vals_len]; exact hi), DD_loc (g := VV (sq e)) fun j hj => vals_sq (by omega), DD_VV]
  · rw [sq_big (by rw [due_len, vals_len]; omega), sq_big (by omega)]

/-! ### sizes -/
theorem na_add {x y : Int} {b : Nat} (h1 : x.natAbs < 2 ^ b) (h2 : y.natAbs < 2 ^ b) : (x + y).natAbs < 2 ^ (b + 1) := by
  rw [Nat.pow_succ]; omega
theorem na_sub {x y : Int} {b : Nat} (h1 : x.natAbs < 2 ^ b) (h2 : y.natAbs < 2 ^ b) : (x - y).natAbs < 2 ^ (b + 1) := by
  rw [Nat.pow_succ]; omega
theorem itr_up_sz : ∀ (k b : Nat) (f : Sq) (n : Nat), (∀ i, (f i).natAbs < 2 ^ b) → (itr up k f n).natAbs < 2 ^ (b + k)
  | 0, b, f, n, h => h n
  | k + 1, b, f, n, h => by
    have := itr_up_sz k (b + 1) (up f) n fun i => na_add (h i) (h (i + 1))
    rw [show b + (k + 1) = b + 1 + k by omega]
    exact this
theorem itr_dn_sz : ∀ (k b : Nat) (f : Sq) (n : Nat), (∀ i, (f i).natAbs < 2 ^ b) → (itr dn k f n).natAbs < 2 ^ (b + k)
  | 0, b, f, n, h => h n
  | k + 1, b, f, n, h => by
    have := itr_dn_sz k (b + 1) (dn f) n fun i => na_sub (h (i + 1)) (h i)
    rw [show b + (k + 1) = b + 1 + k by omega]
    exact this
theorem sq_sz {l : List Int} {b : Nat} (h : ∀ x ∈ l, x.natAbs < 2 ^ b) (i : Nat) : (sq l i).natAbs < 2 ^ b := by
  unfold sq
  by_cases hi : i < l.length
  · rw [List.getElem?_eq_getElem hi]
    exact h _ (List.getElem_mem hi)
  · rw [List.getElem?_eq_none (by omega)]
    exact Nat.pos_of_ne_zero (by simp)
theorem zw_sz {b : Nat} : ∀ (l m : List Int), (∀ x ∈ l, x.natAbs < 2 ^ b) → (∀ x ∈ m, x.natAbs < 2 ^ b) → ∀ x ∈ List.zipWith (fun one other => one + other) l m, x.natAbs < 2 ^ (b + 1)
  | [], m, _, _, x, h => by simp at h
  | y :: l, [], _, _, x, h => by simp at h
  | y :: l, z :: m, h1, h2, x, h => by
    rcases List.mem_cons.mp h with rfl | h
    · exact na_add (h1 _ List.mem_cons_self) (h2 _ List.mem_cons_self)
    · exact zw_sz l m (fun x hx => h1 x (List.mem_cons_of_mem _ hx)) (fun x hx => h2 x (List.mem_cons_of_mem _ hx)) x h
theorem pas_sz : ∀ (n : Nat), ∀ x ∈ pas n, x.natAbs < 2 ^ (n + 1)
  | 0, x, h => by
    simp [pas] at h
    subst h; decide
  | n + 1, x, h => by
    have ih := pas_sz n
    have z : ∀ (m : Nat), (0 : Int).natAbs < 2 ^ m := fun m => Nat.pos_of_ne_zero (by simp)
    refine zw_sz _ _ (fun y hy => ?_) (fun y hy => ?_) x h
    · rcases List.mem_cons.mp hy with rfl | hy
      · exact z _
      · rcases List.mem_append.mp hy with hy | hy
        · exact ih y hy
        · simp at hy; subst hy; exact z _
    · rcases List.mem_append.mp hy with hy | hy
      · exact ih y hy
      · simp at hy; subst hy; exact z _
theorem VV_sz {l : List Int} {b : Nat} (h : ∀ x ∈ l, x.natAbs < 2 ^ b) (i : Nat) : (VV (sq l) i).natAbs < 2 ^ (b + i) := itr_up_sz i b _ 0 (sq_sz h)
theorem DD_sz {l : List Int} {b : Nat} (h : ∀ x ∈ l, x.natAbs < 2 ^ b) (i : Nat) : (DD (sq l) i).natAbs < 2 ^ (b + i) := itr_dn_sz i b _ 0 (sq_sz h)

/-! ### settling -/
/-- from a on, the differences of order k are nothing as long as the row goes -/
theorem settle {f : Sq} {o a n : Nat} : (∀ i, a ≤ i → i + o < n → itr dn o f i = 0) ↔ ∀ k, o ≤ k → a + k < n → DD (itr shf a f) k = 0 := by
  have key : ∀ i, itr dn o f (a + i) = itr shf a (itr dn o f) i := fun i => by rw [itr_shf_at, Nat.add_comm]
  have com : itr dn o (itr shf a f) = itr shf a (itr dn o f) := by
    have h : ∀ (m : Nat) (g : Sq), itr dn m (shf g) = shf (itr dn m g) := fun m g => itr_com (op := dn) (op2 := shf) dn_shf m g
    have : ∀ (b : Nat) (g : Sq), itr dn o (itr shf b g) = itr shf b (itr dn o g) := fun b => by
      induction b with
      | zero => intro g; rfl
      | succ b ih => intro g; rw [itr, ih, h, itr]
    exact this a f
  have part : ∀ (b c : Nat) (g : Sq), itr dn (b + c) g = itr dn c (itr dn b g) := fun b => by
    induction b with
    | zero => intro c g; rw [Nat.zero_add]; rfl
    | succ b ih => intro c g; rw [Nat.succ_add]; exact ih c (dn g)
  have dd : ∀ j, DD (itr shf a f) (o + j) = DD (itr shf a (itr dn o f)) j := fun j => by
    show itr dn (o + j) (itr shf a f) 0 = itr dn j _ 0
    rw [part, com]
  constructor
  · intro h k hk hn
    obtain ⟨j, rfl⟩ := Nat.exists_eq_add_of_le hk
    rw [dd, DD_loc (g := fun _ => 0) fun i hi => by rw [← key]; exact h _ (by omega) (by omega)]
    have z : ∀ (b : Nat), itr dn b (fun _ => 0) = fun _ => 0 := fun b => by
      induction b with
      | zero => rfl
      | succ b ih => exact ih
    show itr dn j (fun _ => 0) 0 = 0
    rw [z]
  · intro h i hi hn
    obtain ⟨j, rfl⟩ := Nat.exists_eq_add_of_le hi
    rw [key, ← VV_DD j (itr shf a (itr dn o f)), VV_loc (g := fun _ => 0) fun m hm => by rw [← dd]; exact h _ (by omega) (by omega)]
    have z : ∀ (b : Nat), itr up b (fun _ => 0) = fun _ => 0 := fun b => by
      induction b with
      | zero => rfl
      | succ b ih => exact ih
    show itr up j (fun _ => 0) 0 = 0
    rw [z]
end K34

set_option Elab.async false
set_option linter.all false
/-! the degree, the first settled place: plain Lean -/
namespace K34
def plk (k : Nat) (l : List Int) : List Nat := ((l.zipIdx k).filter fun p => !decide (p.1 = 0)).map (·.2)
def pl (l : List Int) : List Nat := plk 0 l
theorem plk_cons (k : Nat) (x : Int) (r : List Int) : plk k (x :: r) = (if x = 0 then [] else [k]) ++ plk (k + 1) r := by
  unfold plk
  rw [List.zipIdx_cons]
  by_cases h : x = 0 <;> simp [h]
theorem plk_last : ∀ (l : List Int) (k : Nat), match (plk k l).getLast? with
    | none => ∀ i, sq l i = 0
    | some j => ∃ i, j = k + i ∧ sq l i ≠ 0 ∧ ∀ m, i < m → sq l m = 0
  | [], k => fun i => rfl
  | x :: r, k => by
    have ih := plk_last r (k + 1)
    rw [plk_cons]
    cases hq : (plk (k + 1) r).getLast? with
    | none =>
      rw [hq] at ih
      have e : plk (k + 1) r = [] := by simpa using hq
      rw [e, List.append_nil]
      by_cases h : x = 0
      · rw [if_pos h]
        intro i
        cases i with
        | zero => exact h
        | succ i => exact ih i
      · rw [if_neg h]
        refine ⟨0, rfl, h, fun m hm => ?_⟩
        cases m with
        | zero => omega
        | succ m => exact ih m
    | some j =>
      rw [hq] at ih
      obtain ⟨i, e, h1, h2⟩ := ih
      have e2 : ((if x = 0 then [] else [k]) ++ plk (k + 1) r).getLast? = some j := by
        rw [List.getLast?_append, hq]; rfl
      rw [e2]
      refine ⟨i + 1, by omega, h1, fun m hm => ?_⟩
      cases m with
      | zero => omega
      | succ m => exact h2 m (by omega)
def degI (l : List Int) : Int := match (pl l).getLast? with
  | some i => (i : Int)
  | none => -1
def IsD (l : List Int) (m : Int) : Prop := (m = -1 ∨ ∃ i : Nat, m = i ∧ sq l i ≠ 0) ∧ ∀ i : Nat, sq l i ≠ 0 → (i : Int) ≤ m
theorem degI_is (l : List Int) : IsD l (degI l) := by
  have h := plk_last l 0
  unfold degI pl
  cases hq : (plk 0 l).getLast? with
  | none =>
    rw [hq] at h
    exact ⟨.inl rfl, fun i hi => absurd (h i) hi⟩
  | some j =>
    rw [hq] at h
    obtain ⟨i, e, h1, h2⟩ := h
    have e3 : j = i := by omega
    subst e3
    refine ⟨.inr ⟨_, rfl, h1⟩, fun m hm => ?_⟩
    show (m : Int) ≤ (j : Int)
    by_cases z : m ≤ j
    · omega
    · exact absurd (h2 m (by omega)) hm
theorem IsD.uniq {l : List Int} {m n : Int} (a : IsD l m) (b : IsD l n) : m = n := by
  obtain ⟨a1, a2⟩ := a
  obtain ⟨b1, b2⟩ := b
  rcases a1 with rfl | ⟨i, rfl, hi⟩
  · rcases b1 with rfl | ⟨j, rfl, hj⟩
    · rfl
    · have := a2 j hj; omega
  · have h1 := b2 i hi
    rcases b1 with rfl | ⟨j, rfl, hj⟩
    · omega
    · have := a2 j hj; omega
theorem degI_sq {l m : List Int} (h : sq l = sq m) : degI l = degI m := by
  refine IsD.uniq (degI_is l) ?_
  have := degI_is m
  unfold IsD at this ⊢
  rw [h]; exact this
theorem degI_le {l : List Int} {m : Nat} : degI l ≤ (m : Int) ↔ ∀ i, m < i → sq l i = 0 := by
  obtain ⟨h1, h2⟩ := degI_is l
  constructor
  · intro h i hi
    by_cases z : sq l i = 0
    · exact z
    · have := h2 i z; omega
  · intro h
    rcases h1 with e | ⟨i, e, hi⟩
    · omega
    · rw [e]
      by_cases z : i ≤ m
      · omega
      · exact absurd (h i (by omega)) hi
theorem degI_lo (l : List Int) : -1 ≤ degI l := by
  rcases (degI_is l).1 with e | ⟨i, e, _⟩ <;> omega
theorem pl_mem {l : List Int} {i : Nat} : i ∈ pl l ↔ sq l i ≠ 0 := by
  unfold pl plk
  simp only [List.mem_map, List.mem_filter, Bool.not_eq_true', decide_eq_false_iff_not]
  constructor
  · rintro ⟨p, ⟨h1, h2⟩, rfl⟩
    obtain ⟨_, h3, h4⟩ := List.mem_zipIdx h1
    unfold sq
    rw [List.getElem?_eq_getElem (by omega)]
    simp only [Nat.sub_zero] at h4
    rw [h4] at h2
    exact h2
  · intro h
    have hi : i < l.length := by
      by_cases z : i < l.length
      · exact z
      · exact absurd (sq_big (by omega)) h
    refine ⟨(l[i], i), ⟨?_, ?_⟩, rfl⟩
    · rw [List.mk_mem_zipIdx_iff_getElem?, List.getElem?_eq_getElem hi]
    · unfold sq at h
      rw [List.getElem?_eq_getElem hi] at h
      exact h
/-- where a row has settled -/
def stl (l : List Int) (o a : Nat) : Bool := (List.range (l.length - o)).all fun i => !decide (a ≤ i) || decide (itr dn o (sq l) i = 0)
theorem stl_iff {l : List Int} {o a : Nat} : stl l o a = true ↔ ∀ i, a ≤ i → i + o < l.length → itr dn o (sq l) i = 0 := by
  unfold stl
  rw [List.all_eq_true]
  constructor
  · intro h i hi hn
    have := h i (List.mem_range.mpr (by omega))
    simpa [hi] using this
  · intro h i hi
    rw [List.mem_range] at hi
    by_cases z : a ≤ i
    · simp [z, h i z (by omega)]
    · simp [z]
theorem stl_deg {l : List Int} {m a : Nat} (ha : a ≤ l.length) : degI (due (l.drop a)) ≤ (m : Int) ↔ stl l (m + 1) a = true := by
  rw [degI_le, stl_iff, settle]
  constructor
  · intro h k hk hn
    have := h k (by omega)
    rw [due_sq (by rw [List.length_drop]; omega), sq_drop] at this
    exact this
  · intro h i hi
    by_cases z : a + i < l.length
    · rw [due_sq (by rw [List.length_drop]; omega), sq_drop]
      exact h i (by omega) z
    · exact sq_big (by rw [due_len, List.length_drop]; omega)
end K34

set_option Elab.async false
set_option linter.all false
set_option maxRecDepth 100000
set_option maxHeartbeats 4000000
namespace K34
open PySem DS
theorem is_integer_int (i : Int) : S_is_integer [.int i] = .ok (.val (.bl true)) [] := rfl
theorem in_range_int (i l h : Int) : S_in_range [.int i, .int l, .int h] = .ok (.val (.bl (decide (l ≤ i) && decide (i ≤ h)))) [] := by
  simp only [S_in_range, B_in_range, runF, startE, finF, ioOf, bnd, eVar, eC, eOp, eUn, eIx, eSl, eTup, eLst, eIf, eAnd, eOr, eNot, eChain, tCmpD, tOf, tTru, DS.tAnd, DS.tOr, DS.tNot, asT, truth, aNil, aCons, bNil, bCons, cNil, cCons, oNone, oSome, eVal, eNrm, toVal, deref, derefs, listAt, noPlc, Out.of, retOf, Res.o, ixD, slD, eB, iB, iA, iItems, itemsD, eCall, eCallIo, eCallK, permV, isMut, mutL, remut, eMeth, appendD, popD, eIsi, isi_int, isi_bool, isi_tup, sNil, sSeq, sEx, sRet, sIf, sSet, sSetIx, setIx, setOk_z, setOk_s, nI_un, nI_val, nI_own, listOf_lst, listOf_tup, listOf_fix, putO, sPars, putsR, sPar, sPar3, sAsg, sFor, sRaise, gN, gT, gsC, gsN, addD, subD, mulD, fdivD, modD, powD, cmpD, negD, lenD, listD, tupleD, intD, absD, zipD, enumD, ttYes, wipeE, canWipe, restE, wipSV, Option.getD_some, List.getElem?_cons_zero, List.getElem?_cons_succ, List.set_cons_zero, List.set_cons_succ, List.length_cons, List.length_nil, List.map_cons, List.map_nil, List.getD_cons_zero, List.getD_cons_succ, Option.bind_some, Option.map_some, Option.isSome_some, Option.bind_none, Option.map_none, Option.isSome_none, if_true, if_false, ite_ap, ixN30, ixN31, ixN32, Int.reduceLE, Int.reduceLT, Int.reduceNeg, nab10, nab2, Int.reduceToNat, Nat.reducePow, Nat.reduceLT, reduceCtorEq, atI_z, atI_1, atI_2, atI_3, atI_at, atI_m1, List.replicate, List.cons_append, List.nil_append, List.append_nil, reduceIte, and_self, and_true, true_and, false_and, and_false, ne_eq, not_true_eq_false, not_false_eq_true, eq_self, Bool.true_and, Bool.and_true, Bool.false_and, Bool.and_false, Bool.not_true, Bool.not_false, Bool.false_eq_true, Nat.reduceAdd, Nat.reduceSub, Nat.reduceLeDiff, Nat.reduceLT, is_integer_int]
  by_cases h1 : l ≤ i <;> simp [h1, runF, startE, finF, ioOf, bnd, eVar, eC, eOp, eUn, eIx, eSl, eTup, eLst, eIf, eAnd, eOr, eNot, eChain, tCmpD, tOf, tTru, DS.tAnd, DS.tOr, DS.tNot, asT, truth, aNil, aCons, bNil, bCons, cNil, cCons, oNone, oSome, eVal, eNrm, toVal, deref, derefs, listAt, noPlc, Out.of, retOf, Res.o, ixD, slD, eB, iB, iA, iItems, itemsD, eCall, eCallIo, eCallK, permV, isMut, mutL, remut, eMeth, appendD, popD, eIsi, isi_int, isi_bool, isi_tup, sNil, sSeq, sEx, sRet, sIf, sSet, sSetIx, setIx, setOk_z, setOk_s, nI_un, nI_val, nI_own, listOf_lst, listOf_tup, listOf_fix, putO, sPars, putsR, sPar, sPar3, sAsg, sFor, sRaise, gN, gT, gsC, gsN, addD, subD, mulD, fdivD, modD, powD, cmpD, negD, lenD, listD, tupleD, intD, absD, zipD, enumD, ttYes, wipeE, canWipe, restE, wipSV, Option.getD_some, List.getElem?_cons_zero, List.getElem?_cons_succ, List.set_cons_zero, List.set_cons_succ, List.length_cons, List.length_nil, List.map_cons, List.map_nil, List.getD_cons_zero, List.getD_cons_succ, Option.bind_some, Option.map_some, Option.isSome_some, Option.bind_none, Option.map_none, Option.isSome_none, if_true, if_false, ite_ap, ixN30, ixN31, ixN32, Int.reduceLE, Int.reduceLT, Int.reduceNeg, nab10, nab2, Int.reduceToNat, Nat.reducePow, Nat.reduceLT, reduceCtorEq, atI_z, atI_1, atI_2, atI_3, atI_at, atI_m1, List.replicate, List.cons_append, List.nil_append, List.append_nil, reduceIte, and_self, and_true, true_and, false_and, and_false, ne_eq, not_true_eq_false, not_false_eq_true, eq_self, Bool.true_and, Bool.and_true, Bool.false_and, Bool.and_false, Bool.not_true, Bool.not_false, Bool.false_eq_true, Nat.reduceAdd, Nat.reduceSub, Nat.reduceLeDiff, Nat.reduceLT]
theorem draw_pos {a b c m : Int} (h : 0 < a) (hm : 0 < m) (h9 : m.natAbs.log2 < 9000) (hk : mulOk (a / m) m = true) : S_law_draw [.lst [.int a, .int b, .int c], .int m] = .ok (.val (.int (a - a / m * m))) [.int (a / m), .int b, .int c] := by
  simp only [S_law_draw, B_law_draw, runF, startE, finF, ioOf, bnd, eVar, eC, eOp, eUn, eIx, eSl, eTup, eLst, eIf, eAnd, eOr, eNot, eChain, tCmpD, tOf, tTru, DS.tAnd, DS.tOr, DS.tNot, asT, truth, aNil, aCons, bNil, bCons, cNil, cCons, oNone, oSome, eVal, eNrm, toVal, deref, derefs, listAt, noPlc, Out.of, retOf, Res.o, ixD, slD, eB, iB, iA, iItems, itemsD, eCall, eCallIo, eCallK, permV, isMut, mutL, remut, eMeth, appendD, popD, eIsi, isi_int, isi_bool, isi_tup, sNil, sSeq, sEx, sRet, sIf, sSet, sSetIx, setIx, setOk_z, setOk_s, nI_un, nI_val, nI_own, listOf_lst, listOf_tup, listOf_fix, putO, sPars, putsR, sPar, sPar3, sAsg, sFor, sRaise, gN, gT, gsC, gsN, addD, subD, mulD, fdivD, modD, powD, cmpD, negD, lenD, listD, tupleD, intD, absD, zipD, enumD, ttYes, wipeE, canWipe, restE, wipSV, Option.getD_some, List.getElem?_cons_zero, List.getElem?_cons_succ, List.set_cons_zero, List.set_cons_succ, List.length_cons, List.length_nil, List.map_cons, List.map_nil, List.getD_cons_zero, List.getD_cons_succ, Option.bind_some, Option.map_some, Option.isSome_some, Option.bind_none, Option.map_none, Option.isSome_none, if_true, if_false, ite_ap, ixN30, ixN31, ixN32, Int.reduceLE, Int.reduceLT, Int.reduceNeg, nab10, nab2, Int.reduceToNat, Nat.reducePow, Nat.reduceLT, reduceCtorEq, atI_z, atI_1, atI_2, atI_3, atI_at, atI_m1, List.replicate, List.cons_append, List.nil_append, List.append_nil, reduceIte, and_self, and_true, true_and, false_and, and_false, ne_eq, not_true_eq_false, not_false_eq_true, eq_self, Bool.true_and, Bool.and_true, Bool.false_and, Bool.and_false, Bool.not_true, Bool.not_false, Bool.false_eq_true, Nat.reduceAdd, Nat.reduceSub, Nat.reduceLeDiff, Nat.reduceLT, h, hm, h9, hk, decide_true]
def Feed (n : Nat) (l : List D) : Prop := ∃ a b c : Int, l = [.int a, .int b, .int c] ∧ 0 ≤ a ∧ Builtin.Int.intBits a ≤ 1100000 ∧ 0 ≤ b ∧ b < 10 ^ 40 ∧ 0 ≤ c ∧ c ≤ n
theorem Feed.mono {n m : Nat} {l : List D} (h : Feed n l) (k : n ≤ m) : Feed m l := by
  obtain ⟨a, b, c, e, h1, h2, h3, h4, h5, h6⟩ := h
  exact ⟨a, b, c, e, h1, h2, h3, h4, h5, by omega⟩
theorem draw_ok {n : Nat} {l : List D} {m : Int} (F : Feed n l) (hn : n < 10 ^ 9) (h0 : 0 < m) (h1 : m < 10 ^ 60) : ∃ r l', S_law_draw [.lst l, .int m] = .ok (.val (.int r)) l' ∧ 0 ≤ r ∧ r < m ∧ Feed (n + 1) l' := by
  obtain ⟨a, b, c, rfl, ha, hab, hb0, hb, hc0, hc⟩ := F
  by_cases h : 0 < a
  · have k1 : m.natAbs < 2 ^ 200 := by
      have : (10 : Int) ^ 60 < 2 ^ 200 := by decide
      omega
    have k2 : mulOk (a / m) m = true := mulOk_of (ab_bits _) k1 (by have := bits_div ha h0; omega)
    have k3 : m.natAbs.log2 < 9000 := by
      have := (Nat.log2_lt (by omega)).mpr k1
      omega
    refine ⟨_, _, draw_pos h h0 k3 k2, ?_, ?_, a / m, b, c, rfl, Int.ediv_nonneg ha (by omega), ?_, hb0, hb, hc0, by omega⟩
    · rw [show a - a / m * m = a % m by have := Int.mul_ediv_add_emod a m; rw [Int.mul_comm] at this; omega]
      exact Int.emod_nonneg _ (by omega)
    · rw [show a - a / m * m = a % m by have := Int.mul_ediv_add_emod a m; rw [Int.mul_comm] at this; omega]
      exact Int.emod_lt_of_pos _ h0
    · have := bits_div ha h0; omega
  · have hq : ∃ r, S_law_draw [.lst [.int a, .int b, .int c], .int m] = .ok (.val (.int (r % m))) [.int a, .int b, .int (c + 1)] := by
      have s1 : (b + 6700417 * (c + 1)).natAbs < 2 ^ 200 := by
        have : (10 : Int) ^ 60 < 2 ^ 200 := by decide
        omega
      have k1 : mulOk 6700417 (c + 1) = true := mulOk_s (by decide) (by decide)
      have k2 : mulOk 15485863 (c + 1) = true := mulOk_s (by decide) (by decide)
      have k3 := mulOk_of s1 s1 (by decide)
      have k4 := mulOk_of (ab_mul s1 s1) s1 (by decide)
      generalize hT : b + 6700417 * (c + 1) = t at *
      generalize hz : t * t * t + 15485863 * (c + 1) = z at *
      have s2 : (z % (10 ^ 43 + 57)).natAbs < 2 ^ 200 := by
        have e1 : 0 ≤ z % (10 ^ 43 + 57) := Int.emod_nonneg _ (by decide)
        have e2 : z % (10 ^ 43 + 57) < 10 ^ 43 + 57 := Int.emod_lt_of_pos _ (by decide)
        have : (10 : Int) ^ 43 + 57 < 2 ^ 200 := by decide
        omega
      have k5 := mulOk_of s2 s2 (by decide)
      have p1 : (0 : Int) < 10 ^ 43 + 57 := by decide
      have p2 : (0 : Int) < 10 ^ 38 + 133 := by decide
      have p3 : (0 : Int) < 10 ^ 9 := by decide
      have p4 : ((10 : Int) ^ 9).natAbs.log2 < 9000 := by decide
      exact ⟨_, by simp only [S_law_draw, B_law_draw, runF, startE, finF, ioOf, bnd, eVar, eC, eOp, eUn, eIx, eSl, eTup, eLst, eIf, eAnd, eOr, eNot, eChain, tCmpD, tOf, tTru, DS.tAnd, DS.tOr, DS.tNot, asT, truth, aNil, aCons, bNil, bCons, cNil, cCons, oNone, oSome, eVal, eNrm, toVal, deref, derefs, listAt, noPlc, Out.of, retOf, Res.o, ixD, slD, eB, iB, iA, iItems, itemsD, eCall, eCallIo, eCallK, permV, isMut, mutL, remut, eMeth, appendD, popD, eIsi, isi_int, isi_bool, isi_tup, sNil, sSeq, sEx, sRet, sIf, sSet, sSetIx, setIx, setOk_z, setOk_s, nI_un, nI_val, nI_own, listOf_lst, listOf_tup, listOf_fix, putO, sPars, putsR, sPar, sPar3, sAsg, sFor, sRaise, gN, gT, gsC, gsN, addD, subD, mulD, fdivD, modD, powD, cmpD, negD, lenD, listD, tupleD, intD, absD, zipD, enumD, ttYes, wipeE, canWipe, restE, wipSV, Option.getD_some, List.getElem?_cons_zero, List.getElem?_cons_succ, List.set_cons_zero, List.set_cons_succ, List.length_cons, List.length_nil, List.map_cons, List.map_nil, List.getD_cons_zero, List.getD_cons_succ, Option.bind_some, Option.map_some, Option.isSome_some, Option.bind_none, Option.map_none, Option.isSome_none, if_true, if_false, ite_ap, ixN30, ixN31, ixN32, Int.reduceLE, Int.reduceLT, Int.reduceNeg, nab10, nab2, Int.reduceToNat, Nat.reducePow, Nat.reduceLT, reduceCtorEq, atI_z, atI_1, atI_2, atI_3, atI_at, atI_m1, List.replicate, List.cons_append, List.nil_append, List.append_nil, reduceIte, and_self, and_true, true_and, false_and, and_false, ne_eq, not_true_eq_false, not_false_eq_true, eq_self, Bool.true_and, Bool.and_true, Bool.false_and, Bool.and_false, Bool.not_true, Bool.not_false, Bool.false_eq_true, Nat.reduceAdd, Nat.reduceSub, Nat.reduceLeDiff, Nat.reduceLT, h, h0, decide_false, k1, k2, k3, k4, hT, hz, k5, p1, p2, p3, p4]; rfl⟩
    obtain ⟨r, e⟩ := hq
    exact ⟨_, _, e, Int.emod_nonneg _ (by omega), Int.emod_lt_of_pos _ h0, a, b, c + 1, rfl, ha, hab, hb0, hb, by omega, by omega⟩
end K34

set_option Elab.async false
set_option linter.all false
set_option maxRecDepth 100000
set_option maxHeartbeats 4000000
namespace K34
open PySem DS
def lnL : List D := (List.range 81).map fun n => .lst (iL (pas n))
theorem lnL_get {n : Nat} (h : n ≤ 80) : lnL[n]? = some (.lst (iL (pas n))) := by
  unfold lnL
  rw [List.getElem?_map, List.getElem?_range (by omega)]; rfl
theorem sz63 {n : Nat} (h : n ≤ 1000) : n ≤ sizeLine := by
  unfold sizeLine; omega
theorem b80 {n : Nat} (h : n ≤ 80) : ∀ x ∈ pas n, x.natAbs < 2 ^ 4000 := fun x hx => ab_up (pas_sz n x hx) (by omega)
theorem C_value {d : D} {e : List Int} {n : Nat} (h : listOf d = some (iL e)) (hn : n ≤ 80) (hb : ∀ x ∈ e, x.natAbs < 2 ^ 4000) :
    C1_law_value [.val d, .val (.lst lnL), .val (.int n), .un, .un] = .ok (.own (iL ((List.zip (pas n) e).map fun p => p.1 * p.2))) [.val d, .val (.lst lnL), .val (.int n), .un, .un] := by
  have hl : (List.zip (pas n) e).length ≤ sizeLine := sz63 (by simp [pas_len]; omega)
  have hz : ∀ p ∈ List.zip (pas n) e, mulOk p.1 p.2 = true := fun p hp => mulOk_k (b80 hn p.1 (List.of_mem_zip hp).1) (hb p.2 (List.of_mem_zip hp).2)
  unfold C1_law_value
  rw [← iL_map]
  rcases listOf_cases h with rfl | rfl | rfl <;>
    exact eLc_p pr (fun p => .int (p.1 * p.2)) (List.zip (pas n) e) (by simp only [runF, startE, finF, ioOf, bnd, eVar, eC, eOp, eUn, eIx, eSl, eTup, eLst, eIf, eAnd, eOr, eNot, eChain, tCmpD, tOf, tTru, DS.tAnd, DS.tOr, DS.tNot, asT, truth, aNil, aCons, bNil, bCons, cNil, cCons, oNone, oSome, eVal, eNrm, toVal, deref, derefs, listAt, noPlc, Out.of, retOf, Res.o, ixD, slD, eB, iB, iA, iItems, itemsD, eCall, eCallIo, eCallK, permV, isMut, mutL, remut, eMeth, appendD, popD, eIsi, isi_int, isi_bool, isi_tup, sNil, sSeq, sEx, sRet, sIf, sSet, sSetIx, setIx, setOk_z, setOk_s, nI_un, nI_val, nI_own, listOf_lst, listOf_tup, listOf_fix, putO, sPars, putsR, sPar, sPar3, sAsg, sFor, sRaise, gN, gT, gsC, gsN, addD, subD, mulD, fdivD, modD, powD, cmpD, negD, lenD, listD, tupleD, intD, absD, zipD, enumD, ttYes, wipeE, canWipe, restE, wipSV, Option.getD_some, List.getElem?_cons_zero, List.getElem?_cons_succ, List.set_cons_zero, List.set_cons_succ, List.length_cons, List.length_nil, List.map_cons, List.map_nil, List.getD_cons_zero, List.getD_cons_succ, Option.bind_some, Option.map_some, Option.isSome_some, Option.bind_none, Option.map_none, Option.isSome_none, if_true, if_false, ite_ap, ixN30, ixN31, ixN32, Int.reduceLE, Int.reduceLT, Int.reduceNeg, nab10, nab2, Int.reduceToNat, Nat.reducePow, Nat.reduceLT, reduceCtorEq, atI_z, atI_1, atI_2, atI_3, atI_at, atI_m1, List.replicate, List.cons_append, List.nil_append, List.append_nil, reduceIte, and_self, and_true, true_and, false_and, and_false, ne_eq, not_true_eq_false, not_false_eq_true, eq_self, Bool.true_and, Bool.and_true, Bool.false_and, Bool.and_false, Bool.not_true, Bool.not_false, Bool.false_eq_true, Nat.reduceAdd, Nat.reduceSub, Nat.reduceLeDiff, Nat.reduceLT, lnL_get hn, zipL_iL]) hl rfl (fun p hp => ⟨_, _, rfl, by simp only [runF, startE, finF, ioOf, bnd, eVar, eC, eOp, eUn, eIx, eSl, eTup, eLst, eIf, eAnd, eOr, eNot, eChain, tCmpD, tOf, tTru, DS.tAnd, DS.tOr, DS.tNot, asT, truth, aNil, aCons, bNil, bCons, cNil, cCons, oNone, oSome, eVal, eNrm, toVal, deref, derefs, listAt, noPlc, Out.of, retOf, Res.o, ixD, slD, eB, iB, iA, iItems, itemsD, eCall, eCallIo, eCallK, permV, isMut, mutL, remut, eMeth, appendD, popD, eIsi, isi_int, isi_bool, isi_tup, sNil, sSeq, sEx, sRet, sIf, sSet, sSetIx, setIx, setOk_z, setOk_s, nI_un, nI_val, nI_own, listOf_lst, listOf_tup, listOf_fix, putO, sPars, putsR, sPar, sPar3, sAsg, sFor, sRaise, gN, gT, gsC, gsN, addD, subD, mulD, fdivD, modD, powD, cmpD, negD, lenD, listD, tupleD, intD, absD, zipD, enumD, ttYes, wipeE, canWipe, restE, wipSV, Option.getD_some, List.getElem?_cons_zero, List.getElem?_cons_succ, List.set_cons_zero, List.set_cons_succ, List.length_cons, List.length_nil, List.map_cons, List.map_nil, List.getD_cons_zero, List.getD_cons_succ, Option.bind_some, Option.map_some, Option.isSome_some, Option.bind_none, Option.map_none, Option.isSome_none, if_true, if_false, ite_ap, ixN30, ixN31, ixN32, Int.reduceLE, Int.reduceLT, Int.reduceNeg, nab10, nab2, Int.reduceToNat, Nat.reducePow, Nat.reduceLT, reduceCtorEq, atI_z, atI_1, atI_2, atI_3, atI_at, atI_m1, List.replicate, List.cons_append, List.nil_append, List.append_nil, reduceIte, and_self, and_true, true_and, false_and, and_false, ne_eq, not_true_eq_false, not_false_eq_true, eq_self, Bool.true_and, Bool.and_true, Bool.false_and, Bool.and_false, Bool.not_true, Bool.not_false, Bool.false_eq_true, Nat.reduceAdd, Nat.reduceSub, Nat.reduceLeDiff, Nat.reduceLT, hz p hp]; rfl, by rfl⟩) rfl
theorem value_eq {d : D} {e : List Int} {n : Nat} (h : listOf d = some (iL e)) (hn : n ≤ 80) (hb : ∀ x ∈ e, x.natAbs < 2 ^ 4000) :
    S_law_value [d, .lst lnL, .int n] = .ok (.val (.int (VV (sq e) n))) [] := by
  have := C_value h hn hb
  simp only [S_law_value, B_law_value, runF, startE, finF, ioOf, bnd, eVar, eC, eOp, eUn, eIx, eSl, eTup, eLst, eIf, eAnd, eOr, eNot, eChain, tCmpD, tOf, tTru, DS.tAnd, DS.tOr, DS.tNot, asT, truth, aNil, aCons, bNil, bCons, cNil, cCons, oNone, oSome, eVal, eNrm, toVal, deref, derefs, listAt, noPlc, Out.of, retOf, Res.o, ixD, slD, eB, iB, iA, iItems, itemsD, eCall, eCallIo, eCallK, permV, isMut, mutL, remut, eMeth, appendD, popD, eIsi, isi_int, isi_bool, isi_tup, sNil, sSeq, sEx, sRet, sIf, sSet, sSetIx, setIx, setOk_z, setOk_s, nI_un, nI_val, nI_own, listOf_lst, listOf_tup, listOf_fix, putO, sPars, putsR, sPar, sPar3, sAsg, sFor, sRaise, gN, gT, gsC, gsN, addD, subD, mulD, fdivD, modD, powD, cmpD, negD, lenD, listD, tupleD, intD, absD, zipD, enumD, ttYes, wipeE, canWipe, restE, wipSV, Option.getD_some, List.getElem?_cons_zero, List.getElem?_cons_succ, List.set_cons_zero, List.set_cons_succ, List.length_cons, List.length_nil, List.map_cons, List.map_nil, List.getD_cons_zero, List.getD_cons_succ, Option.bind_some, Option.map_some, Option.isSome_some, Option.bind_none, Option.map_none, Option.isSome_none, if_true, if_false, ite_ap, ixN30, ixN31, ixN32, Int.reduceLE, Int.reduceLT, Int.reduceNeg, nab10, nab2, Int.reduceToNat, Nat.reducePow, Nat.reduceLT, reduceCtorEq, atI_z, atI_1, atI_2, atI_3, atI_at, atI_m1, List.replicate, List.cons_append, List.nil_append, List.append_nil, reduceIte, and_self, and_true, true_and, false_and, and_false, ne_eq, not_true_eq_false, not_false_eq_true, eq_self, Bool.true_and, Bool.and_true, Bool.false_and, Bool.and_false, Bool.not_true, Bool.not_false, Bool.false_eq_true, Nat.reduceAdd, Nat.reduceSub, Nat.reduceLeDiff, Nat.reduceLT, this, sumD, intsOf_iL, zip_dot, dot_pas]
end K34

set_option Elab.async false
set_option linter.all false
set_option maxRecDepth 100000
set_option maxHeartbeats 4000000
set_option exponentiation.threshold 5000
namespace K34
open PySem DS
theorem draw_one {n : Nat} {l ds : List D} (F : Feed n l) (hn : n < 10 ^ 9) (h0 : ds ≠ []) (h1 : ds.length ≤ 1000) : ∃ d l', S_law_one [.lst l, .lst ds] = .ok (.val d) l' ∧ d ∈ ds ∧ Feed (n + 1) l' := by
  have hp := List.length_pos_iff.mpr h0
  obtain ⟨r, l', e, r0, r1, F'⟩ := draw_ok F hn (m := (ds.length : Int)) (by omega) (by
    have : (1000 : Int) < 10 ^ 60 := by decide
    omega)
  obtain ⟨i, rfl⟩ := Int.eq_ofNat_of_zero_le r0
  have hi : i < ds.length := by omega
  refine ⟨ds[i], l', ?_, List.getElem_mem hi, F'⟩
  have g : ds[i]? = some ds[i] := List.getElem?_eq_getElem hi
  simp only [S_law_one, B_law_one, runF, startE, finF, ioOf, bnd, eVar, eC, eOp, eUn, eIx, eSl, eTup, eLst, eIf, eAnd, eOr, eNot, eChain, tCmpD, tOf, tTru, DS.tAnd, DS.tOr, DS.tNot, asT, truth, aNil, aCons, bNil, bCons, cNil, cCons, oNone, oSome, eVal, eNrm, toVal, deref, derefs, listAt, noPlc, Out.of, retOf, Res.o, ixD, slD, eB, iB, iA, iItems, itemsD, eCall, eCallIo, eCallK, permV, isMut, mutL, remut, eMeth, appendD, popD, eIsi, isi_int, isi_bool, isi_tup, sNil, sSeq, sEx, sRet, sIf, sSet, sSetIx, setIx, setOk_z, setOk_s, nI_un, nI_val, nI_own, listOf_lst, listOf_tup, listOf_fix, putO, sPars, putsR, sPar, sPar3, sAsg, sFor, sRaise, gN, gT, gsC, gsN, addD, subD, mulD, fdivD, modD, powD, cmpD, negD, lenD, listD, tupleD, intD, absD, zipD, enumD, ttYes, wipeE, canWipe, restE, wipSV, Option.getD_some, List.getElem?_cons_zero, List.getElem?_cons_succ, List.set_cons_zero, List.set_cons_succ, List.length_cons, List.length_nil, List.map_cons, List.map_nil, List.getD_cons_zero, List.getD_cons_succ, Option.bind_some, Option.map_some, Option.isSome_some, Option.bind_none, Option.map_none, Option.isSome_none, if_true, if_false, ite_ap, ixN30, ixN31, ixN32, Int.reduceLE, Int.reduceLT, Int.reduceNeg, nab10, nab2, Int.reduceToNat, Nat.reducePow, Nat.reduceLT, reduceCtorEq, atI_z, atI_1, atI_2, atI_3, atI_at, atI_m1, List.replicate, List.cons_append, List.nil_append, List.append_nil, reduceIte, and_self, and_true, true_and, false_and, and_false, ne_eq, not_true_eq_false, not_false_eq_true, eq_self, Bool.true_and, Bool.and_true, Bool.false_and, Bool.and_false, Bool.not_true, Bool.not_false, Bool.false_eq_true, Nat.reduceAdd, Nat.reduceSub, Nat.reduceLeDiff, Nat.reduceLT, e, g]
/-! ### a row that is fit -/
def Good (r : List Int) : Prop := 1 ≤ r.length ∧ r.length ≤ 40 ∧ ∀ x ∈ r, 1 - 10 ^ 30 ≤ x ∧ x ≤ 10 ^ 30 - 1
theorem Good.sz {r : List Int} (h : Good r) : ∀ x ∈ r, x.natAbs < 2 ^ 100 := fun x hx => by
  have h1 := h.2.2 x hx
  have : (10 : Int) ^ 30 < 2 ^ 100 := by decide
  omega
theorem C_is_row {r : List Int} (h : Good r) : C1_is_row [.val (.tup (iL r)), .un] = .ok (.own (r.map fun _ => .bl true)) [.val (.tup (iL r)), .un] := by
  unfold C1_is_row
  refine eLc_p D.int (fun _ => .bl true) r (by simp only [runF, startE, finF, ioOf, bnd, eVar, eC, eOp, eUn, eIx, eSl, eTup, eLst, eIf, eAnd, eOr, eNot, eChain, tCmpD, tOf, tTru, DS.tAnd, DS.tOr, DS.tNot, asT, truth, aNil, aCons, bNil, bCons, cNil, cCons, oNone, oSome, eVal, eNrm, toVal, deref, derefs, listAt, noPlc, Out.of, retOf, Res.o, ixD, slD, eB, iB, iA, iItems, itemsD, eCall, eCallIo, eCallK, permV, isMut, mutL, remut, eMeth, appendD, popD, eIsi, isi_int, isi_bool, isi_tup, sNil, sSeq, sEx, sRet, sIf, sSet, sSetIx, setIx, setOk_z, setOk_s, nI_un, nI_val, nI_own, listOf_lst, listOf_tup, listOf_fix, putO, sPars, putsR, sPar, sPar3, sAsg, sFor, sRaise, gN, gT, gsC, gsN, addD, subD, mulD, fdivD, modD, powD, cmpD, negD, lenD, listD, tupleD, intD, absD, zipD, enumD, ttYes, wipeE, canWipe, restE, wipSV, Option.getD_some, List.getElem?_cons_zero, List.getElem?_cons_succ, List.set_cons_zero, List.set_cons_succ, List.length_cons, List.length_nil, List.map_cons, List.map_nil, List.getD_cons_zero, List.getD_cons_succ, Option.bind_some, Option.map_some, Option.isSome_some, Option.bind_none, Option.map_none, Option.isSome_none, if_true, if_false, ite_ap, ixN30, ixN31, ixN32, Int.reduceLE, Int.reduceLT, Int.reduceNeg, nab10, nab2, Int.reduceToNat, Nat.reducePow, Nat.reduceLT, reduceCtorEq, atI_z, atI_1, atI_2, atI_3, atI_at, atI_m1, List.replicate, List.cons_append, List.nil_append, List.append_nil, reduceIte, and_self, and_true, true_and, false_and, and_false, ne_eq, not_true_eq_false, not_false_eq_true, eq_self, Bool.true_and, Bool.and_true, Bool.false_and, Bool.and_false, Bool.not_true, Bool.not_false, Bool.false_eq_true, Nat.reduceAdd, Nat.reduceSub, Nat.reduceLeDiff, Nat.reduceLT]; rfl) (sz63 (by have := h.2.1; omega)) rfl (fun x hx => ⟨_, _, rfl, by
    obtain ⟨h1, h2⟩ := h.2.2 x hx
    simp only [runF, startE, finF, ioOf, bnd, eVar, eC, eOp, eUn, eIx, eSl, eTup, eLst, eIf, eAnd, eOr, eNot, eChain, tCmpD, tOf, tTru, DS.tAnd, DS.tOr, DS.tNot, asT, truth, aNil, aCons, bNil, bCons, cNil, cCons, oNone, oSome, eVal, eNrm, toVal, deref, derefs, listAt, noPlc, Out.of, retOf, Res.o, ixD, slD, eB, iB, iA, iItems, itemsD, eCall, eCallIo, eCallK, permV, isMut, mutL, remut, eMeth, appendD, popD, eIsi, isi_int, isi_bool, isi_tup, sNil, sSeq, sEx, sRet, sIf, sSet, sSetIx, setIx, setOk_z, setOk_s, nI_un, nI_val, nI_own, listOf_lst, listOf_tup, listOf_fix, putO, sPars, putsR, sPar, sPar3, sAsg, sFor, sRaise, gN, gT, gsC, gsN, addD, subD, mulD, fdivD, modD, powD, cmpD, negD, lenD, listD, tupleD, intD, absD, zipD, enumD, ttYes, wipeE, canWipe, restE, wipSV, Option.getD_some, List.getElem?_cons_zero, List.getElem?_cons_succ, List.set_cons_zero, List.set_cons_succ, List.length_cons, List.length_nil, List.map_cons, List.map_nil, List.getD_cons_zero, List.getD_cons_succ, Option.bind_some, Option.map_some, Option.isSome_some, Option.bind_none, Option.map_none, Option.isSome_none, if_true, if_false, ite_ap, ixN30, ixN31, ixN32, Int.reduceLE, Int.reduceLT, Int.reduceNeg, nab10, nab2, Int.reduceToNat, Nat.reducePow, Nat.reduceLT, reduceCtorEq, atI_z, atI_1, atI_2, atI_3, atI_at, atI_m1, List.replicate, List.cons_append, List.nil_append, List.append_nil, reduceIte, and_self, and_true, true_and, false_and, and_false, ne_eq, not_true_eq_false, not_false_eq_true, eq_self, Bool.true_and, Bool.and_true, Bool.false_and, Bool.and_false, Bool.not_true, Bool.not_false, Bool.false_eq_true, Nat.reduceAdd, Nat.reduceSub, Nat.reduceLeDiff, Nat.reduceLT, in_range_int, c_ENTRY_LIMIT]
    rw [decide_eq_true (by omega), decide_eq_true (by omega)]
    rfl, by rfl⟩) rfl
theorem is_row_good {r : List Int} (h : Good r) : S_is_row [.tup (iL r)] = .ok (.val (.bl true)) [] := by
  have h1 : (1 : Int) ≤ r.length := by have := h.1; omega
  have h2 : ((r.length : Nat) : Int) ≤ 40 := by have := h.2.1; omega
  simp only [S_is_row, B_is_row, runF, startE, finF, ioOf, bnd, eVar, eC, eOp, eUn, eIx, eSl, eTup, eLst, eIf, eAnd, eOr, eNot, eChain, tCmpD, tOf, tTru, DS.tAnd, DS.tOr, DS.tNot, asT, truth, aNil, aCons, bNil, bCons, cNil, cCons, oNone, oSome, eVal, eNrm, toVal, deref, derefs, listAt, noPlc, Out.of, retOf, Res.o, ixD, slD, eB, iB, iA, iItems, itemsD, eCall, eCallIo, eCallK, permV, isMut, mutL, remut, eMeth, appendD, popD, eIsi, isi_int, isi_bool, isi_tup, sNil, sSeq, sEx, sRet, sIf, sSet, sSetIx, setIx, setOk_z, setOk_s, nI_un, nI_val, nI_own, listOf_lst, listOf_tup, listOf_fix, putO, sPars, putsR, sPar, sPar3, sAsg, sFor, sRaise, gN, gT, gsC, gsN, addD, subD, mulD, fdivD, modD, powD, cmpD, negD, lenD, listD, tupleD, intD, absD, zipD, enumD, ttYes, wipeE, canWipe, restE, wipSV, Option.getD_some, List.getElem?_cons_zero, List.getElem?_cons_succ, List.set_cons_zero, List.set_cons_succ, List.length_cons, List.length_nil, List.map_cons, List.map_nil, List.getD_cons_zero, List.getD_cons_succ, Option.bind_some, Option.map_some, Option.isSome_some, Option.bind_none, Option.map_none, Option.isSome_none, if_true, if_false, ite_ap, ixN30, ixN31, ixN32, Int.reduceLE, Int.reduceLT, Int.reduceNeg, nab10, nab2, Int.reduceToNat, Nat.reducePow, Nat.reduceLT, reduceCtorEq, atI_z, atI_1, atI_2, atI_3, atI_at, atI_m1, List.replicate, List.cons_append, List.nil_append, List.append_nil, reduceIte, and_self, and_true, true_and, false_and, and_false, ne_eq, not_true_eq_false, not_false_eq_true, eq_self, Bool.true_and, Bool.and_true, Bool.false_and, Bool.and_false, Bool.not_true, Bool.not_false, Bool.false_eq_true, Nat.reduceAdd, Nat.reduceSub, Nat.reduceLeDiff, Nat.reduceLT, C_is_row h, iL_len, h1, h2, decide_true, c_MOST_ENTRIES, all_true 0]
theorem check_row_good {r : List Int} (h : Good r) : S_check_row [.tup (iL r)] = .ok (.val .non) [] := by
  simp only [S_check_row, B_check_row, runF, startE, finF, ioOf, bnd, eVar, eC, eOp, eUn, eIx, eSl, eTup, eLst, eIf, eAnd, eOr, eNot, eChain, tCmpD, tOf, tTru, DS.tAnd, DS.tOr, DS.tNot, asT, truth, aNil, aCons, bNil, bCons, cNil, cCons, oNone, oSome, eVal, eNrm, toVal, deref, derefs, listAt, noPlc, Out.of, retOf, Res.o, ixD, slD, eB, iB, iA, iItems, itemsD, eCall, eCallIo, eCallK, permV, isMut, mutL, remut, eMeth, appendD, popD, eIsi, isi_int, isi_bool, isi_tup, sNil, sSeq, sEx, sRet, sIf, sSet, sSetIx, setIx, setOk_z, setOk_s, nI_un, nI_val, nI_own, listOf_lst, listOf_tup, listOf_fix, putO, sPars, putsR, sPar, sPar3, sAsg, sFor, sRaise, gN, gT, gsC, gsN, addD, subD, mulD, fdivD, modD, powD, cmpD, negD, lenD, listD, tupleD, intD, absD, zipD, enumD, ttYes, wipeE, canWipe, restE, wipSV, Option.getD_some, List.getElem?_cons_zero, List.getElem?_cons_succ, List.set_cons_zero, List.set_cons_succ, List.length_cons, List.length_nil, List.map_cons, List.map_nil, List.getD_cons_zero, List.getD_cons_succ, Option.bind_some, Option.map_some, Option.isSome_some, Option.bind_none, Option.map_none, Option.isSome_none, if_true, if_false, ite_ap, ixN30, ixN31, ixN32, Int.reduceLE, Int.reduceLT, Int.reduceNeg, nab10, nab2, Int.reduceToNat, Nat.reducePow, Nat.reduceLT, reduceCtorEq, atI_z, atI_1, atI_2, atI_3, atI_at, atI_m1, List.replicate, List.cons_append, List.nil_append, List.append_nil, reduceIte, and_self, and_true, true_and, false_and, and_false, ne_eq, not_true_eq_false, not_false_eq_true, eq_self, Bool.true_and, Bool.and_true, Bool.false_and, Bool.and_false, Bool.not_true, Bool.not_false, Bool.false_eq_true, Nat.reduceAdd, Nat.reduceSub, Nat.reduceLeDiff, Nat.reduceLT, is_row_good h]
theorem check_count_ok {i l h : Int} (h1 : l ≤ i) (h2 : i ≤ h) : S_check_count [.int i, .int l, .int h] = .ok (.val .non) [] := by
  simp only [S_check_count, B_check_count, runF, startE, finF, ioOf, bnd, eVar, eC, eOp, eUn, eIx, eSl, eTup, eLst, eIf, eAnd, eOr, eNot, eChain, tCmpD, tOf, tTru, DS.tAnd, DS.tOr, DS.tNot, asT, truth, aNil, aCons, bNil, bCons, cNil, cCons, oNone, oSome, eVal, eNrm, toVal, deref, derefs, listAt, noPlc, Out.of, retOf, Res.o, ixD, slD, eB, iB, iA, iItems, itemsD, eCall, eCallIo, eCallK, permV, isMut, mutL, remut, eMeth, appendD, popD, eIsi, isi_int, isi_bool, isi_tup, sNil, sSeq, sEx, sRet, sIf, sSet, sSetIx, setIx, setOk_z, setOk_s, nI_un, nI_val, nI_own, listOf_lst, listOf_tup, listOf_fix, putO, sPars, putsR, sPar, sPar3, sAsg, sFor, sRaise, gN, gT, gsC, gsN, addD, subD, mulD, fdivD, modD, powD, cmpD, negD, lenD, listD, tupleD, intD, absD, zipD, enumD, ttYes, wipeE, canWipe, restE, wipSV, Option.getD_some, List.getElem?_cons_zero, List.getElem?_cons_succ, List.set_cons_zero, List.set_cons_succ, List.length_cons, List.length_nil, List.map_cons, List.map_nil, List.getD_cons_zero, List.getD_cons_succ, Option.bind_some, Option.map_some, Option.isSome_some, Option.bind_none, Option.map_none, Option.isSome_none, if_true, if_false, ite_ap, ixN30, ixN31, ixN32, Int.reduceLE, Int.reduceLT, Int.reduceNeg, nab10, nab2, Int.reduceToNat, Nat.reducePow, Nat.reduceLT, reduceCtorEq, atI_z, atI_1, atI_2, atI_3, atI_at, atI_m1, List.replicate, List.cons_append, List.nil_append, List.append_nil, reduceIte, and_self, and_true, true_and, false_and, and_false, ne_eq, not_true_eq_false, not_false_eq_true, eq_self, Bool.true_and, Bool.and_true, Bool.false_and, Bool.and_false, Bool.not_true, Bool.not_false, Bool.false_eq_true, Nat.reduceAdd, Nat.reduceSub, Nat.reduceLeDiff, Nat.reduceLT, in_range_int, h1, h2, decide_true]
/-! ### fits -/
def ab (x : Int) : Int := if -x > x then -x else x
theorem C_fits (r : List Int) (hr : r.length ≤ 1000) : C1_law_fits [.val (.tup (iL r)), .un] = .ok (.own (iL (r.map ab))) [.val (.tup (iL r)), .un] := by
  unfold C1_law_fits
  rw [← iL_map]
  exact eLc_p D.int (fun x => .int (ab x)) r (by simp only [runF, startE, finF, ioOf, bnd, eVar, eC, eOp, eUn, eIx, eSl, eTup, eLst, eIf, eAnd, eOr, eNot, eChain, tCmpD, tOf, tTru, DS.tAnd, DS.tOr, DS.tNot, asT, truth, aNil, aCons, bNil, bCons, cNil, cCons, oNone, oSome, eVal, eNrm, toVal, deref, derefs, listAt, noPlc, Out.of, retOf, Res.o, ixD, slD, eB, iB, iA, iItems, itemsD, eCall, eCallIo, eCallK, permV, isMut, mutL, remut, eMeth, appendD, popD, eIsi, isi_int, isi_bool, isi_tup, sNil, sSeq, sEx, sRet, sIf, sSet, sSetIx, setIx, setOk_z, setOk_s, nI_un, nI_val, nI_own, listOf_lst, listOf_tup, listOf_fix, putO, sPars, putsR, sPar, sPar3, sAsg, sFor, sRaise, gN, gT, gsC, gsN, addD, subD, mulD, fdivD, modD, powD, cmpD, negD, lenD, listD, tupleD, intD, absD, zipD, enumD, ttYes, wipeE, canWipe, restE, wipSV, Option.getD_some, List.getElem?_cons_zero, List.getElem?_cons_succ, List.set_cons_zero, List.set_cons_succ, List.length_cons, List.length_nil, List.map_cons, List.map_nil, List.getD_cons_zero, List.getD_cons_succ, Option.bind_some, Option.map_some, Option.isSome_some, Option.bind_none, Option.map_none, Option.isSome_none, if_true, if_false, ite_ap, ixN30, ixN31, ixN32, Int.reduceLE, Int.reduceLT, Int.reduceNeg, nab10, nab2, Int.reduceToNat, Nat.reducePow, Nat.reduceLT, reduceCtorEq, atI_z, atI_1, atI_2, atI_3, atI_at, atI_m1, List.replicate, List.cons_append, List.nil_append, List.append_nil, reduceIte, and_self, and_true, true_and, false_and, and_false, ne_eq, not_true_eq_false, not_false_eq_true, eq_self, Bool.true_and, Bool.and_true, Bool.false_and, Bool.and_false, Bool.not_true, Bool.not_false, Bool.false_eq_true, Nat.reduceAdd, Nat.reduceSub, Nat.reduceLeDiff, Nat.reduceLT]; rfl) (sz63 hr) rfl (fun x hx => ⟨_, _, rfl, by simp only [runF, startE, finF, ioOf, bnd, eVar, eC, eOp, eUn, eIx, eSl, eTup, eLst, eIf, eAnd, eOr, eNot, eChain, tCmpD, tOf, tTru, DS.tAnd, DS.tOr, DS.tNot, asT, truth, aNil, aCons, bNil, bCons, cNil, cCons, oNone, oSome, eVal, eNrm, toVal, deref, derefs, listAt, noPlc, Out.of, retOf, Res.o, ixD, slD, eB, iB, iA, iItems, itemsD, eCall, eCallIo, eCallK, permV, isMut, mutL, remut, eMeth, appendD, popD, eIsi, isi_int, isi_bool, isi_tup, sNil, sSeq, sEx, sRet, sIf, sSet, sSetIx, setIx, setOk_z, setOk_s, nI_un, nI_val, nI_own, listOf_lst, listOf_tup, listOf_fix, putO, sPars, putsR, sPar, sPar3, sAsg, sFor, sRaise, gN, gT, gsC, gsN, addD, subD, mulD, fdivD, modD, powD, cmpD, negD, lenD, listD, tupleD, intD, absD, zipD, enumD, ttYes, wipeE, canWipe, restE, wipSV, Option.getD_some, List.getElem?_cons_zero, List.getElem?_cons_succ, List.set_cons_zero, List.set_cons_succ, List.length_cons, List.length_nil, List.map_cons, List.map_nil, List.getD_cons_zero, List.getD_cons_succ, Option.bind_some, Option.map_some, Option.isSome_some, Option.bind_none, Option.map_none, Option.isSome_none, if_true, if_false, ite_ap, ixN30, ixN31, ixN32, Int.reduceLE, Int.reduceLT, Int.reduceNeg, nab10, nab2, Int.reduceToNat, Nat.reducePow, Nat.reduceLT, reduceCtorEq, atI_z, atI_1, atI_2, atI_3, atI_at, atI_m1, List.replicate, List.cons_append, List.nil_append, List.append_nil, reduceIte, and_self, and_true, true_and, false_and, and_false, ne_eq, not_true_eq_false, not_false_eq_true, eq_self, Bool.true_and, Bool.and_true, Bool.false_and, Bool.and_false, Bool.not_true, Bool.not_false, Bool.false_eq_true, Nat.reduceAdd, Nat.reduceSub, Nat.reduceLeDiff, Nat.reduceLT, maxD, ab]; rfl, by rfl⟩) rfl
def fitsB (r : List Int) : Bool := decide (0 < r.length) && (decide (r.length < 41) && match r.map ab with
  | [] => false
  | x :: t => decide (maxL x t < 10 ^ 30))
theorem fitsB_good {r : List Int} (h : fitsB r = true) : Good r := by
  unfold fitsB at h
  simp only [Bool.and_eq_true, decide_eq_true_eq] at h
  obtain ⟨h1, h2, h3⟩ := h
  refine ⟨h1, by omega, fun x hx => ?_⟩
  have hm : ab x ∈ r.map ab := List.mem_map_of_mem hx
  revert h3 hm
  cases r.map ab with
  | nil => intro _ z; cases z
  | cons y t =>
    intro h3 hm
    have h4 : maxL y t < 10 ^ 30 := of_decide_eq_true h3
    obtain ⟨h5, h6⟩ := maxL_le t y
    have h7 : ab x < 10 ^ 30 := by
      rcases List.mem_cons.mp hm with e | e
      · rw [e]; omega
      · have := h6 _ e; omega
    unfold ab at h7
    split at h7 <;> omega
theorem fits_eq (r : List Int) (hr : r.length ≤ 1000) : S_law_fits [.tup (iL r)] = .ok (.val (.bl (fitsB r))) [] := by
  have hc := C_fits r hr
  by_cases ha : 0 < r.length
  · have ha2 : (0 : Int) < (r.length : Int) := by omega
    by_cases hb : r.length < 41
    · have hb2 : (r.length : Int) < 41 := by omega
      obtain ⟨y, t, e⟩ : ∃ y t, r.map ab = y :: t := by
        cases r with
        | nil => simp at ha
        | cons x t => exact ⟨_, _, rfl⟩
      rw [e] at hc
      simp only [S_law_fits, B_law_fits, runF, startE, finF, ioOf, bnd, eVar, eC, eOp, eUn, eIx, eSl, eTup, eLst, eIf, eAnd, eOr, eNot, eChain, tCmpD, tOf, tTru, DS.tAnd, DS.tOr, DS.tNot, asT, truth, aNil, aCons, bNil, bCons, cNil, cCons, oNone, oSome, eVal, eNrm, toVal, deref, derefs, listAt, noPlc, Out.of, retOf, Res.o, ixD, slD, eB, iB, iA, iItems, itemsD, eCall, eCallIo, eCallK, permV, isMut, mutL, remut, eMeth, appendD, popD, eIsi, isi_int, isi_bool, isi_tup, sNil, sSeq, sEx, sRet, sIf, sSet, sSetIx, setIx, setOk_z, setOk_s, nI_un, nI_val, nI_own, listOf_lst, listOf_tup, listOf_fix, putO, sPars, putsR, sPar, sPar3, sAsg, sFor, sRaise, gN, gT, gsC, gsN, addD, subD, mulD, fdivD, modD, powD, cmpD, negD, lenD, listD, tupleD, intD, absD, zipD, enumD, ttYes, wipeE, canWipe, restE, wipSV, Option.getD_some, List.getElem?_cons_zero, List.getElem?_cons_succ, List.set_cons_zero, List.set_cons_succ, List.length_cons, List.length_nil, List.map_cons, List.map_nil, List.getD_cons_zero, List.getD_cons_succ, Option.bind_some, Option.map_some, Option.isSome_some, Option.bind_none, Option.map_none, Option.isSome_none, if_true, if_false, ite_ap, ixN30, ixN31, ixN32, Int.reduceLE, Int.reduceLT, Int.reduceNeg, nab10, nab2, Int.reduceToNat, Nat.reducePow, Nat.reduceLT, reduceCtorEq, atI_z, atI_1, atI_2, atI_3, atI_at, atI_m1, List.replicate, List.cons_append, List.nil_append, List.append_nil, reduceIte, and_self, and_true, true_and, false_and, and_false, ne_eq, not_true_eq_false, not_false_eq_true, eq_self, Bool.true_and, Bool.and_true, Bool.false_and, Bool.and_false, Bool.not_true, Bool.not_false, Bool.false_eq_true, Nat.reduceAdd, Nat.reduceSub, Nat.reduceLeDiff, Nat.reduceLT, hc, iL_len, ha2, hb2, decide_true, maxD, intsOf_iL]
      unfold fitsB
      rw [e, decide_eq_true ha, decide_eq_true hb]
      rfl
    · have hb2 : ¬ (r.length : Int) < 41 := by omega
      simp only [S_law_fits, B_law_fits, runF, startE, finF, ioOf, bnd, eVar, eC, eOp, eUn, eIx, eSl, eTup, eLst, eIf, eAnd, eOr, eNot, eChain, tCmpD, tOf, tTru, DS.tAnd, DS.tOr, DS.tNot, asT, truth, aNil, aCons, bNil, bCons, cNil, cCons, oNone, oSome, eVal, eNrm, toVal, deref, derefs, listAt, noPlc, Out.of, retOf, Res.o, ixD, slD, eB, iB, iA, iItems, itemsD, eCall, eCallIo, eCallK, permV, isMut, mutL, remut, eMeth, appendD, popD, eIsi, isi_int, isi_bool, isi_tup, sNil, sSeq, sEx, sRet, sIf, sSet, sSetIx, setIx, setOk_z, setOk_s, nI_un, nI_val, nI_own, listOf_lst, listOf_tup, listOf_fix, putO, sPars, putsR, sPar, sPar3, sAsg, sFor, sRaise, gN, gT, gsC, gsN, addD, subD, mulD, fdivD, modD, powD, cmpD, negD, lenD, listD, tupleD, intD, absD, zipD, enumD, ttYes, wipeE, canWipe, restE, wipSV, Option.getD_some, List.getElem?_cons_zero, List.getElem?_cons_succ, List.set_cons_zero, List.set_cons_succ, List.length_cons, List.length_nil, List.map_cons, List.map_nil, List.getD_cons_zero, List.getD_cons_succ, Option.bind_some, Option.map_some, Option.isSome_some, Option.bind_none, Option.map_none, Option.isSome_none, if_true, if_false, ite_ap, ixN30, ixN31, ixN32, Int.reduceLE, Int.reduceLT, Int.reduceNeg, nab10, nab2, Int.reduceToNat, Nat.reducePow, Nat.reduceLT, reduceCtorEq, atI_z, atI_1, atI_2, atI_3, atI_at, atI_m1, List.replicate, List.cons_append, List.nil_append, List.append_nil, reduceIte, and_self, and_true, true_and, false_and, and_false, ne_eq, not_true_eq_false, not_false_eq_true, eq_self, Bool.true_and, Bool.and_true, Bool.false_and, Bool.and_false, Bool.not_true, Bool.not_false, Bool.false_eq_true, Nat.reduceAdd, Nat.reduceSub, Nat.reduceLeDiff, Nat.reduceLT, iL_len, ha2, hb2, decide_true, decide_false]
      unfold fitsB
      rw [decide_eq_true ha, decide_eq_false hb]
      rfl
  · have ha2 : ¬ (0 : Int) < (r.length : Int) := by omega
    simp only [S_law_fits, B_law_fits, runF, startE, finF, ioOf, bnd, eVar, eC, eOp, eUn, eIx, eSl, eTup, eLst, eIf, eAnd, eOr, eNot, eChain, tCmpD, tOf, tTru, DS.tAnd, DS.tOr, DS.tNot, asT, truth, aNil, aCons, bNil, bCons, cNil, cCons, oNone, oSome, eVal, eNrm, toVal, deref, derefs, listAt, noPlc, Out.of, retOf, Res.o, ixD, slD, eB, iB, iA, iItems, itemsD, eCall, eCallIo, eCallK, permV, isMut, mutL, remut, eMeth, appendD, popD, eIsi, isi_int, isi_bool, isi_tup, sNil, sSeq, sEx, sRet, sIf, sSet, sSetIx, setIx, setOk_z, setOk_s, nI_un, nI_val, nI_own, listOf_lst, listOf_tup, listOf_fix, putO, sPars, putsR, sPar, sPar3, sAsg, sFor, sRaise, gN, gT, gsC, gsN, addD, subD, mulD, fdivD, modD, powD, cmpD, negD, lenD, listD, tupleD, intD, absD, zipD, enumD, ttYes, wipeE, canWipe, restE, wipSV, Option.getD_some, List.getElem?_cons_zero, List.getElem?_cons_succ, List.set_cons_zero, List.set_cons_succ, List.length_cons, List.length_nil, List.map_cons, List.map_nil, List.getD_cons_zero, List.getD_cons_succ, Option.bind_some, Option.map_some, Option.isSome_some, Option.bind_none, Option.map_none, Option.isSome_none, if_true, if_false, ite_ap, ixN30, ixN31, ixN32, Int.reduceLE, Int.reduceLT, Int.reduceNeg, nab10, nab2, Int.reduceToNat, Nat.reducePow, Nat.reduceLT, reduceCtorEq, atI_z, atI_1, atI_2, atI_3, atI_at, atI_m1, List.replicate, List.cons_append, List.nil_append, List.append_nil, reduceIte, and_self, and_true, true_and, false_and, and_false, ne_eq, not_true_eq_false, not_false_eq_true, eq_self, Bool.true_and, Bool.and_true, Bool.false_and, Bool.and_false, Bool.not_true, Bool.not_false, Bool.false_eq_true, Nat.reduceAdd, Nat.reduceSub, Nat.reduceLeDiff, Nat.reduceLT, iL_len, ha2, decide_false]
    unfold fitsB
    rw [decide_eq_false ha]
    rfl
theorem law_is_int (i j : Int) : S_law_is [.int i, .int j] = .ok (.val (.bl (decide (i = j)))) [] := by
  simp only [S_law_is, B_law_is, runF, startE, finF, ioOf, bnd, eVar, eC, eOp, eUn, eIx, eSl, eTup, eLst, eIf, eAnd, eOr, eNot, eChain, tCmpD, tOf, tTru, DS.tAnd, DS.tOr, DS.tNot, asT, truth, aNil, aCons, bNil, bCons, cNil, cCons, oNone, oSome, eVal, eNrm, toVal, deref, derefs, listAt, noPlc, Out.of, retOf, Res.o, ixD, slD, eB, iB, iA, iItems, itemsD, eCall, eCallIo, eCallK, permV, isMut, mutL, remut, eMeth, appendD, popD, eIsi, isi_int, isi_bool, isi_tup, sNil, sSeq, sEx, sRet, sIf, sSet, sSetIx, setIx, setOk_z, setOk_s, nI_un, nI_val, nI_own, listOf_lst, listOf_tup, listOf_fix, putO, sPars, putsR, sPar, sPar3, sAsg, sFor, sRaise, gN, gT, gsC, gsN, addD, subD, mulD, fdivD, modD, powD, cmpD, negD, lenD, listD, tupleD, intD, absD, zipD, enumD, ttYes, wipeE, canWipe, restE, wipSV, Option.getD_some, List.getElem?_cons_zero, List.getElem?_cons_succ, List.set_cons_zero, List.set_cons_succ, List.length_cons, List.length_nil, List.map_cons, List.map_nil, List.getD_cons_zero, List.getD_cons_succ, Option.bind_some, Option.map_some, Option.isSome_some, Option.bind_none, Option.map_none, Option.isSome_none, if_true, if_false, ite_ap, ixN30, ixN31, ixN32, Int.reduceLE, Int.reduceLT, Int.reduceNeg, nab10, nab2, Int.reduceToNat, Nat.reducePow, Nat.reduceLT, reduceCtorEq, atI_z, atI_1, atI_2, atI_3, atI_at, atI_m1, List.replicate, List.cons_append, List.nil_append, List.append_nil, reduceIte, and_self, and_true, true_and, false_and, and_false, ne_eq, not_true_eq_false, not_false_eq_true, eq_self, Bool.true_and, Bool.and_true, Bool.false_and, Bool.and_false, Bool.not_true, Bool.not_false, Bool.false_eq_true, Nat.reduceAdd, Nat.reduceSub, Nat.reduceLeDiff, Nat.reduceLT, eqD_int]
end K34

set_option Elab.async false
set_option linter.all false
set_option maxRecDepth 100000
set_option maxHeartbeats 4000000
set_option exponentiation.threshold 5000
namespace K34
open PySem DS
theorem zw_zip (f : Int → Int → Int) : ∀ (a b : List Int), (List.zip a b).map (fun p => f p.1 p.2) = List.zipWith f a b
  | [], b => rfl
  | x :: a, [] => rfl
  | x :: a, y :: b => by
    show f x y :: (List.zip a b).map (fun p => f p.1 p.2) = f x y :: List.zipWith f a b
    rw [zw_zip f a b]
theorem cut1 (xs : List D) : cutD xs (some 1) none = xs.drop 1 := cut_from xs (by decide)
/-! ### the lines -/
def lns (k : Nat) : List D := (List.range k).map fun n => .lst (iL (pas n))
theorem lns_last (k : Nat) : (lns (k + 1)).getLast? = some (.lst (iL (pas k))) := by
  unfold lns
  rw [List.range_succ, List.map_append]
  simp
theorem lns_succ (k : Nat) : lns (k + 1) = lns k ++ [.lst (iL (pas k))] := by
  unfold lns
  rw [List.range_succ, List.map_append]; rfl
theorem lns_len (k : Nat) : (lns k).length = k := by simp [lns]
def pad (k : Nat) : List Int := 0 :: (pas k ++ [0])
theorem pad_D (k : Nat) : D.int 0 :: (iL (pas k) ++ [D.int 0]) = iL (pad k) := by simp [pad, iL]
theorem C_choices (a : SV) (b : SV) (c : SV) {k : Nat} (hk : k ≤ 100) : C1_law_choices [a, b, c, .own (iL (pad k)), .un, .un] = .ok (.own (iL (pas (k + 1)))) [a, b, c, .val (.lst (iL (pad k))), .un, .un] := by
  have e : pas (k + 1) = (List.zip (pad k) (pas k ++ [0])).map fun p => p.1 + p.2 := (zw_zip _ _ _).symm
  have e2 : (pad k).drop 1 = pas k ++ [0] := rfl
  rw [e, ← iL_map]
  unfold C1_law_choices
  exact eLc_pure (ε1 := [a, b, c, .val (.lst (iL (pad k))), .un, .un]) pr (fun p => .int (p.1 + p.2)) (List.zip (pad k) (pas k ++ [0])) (by simp only [runF, startE, finF, ioOf, bnd, eVar, eC, eOp, eUn, eIx, eSl, eTup, eLst, eIf, eAnd, eOr, eNot, eChain, tCmpD, tOf, tTru, DS.tAnd, DS.tOr, DS.tNot, asT, truth, aNil, aCons, bNil, bCons, cNil, cCons, oNone, oSome, eVal, eNrm, toVal, deref, derefs, listAt, noPlc, Out.of, retOf, Res.o, ixD, slD, eB, iB, iA, iItems, itemsD, eCall, eCallIo, eCallK, permV, isMut, mutL, remut, eMeth, appendD, popD, eIsi, isi_int, isi_bool, isi_tup, sNil, sSeq, sEx, sRet, sIf, sSet, sSetIx, setIx, setOk_z, setOk_s, nI_un, nI_val, nI_own, listOf_lst, listOf_tup, listOf_fix, putO, sPars, putsR, sPar, sPar3, sAsg, sFor, sRaise, gN, gT, gsC, gsN, addD, subD, mulD, fdivD, modD, powD, cmpD, negD, lenD, listD, tupleD, intD, absD, zipD, enumD, ttYes, wipeE, canWipe, restE, wipSV, Option.getD_some, List.getElem?_cons_zero, List.getElem?_cons_succ, List.set_cons_zero, List.set_cons_succ, List.length_cons, List.length_nil, List.map_cons, List.map_nil, List.getD_cons_zero, List.getD_cons_succ, Option.bind_some, Option.map_some, Option.isSome_some, Option.bind_none, Option.map_none, Option.isSome_none, if_true, if_false, ite_ap, ixN30, ixN31, ixN32, Int.reduceLE, Int.reduceLT, Int.reduceNeg, nab10, nab2, Int.reduceToNat, Nat.reducePow, Nat.reduceLT, reduceCtorEq, atI_z, atI_1, atI_2, atI_3, atI_at, atI_m1, List.replicate, List.cons_append, List.nil_append, List.append_nil, reduceIte, and_self, and_true, true_and, false_and, and_false, ne_eq, not_true_eq_false, not_false_eq_true, eq_self, Bool.true_and, Bool.and_true, Bool.false_and, Bool.and_false, Bool.not_true, Bool.not_false, Bool.false_eq_true, Nat.reduceAdd, Nat.reduceSub, Nat.reduceLeDiff, Nat.reduceLT, cut1, iL_drop, e2, zipL_iL]) (sz63 (by simp [pas_len]; omega)) rfl (fun p hp => ⟨_, _, rfl, by simp only [runF, startE, finF, ioOf, bnd, eVar, eC, eOp, eUn, eIx, eSl, eTup, eLst, eIf, eAnd, eOr, eNot, eChain, tCmpD, tOf, tTru, DS.tAnd, DS.tOr, DS.tNot, asT, truth, aNil, aCons, bNil, bCons, cNil, cCons, oNone, oSome, eVal, eNrm, toVal, deref, derefs, listAt, noPlc, Out.of, retOf, Res.o, ixD, slD, eB, iB, iA, iItems, itemsD, eCall, eCallIo, eCallK, permV, isMut, mutL, remut, eMeth, appendD, popD, eIsi, isi_int, isi_bool, isi_tup, sNil, sSeq, sEx, sRet, sIf, sSet, sSetIx, setIx, setOk_z, setOk_s, nI_un, nI_val, nI_own, listOf_lst, listOf_tup, listOf_fix, putO, sPars, putsR, sPar, sPar3, sAsg, sFor, sRaise, gN, gT, gsC, gsN, addD, subD, mulD, fdivD, modD, powD, cmpD, negD, lenD, listD, tupleD, intD, absD, zipD, enumD, ttYes, wipeE, canWipe, restE, wipSV, Option.getD_some, List.getElem?_cons_zero, List.getElem?_cons_succ, List.set_cons_zero, List.set_cons_succ, List.length_cons, List.length_nil, List.map_cons, List.map_nil, List.getD_cons_zero, List.getD_cons_succ, Option.bind_some, Option.map_some, Option.isSome_some, Option.bind_none, Option.map_none, Option.isSome_none, if_true, if_false, ite_ap, ixN30, ixN31, ixN32, Int.reduceLE, Int.reduceLT, Int.reduceNeg, nab10, nab2, Int.reduceToNat, Nat.reducePow, Nat.reduceLT, reduceCtorEq, atI_z, atI_1, atI_2, atI_3, atI_at, atI_m1, List.replicate, List.cons_append, List.nil_append, List.append_nil, reduceIte, and_self, and_true, true_and, false_and, and_false, ne_eq, not_true_eq_false, not_false_eq_true, eq_self, Bool.true_and, Bool.and_true, Bool.false_and, Bool.and_false, Bool.not_true, Bool.not_false, Bool.false_eq_true, Nat.reduceAdd, Nat.reduceSub, Nat.reduceLeDiff, Nat.reduceLT]; rfl, by rfl⟩) rfl
theorem FB_choices {k : Nat} {a t : SV} (ht : nI t = true) (hk : k ≤ 80) : FB1_law_choices [a, .own (lns (k + 1)), .val (.int k), t, .un, .un] = .ok .nx [a, .own (lns (k + 2)), .val (.int k), .val (.lst (iL (pad k))), .un, .un] := by
  have h1 : 0 + 1 + (pas k).length ≤ sizeLine := sz63 (by rw [pas_len]; omega)
  have h2 : 0 + 1 + (pas k).length + 1 ≤ sizeLine := sz63 (by rw [pas_len]; omega)
  have h3 : (lns (k + 1)).length < sizeLine := Nat.lt_of_le_of_lt (m := 1000) (by rw [lns_len]; omega) (by unfold sizeLine; omega)
  have h0 : 0 + 1 ≤ sizeLine := sz63 (by omega)
  have h4 : 1 ≤ sizeLine := sz63 (by omega)
  have h5 : (pas k).length + 1 + 1 ≤ sizeLine := sz63 (by rw [pas_len]; omega)
  have h6 : 1 + (pas k).length ≤ sizeLine := sz63 (by rw [pas_len]; omega)
  unfold FB1_law_choices
  refine Eq.trans (sSeq_nx (by simp only [runF, startE, finF, ioOf, bnd, eVar, eC, eOp, eUn, eIx, eSl, eTup, eLst, eIf, eAnd, eOr, eNot, eChain, tCmpD, tOf, tTru, DS.tAnd, DS.tOr, DS.tNot, asT, truth, aNil, aCons, bNil, bCons, cNil, cCons, oNone, oSome, eVal, eNrm, toVal, deref, derefs, listAt, noPlc, Out.of, retOf, Res.o, ixD, slD, eB, iB, iA, iItems, itemsD, eCall, eCallIo, eCallK, permV, isMut, mutL, remut, eMeth, appendD, popD, eIsi, isi_int, isi_bool, isi_tup, sNil, sSeq, sEx, sRet, sIf, sSet, sSetIx, setIx, setOk_z, setOk_s, nI_un, nI_val, nI_own, listOf_lst, listOf_tup, listOf_fix, putO, sPars, putsR, sPar, sPar3, sAsg, sFor, sRaise, gN, gT, gsC, gsN, addD, subD, mulD, fdivD, modD, powD, cmpD, negD, lenD, listD, tupleD, intD, absD, zipD, enumD, ttYes, wipeE, canWipe, restE, wipSV, Option.getD_some, List.getElem?_cons_zero, List.getElem?_cons_succ, List.set_cons_zero, List.set_cons_succ, List.length_cons, List.length_nil, List.map_cons, List.map_nil, List.getD_cons_zero, List.getD_cons_succ, Option.bind_some, Option.map_some, Option.isSome_some, Option.bind_none, Option.map_none, Option.isSome_none, if_true, if_false, ite_ap, ixN30, ixN31, ixN32, Int.reduceLE, Int.reduceLT, Int.reduceNeg, nab10, nab2, Int.reduceToNat, Nat.reducePow, Nat.reduceLT, reduceCtorEq, atI_z, atI_1, atI_2, atI_3, atI_at, atI_m1, List.replicate, List.cons_append, List.nil_append, List.append_nil, reduceIte, and_self, and_true, true_and, false_and, and_false, ne_eq, not_true_eq_false, not_false_eq_true, eq_self, Bool.true_and, Bool.and_true, Bool.false_and, Bool.and_false, Bool.not_true, Bool.not_false, Bool.false_eq_true, Nat.reduceAdd, Nat.reduceSub, Nat.reduceLeDiff, Nat.reduceLT, ht, lns_last, iL_len, h0, h1, h2, h4, h5, h6, pad_D] <;> rfl)) ?_
  simp only [runF, startE, finF, ioOf, bnd, eVar, eC, eOp, eUn, eIx, eSl, eTup, eLst, eIf, eAnd, eOr, eNot, eChain, tCmpD, tOf, tTru, DS.tAnd, DS.tOr, DS.tNot, asT, truth, aNil, aCons, bNil, bCons, cNil, cCons, oNone, oSome, eVal, eNrm, toVal, deref, derefs, listAt, noPlc, Out.of, retOf, Res.o, ixD, slD, eB, iB, iA, iItems, itemsD, eCall, eCallIo, eCallK, permV, isMut, mutL, remut, eMeth, appendD, popD, eIsi, isi_int, isi_bool, isi_tup, sNil, sSeq, sEx, sRet, sIf, sSet, sSetIx, setIx, setOk_z, setOk_s, nI_un, nI_val, nI_own, listOf_lst, listOf_tup, listOf_fix, putO, sPars, putsR, sPar, sPar3, sAsg, sFor, sRaise, gN, gT, gsC, gsN, addD, subD, mulD, fdivD, modD, powD, cmpD, negD, lenD, listD, tupleD, intD, absD, zipD, enumD, ttYes, wipeE, canWipe, restE, wipSV, Option.getD_some, List.getElem?_cons_zero, List.getElem?_cons_succ, List.set_cons_zero, List.set_cons_succ, List.length_cons, List.length_nil, List.map_cons, List.map_nil, List.getD_cons_zero, List.getD_cons_succ, Option.bind_some, Option.map_some, Option.isSome_some, Option.bind_none, Option.map_none, Option.isSome_none, if_true, if_false, ite_ap, ixN30, ixN31, ixN32, Int.reduceLE, Int.reduceLT, Int.reduceNeg, nab10, nab2, Int.reduceToNat, Nat.reducePow, Nat.reduceLT, reduceCtorEq, atI_z, atI_1, atI_2, atI_3, atI_at, atI_m1, List.replicate, List.cons_append, List.nil_append, List.append_nil, reduceIte, and_self, and_true, true_and, false_and, and_false, ne_eq, not_true_eq_false, not_false_eq_true, eq_self, Bool.true_and, Bool.and_true, Bool.false_and, Bool.and_false, Bool.not_true, Bool.not_false, Bool.false_eq_true, Nat.reduceAdd, Nat.reduceSub, Nat.reduceLeDiff, Nat.reduceLT, C_choices _ _ _ (show k ≤ 100 by omega), h3, lns_succ (k + 1)]
theorem choices_eq : S_law_choices [.int 80] = .ok (.own lnL) [] := by
  have loop := sFor_inv (it := iB range1D (bCons (eVar 0) bNil)) (g := gN 2) (b := FB1_law_choices) ((List.range 80).map fun (i : Nat) => D.int (i : Int)) (fun k ε => ∃ s t, nI s = true ∧ nI t = true ∧ ε = [.val (.int 80), .own (lns (k + 1)), s, t, .un, .un])
    (ε := [.val (.int 80), .own (lns 1), .un, .un, .un, .un]) (ε1 := [.val (.int 80), .own (lns 1), .un, .un, .un, .un]) (by simp only [runF, startE, finF, ioOf, bnd, eVar, eC, eOp, eUn, eIx, eSl, eTup, eLst, eIf, eAnd, eOr, eNot, eChain, tCmpD, tOf, tTru, DS.tAnd, DS.tOr, DS.tNot, asT, truth, aNil, aCons, bNil, bCons, cNil, cCons, oNone, oSome, eVal, eNrm, toVal, deref, derefs, listAt, noPlc, Out.of, retOf, Res.o, ixD, slD, eB, iB, iA, iItems, itemsD, eCall, eCallIo, eCallK, permV, isMut, mutL, remut, eMeth, appendD, popD, eIsi, isi_int, isi_bool, isi_tup, sNil, sSeq, sEx, sRet, sIf, sSet, sSetIx, setIx, setOk_z, setOk_s, nI_un, nI_val, nI_own, listOf_lst, listOf_tup, listOf_fix, putO, sPars, putsR, sPar, sPar3, sAsg, sFor, sRaise, gN, gT, gsC, gsN, addD, subD, mulD, fdivD, modD, powD, cmpD, negD, lenD, listD, tupleD, intD, absD, zipD, enumD, ttYes, wipeE, canWipe, restE, wipSV, Option.getD_some, List.getElem?_cons_zero, List.getElem?_cons_succ, List.set_cons_zero, List.set_cons_succ, List.length_cons, List.length_nil, List.map_cons, List.map_nil, List.getD_cons_zero, List.getD_cons_succ, Option.bind_some, Option.map_some, Option.isSome_some, Option.bind_none, Option.map_none, Option.isSome_none, if_true, if_false, ite_ap, ixN30, ixN31, ixN32, Int.reduceLE, Int.reduceLT, Int.reduceNeg, nab10, nab2, Int.reduceToNat, Nat.reducePow, Nat.reduceLT, reduceCtorEq, atI_z, atI_1, atI_2, atI_3, atI_at, atI_m1, List.replicate, List.cons_append, List.nil_append, List.append_nil, reduceIte, and_self, and_true, true_and, false_and, and_false, ne_eq, not_true_eq_false, not_false_eq_true, eq_self, Bool.true_and, Bool.and_true, Bool.false_and, Bool.and_false, Bool.not_true, Bool.not_false, Bool.false_eq_true, Nat.reduceAdd, Nat.reduceSub, Nat.reduceLeDiff, Nat.reduceLT, show range1D [.int 80] = _ from range1_n (n := 80) (by decide)]) (by
      rintro k d ε hk ⟨s, t, hs, ht, rfl⟩
      have hk2 : k < 80 := by
        have := (List.getElem?_eq_some_iff.mp hk).1
        simpa using this
      rw [List.getElem?_map, List.getElem?_range hk2] at hk
      cases hk
      exact ⟨_, _, by simp only [runF, startE, finF, ioOf, bnd, eVar, eC, eOp, eUn, eIx, eSl, eTup, eLst, eIf, eAnd, eOr, eNot, eChain, tCmpD, tOf, tTru, DS.tAnd, DS.tOr, DS.tNot, asT, truth, aNil, aCons, bNil, bCons, cNil, cCons, oNone, oSome, eVal, eNrm, toVal, deref, derefs, listAt, noPlc, Out.of, retOf, Res.o, ixD, slD, eB, iB, iA, iItems, itemsD, eCall, eCallIo, eCallK, permV, isMut, mutL, remut, eMeth, appendD, popD, eIsi, isi_int, isi_bool, isi_tup, sNil, sSeq, sEx, sRet, sIf, sSet, sSetIx, setIx, setOk_z, setOk_s, nI_un, nI_val, nI_own, listOf_lst, listOf_tup, listOf_fix, putO, sPars, putsR, sPar, sPar3, sAsg, sFor, sRaise, gN, gT, gsC, gsN, addD, subD, mulD, fdivD, modD, powD, cmpD, negD, lenD, listD, tupleD, intD, absD, zipD, enumD, ttYes, wipeE, canWipe, restE, wipSV, Option.getD_some, List.getElem?_cons_zero, List.getElem?_cons_succ, List.set_cons_zero, List.set_cons_succ, List.length_cons, List.length_nil, List.map_cons, List.map_nil, List.getD_cons_zero, List.getD_cons_succ, Option.bind_some, Option.map_some, Option.isSome_some, Option.bind_none, Option.map_none, Option.isSome_none, if_true, if_false, ite_ap, ixN30, ixN31, ixN32, Int.reduceLE, Int.reduceLT, Int.reduceNeg, nab10, nab2, Int.reduceToNat, Nat.reducePow, Nat.reduceLT, reduceCtorEq, atI_z, atI_1, atI_2, atI_3, atI_at, atI_m1, List.replicate, List.cons_append, List.nil_append, List.append_nil, reduceIte, and_self, and_true, true_and, false_and, and_false, ne_eq, not_true_eq_false, not_false_eq_true, eq_self, Bool.true_and, Bool.and_true, Bool.false_and, Bool.and_false, Bool.not_true, Bool.not_false, Bool.false_eq_true, Nat.reduceAdd, Nat.reduceSub, Nat.reduceLeDiff, Nat.reduceLT, hs] <;> rfl, .inl (FB_choices ht (by omega)), _, _, rfl, rfl, rfl⟩) ⟨_, _, rfl, rfl, rfl⟩
  obtain ⟨ε', h1, s, t, hs, ht, rfl⟩ := loop
  have h4 : 1 ≤ sizeLine := sz63 (by omega)
  have e1 : lns 1 = [D.lst [D.int 1]] := rfl
  rw [e1] at h1
  unfold S_law_choices B_law_choices runF
  have : (sSeq (sSet 1 (eLst (aCons (eLst (aCons (eC (.int 1)) aNil)) aNil))) (sSeq (sFor (iB range1D (bCons (eVar 0) bNil)) (gN 2) FB1_law_choices) (sRet (eVar 1)))) (startE false 6 [.int 80]) = .ok (.rt (.own lnL)) [.val (.int 80), .un, s, t, .un, .un] := by
    refine Eq.trans (sSeq_nx (by simp only [runF, startE, finF, ioOf, bnd, eVar, eC, eOp, eUn, eIx, eSl, eTup, eLst, eIf, eAnd, eOr, eNot, eChain, tCmpD, tOf, tTru, DS.tAnd, DS.tOr, DS.tNot, asT, truth, aNil, aCons, bNil, bCons, cNil, cCons, oNone, oSome, eVal, eNrm, toVal, deref, derefs, listAt, noPlc, Out.of, retOf, Res.o, ixD, slD, eB, iB, iA, iItems, itemsD, eCall, eCallIo, eCallK, permV, isMut, mutL, remut, eMeth, appendD, popD, eIsi, isi_int, isi_bool, isi_tup, sNil, sSeq, sEx, sRet, sIf, sSet, sSetIx, setIx, setOk_z, setOk_s, nI_un, nI_val, nI_own, listOf_lst, listOf_tup, listOf_fix, putO, sPars, putsR, sPar, sPar3, sAsg, sFor, sRaise, gN, gT, gsC, gsN, addD, subD, mulD, fdivD, modD, powD, cmpD, negD, lenD, listD, tupleD, intD, absD, zipD, enumD, ttYes, wipeE, canWipe, restE, wipSV, Option.getD_some, List.getElem?_cons_zero, List.getElem?_cons_succ, List.set_cons_zero, List.set_cons_succ, List.length_cons, List.length_nil, List.map_cons, List.map_nil, List.getD_cons_zero, List.getD_cons_succ, Option.bind_some, Option.map_some, Option.isSome_some, Option.bind_none, Option.map_none, Option.isSome_none, if_true, if_false, ite_ap, ixN30, ixN31, ixN32, Int.reduceLE, Int.reduceLT, Int.reduceNeg, nab10, nab2, Int.reduceToNat, Nat.reducePow, Nat.reduceLT, reduceCtorEq, atI_z, atI_1, atI_2, atI_3, atI_at, atI_m1, List.replicate, List.cons_append, List.nil_append, List.append_nil, reduceIte, and_self, and_true, true_and, false_and, and_false, ne_eq, not_true_eq_false, not_false_eq_true, eq_self, Bool.true_and, Bool.and_true, Bool.false_and, Bool.and_false, Bool.not_true, Bool.not_false, Bool.false_eq_true, Nat.reduceAdd, Nat.reduceSub, Nat.reduceLeDiff, Nat.reduceLT, h4] <;> rfl)) ?_
    refine Eq.trans (sSeq_nx h1) ?_
    simp only [runF, startE, finF, ioOf, bnd, eVar, eC, eOp, eUn, eIx, eSl, eTup, eLst, eIf, eAnd, eOr, eNot, eChain, tCmpD, tOf, tTru, DS.tAnd, DS.tOr, DS.tNot, asT, truth, aNil, aCons, bNil, bCons, cNil, cCons, oNone, oSome, eVal, eNrm, toVal, deref, derefs, listAt, noPlc, Out.of, retOf, Res.o, ixD, slD, eB, iB, iA, iItems, itemsD, eCall, eCallIo, eCallK, permV, isMut, mutL, remut, eMeth, appendD, popD, eIsi, isi_int, isi_bool, isi_tup, sNil, sSeq, sEx, sRet, sIf, sSet, sSetIx, setIx, setOk_z, setOk_s, nI_un, nI_val, nI_own, listOf_lst, listOf_tup, listOf_fix, putO, sPars, putsR, sPar, sPar3, sAsg, sFor, sRaise, gN, gT, gsC, gsN, addD, subD, mulD, fdivD, modD, powD, cmpD, negD, lenD, listD, tupleD, intD, absD, zipD, enumD, ttYes, wipeE, canWipe, restE, wipSV, Option.getD_some, List.getElem?_cons_zero, List.getElem?_cons_succ, List.set_cons_zero, List.set_cons_succ, List.length_cons, List.length_nil, List.map_cons, List.map_nil, List.getD_cons_zero, List.getD_cons_succ, Option.bind_some, Option.map_some, Option.isSome_some, Option.bind_none, Option.map_none, Option.isSome_none, if_true, if_false, ite_ap, ixN30, ixN31, ixN32, Int.reduceLE, Int.reduceLT, Int.reduceNeg, nab10, nab2, Int.reduceToNat, Nat.reducePow, Nat.reduceLT, reduceCtorEq, atI_z, atI_1, atI_2, atI_3, atI_at, atI_m1, List.replicate, List.cons_append, List.nil_append, List.append_nil, reduceIte, and_self, and_true, true_and, false_and, and_false, ne_eq, not_true_eq_false, not_false_eq_true, eq_self, Bool.true_and, Bool.and_true, Bool.false_and, Bool.and_false, Bool.not_true, Bool.not_false, Bool.false_eq_true, Nat.reduceAdd, Nat.reduceSub, Nat.reduceLeDiff, Nat.reduceLT, List.length_map, List.length_range]
    rfl
  rw [this]
  rfl
end K34

set_option Elab.async false
set_option linter.all false
set_option maxRecDepth 100000
set_option maxHeartbeats 4000000
set_option exponentiation.threshold 5000
namespace K34
open PySem DS
theorem lt_sz {n : Nat} (h : n ≤ 1000) : n < sizeLine := Nat.lt_of_le_of_lt h (by unfold sizeLine; omega)
theorem sg_if (c : Prop) [Decidable c] {m : Int} (h : c ↔ m % 2 = 0) : (if c then (1 : Int) else -1) = sg m := by
  unfold sg
  by_cases hc : c
  · rw [if_pos hc, if_pos (h.mp hc)]
  · rw [if_neg hc, if_neg fun z => hc (h.mpr z)]
theorem get_sq {l : List Int} {i : Nat} (h : i < l.length) : (iL l)[i]? = some (.int (sq l i)) := by
  rw [iL_get]
  unfold sq
  rw [List.getElem?_eq_getElem h]; rfl
theorem zipIdx_mem {l : List Int} {p : Int × Nat} (h : p ∈ l.zipIdx) : p.1 ∈ l ∧ p.2 < l.length := by
  have := List.mem_zipIdx h
  obtain ⟨h1, h2, h3⟩ := this
  refine ⟨?_, by omega⟩
  rw [h3]
  exact List.getElem_mem _
/-- the sum of a line's items with signs -/
theorem C_differences {r : List Int} {k : Nat} (a : SV) (h : k < r.length) (hk : k ≤ 80) (hb : ∀ x ∈ r, x.natAbs < 2 ^ 1000) :
    C1_law_differences [.val (.tup (iL r)), .val (.lst lnL), a, .val (.int k), .un, .un] = .ok (.own (iL ((pas k).zipIdx.map fun p => p.1 * sq r p.2 * sg ((k : Int) - (p.2 : Int))))) [.val (.tup (iL r)), .val (.lst lnL), a, .val (.int k), .un, .un] := by
  rw [← iL_map]
  unfold C1_law_differences
  refine eLc_p npr (fun p => .int (p.1 * sq r p.2 * sg ((k : Int) - (p.2 : Int)))) (pas k).zipIdx (by simp only [runF, startE, finF, ioOf, bnd, eVar, eC, eOp, eUn, eIx, eSl, eTup, eLst, eIf, eAnd, eOr, eNot, eChain, tCmpD, tOf, tTru, DS.tAnd, DS.tOr, DS.tNot, asT, truth, aNil, aCons, bNil, bCons, cNil, cCons, oNone, oSome, eVal, eNrm, toVal, deref, derefs, listAt, noPlc, Out.of, retOf, Res.o, ixD, slD, eB, iB, iA, iItems, itemsD, eCall, eCallIo, eCallK, permV, isMut, mutL, remut, eMeth, appendD, popD, eIsi, isi_int, isi_bool, isi_tup, sNil, sSeq, sEx, sRet, sIf, sSet, sSetIx, setIx, setOk_z, setOk_s, nI_un, nI_val, nI_own, listOf_lst, listOf_tup, listOf_fix, putO, sPars, putsR, sPar, sPar3, sAsg, sFor, sRaise, gN, gT, gsC, gsN, addD, subD, mulD, fdivD, modD, powD, cmpD, negD, lenD, listD, tupleD, intD, absD, zipD, enumD, ttYes, wipeE, canWipe, restE, wipSV, Option.getD_some, List.getElem?_cons_zero, List.getElem?_cons_succ, List.set_cons_zero, List.set_cons_succ, List.length_cons, List.length_nil, List.map_cons, List.map_nil, List.getD_cons_zero, List.getD_cons_succ, Option.bind_some, Option.map_some, Option.isSome_some, Option.bind_none, Option.map_none, Option.isSome_none, if_true, if_false, ite_ap, ixN30, ixN31, ixN32, Int.reduceLE, Int.reduceLT, Int.reduceNeg, nab10, nab2, Int.reduceToNat, Nat.reducePow, Nat.reduceLT, reduceCtorEq, atI_z, atI_1, atI_2, atI_3, atI_at, atI_m1, List.replicate, List.cons_append, List.nil_append, List.append_nil, reduceIte, and_self, and_true, true_and, false_and, and_false, ne_eq, not_true_eq_false, not_false_eq_true, eq_self, Bool.true_and, Bool.and_true, Bool.false_and, Bool.and_false, Bool.not_true, Bool.not_false, Bool.false_eq_true, Nat.reduceAdd, Nat.reduceSub, Nat.reduceLeDiff, Nat.reduceLT, lnL_get hk, enumL_iL]) (sz63 (by simp [pas_len]; omega)) rfl (fun p hp => ?_) rfl
  obtain ⟨h1, h2⟩ := zipIdx_mem hp
  rw [pas_len] at h2
  have g := get_sq (l := r) (i := p.2) (by omega)
  have m1 : mulOk p.1 (sq r p.2) = true := mulOk_k (ab_up (pas_sz k p.1 h1) (by omega)) (ab_up (sq_sz hb _) (by omega))
  have m2 : ∀ i : Int, i = 1 ∨ i = -1 → mulOk (p.1 * sq r p.2) i = true := fun i hi => mulOk_t (by omega) (by omega)
  have m3 := m2 1 (.inl rfl)
  have m4 := m2 (-1) (.inr rfl)
  by_cases hz : ((k : Int) - (p.2 : Int)) % 2 = 0
  · exact ⟨_, _, rfl, by
      rw [show sg ((k : Int) - (p.2 : Int)) = 1 from if_pos hz]
      simp only [runF, startE, finF, ioOf, bnd, eVar, eC, eOp, eUn, eIx, eSl, eTup, eLst, eIf, eAnd, eOr, eNot, eChain, tCmpD, tOf, tTru, DS.tAnd, DS.tOr, DS.tNot, asT, truth, aNil, aCons, bNil, bCons, cNil, cCons, oNone, oSome, eVal, eNrm, toVal, deref, derefs, listAt, noPlc, Out.of, retOf, Res.o, ixD, slD, eB, iB, iA, iItems, itemsD, eCall, eCallIo, eCallK, permV, isMut, mutL, remut, eMeth, appendD, popD, eIsi, isi_int, isi_bool, isi_tup, sNil, sSeq, sEx, sRet, sIf, sSet, sSetIx, setIx, setOk_z, setOk_s, nI_un, nI_val, nI_own, listOf_lst, listOf_tup, listOf_fix, putO, sPars, putsR, sPar, sPar3, sAsg, sFor, sRaise, gN, gT, gsC, gsN, addD, subD, mulD, fdivD, modD, powD, cmpD, negD, lenD, listD, tupleD, intD, absD, zipD, enumD, ttYes, wipeE, canWipe, restE, wipSV, Option.getD_some, List.getElem?_cons_zero, List.getElem?_cons_succ, List.set_cons_zero, List.set_cons_succ, List.length_cons, List.length_nil, List.map_cons, List.map_nil, List.getD_cons_zero, List.getD_cons_succ, Option.bind_some, Option.map_some, Option.isSome_some, Option.bind_none, Option.map_none, Option.isSome_none, if_true, if_false, ite_ap, ixN30, ixN31, ixN32, Int.reduceLE, Int.reduceLT, Int.reduceNeg, nab10, nab2, Int.reduceToNat, Nat.reducePow, Nat.reduceLT, reduceCtorEq, atI_z, atI_1, atI_2, atI_3, atI_at, atI_m1, List.replicate, List.cons_append, List.nil_append, List.append_nil, reduceIte, and_self, and_true, true_and, false_and, and_false, ne_eq, not_true_eq_false, not_false_eq_true, eq_self, Bool.true_and, Bool.and_true, Bool.false_and, Bool.and_false, Bool.not_true, Bool.not_false, Bool.false_eq_true, Nat.reduceAdd, Nat.reduceSub, Nat.reduceLeDiff, Nat.reduceLT, g, m1, m3, hz, eqD_int, decide_true]; rfl, by rfl⟩
  · exact ⟨_, _, rfl, by
      rw [show sg ((k : Int) - (p.2 : Int)) = -1 from if_neg hz]
      simp only [runF, startE, finF, ioOf, bnd, eVar, eC, eOp, eUn, eIx, eSl, eTup, eLst, eIf, eAnd, eOr, eNot, eChain, tCmpD, tOf, tTru, DS.tAnd, DS.tOr, DS.tNot, asT, truth, aNil, aCons, bNil, bCons, cNil, cCons, oNone, oSome, eVal, eNrm, toVal, deref, derefs, listAt, noPlc, Out.of, retOf, Res.o, ixD, slD, eB, iB, iA, iItems, itemsD, eCall, eCallIo, eCallK, permV, isMut, mutL, remut, eMeth, appendD, popD, eIsi, isi_int, isi_bool, isi_tup, sNil, sSeq, sEx, sRet, sIf, sSet, sSetIx, setIx, setOk_z, setOk_s, nI_un, nI_val, nI_own, listOf_lst, listOf_tup, listOf_fix, putO, sPars, putsR, sPar, sPar3, sAsg, sFor, sRaise, gN, gT, gsC, gsN, addD, subD, mulD, fdivD, modD, powD, cmpD, negD, lenD, listD, tupleD, intD, absD, zipD, enumD, ttYes, wipeE, canWipe, restE, wipSV, Option.getD_some, List.getElem?_cons_zero, List.getElem?_cons_succ, List.set_cons_zero, List.set_cons_succ, List.length_cons, List.length_nil, List.map_cons, List.map_nil, List.getD_cons_zero, List.getD_cons_succ, Option.bind_some, Option.map_some, Option.isSome_some, Option.bind_none, Option.map_none, Option.isSome_none, if_true, if_false, ite_ap, ixN30, ixN31, ixN32, Int.reduceLE, Int.reduceLT, Int.reduceNeg, nab10, nab2, Int.reduceToNat, Nat.reducePow, Nat.reduceLT, reduceCtorEq, atI_z, atI_1, atI_2, atI_3, atI_at, atI_m1, List.replicate, List.cons_append, List.nil_append, List.append_nil, reduceIte, and_self, and_true, true_and, false_and, and_false, ne_eq, not_true_eq_false, not_false_eq_true, eq_self, Bool.true_and, Bool.and_true, Bool.false_and, Bool.and_false, Bool.not_true, Bool.not_false, Bool.false_eq_true, Nat.reduceAdd, Nat.reduceSub, Nat.reduceLeDiff, Nat.reduceLT, g, m1, m4, hz, eqD_int, decide_false]; rfl, by rfl⟩
theorem FB_differences {r : List Int} {k : Nat} {fnd : List Int} (h : k < r.length) (hk : k ≤ 80) (hf : fnd.length ≤ 100) (hb : ∀ x ∈ r, x.natAbs < 2 ^ 1000) :
    FB1_law_differences [.val (.tup (iL r)), .val (.lst lnL), .own (iL fnd), .val (.int k), .un, .un] = .ok .nx [.val (.tup (iL r)), .val (.lst lnL), .own (iL (fnd ++ [DD (sq r) k])), .val (.int k), .un, .un] := by
  have hl : fnd.length < sizeLine := lt_sz (by omega)
  simp only [FB1_law_differences, runF, startE, finF, ioOf, bnd, eVar, eC, eOp, eUn, eIx, eSl, eTup, eLst, eIf, eAnd, eOr, eNot, eChain, tCmpD, tOf, tTru, DS.tAnd, DS.tOr, DS.tNot, asT, truth, aNil, aCons, bNil, bCons, cNil, cCons, oNone, oSome, eVal, eNrm, toVal, deref, derefs, listAt, noPlc, Out.of, retOf, Res.o, ixD, slD, eB, iB, iA, iItems, itemsD, eCall, eCallIo, eCallK, permV, isMut, mutL, remut, eMeth, appendD, popD, eIsi, isi_int, isi_bool, isi_tup, sNil, sSeq, sEx, sRet, sIf, sSet, sSetIx, setIx, setOk_z, setOk_s, nI_un, nI_val, nI_own, listOf_lst, listOf_tup, listOf_fix, putO, sPars, putsR, sPar, sPar3, sAsg, sFor, sRaise, gN, gT, gsC, gsN, addD, subD, mulD, fdivD, modD, powD, cmpD, negD, lenD, listD, tupleD, intD, absD, zipD, enumD, ttYes, wipeE, canWipe, restE, wipSV, Option.getD_some, List.getElem?_cons_zero, List.getElem?_cons_succ, List.set_cons_zero, List.set_cons_succ, List.length_cons, List.length_nil, List.map_cons, List.map_nil, List.getD_cons_zero, List.getD_cons_succ, Option.bind_some, Option.map_some, Option.isSome_some, Option.bind_none, Option.map_none, Option.isSome_none, if_true, if_false, ite_ap, ixN30, ixN31, ixN32, Int.reduceLE, Int.reduceLT, Int.reduceNeg, nab10, nab2, Int.reduceToNat, Nat.reducePow, Nat.reduceLT, reduceCtorEq, atI_z, atI_1, atI_2, atI_3, atI_at, atI_m1, List.replicate, List.cons_append, List.nil_append, List.append_nil, reduceIte, and_self, and_true, true_and, false_and, and_false, ne_eq, not_true_eq_false, not_false_eq_true, eq_self, Bool.true_and, Bool.and_true, Bool.false_and, Bool.and_false, Bool.not_true, Bool.not_false, Bool.false_eq_true, Nat.reduceAdd, Nat.reduceSub, Nat.reduceLeDiff, Nat.reduceLT, C_differences (.own (iL fnd)) h hk hb, sumD, intsOf_iL, sum_DD, iL_len, hl, iL_app, iL_cons, iL_nil]
theorem differences_law {r : List Int} (h : r.length ≤ 80) (hb : ∀ x ∈ r, x.natAbs < 2 ^ 1000) : S_law_differences [.tup (iL r), .lst lnL] = .ok (.val (.tup (iL (due r)))) [] := by
  have loop := sFor_inv (it := iB range1D (bCons (eB lenD (bCons (eVar 0) bNil)) bNil)) (g := gN 3) (b := FB1_law_differences) ((List.range r.length).map fun (i : Nat) => D.int (i : Int)) (fun k ε => ∃ s, nI s = true ∧ ε = [.val (.tup (iL r)), .val (.lst lnL), .own (iL ((List.range k).map (DD (sq r)))), s, .un, .un])
    (ε := [.val (.tup (iL r)), .val (.lst lnL), .own [], .un, .un, .un]) (ε1 := [.val (.tup (iL r)), .val (.lst lnL), .own [], .un, .un, .un]) (by
      simp only [runF, startE, finF, ioOf, bnd, eVar, eC, eOp, eUn, eIx, eSl, eTup, eLst, eIf, eAnd, eOr, eNot, eChain, tCmpD, tOf, tTru, DS.tAnd, DS.tOr, DS.tNot, asT, truth, aNil, aCons, bNil, bCons, cNil, cCons, oNone, oSome, eVal, eNrm, toVal, deref, derefs, listAt, noPlc, Out.of, retOf, Res.o, ixD, slD, eB, iB, iA, iItems, itemsD, eCall, eCallIo, eCallK, permV, isMut, mutL, remut, eMeth, appendD, popD, eIsi, isi_int, isi_bool, isi_tup, sNil, sSeq, sEx, sRet, sIf, sSet, sSetIx, setIx, setOk_z, setOk_s, nI_un, nI_val, nI_own, listOf_lst, listOf_tup, listOf_fix, putO, sPars, putsR, sPar, sPar3, sAsg, sFor, sRaise, gN, gT, gsC, gsN, addD, subD, mulD, fdivD, modD, powD, cmpD, negD, lenD, listD, tupleD, intD, absD, zipD, enumD, ttYes, wipeE, canWipe, restE, wipSV, Option.getD_some, List.getElem?_cons_zero, List.getElem?_cons_succ, List.set_cons_zero, List.set_cons_succ, List.length_cons, List.length_nil, List.map_cons, List.map_nil, List.getD_cons_zero, List.getD_cons_succ, Option.bind_some, Option.map_some, Option.isSome_some, Option.bind_none, Option.map_none, Option.isSome_none, if_true, if_false, ite_ap, ixN30, ixN31, ixN32, Int.reduceLE, Int.reduceLT, Int.reduceNeg, nab10, nab2, Int.reduceToNat, Nat.reducePow, Nat.reduceLT, reduceCtorEq, atI_z, atI_1, atI_2, atI_3, atI_at, atI_m1, List.replicate, List.cons_append, List.nil_append, List.append_nil, reduceIte, and_self, and_true, true_and, false_and, and_false, ne_eq, not_true_eq_false, not_false_eq_true, eq_self, Bool.true_and, Bool.and_true, Bool.false_and, Bool.and_false, Bool.not_true, Bool.not_false, Bool.false_eq_true, Nat.reduceAdd, Nat.reduceSub, Nat.reduceLeDiff, Nat.reduceLT, iL_len, range1_n (show r.length ≤ 1000000 by omega)]) (by
      rintro k d ε hk ⟨s, hs, rfl⟩
      have hk2 : k < r.length := by
        have := (List.getElem?_eq_some_iff.mp hk).1
        simpa using this
      rw [List.getElem?_map, List.getElem?_range hk2] at hk
      cases hk
      exact ⟨_, _, by simp only [runF, startE, finF, ioOf, bnd, eVar, eC, eOp, eUn, eIx, eSl, eTup, eLst, eIf, eAnd, eOr, eNot, eChain, tCmpD, tOf, tTru, DS.tAnd, DS.tOr, DS.tNot, asT, truth, aNil, aCons, bNil, bCons, cNil, cCons, oNone, oSome, eVal, eNrm, toVal, deref, derefs, listAt, noPlc, Out.of, retOf, Res.o, ixD, slD, eB, iB, iA, iItems, itemsD, eCall, eCallIo, eCallK, permV, isMut, mutL, remut, eMeth, appendD, popD, eIsi, isi_int, isi_bool, isi_tup, sNil, sSeq, sEx, sRet, sIf, sSet, sSetIx, setIx, setOk_z, setOk_s, nI_un, nI_val, nI_own, listOf_lst, listOf_tup, listOf_fix, putO, sPars, putsR, sPar, sPar3, sAsg, sFor, sRaise, gN, gT, gsC, gsN, addD, subD, mulD, fdivD, modD, powD, cmpD, negD, lenD, listD, tupleD, intD, absD, zipD, enumD, ttYes, wipeE, canWipe, restE, wipSV, Option.getD_some, List.getElem?_cons_zero, List.getElem?_cons_succ, List.set_cons_zero, List.set_cons_succ, List.length_cons, List.length_nil, List.map_cons, List.map_nil, List.getD_cons_zero, List.getD_cons_succ, Option.bind_some, Option.map_some, Option.isSome_some, Option.bind_none, Option.map_none, Option.isSome_none, if_true, if_false, ite_ap, ixN30, ixN31, ixN32, Int.reduceLE, Int.reduceLT, Int.reduceNeg, nab10, nab2, Int.reduceToNat, Nat.reducePow, Nat.reduceLT, reduceCtorEq, atI_z, atI_1, atI_2, atI_3, atI_at, atI_m1, List.replicate, List.cons_append, List.nil_append, List.append_nil, reduceIte, and_self, and_true, true_and, false_and, and_false, ne_eq, not_true_eq_false, not_false_eq_true, eq_self, Bool.true_and, Bool.and_true, Bool.false_and, Bool.and_false, Bool.not_true, Bool.not_false, Bool.false_eq_true, Nat.reduceAdd, Nat.reduceSub, Nat.reduceLeDiff, Nat.reduceLT, hs] <;> rfl, .inl (FB_differences hk2 (by omega) (by simp; omega) hb), _, rfl, by rw [List.range_succ, List.map_append]; rfl⟩) ⟨_, rfl, rfl⟩
  obtain ⟨ε', h1, s, hs, rfl⟩ := loop
  rw [List.length_map, List.length_range] at h1
  have : (sSeq (sSet 2 (eLst aNil)) (sSeq (sFor (iB range1D (bCons (eB lenD (bCons (eVar 0) bNil)) bNil)) (gN 3) FB1_law_differences) (sRet (eB tupleD (bCons (eVar 2) bNil))))) (startE false 6 [.tup (iL r), .lst lnL]) = .ok (.rt (.val (.tup (iL (due r))))) [.val (.tup (iL r)), .val (.lst lnL), .own (iL (due r)), s, .un, .un] := by
    have h0 : 0 ≤ sizeLine := Nat.zero_le _
    refine Eq.trans (sSeq_nx (by simp only [runF, startE, finF, ioOf, bnd, eVar, eC, eOp, eUn, eIx, eSl, eTup, eLst, eIf, eAnd, eOr, eNot, eChain, tCmpD, tOf, tTru, DS.tAnd, DS.tOr, DS.tNot, asT, truth, aNil, aCons, bNil, bCons, cNil, cCons, oNone, oSome, eVal, eNrm, toVal, deref, derefs, listAt, noPlc, Out.of, retOf, Res.o, ixD, slD, eB, iB, iA, iItems, itemsD, eCall, eCallIo, eCallK, permV, isMut, mutL, remut, eMeth, appendD, popD, eIsi, isi_int, isi_bool, isi_tup, sNil, sSeq, sEx, sRet, sIf, sSet, sSetIx, setIx, setOk_z, setOk_s, nI_un, nI_val, nI_own, listOf_lst, listOf_tup, listOf_fix, putO, sPars, putsR, sPar, sPar3, sAsg, sFor, sRaise, gN, gT, gsC, gsN, addD, subD, mulD, fdivD, modD, powD, cmpD, negD, lenD, listD, tupleD, intD, absD, zipD, enumD, ttYes, wipeE, canWipe, restE, wipSV, Option.getD_some, List.getElem?_cons_zero, List.getElem?_cons_succ, List.set_cons_zero, List.set_cons_succ, List.length_cons, List.length_nil, List.map_cons, List.map_nil, List.getD_cons_zero, List.getD_cons_succ, Option.bind_some, Option.map_some, Option.isSome_some, Option.bind_none, Option.map_none, Option.isSome_none, if_true, if_false, ite_ap, ixN30, ixN31, ixN32, Int.reduceLE, Int.reduceLT, Int.reduceNeg, nab10, nab2, Int.reduceToNat, Nat.reducePow, Nat.reduceLT, reduceCtorEq, atI_z, atI_1, atI_2, atI_3, atI_at, atI_m1, List.replicate, List.cons_append, List.nil_append, List.append_nil, reduceIte, and_self, and_true, true_and, false_and, and_false, ne_eq, not_true_eq_false, not_false_eq_true, eq_self, Bool.true_and, Bool.and_true, Bool.false_and, Bool.and_false, Bool.not_true, Bool.not_false, Bool.false_eq_true, Nat.reduceAdd, Nat.reduceSub, Nat.reduceLeDiff, Nat.reduceLT, h0] <;> rfl)) ?_
    refine Eq.trans (sSeq_nx h1) ?_
    simp only [runF, startE, finF, ioOf, bnd, eVar, eC, eOp, eUn, eIx, eSl, eTup, eLst, eIf, eAnd, eOr, eNot, eChain, tCmpD, tOf, tTru, DS.tAnd, DS.tOr, DS.tNot, asT, truth, aNil, aCons, bNil, bCons, cNil, cCons, oNone, oSome, eVal, eNrm, toVal, deref, derefs, listAt, noPlc, Out.of, retOf, Res.o, ixD, slD, eB, iB, iA, iItems, itemsD, eCall, eCallIo, eCallK, permV, isMut, mutL, remut, eMeth, appendD, popD, eIsi, isi_int, isi_bool, isi_tup, sNil, sSeq, sEx, sRet, sIf, sSet, sSetIx, setIx, setOk_z, setOk_s, nI_un, nI_val, nI_own, listOf_lst, listOf_tup, listOf_fix, putO, sPars, putsR, sPar, sPar3, sAsg, sFor, sRaise, gN, gT, gsC, gsN, addD, subD, mulD, fdivD, modD, powD, cmpD, negD, lenD, listD, tupleD, intD, absD, zipD, enumD, ttYes, wipeE, canWipe, restE, wipSV, Option.getD_some, List.getElem?_cons_zero, List.getElem?_cons_succ, List.set_cons_zero, List.set_cons_succ, List.length_cons, List.length_nil, List.map_cons, List.map_nil, List.getD_cons_zero, List.getD_cons_succ, Option.bind_some, Option.map_some, Option.isSome_some, Option.bind_none, Option.map_none, Option.isSome_none, if_true, if_false, ite_ap, ixN30, ixN31, ixN32, Int.reduceLE, Int.reduceLT, Int.reduceNeg, nab10, nab2, Int.reduceToNat, Nat.reducePow, Nat.reduceLT, reduceCtorEq, atI_z, atI_1, atI_2, atI_3, atI_at, atI_m1, List.replicate, List.cons_append, List.nil_append, List.append_nil, reduceIte, and_self, and_true, true_and, false_and, and_false, ne_eq, not_true_eq_false, not_false_eq_true, eq_self, Bool.true_and, Bool.and_true, Bool.false_and, Bool.and_false, Bool.not_true, Bool.not_false, Bool.false_eq_true, Nat.reduceAdd, Nat.reduceSub, Nat.reduceLeDiff, Nat.reduceLT]
    rfl
  unfold S_law_differences B_law_differences runF
  rw [this]
  rfl

/-! ### the program's differences -/
theorem C_dfs {l : List Int} (a b : SV) (h : l.length ≤ 1000) : C1_differences_at [a, b, .own (iL l), .un, .un] = .ok (.own (iL (dfs l))) [a, b, .val (.lst (iL l)), .un, .un] := by
  have e : dfs l = (List.zip l (l.drop 1)).map fun p => p.2 - p.1 := by
    rw [List.drop_one]
    exact (zw_zip (fun x y => y - x) _ _).symm
  rw [e, ← iL_map]
  unfold C1_differences_at
  exact eLc_pure (ε1 := [a, b, .val (.lst (iL l)), .un, .un]) pr (fun p => .int (p.2 - p.1)) (List.zip l (l.drop 1)) (by simp only [runF, startE, finF, ioOf, bnd, eVar, eC, eOp, eUn, eIx, eSl, eTup, eLst, eIf, eAnd, eOr, eNot, eChain, tCmpD, tOf, tTru, DS.tAnd, DS.tOr, DS.tNot, asT, truth, aNil, aCons, bNil, bCons, cNil, cCons, oNone, oSome, eVal, eNrm, toVal, deref, derefs, listAt, noPlc, Out.of, retOf, Res.o, ixD, slD, eB, iB, iA, iItems, itemsD, eCall, eCallIo, eCallK, permV, isMut, mutL, remut, eMeth, appendD, popD, eIsi, isi_int, isi_bool, isi_tup, sNil, sSeq, sEx, sRet, sIf, sSet, sSetIx, setIx, setOk_z, setOk_s, nI_un, nI_val, nI_own, listOf_lst, listOf_tup, listOf_fix, putO, sPars, putsR, sPar, sPar3, sAsg, sFor, sRaise, gN, gT, gsC, gsN, addD, subD, mulD, fdivD, modD, powD, cmpD, negD, lenD, listD, tupleD, intD, absD, zipD, enumD, ttYes, wipeE, canWipe, restE, wipSV, Option.getD_some, List.getElem?_cons_zero, List.getElem?_cons_succ, List.set_cons_zero, List.set_cons_succ, List.length_cons, List.length_nil, List.map_cons, List.map_nil, List.getD_cons_zero, List.getD_cons_succ, Option.bind_some, Option.map_some, Option.isSome_some, Option.bind_none, Option.map_none, Option.isSome_none, if_true, if_false, ite_ap, ixN30, ixN31, ixN32, Int.reduceLE, Int.reduceLT, Int.reduceNeg, nab10, nab2, Int.reduceToNat, Nat.reducePow, Nat.reduceLT, reduceCtorEq, atI_z, atI_1, atI_2, atI_3, atI_at, atI_m1, List.replicate, List.cons_append, List.nil_append, List.append_nil, reduceIte, and_self, and_true, true_and, false_and, and_false, ne_eq, not_true_eq_false, not_false_eq_true, eq_self, Bool.true_and, Bool.and_true, Bool.false_and, Bool.and_false, Bool.not_true, Bool.not_false, Bool.false_eq_true, Nat.reduceAdd, Nat.reduceSub, Nat.reduceLeDiff, Nat.reduceLT, cut1, iL_drop, zipL_iL]) (sz63 (by simp; omega)) rfl (fun p hp => ⟨_, _, rfl, by simp only [runF, startE, finF, ioOf, bnd, eVar, eC, eOp, eUn, eIx, eSl, eTup, eLst, eIf, eAnd, eOr, eNot, eChain, tCmpD, tOf, tTru, DS.tAnd, DS.tOr, DS.tNot, asT, truth, aNil, aCons, bNil, bCons, cNil, cCons, oNone, oSome, eVal, eNrm, toVal, deref, derefs, listAt, noPlc, Out.of, retOf, Res.o, ixD, slD, eB, iB, iA, iItems, itemsD, eCall, eCallIo, eCallK, permV, isMut, mutL, remut, eMeth, appendD, popD, eIsi, isi_int, isi_bool, isi_tup, sNil, sSeq, sEx, sRet, sIf, sSet, sSetIx, setIx, setOk_z, setOk_s, nI_un, nI_val, nI_own, listOf_lst, listOf_tup, listOf_fix, putO, sPars, putsR, sPar, sPar3, sAsg, sFor, sRaise, gN, gT, gsC, gsN, addD, subD, mulD, fdivD, modD, powD, cmpD, negD, lenD, listD, tupleD, intD, absD, zipD, enumD, ttYes, wipeE, canWipe, restE, wipSV, Option.getD_some, List.getElem?_cons_zero, List.getElem?_cons_succ, List.set_cons_zero, List.set_cons_succ, List.length_cons, List.length_nil, List.map_cons, List.map_nil, List.getD_cons_zero, List.getD_cons_succ, Option.bind_some, Option.map_some, Option.isSome_some, Option.bind_none, Option.map_none, Option.isSome_none, if_true, if_false, ite_ap, ixN30, ixN31, ixN32, Int.reduceLE, Int.reduceLT, Int.reduceNeg, nab10, nab2, Int.reduceToNat, Nat.reducePow, Nat.reduceLT, reduceCtorEq, atI_z, atI_1, atI_2, atI_3, atI_at, atI_m1, List.replicate, List.cons_append, List.nil_append, List.append_nil, reduceIte, and_self, and_true, true_and, false_and, and_false, ne_eq, not_true_eq_false, not_false_eq_true, eq_self, Bool.true_and, Bool.and_true, Bool.false_and, Bool.and_false, Bool.not_true, Bool.not_false, Bool.false_eq_true, Nat.reduceAdd, Nat.reduceSub, Nat.reduceLeDiff, Nat.reduceLT]; rfl, by rfl⟩) rfl
theorem while_dfs (a : SV) : ∀ (n : Nat) (l fnd : List Int), l.length = n → fnd.length + n ≤ 1000 → whileN WC1_differences_at WB1_differences_at (n + 1) [a, .own (iL fnd), .own (iL l), .un, .un] = .ok .nx [a, .own (iL (fnd ++ dlN n l)), .own [], .un, .un]
  | 0, l, fnd, h, hl => by
    have e := List.eq_nil_of_length_eq_zero h
    subst e
    have h0 : 0 ≤ sizeLine := Nat.zero_le _
    have hn := neD_nil []
    rw [iL_nil] at hn
    simp only [whileN, WC1_differences_at, runF, startE, finF, ioOf, bnd, eVar, eC, eOp, eUn, eIx, eSl, eTup, eLst, eIf, eAnd, eOr, eNot, eChain, tCmpD, tOf, tTru, DS.tAnd, DS.tOr, DS.tNot, asT, truth, aNil, aCons, bNil, bCons, cNil, cCons, oNone, oSome, eVal, eNrm, toVal, deref, derefs, listAt, noPlc, Out.of, retOf, Res.o, ixD, slD, eB, iB, iA, iItems, itemsD, eCall, eCallIo, eCallK, permV, isMut, mutL, remut, eMeth, appendD, popD, eIsi, isi_int, isi_bool, isi_tup, sNil, sSeq, sEx, sRet, sIf, sSet, sSetIx, setIx, setOk_z, setOk_s, nI_un, nI_val, nI_own, listOf_lst, listOf_tup, listOf_fix, putO, sPars, putsR, sPar, sPar3, sAsg, sFor, sRaise, gN, gT, gsC, gsN, addD, subD, mulD, fdivD, modD, powD, cmpD, negD, lenD, listD, tupleD, intD, absD, zipD, enumD, ttYes, wipeE, canWipe, restE, wipSV, Option.getD_some, List.getElem?_cons_zero, List.getElem?_cons_succ, List.set_cons_zero, List.set_cons_succ, List.length_cons, List.length_nil, List.map_cons, List.map_nil, List.getD_cons_zero, List.getD_cons_succ, Option.bind_some, Option.map_some, Option.isSome_some, Option.bind_none, Option.map_none, Option.isSome_none, if_true, if_false, ite_ap, ixN30, ixN31, ixN32, Int.reduceLE, Int.reduceLT, Int.reduceNeg, nab10, nab2, Int.reduceToNat, Nat.reducePow, Nat.reduceLT, reduceCtorEq, atI_z, atI_1, atI_2, atI_3, atI_at, atI_m1, List.replicate, List.cons_append, List.nil_append, List.append_nil, reduceIte, and_self, and_true, true_and, false_and, and_false, ne_eq, not_true_eq_false, not_false_eq_true, eq_self, Bool.true_and, Bool.and_true, Bool.false_and, Bool.and_false, Bool.not_true, Bool.not_false, Bool.false_eq_true, Nat.reduceAdd, Nat.reduceSub, Nat.reduceLeDiff, Nat.reduceLT, hn, h0, decide_true, dlN, iL_nil]
  | n + 1, x :: r, fnd, h, hl => by
    have h0 : 0 ≤ sizeLine := Nat.zero_le _
    have h1 : fnd.length < sizeLine := lt_sz (by omega)
    have ih := while_dfs a n (dfs (x :: r)) (fnd ++ [x]) (by rw [dfs_len]; simp at h ⊢; omega) (by simp; omega)
    have hc := C_dfs (l := x :: r) a (.own (iL (fnd ++ [x]))) (by simp at h ⊢; omega)
    have ew : WC1_differences_at [a, .own (iL fnd), .own (iL (x :: r)), .un, .un] = .ok true [a, .own (iL fnd), .own (iL (x :: r)), .un, .un] := by
      simp only [WC1_differences_at, runF, startE, finF, ioOf, bnd, eVar, eC, eOp, eUn, eIx, eSl, eTup, eLst, eIf, eAnd, eOr, eNot, eChain, tCmpD, tOf, tTru, DS.tAnd, DS.tOr, DS.tNot, asT, truth, aNil, aCons, bNil, bCons, cNil, cCons, oNone, oSome, eVal, eNrm, toVal, deref, derefs, listAt, noPlc, Out.of, retOf, Res.o, ixD, slD, eB, iB, iA, iItems, itemsD, eCall, eCallIo, eCallK, permV, isMut, mutL, remut, eMeth, appendD, popD, eIsi, isi_int, isi_bool, isi_tup, sNil, sSeq, sEx, sRet, sIf, sSet, sSetIx, setIx, setOk_z, setOk_s, nI_un, nI_val, nI_own, listOf_lst, listOf_tup, listOf_fix, putO, sPars, putsR, sPar, sPar3, sAsg, sFor, sRaise, gN, gT, gsC, gsN, addD, subD, mulD, fdivD, modD, powD, cmpD, negD, lenD, listD, tupleD, intD, absD, zipD, enumD, ttYes, wipeE, canWipe, restE, wipSV, Option.getD_some, List.getElem?_cons_zero, List.getElem?_cons_succ, List.set_cons_zero, List.set_cons_succ, List.length_cons, List.length_nil, List.map_cons, List.map_nil, List.getD_cons_zero, List.getD_cons_succ, Option.bind_some, Option.map_some, Option.isSome_some, Option.bind_none, Option.map_none, Option.isSome_none, if_true, if_false, ite_ap, ixN30, ixN31, ixN32, Int.reduceLE, Int.reduceLT, Int.reduceNeg, nab10, nab2, Int.reduceToNat, Nat.reducePow, Nat.reduceLT, reduceCtorEq, atI_z, atI_1, atI_2, atI_3, atI_at, atI_m1, List.replicate, List.cons_append, List.nil_append, List.append_nil, reduceIte, and_self, and_true, true_and, false_and, and_false, ne_eq, not_true_eq_false, not_false_eq_true, eq_self, Bool.true_and, Bool.and_true, Bool.false_and, Bool.and_false, Bool.not_true, Bool.not_false, Bool.false_eq_true, Nat.reduceAdd, Nat.reduceSub, Nat.reduceLeDiff, Nat.reduceLT, neD_nil, h0, decide_false]
    have eb : WB1_differences_at [a, .own (iL fnd), .own (iL (x :: r)), .un, .un] = .ok .nx [a, .own (iL (fnd ++ [x])), .own (iL (dfs (x :: r))), .un, .un] := by
      have g : (iL (x :: r))[0]? = some (.int x) := rfl
      have e2 : iL fnd ++ [D.int x] = iL (fnd ++ [x]) := by simp [iL]
      unfold WB1_differences_at
      refine Eq.trans (sSeq_nx (by simp only [runF, startE, finF, ioOf, bnd, eVar, eC, eOp, eUn, eIx, eSl, eTup, eLst, eIf, eAnd, eOr, eNot, eChain, tCmpD, tOf, tTru, DS.tAnd, DS.tOr, DS.tNot, asT, truth, aNil, aCons, bNil, bCons, cNil, cCons, oNone, oSome, eVal, eNrm, toVal, deref, derefs, listAt, noPlc, Out.of, retOf, Res.o, ixD, slD, eB, iB, iA, iItems, itemsD, eCall, eCallIo, eCallK, permV, isMut, mutL, remut, eMeth, appendD, popD, eIsi, isi_int, isi_bool, isi_tup, sNil, sSeq, sEx, sRet, sIf, sSet, sSetIx, setIx, setOk_z, setOk_s, nI_un, nI_val, nI_own, listOf_lst, listOf_tup, listOf_fix, putO, sPars, putsR, sPar, sPar3, sAsg, sFor, sRaise, gN, gT, gsC, gsN, addD, subD, mulD, fdivD, modD, powD, cmpD, negD, lenD, listD, tupleD, intD, absD, zipD, enumD, ttYes, wipeE, canWipe, restE, wipSV, Option.getD_some, List.getElem?_cons_zero, List.getElem?_cons_succ, List.set_cons_zero, List.set_cons_succ, List.length_cons, List.length_nil, List.map_cons, List.map_nil, List.getD_cons_zero, List.getD_cons_succ, Option.bind_some, Option.map_some, Option.isSome_some, Option.bind_none, Option.map_none, Option.isSome_none, if_true, if_false, ite_ap, ixN30, ixN31, ixN32, Int.reduceLE, Int.reduceLT, Int.reduceNeg, nab10, nab2, Int.reduceToNat, Nat.reducePow, Nat.reduceLT, reduceCtorEq, atI_z, atI_1, atI_2, atI_3, atI_at, atI_m1, List.replicate, List.cons_append, List.nil_append, List.append_nil, reduceIte, and_self, and_true, true_and, false_and, and_false, ne_eq, not_true_eq_false, not_false_eq_true, eq_self, Bool.true_and, Bool.and_true, Bool.false_and, Bool.and_false, Bool.not_true, Bool.not_false, Bool.false_eq_true, Nat.reduceAdd, Nat.reduceSub, Nat.reduceLeDiff, Nat.reduceLT, g, iL_len, h1, e2] <;> rfl)) ?_
      simp only [runF, startE, finF, ioOf, bnd, eVar, eC, eOp, eUn, eIx, eSl, eTup, eLst, eIf, eAnd, eOr, eNot, eChain, tCmpD, tOf, tTru, DS.tAnd, DS.tOr, DS.tNot, asT, truth, aNil, aCons, bNil, bCons, cNil, cCons, oNone, oSome, eVal, eNrm, toVal, deref, derefs, listAt, noPlc, Out.of, retOf, Res.o, ixD, slD, eB, iB, iA, iItems, itemsD, eCall, eCallIo, eCallK, permV, isMut, mutL, remut, eMeth, appendD, popD, eIsi, isi_int, isi_bool, isi_tup, sNil, sSeq, sEx, sRet, sIf, sSet, sSetIx, setIx, setOk_z, setOk_s, nI_un, nI_val, nI_own, listOf_lst, listOf_tup, listOf_fix, putO, sPars, putsR, sPar, sPar3, sAsg, sFor, sRaise, gN, gT, gsC, gsN, addD, subD, mulD, fdivD, modD, powD, cmpD, negD, lenD, listD, tupleD, intD, absD, zipD, enumD, ttYes, wipeE, canWipe, restE, wipSV, Option.getD_some, List.getElem?_cons_zero, List.getElem?_cons_succ, List.set_cons_zero, List.set_cons_succ, List.length_cons, List.length_nil, List.map_cons, List.map_nil, List.getD_cons_zero, List.getD_cons_succ, Option.bind_some, Option.map_some, Option.isSome_some, Option.bind_none, Option.map_none, Option.isSome_none, if_true, if_false, ite_ap, ixN30, ixN31, ixN32, Int.reduceLE, Int.reduceLT, Int.reduceNeg, nab10, nab2, Int.reduceToNat, Nat.reducePow, Nat.reduceLT, reduceCtorEq, atI_z, atI_1, atI_2, atI_3, atI_at, atI_m1, List.replicate, List.cons_append, List.nil_append, List.append_nil, reduceIte, and_self, and_true, true_and, false_and, and_false, ne_eq, not_true_eq_false, not_false_eq_true, eq_self, Bool.true_and, Bool.and_true, Bool.false_and, Bool.and_false, Bool.not_true, Bool.not_false, Bool.false_eq_true, Nat.reduceAdd, Nat.reduceSub, Nat.reduceLeDiff, Nat.reduceLT, hc]
    rw [whileN, ew]
    dsimp only
    rw [eb]
    dsimp only
    rw [ih, List.append_assoc]
    rfl
theorem differences_at_eq {d : D} {l : List Int} (h : listOf d = some (iL l)) (hl : l.length ≤ 1000) : S_differences_at [d] = .ok (.own (iL (due l))) [] := by
  have hw := while_dfs (.val d) l.length l [] rfl (by simpa using hl)
  have hw2 : sWhile WC1_differences_at WB1_differences_at [.val d, .own [], .own (iL l), .un, .un] = .ok .nx [.val d, .own (iL (due l)), .own [], .un, .un] := by
    refine (sWhile_of (n := l.length + 1) ?_).trans ?_
    · rw [show ([] : List D) = iL [] from rfl, hw]; exact nofun
    · rw [show ([] : List D) = iL [] from rfl, hw, List.nil_append, dlN_eq _ _ (Nat.le_refl _)]
      rfl
  have : B_differences_at (startE false 5 [d]) = .ok (.rt (.own (iL (due l)))) [.val d, .un, .own [], .un, .un] := by
    have h0 : 0 ≤ sizeLine := Nat.zero_le _
    unfold B_differences_at
    rcases listOf_cases h with rfl | rfl | rfl
    · refine Eq.trans (sSeq_nx (by simp only [runF, startE, finF, ioOf, bnd, eVar, eC, eOp, eUn, eIx, eSl, eTup, eLst, eIf, eAnd, eOr, eNot, eChain, tCmpD, tOf, tTru, DS.tAnd, DS.tOr, DS.tNot, asT, truth, aNil, aCons, bNil, bCons, cNil, cCons, oNone, oSome, eVal, eNrm, toVal, deref, derefs, listAt, noPlc, Out.of, retOf, Res.o, ixD, slD, eB, iB, iA, iItems, itemsD, eCall, eCallIo, eCallK, permV, isMut, mutL, remut, eMeth, appendD, popD, eIsi, isi_int, isi_bool, isi_tup, sNil, sSeq, sEx, sRet, sIf, sSet, sSetIx, setIx, setOk_z, setOk_s, nI_un, nI_val, nI_own, listOf_lst, listOf_tup, listOf_fix, putO, sPars, putsR, sPar, sPar3, sAsg, sFor, sRaise, gN, gT, gsC, gsN, addD, subD, mulD, fdivD, modD, powD, cmpD, negD, lenD, listD, tupleD, intD, absD, zipD, enumD, ttYes, wipeE, canWipe, restE, wipSV, Option.getD_some, List.getElem?_cons_zero, List.getElem?_cons_succ, List.set_cons_zero, List.set_cons_succ, List.length_cons, List.length_nil, List.map_cons, List.map_nil, List.getD_cons_zero, List.getD_cons_succ, Option.bind_some, Option.map_some, Option.isSome_some, Option.bind_none, Option.map_none, Option.isSome_none, if_true, if_false, ite_ap, ixN30, ixN31, ixN32, Int.reduceLE, Int.reduceLT, Int.reduceNeg, nab10, nab2, Int.reduceToNat, Nat.reducePow, Nat.reduceLT, reduceCtorEq, atI_z, atI_1, atI_2, atI_3, atI_at, atI_m1, List.replicate, List.cons_append, List.nil_append, List.append_nil, reduceIte, and_self, and_true, true_and, false_and, and_false, ne_eq, not_true_eq_false, not_false_eq_true, eq_self, Bool.true_and, Bool.and_true, Bool.false_and, Bool.and_false, Bool.not_true, Bool.not_false, Bool.false_eq_true, Nat.reduceAdd, Nat.reduceSub, Nat.reduceLeDiff, Nat.reduceLT, h0] <;> rfl)) ?_
      refine Eq.trans (sSeq_nx hw2) ?_
      simp only [runF, startE, finF, ioOf, bnd, eVar, eC, eOp, eUn, eIx, eSl, eTup, eLst, eIf, eAnd, eOr, eNot, eChain, tCmpD, tOf, tTru, DS.tAnd, DS.tOr, DS.tNot, asT, truth, aNil, aCons, bNil, bCons, cNil, cCons, oNone, oSome, eVal, eNrm, toVal, deref, derefs, listAt, noPlc, Out.of, retOf, Res.o, ixD, slD, eB, iB, iA, iItems, itemsD, eCall, eCallIo, eCallK, permV, isMut, mutL, remut, eMeth, appendD, popD, eIsi, isi_int, isi_bool, isi_tup, sNil, sSeq, sEx, sRet, sIf, sSet, sSetIx, setIx, setOk_z, setOk_s, nI_un, nI_val, nI_own, listOf_lst, listOf_tup, listOf_fix, putO, sPars, putsR, sPar, sPar3, sAsg, sFor, sRaise, gN, gT, gsC, gsN, addD, subD, mulD, fdivD, modD, powD, cmpD, negD, lenD, listD, tupleD, intD, absD, zipD, enumD, ttYes, wipeE, canWipe, restE, wipSV, Option.getD_some, List.getElem?_cons_zero, List.getElem?_cons_succ, List.set_cons_zero, List.set_cons_succ, List.length_cons, List.length_nil, List.map_cons, List.map_nil, List.getD_cons_zero, List.getD_cons_succ, Option.bind_some, Option.map_some, Option.isSome_some, Option.bind_none, Option.map_none, Option.isSome_none, if_true, if_false, ite_ap, ixN30, ixN31, ixN32, Int.reduceLE, Int.reduceLT, Int.reduceNeg, nab10, nab2, Int.reduceToNat, Nat.reducePow, Nat.reduceLT, reduceCtorEq, atI_z, atI_1, atI_2, atI_3, atI_at, atI_m1, List.replicate, List.cons_append, List.nil_append, List.append_nil, reduceIte, and_self, and_true, true_and, false_and, and_false, ne_eq, not_true_eq_false, not_false_eq_true, eq_self, Bool.true_and, Bool.and_true, Bool.false_and, Bool.and_false, Bool.not_true, Bool.not_false, Bool.false_eq_true, Nat.reduceAdd, Nat.reduceSub, Nat.reduceLeDiff, Nat.reduceLT]
    · refine Eq.trans (sSeq_nx (by simp only [runF, startE, finF, ioOf, bnd, eVar, eC, eOp, eUn, eIx, eSl, eTup, eLst, eIf, eAnd, eOr, eNot, eChain, tCmpD, tOf, tTru, DS.tAnd, DS.tOr, DS.tNot, asT, truth, aNil, aCons, bNil, bCons, cNil, cCons, oNone, oSome, eVal, eNrm, toVal, deref, derefs, listAt, noPlc, Out.of, retOf, Res.o, ixD, slD, eB, iB, iA, iItems, itemsD, eCall, eCallIo, eCallK, permV, isMut, mutL, remut, eMeth, appendD, popD, eIsi, isi_int, isi_bool, isi_tup, sNil, sSeq, sEx, sRet, sIf, sSet, sSetIx, setIx, setOk_z, setOk_s, nI_un, nI_val, nI_own, listOf_lst, listOf_tup, listOf_fix, putO, sPars, putsR, sPar, sPar3, sAsg, sFor, sRaise, gN, gT, gsC, gsN, addD, subD, mulD, fdivD, modD, powD, cmpD, negD, lenD, listD, tupleD, intD, absD, zipD, enumD, ttYes, wipeE, canWipe, restE, wipSV, Option.getD_some, List.getElem?_cons_zero, List.getElem?_cons_succ, List.set_cons_zero, List.set_cons_succ, List.length_cons, List.length_nil, List.map_cons, List.map_nil, List.getD_cons_zero, List.getD_cons_succ, Option.bind_some, Option.map_some, Option.isSome_some, Option.bind_none, Option.map_none, Option.isSome_none, if_true, if_false, ite_ap, ixN30, ixN31, ixN32, Int.reduceLE, Int.reduceLT, Int.reduceNeg, nab10, nab2, Int.reduceToNat, Nat.reducePow, Nat.reduceLT, reduceCtorEq, atI_z, atI_1, atI_2, atI_3, atI_at, atI_m1, List.replicate, List.cons_append, List.nil_append, List.append_nil, reduceIte, and_self, and_true, true_and, false_and, and_false, ne_eq, not_true_eq_false, not_false_eq_true, eq_self, Bool.true_and, Bool.and_true, Bool.false_and, Bool.and_false, Bool.not_true, Bool.not_false, Bool.false_eq_true, Nat.reduceAdd, Nat.reduceSub, Nat.reduceLeDiff, Nat.reduceLT, h0] <;> rfl)) ?_
      refine Eq.trans (sSeq_nx hw2) ?_
      simp only [runF, startE, finF, ioOf, bnd, eVar, eC, eOp, eUn, eIx, eSl, eTup, eLst, eIf, eAnd, eOr, eNot, eChain, tCmpD, tOf, tTru, DS.tAnd, DS.tOr, DS.tNot, asT, truth, aNil, aCons, bNil, bCons, cNil, cCons, oNone, oSome, eVal, eNrm, toVal, deref, derefs, listAt, noPlc, Out.of, retOf, Res.o, ixD, slD, eB, iB, iA, iItems, itemsD, eCall, eCallIo, eCallK, permV, isMut, mutL, remut, eMeth, appendD, popD, eIsi, isi_int, isi_bool, isi_tup, sNil, sSeq, sEx, sRet, sIf, sSet, sSetIx, setIx, setOk_z, setOk_s, nI_un, nI_val, nI_own, listOf_lst, listOf_tup, listOf_fix, putO, sPars, putsR, sPar, sPar3, sAsg, sFor, sRaise, gN, gT, gsC, gsN, addD, subD, mulD, fdivD, modD, powD, cmpD, negD, lenD, listD, tupleD, intD, absD, zipD, enumD, ttYes, wipeE, canWipe, restE, wipSV, Option.getD_some, List.getElem?_cons_zero, List.getElem?_cons_succ, List.set_cons_zero, List.set_cons_succ, List.length_cons, List.length_nil, List.map_cons, List.map_nil, List.getD_cons_zero, List.getD_cons_succ, Option.bind_some, Option.map_some, Option.isSome_some, Option.bind_none, Option.map_none, Option.isSome_none, if_true, if_false, ite_ap, ixN30, ixN31, ixN32, Int.reduceLE, Int.reduceLT, Int.reduceNeg, nab10, nab2, Int.reduceToNat, Nat.reducePow, Nat.reduceLT, reduceCtorEq, atI_z, atI_1, atI_2, atI_3, atI_at, atI_m1, List.replicate, List.cons_append, List.nil_append, List.append_nil, reduceIte, and_self, and_true, true_and, false_and, and_false, ne_eq, not_true_eq_false, not_false_eq_true, eq_self, Bool.true_and, Bool.and_true, Bool.false_and, Bool.and_false, Bool.not_true, Bool.not_false, Bool.false_eq_true, Nat.reduceAdd, Nat.reduceSub, Nat.reduceLeDiff, Nat.reduceLT]
    · refine Eq.trans (sSeq_nx (by simp only [runF, startE, finF, ioOf, bnd, eVar, eC, eOp, eUn, eIx, eSl, eTup, eLst, eIf, eAnd, eOr, eNot, eChain, tCmpD, tOf, tTru, DS.tAnd, DS.tOr, DS.tNot, asT, truth, aNil, aCons, bNil, bCons, cNil, cCons, oNone, oSome, eVal, eNrm, toVal, deref, derefs, listAt, noPlc, Out.of, retOf, Res.o, ixD, slD, eB, iB, iA, iItems, itemsD, eCall, eCallIo, eCallK, permV, isMut, mutL, remut, eMeth, appendD, popD, eIsi, isi_int, isi_bool, isi_tup, sNil, sSeq, sEx, sRet, sIf, sSet, sSetIx, setIx, setOk_z, setOk_s, nI_un, nI_val, nI_own, listOf_lst, listOf_tup, listOf_fix, putO, sPars, putsR, sPar, sPar3, sAsg, sFor, sRaise, gN, gT, gsC, gsN, addD, subD, mulD, fdivD, modD, powD, cmpD, negD, lenD, listD, tupleD, intD, absD, zipD, enumD, ttYes, wipeE, canWipe, restE, wipSV, Option.getD_some, List.getElem?_cons_zero, List.getElem?_cons_succ, List.set_cons_zero, List.set_cons_succ, List.length_cons, List.length_nil, List.map_cons, List.map_nil, List.getD_cons_zero, List.getD_cons_succ, Option.bind_some, Option.map_some, Option.isSome_some, Option.bind_none, Option.map_none, Option.isSome_none, if_true, if_false, ite_ap, ixN30, ixN31, ixN32, Int.reduceLE, Int.reduceLT, Int.reduceNeg, nab10, nab2, Int.reduceToNat, Nat.reducePow, Nat.reduceLT, reduceCtorEq, atI_z, atI_1, atI_2, atI_3, atI_at, atI_m1, List.replicate, List.cons_append, List.nil_append, List.append_nil, reduceIte, and_self, and_true, true_and, false_and, and_false, ne_eq, not_true_eq_false, not_false_eq_true, eq_self, Bool.true_and, Bool.and_true, Bool.false_and, Bool.and_false, Bool.not_true, Bool.not_false, Bool.false_eq_true, Nat.reduceAdd, Nat.reduceSub, Nat.reduceLeDiff, Nat.reduceLT, h0] <;> rfl)) ?_
      refine Eq.trans (sSeq_nx hw2) ?_
      simp only [runF, startE, finF, ioOf, bnd, eVar, eC, eOp, eUn, eIx, eSl, eTup, eLst, eIf, eAnd, eOr, eNot, eChain, tCmpD, tOf, tTru, DS.tAnd, DS.tOr, DS.tNot, asT, truth, aNil, aCons, bNil, bCons, cNil, cCons, oNone, oSome, eVal, eNrm, toVal, deref, derefs, listAt, noPlc, Out.of, retOf, Res.o, ixD, slD, eB, iB, iA, iItems, itemsD, eCall, eCallIo, eCallK, permV, isMut, mutL, remut, eMeth, appendD, popD, eIsi, isi_int, isi_bool, isi_tup, sNil, sSeq, sEx, sRet, sIf, sSet, sSetIx, setIx, setOk_z, setOk_s, nI_un, nI_val, nI_own, listOf_lst, listOf_tup, listOf_fix, putO, sPars, putsR, sPar, sPar3, sAsg, sFor, sRaise, gN, gT, gsC, gsN, addD, subD, mulD, fdivD, modD, powD, cmpD, negD, lenD, listD, tupleD, intD, absD, zipD, enumD, ttYes, wipeE, canWipe, restE, wipSV, Option.getD_some, List.getElem?_cons_zero, List.getElem?_cons_succ, List.set_cons_zero, List.set_cons_succ, List.length_cons, List.length_nil, List.map_cons, List.map_nil, List.getD_cons_zero, List.getD_cons_succ, Option.bind_some, Option.map_some, Option.isSome_some, Option.bind_none, Option.map_none, Option.isSome_none, if_true, if_false, ite_ap, ixN30, ixN31, ixN32, Int.reduceLE, Int.reduceLT, Int.reduceNeg, nab10, nab2, Int.reduceToNat, Nat.reducePow, Nat.reduceLT, reduceCtorEq, atI_z, atI_1, atI_2, atI_3, atI_at, atI_m1, List.replicate, List.cons_append, List.nil_append, List.append_nil, reduceIte, and_self, and_true, true_and, false_and, and_false, ne_eq, not_true_eq_false, not_false_eq_true, eq_self, Bool.true_and, Bool.and_true, Bool.false_and, Bool.and_false, Bool.not_true, Bool.not_false, Bool.false_eq_true, Nat.reduceAdd, Nat.reduceSub, Nat.reduceLeDiff, Nat.reduceLT]
  unfold S_differences_at runF
  rw [this]
  rfl
theorem differences_eq {l : List Int} (h : Good l) : S_differences [.tup (iL l)] = .ok (.val (.tup (iL (due l)))) [] := by
  simp only [S_differences, B_differences, runF, startE, finF, ioOf, bnd, eVar, eC, eOp, eUn, eIx, eSl, eTup, eLst, eIf, eAnd, eOr, eNot, eChain, tCmpD, tOf, tTru, DS.tAnd, DS.tOr, DS.tNot, asT, truth, aNil, aCons, bNil, bCons, cNil, cCons, oNone, oSome, eVal, eNrm, toVal, deref, derefs, listAt, noPlc, Out.of, retOf, Res.o, ixD, slD, eB, iB, iA, iItems, itemsD, eCall, eCallIo, eCallK, permV, isMut, mutL, remut, eMeth, appendD, popD, eIsi, isi_int, isi_bool, isi_tup, sNil, sSeq, sEx, sRet, sIf, sSet, sSetIx, setIx, setOk_z, setOk_s, nI_un, nI_val, nI_own, listOf_lst, listOf_tup, listOf_fix, putO, sPars, putsR, sPar, sPar3, sAsg, sFor, sRaise, gN, gT, gsC, gsN, addD, subD, mulD, fdivD, modD, powD, cmpD, negD, lenD, listD, tupleD, intD, absD, zipD, enumD, ttYes, wipeE, canWipe, restE, wipSV, Option.getD_some, List.getElem?_cons_zero, List.getElem?_cons_succ, List.set_cons_zero, List.set_cons_succ, List.length_cons, List.length_nil, List.map_cons, List.map_nil, List.getD_cons_zero, List.getD_cons_succ, Option.bind_some, Option.map_some, Option.isSome_some, Option.bind_none, Option.map_none, Option.isSome_none, if_true, if_false, ite_ap, ixN30, ixN31, ixN32, Int.reduceLE, Int.reduceLT, Int.reduceNeg, nab10, nab2, Int.reduceToNat, Nat.reducePow, Nat.reduceLT, reduceCtorEq, atI_z, atI_1, atI_2, atI_3, atI_at, atI_m1, List.replicate, List.cons_append, List.nil_append, List.append_nil, reduceIte, and_self, and_true, true_and, false_and, and_false, ne_eq, not_true_eq_false, not_false_eq_true, eq_self, Bool.true_and, Bool.and_true, Bool.false_and, Bool.and_false, Bool.not_true, Bool.not_false, Bool.false_eq_true, Nat.reduceAdd, Nat.reduceSub, Nat.reduceLeDiff, Nat.reduceLT, check_row_good h, differences_at_eq (listOf_tup (iL l)) (by have := h.2.1; omega)]
end K34

set_option Elab.async false
set_option linter.all false
set_option maxRecDepth 100000
set_option maxHeartbeats 4000000
set_option exponentiation.threshold 5000
namespace K34
open PySem DS
def cst (l : List Nat) : List Int := l.map fun (n : Nat) => (n : Int)
theorem cst_nil {l : List Nat} : cst l = [] ↔ l = [] := by simp [cst]
theorem iL_last (l : List Nat) : (iL (cst l)).getLast? = (l.getLast?).map fun (n : Nat) => D.int (n : Int) := by
  simp [iL, cst, List.getLast?_map]
  rfl
theorem C_degree {d : D} {l : List Int} (h : listOf d = some (iL l)) (hl : l.length ≤ 1000) : C1_degree_in [.val d, .un, .un, .un] = .ok (.own (iL (cst (pl (due l))))) [.val d, .un, .un, .un] := by
  have e : iL (cst (pl (due l))) = ((due l).zipIdx.filter fun p => !decide (p.1 = 0)).map fun p => D.int (p.2 : Int) := by
    simp only [iL, cst, pl, plk, List.map_map]
    rfl
  rw [e]
  have hd := differences_at_eq h hl
  unfold C1_degree_in
  rcases listOf_cases h with rfl | rfl | rfl <;>
    exact eLc_f npr (fun p => !decide (p.1 = 0)) (fun p => .int (p.2 : Int)) (due l).zipIdx (by simp only [runF, startE, finF, ioOf, bnd, eVar, eC, eOp, eUn, eIx, eSl, eTup, eLst, eIf, eAnd, eOr, eNot, eChain, tCmpD, tOf, tTru, DS.tAnd, DS.tOr, DS.tNot, asT, truth, aNil, aCons, bNil, bCons, cNil, cCons, oNone, oSome, eVal, eNrm, toVal, deref, derefs, listAt, noPlc, Out.of, retOf, Res.o, ixD, slD, eB, iB, iA, iItems, itemsD, eCall, eCallIo, eCallK, permV, isMut, mutL, remut, eMeth, appendD, popD, eIsi, isi_int, isi_bool, isi_tup, sNil, sSeq, sEx, sRet, sIf, sSet, sSetIx, setIx, setOk_z, setOk_s, nI_un, nI_val, nI_own, listOf_lst, listOf_tup, listOf_fix, putO, sPars, putsR, sPar, sPar3, sAsg, sFor, sRaise, gN, gT, gsC, gsN, addD, subD, mulD, fdivD, modD, powD, cmpD, negD, lenD, listD, tupleD, intD, absD, zipD, enumD, ttYes, wipeE, canWipe, restE, wipSV, Option.getD_some, List.getElem?_cons_zero, List.getElem?_cons_succ, List.set_cons_zero, List.set_cons_succ, List.length_cons, List.length_nil, List.map_cons, List.map_nil, List.getD_cons_zero, List.getD_cons_succ, Option.bind_some, Option.map_some, Option.isSome_some, Option.bind_none, Option.map_none, Option.isSome_none, if_true, if_false, ite_ap, ixN30, ixN31, ixN32, Int.reduceLE, Int.reduceLT, Int.reduceNeg, nab10, nab2, Int.reduceToNat, Nat.reducePow, Nat.reduceLT, reduceCtorEq, atI_z, atI_1, atI_2, atI_3, atI_at, atI_m1, List.replicate, List.cons_append, List.nil_append, List.append_nil, reduceIte, and_self, and_true, true_and, false_and, and_false, ne_eq, not_true_eq_false, not_false_eq_true, eq_self, Bool.true_and, Bool.and_true, Bool.false_and, Bool.and_false, Bool.not_true, Bool.not_false, Bool.false_eq_true, Nat.reduceAdd, Nat.reduceSub, Nat.reduceLeDiff, Nat.reduceLT, hd, enumL_iL]) (sz63 (by simp [due_len]; omega)) rfl (fun p hp => ⟨_, _, _, rfl, by simp only [runF, startE, finF, ioOf, bnd, eVar, eC, eOp, eUn, eIx, eSl, eTup, eLst, eIf, eAnd, eOr, eNot, eChain, tCmpD, tOf, tTru, DS.tAnd, DS.tOr, DS.tNot, asT, truth, aNil, aCons, bNil, bCons, cNil, cCons, oNone, oSome, eVal, eNrm, toVal, deref, derefs, listAt, noPlc, Out.of, retOf, Res.o, ixD, slD, eB, iB, iA, iItems, itemsD, eCall, eCallIo, eCallK, permV, isMut, mutL, remut, eMeth, appendD, popD, eIsi, isi_int, isi_bool, isi_tup, sNil, sSeq, sEx, sRet, sIf, sSet, sSetIx, setIx, setOk_z, setOk_s, nI_un, nI_val, nI_own, listOf_lst, listOf_tup, listOf_fix, putO, sPars, putsR, sPar, sPar3, sAsg, sFor, sRaise, gN, gT, gsC, gsN, addD, subD, mulD, fdivD, modD, powD, cmpD, negD, lenD, listD, tupleD, intD, absD, zipD, enumD, ttYes, wipeE, canWipe, restE, wipSV, Option.getD_some, List.getElem?_cons_zero, List.getElem?_cons_succ, List.set_cons_zero, List.set_cons_succ, List.length_cons, List.length_nil, List.map_cons, List.map_nil, List.getD_cons_zero, List.getD_cons_succ, Option.bind_some, Option.map_some, Option.isSome_some, Option.bind_none, Option.map_none, Option.isSome_none, if_true, if_false, ite_ap, ixN30, ixN31, ixN32, Int.reduceLE, Int.reduceLT, Int.reduceNeg, nab10, nab2, Int.reduceToNat, Nat.reducePow, Nat.reduceLT, reduceCtorEq, atI_z, atI_1, atI_2, atI_3, atI_at, atI_m1, List.replicate, List.cons_append, List.nil_append, List.append_nil, reduceIte, and_self, and_true, true_and, false_and, and_false, ne_eq, not_true_eq_false, not_false_eq_true, eq_self, Bool.true_and, Bool.and_true, Bool.false_and, Bool.and_false, Bool.not_true, Bool.not_false, Bool.false_eq_true, Nat.reduceAdd, Nat.reduceSub, Nat.reduceLeDiff, Nat.reduceLT, neD_int]; rfl, fun _ => ⟨by simp only [runF, startE, finF, ioOf, bnd, eVar, eC, eOp, eUn, eIx, eSl, eTup, eLst, eIf, eAnd, eOr, eNot, eChain, tCmpD, tOf, tTru, DS.tAnd, DS.tOr, DS.tNot, asT, truth, aNil, aCons, bNil, bCons, cNil, cCons, oNone, oSome, eVal, eNrm, toVal, deref, derefs, listAt, noPlc, Out.of, retOf, Res.o, ixD, slD, eB, iB, iA, iItems, itemsD, eCall, eCallIo, eCallK, permV, isMut, mutL, remut, eMeth, appendD, popD, eIsi, isi_int, isi_bool, isi_tup, sNil, sSeq, sEx, sRet, sIf, sSet, sSetIx, setIx, setOk_z, setOk_s, nI_un, nI_val, nI_own, listOf_lst, listOf_tup, listOf_fix, putO, sPars, putsR, sPar, sPar3, sAsg, sFor, sRaise, gN, gT, gsC, gsN, addD, subD, mulD, fdivD, modD, powD, cmpD, negD, lenD, listD, tupleD, intD, absD, zipD, enumD, ttYes, wipeE, canWipe, restE, wipSV, Option.getD_some, List.getElem?_cons_zero, List.getElem?_cons_succ, List.set_cons_zero, List.set_cons_succ, List.length_cons, List.length_nil, List.map_cons, List.map_nil, List.getD_cons_zero, List.getD_cons_succ, Option.bind_some, Option.map_some, Option.isSome_some, Option.bind_none, Option.map_none, Option.isSome_none, if_true, if_false, ite_ap, ixN30, ixN31, ixN32, Int.reduceLE, Int.reduceLT, Int.reduceNeg, nab10, nab2, Int.reduceToNat, Nat.reducePow, Nat.reduceLT, reduceCtorEq, atI_z, atI_1, atI_2, atI_3, atI_at, atI_m1, List.replicate, List.cons_append, List.nil_append, List.append_nil, reduceIte, and_self, and_true, true_and, false_and, and_false, ne_eq, not_true_eq_false, not_false_eq_true, eq_self, Bool.true_and, Bool.and_true, Bool.false_and, Bool.and_false, Bool.not_true, Bool.not_false, Bool.false_eq_true, Nat.reduceAdd, Nat.reduceSub, Nat.reduceLeDiff, Nat.reduceLT]; rfl, by rfl⟩, fun _ => by rfl⟩) rfl
theorem degree_in_eq {d : D} {l : List Int} (h : listOf d = some (iL l)) (hl : l.length ≤ 1000) : S_degree_in [d] = .ok (.val (.int (degI (due l)))) [] := by
  have hc := C_degree h hl
  have h0 : 0 ≤ sizeLine := Nat.zero_le _
  unfold degI
  cases hq : (pl (due l)).getLast? with
  | none =>
    have e : cst (pl (due l)) = [] := cst_nil.mpr (by simpa using hq)
    simp only [S_degree_in, B_degree_in, runF, startE, finF, ioOf, bnd, eVar, eC, eOp, eUn, eIx, eSl, eTup, eLst, eIf, eAnd, eOr, eNot, eChain, tCmpD, tOf, tTru, DS.tAnd, DS.tOr, DS.tNot, asT, truth, aNil, aCons, bNil, bCons, cNil, cCons, oNone, oSome, eVal, eNrm, toVal, deref, derefs, listAt, noPlc, Out.of, retOf, Res.o, ixD, slD, eB, iB, iA, iItems, itemsD, eCall, eCallIo, eCallK, permV, isMut, mutL, remut, eMeth, appendD, popD, eIsi, isi_int, isi_bool, isi_tup, sNil, sSeq, sEx, sRet, sIf, sSet, sSetIx, setIx, setOk_z, setOk_s, nI_un, nI_val, nI_own, listOf_lst, listOf_tup, listOf_fix, putO, sPars, putsR, sPar, sPar3, sAsg, sFor, sRaise, gN, gT, gsC, gsN, addD, subD, mulD, fdivD, modD, powD, cmpD, negD, lenD, listD, tupleD, intD, absD, zipD, enumD, ttYes, wipeE, canWipe, restE, wipSV, Option.getD_some, List.getElem?_cons_zero, List.getElem?_cons_succ, List.set_cons_zero, List.set_cons_succ, List.length_cons, List.length_nil, List.map_cons, List.map_nil, List.getD_cons_zero, List.getD_cons_succ, Option.bind_some, Option.map_some, Option.isSome_some, Option.bind_none, Option.map_none, Option.isSome_none, if_true, if_false, ite_ap, ixN30, ixN31, ixN32, Int.reduceLE, Int.reduceLT, Int.reduceNeg, nab10, nab2, Int.reduceToNat, Nat.reducePow, Nat.reduceLT, reduceCtorEq, atI_z, atI_1, atI_2, atI_3, atI_at, atI_m1, List.replicate, List.cons_append, List.nil_append, List.append_nil, reduceIte, and_self, and_true, true_and, false_and, and_false, ne_eq, not_true_eq_false, not_false_eq_true, eq_self, Bool.true_and, Bool.and_true, Bool.false_and, Bool.and_false, Bool.not_true, Bool.not_false, Bool.false_eq_true, Nat.reduceAdd, Nat.reduceSub, Nat.reduceLeDiff, Nat.reduceLT, hc, neD_nil, h0, e, decide_true]
  | some i =>
    have e : ¬ cst (pl (due l)) = [] := fun z => by
      rw [cst_nil.mp z] at hq; cases hq
    have e2 : (iL (cst (pl (due l)))).getLast? = some (.int (i : Int)) := by rw [iL_last, hq]; rfl
    simp only [S_degree_in, B_degree_in, runF, startE, finF, ioOf, bnd, eVar, eC, eOp, eUn, eIx, eSl, eTup, eLst, eIf, eAnd, eOr, eNot, eChain, tCmpD, tOf, tTru, DS.tAnd, DS.tOr, DS.tNot, asT, truth, aNil, aCons, bNil, bCons, cNil, cCons, oNone, oSome, eVal, eNrm, toVal, deref, derefs, listAt, noPlc, Out.of, retOf, Res.o, ixD, slD, eB, iB, iA, iItems, itemsD, eCall, eCallIo, eCallK, permV, isMut, mutL, remut, eMeth, appendD, popD, eIsi, isi_int, isi_bool, isi_tup, sNil, sSeq, sEx, sRet, sIf, sSet, sSetIx, setIx, setOk_z, setOk_s, nI_un, nI_val, nI_own, listOf_lst, listOf_tup, listOf_fix, putO, sPars, putsR, sPar, sPar3, sAsg, sFor, sRaise, gN, gT, gsC, gsN, addD, subD, mulD, fdivD, modD, powD, cmpD, negD, lenD, listD, tupleD, intD, absD, zipD, enumD, ttYes, wipeE, canWipe, restE, wipSV, Option.getD_some, List.getElem?_cons_zero, List.getElem?_cons_succ, List.set_cons_zero, List.set_cons_succ, List.length_cons, List.length_nil, List.map_cons, List.map_nil, List.getD_cons_zero, List.getD_cons_succ, Option.bind_some, Option.map_some, Option.isSome_some, Option.bind_none, Option.map_none, Option.isSome_none, if_true, if_false, ite_ap, ixN30, ixN31, ixN32, Int.reduceLE, Int.reduceLT, Int.reduceNeg, nab10, nab2, Int.reduceToNat, Nat.reducePow, Nat.reduceLT, reduceCtorEq, atI_z, atI_1, atI_2, atI_3, atI_at, atI_m1, List.replicate, List.cons_append, List.nil_append, List.append_nil, reduceIte, and_self, and_true, true_and, false_and, and_false, ne_eq, not_true_eq_false, not_false_eq_true, eq_self, Bool.true_and, Bool.and_true, Bool.false_and, Bool.and_false, Bool.not_true, Bool.not_false, Bool.false_eq_true, Nat.reduceAdd, Nat.reduceSub, Nat.reduceLeDiff, Nat.reduceLT, hc, neD_nil, h0, e, e2, decide_false]
theorem degree_of_row_eq {l : List Int} (h : Good l) : S_degree_of_row [.tup (iL l)] = .ok (.val (.int (degI (due l)))) [] := by
  simp only [S_degree_of_row, B_degree_of_row, runF, startE, finF, ioOf, bnd, eVar, eC, eOp, eUn, eIx, eSl, eTup, eLst, eIf, eAnd, eOr, eNot, eChain, tCmpD, tOf, tTru, DS.tAnd, DS.tOr, DS.tNot, asT, truth, aNil, aCons, bNil, bCons, cNil, cCons, oNone, oSome, eVal, eNrm, toVal, deref, derefs, listAt, noPlc, Out.of, retOf, Res.o, ixD, slD, eB, iB, iA, iItems, itemsD, eCall, eCallIo, eCallK, permV, isMut, mutL, remut, eMeth, appendD, popD, eIsi, isi_int, isi_bool, isi_tup, sNil, sSeq, sEx, sRet, sIf, sSet, sSetIx, setIx, setOk_z, setOk_s, nI_un, nI_val, nI_own, listOf_lst, listOf_tup, listOf_fix, putO, sPars, putsR, sPar, sPar3, sAsg, sFor, sRaise, gN, gT, gsC, gsN, addD, subD, mulD, fdivD, modD, powD, cmpD, negD, lenD, listD, tupleD, intD, absD, zipD, enumD, ttYes, wipeE, canWipe, restE, wipSV, Option.getD_some, List.getElem?_cons_zero, List.getElem?_cons_succ, List.set_cons_zero, List.set_cons_succ, List.length_cons, List.length_nil, List.map_cons, List.map_nil, List.getD_cons_zero, List.getD_cons_succ, Option.bind_some, Option.map_some, Option.isSome_some, Option.bind_none, Option.map_none, Option.isSome_none, if_true, if_false, ite_ap, ixN30, ixN31, ixN32, Int.reduceLE, Int.reduceLT, Int.reduceNeg, nab10, nab2, Int.reduceToNat, Nat.reducePow, Nat.reduceLT, reduceCtorEq, atI_z, atI_1, atI_2, atI_3, atI_at, atI_m1, List.replicate, List.cons_append, List.nil_append, List.append_nil, reduceIte, and_self, and_true, true_and, false_and, and_false, ne_eq, not_true_eq_false, not_false_eq_true, eq_self, Bool.true_and, Bool.and_true, Bool.false_and, Bool.and_false, Bool.not_true, Bool.not_false, Bool.false_eq_true, Nat.reduceAdd, Nat.reduceSub, Nat.reduceLeDiff, Nat.reduceLT, check_row_good h, degree_in_eq (listOf_tup (iL l)) (by have := h.2.1; omega)]
/-! ### a row by its differences -/
theorem C_row_of {l : List Int} (a b c d : SV) (h : l.length ≤ 900) : C1_row_of [a, b, .own (iL l), c, d, .un, .un] = .ok (.own (iL (ups l))) [a, b, .val (.lst (iL l)), c, d, .un, .un] := by
  have e : ups l = (List.zip l (l.drop 1 ++ [0])).map fun p => p.1 + p.2 := by
    rw [List.drop_one]
    exact (zw_zip (fun x y => x + y) _ _).symm
  have h0 : 0 + 1 ≤ sizeLine := sz63 (by omega)
  have h1 : (l.drop 1).length + 1 ≤ sizeLine := sz63 (by simp; omega)
  have h2 : iL (l.drop 1) ++ [D.int 0] = iL (l.drop 1 ++ [0]) := by simp [iL]
  rw [e, ← iL_map]
  unfold C1_row_of
  exact eLc_pure (ε1 := [a, b, .val (.lst (iL l)), c, d, .un, .un]) pr (fun p => .int (p.1 + p.2)) (List.zip l (l.drop 1 ++ [0])) (by simp only [runF, startE, finF, ioOf, bnd, eVar, eC, eOp, eUn, eIx, eSl, eTup, eLst, eIf, eAnd, eOr, eNot, eChain, tCmpD, tOf, tTru, DS.tAnd, DS.tOr, DS.tNot, asT, truth, aNil, aCons, bNil, bCons, cNil, cCons, oNone, oSome, eVal, eNrm, toVal, deref, derefs, listAt, noPlc, Out.of, retOf, Res.o, ixD, slD, eB, iB, iA, iItems, itemsD, eCall, eCallIo, eCallK, permV, isMut, mutL, remut, eMeth, appendD, popD, eIsi, isi_int, isi_bool, isi_tup, sNil, sSeq, sEx, sRet, sIf, sSet, sSetIx, setIx, setOk_z, setOk_s, nI_un, nI_val, nI_own, listOf_lst, listOf_tup, listOf_fix, putO, sPars, putsR, sPar, sPar3, sAsg, sFor, sRaise, gN, gT, gsC, gsN, addD, subD, mulD, fdivD, modD, powD, cmpD, negD, lenD, listD, tupleD, intD, absD, zipD, enumD, ttYes, wipeE, canWipe, restE, wipSV, Option.getD_some, List.getElem?_cons_zero, List.getElem?_cons_succ, List.set_cons_zero, List.set_cons_succ, List.length_cons, List.length_nil, List.map_cons, List.map_nil, List.getD_cons_zero, List.getD_cons_succ, Option.bind_some, Option.map_some, Option.isSome_some, Option.bind_none, Option.map_none, Option.isSome_none, if_true, if_false, ite_ap, ixN30, ixN31, ixN32, Int.reduceLE, Int.reduceLT, Int.reduceNeg, nab10, nab2, Int.reduceToNat, Nat.reducePow, Nat.reduceLT, reduceCtorEq, atI_z, atI_1, atI_2, atI_3, atI_at, atI_m1, List.replicate, List.cons_append, List.nil_append, List.append_nil, reduceIte, and_self, and_true, true_and, false_and, and_false, ne_eq, not_true_eq_false, not_false_eq_true, eq_self, Bool.true_and, Bool.and_true, Bool.false_and, Bool.and_false, Bool.not_true, Bool.not_false, Bool.false_eq_true, Nat.reduceAdd, Nat.reduceSub, Nat.reduceLeDiff, Nat.reduceLT, cut1, iL_drop, iL_len, h0, h1, h2, zipL_iL]) (sz63 (by simp; omega)) rfl (fun p hp => ⟨_, _, rfl, by simp only [runF, startE, finF, ioOf, bnd, eVar, eC, eOp, eUn, eIx, eSl, eTup, eLst, eIf, eAnd, eOr, eNot, eChain, tCmpD, tOf, tTru, DS.tAnd, DS.tOr, DS.tNot, asT, truth, aNil, aCons, bNil, bCons, cNil, cCons, oNone, oSome, eVal, eNrm, toVal, deref, derefs, listAt, noPlc, Out.of, retOf, Res.o, ixD, slD, eB, iB, iA, iItems, itemsD, eCall, eCallIo, eCallK, permV, isMut, mutL, remut, eMeth, appendD, popD, eIsi, isi_int, isi_bool, isi_tup, sNil, sSeq, sEx, sRet, sIf, sSet, sSetIx, setIx, setOk_z, setOk_s, nI_un, nI_val, nI_own, listOf_lst, listOf_tup, listOf_fix, putO, sPars, putsR, sPar, sPar3, sAsg, sFor, sRaise, gN, gT, gsC, gsN, addD, subD, mulD, fdivD, modD, powD, cmpD, negD, lenD, listD, tupleD, intD, absD, zipD, enumD, ttYes, wipeE, canWipe, restE, wipSV, Option.getD_some, List.getElem?_cons_zero, List.getElem?_cons_succ, List.set_cons_zero, List.set_cons_succ, List.length_cons, List.length_nil, List.map_cons, List.map_nil, List.getD_cons_zero, List.getD_cons_succ, Option.bind_some, Option.map_some, Option.isSome_some, Option.bind_none, Option.map_none, Option.isSome_none, if_true, if_false, ite_ap, ixN30, ixN31, ixN32, Int.reduceLE, Int.reduceLT, Int.reduceNeg, nab10, nab2, Int.reduceToNat, Nat.reducePow, Nat.reduceLT, reduceCtorEq, atI_z, atI_1, atI_2, atI_3, atI_at, atI_m1, List.replicate, List.cons_append, List.nil_append, List.append_nil, reduceIte, and_self, and_true, true_and, false_and, and_false, ne_eq, not_true_eq_false, not_false_eq_true, eq_self, Bool.true_and, Bool.and_true, Bool.false_and, Bool.and_false, Bool.not_true, Bool.not_false, Bool.false_eq_true, Nat.reduceAdd, Nat.reduceSub, Nat.reduceLeDiff, Nat.reduceLT]; rfl, by rfl⟩) rfl
theorem FB_row_of {l fnd : List Int} {a b : SV} {d : D} (h : l.length ≤ 900) (hf : fnd.length ≤ 900) : FB1_row_of [a, b, .own (iL l), .own (iL fnd), .val d, .un, .un] = .ok .nx [a, b, .own (iL (ups l)), .own (iL (fnd ++ [sq l 0])), .val d, .un, .un] := by
  have h0 : 0 ≤ sizeLine := Nat.zero_le _
  have h1 : fnd.length < sizeLine := lt_sz (by omega)
  have e2 : iL fnd ++ [D.int (sq l 0)] = iL (fnd ++ [sq l 0]) := by simp [iL]
  have hc := fun c => C_row_of (l := l) a b c (.val d) h
  unfold FB1_row_of
  cases l with
  | nil =>
    have e3 : sq [] 0 = 0 := rfl
    rw [e3] at e2 ⊢
    have hn := neD_nil []
    rw [iL_nil] at hn
    refine Eq.trans (sSeq_nx (by simp only [runF, startE, finF, ioOf, bnd, eVar, eC, eOp, eUn, eIx, eSl, eTup, eLst, eIf, eAnd, eOr, eNot, eChain, tCmpD, tOf, tTru, DS.tAnd, DS.tOr, DS.tNot, asT, truth, aNil, aCons, bNil, bCons, cNil, cCons, oNone, oSome, eVal, eNrm, toVal, deref, derefs, listAt, noPlc, Out.of, retOf, Res.o, ixD, slD, eB, iB, iA, iItems, itemsD, eCall, eCallIo, eCallK, permV, isMut, mutL, remut, eMeth, appendD, popD, eIsi, isi_int, isi_bool, isi_tup, sNil, sSeq, sEx, sRet, sIf, sSet, sSetIx, setIx, setOk_z, setOk_s, nI_un, nI_val, nI_own, listOf_lst, listOf_tup, listOf_fix, putO, sPars, putsR, sPar, sPar3, sAsg, sFor, sRaise, gN, gT, gsC, gsN, addD, subD, mulD, fdivD, modD, powD, cmpD, negD, lenD, listD, tupleD, intD, absD, zipD, enumD, ttYes, wipeE, canWipe, restE, wipSV, Option.getD_some, List.getElem?_cons_zero, List.getElem?_cons_succ, List.set_cons_zero, List.set_cons_succ, List.length_cons, List.length_nil, List.map_cons, List.map_nil, List.getD_cons_zero, List.getD_cons_succ, Option.bind_some, Option.map_some, Option.isSome_some, Option.bind_none, Option.map_none, Option.isSome_none, if_true, if_false, ite_ap, ixN30, ixN31, ixN32, Int.reduceLE, Int.reduceLT, Int.reduceNeg, nab10, nab2, Int.reduceToNat, Nat.reducePow, Nat.reduceLT, reduceCtorEq, atI_z, atI_1, atI_2, atI_3, atI_at, atI_m1, List.replicate, List.cons_append, List.nil_append, List.append_nil, reduceIte, and_self, and_true, true_and, false_and, and_false, ne_eq, not_true_eq_false, not_false_eq_true, eq_self, Bool.true_and, Bool.and_true, Bool.false_and, Bool.and_false, Bool.not_true, Bool.not_false, Bool.false_eq_true, Nat.reduceAdd, Nat.reduceSub, Nat.reduceLeDiff, Nat.reduceLT, hn, h0, decide_true, iL_nil, iL_len, h1, e2] <;> rfl)) ?_
    rw [iL_nil] at hc
    simp only [runF, startE, finF, ioOf, bnd, eVar, eC, eOp, eUn, eIx, eSl, eTup, eLst, eIf, eAnd, eOr, eNot, eChain, tCmpD, tOf, tTru, DS.tAnd, DS.tOr, DS.tNot, asT, truth, aNil, aCons, bNil, bCons, cNil, cCons, oNone, oSome, eVal, eNrm, toVal, deref, derefs, listAt, noPlc, Out.of, retOf, Res.o, ixD, slD, eB, iB, iA, iItems, itemsD, eCall, eCallIo, eCallK, permV, isMut, mutL, remut, eMeth, appendD, popD, eIsi, isi_int, isi_bool, isi_tup, sNil, sSeq, sEx, sRet, sIf, sSet, sSetIx, setIx, setOk_z, setOk_s, nI_un, nI_val, nI_own, listOf_lst, listOf_tup, listOf_fix, putO, sPars, putsR, sPar, sPar3, sAsg, sFor, sRaise, gN, gT, gsC, gsN, addD, subD, mulD, fdivD, modD, powD, cmpD, negD, lenD, listD, tupleD, intD, absD, zipD, enumD, ttYes, wipeE, canWipe, restE, wipSV, Option.getD_some, List.getElem?_cons_zero, List.getElem?_cons_succ, List.set_cons_zero, List.set_cons_succ, List.length_cons, List.length_nil, List.map_cons, List.map_nil, List.getD_cons_zero, List.getD_cons_succ, Option.bind_some, Option.map_some, Option.isSome_some, Option.bind_none, Option.map_none, Option.isSome_none, if_true, if_false, ite_ap, ixN30, ixN31, ixN32, Int.reduceLE, Int.reduceLT, Int.reduceNeg, nab10, nab2, Int.reduceToNat, Nat.reducePow, Nat.reduceLT, reduceCtorEq, atI_z, atI_1, atI_2, atI_3, atI_at, atI_m1, List.replicate, List.cons_append, List.nil_append, List.append_nil, reduceIte, and_self, and_true, true_and, false_and, and_false, ne_eq, not_true_eq_false, not_false_eq_true, eq_self, Bool.true_and, Bool.and_true, Bool.false_and, Bool.and_false, Bool.not_true, Bool.not_false, Bool.false_eq_true, Nat.reduceAdd, Nat.reduceSub, Nat.reduceLeDiff, Nat.reduceLT, hc, iL_nil]
  | cons x r =>
    have g : (iL (x :: r))[0]? = some (.int (sq (x :: r) 0)) := rfl
    have hn : ¬ (x :: r) = [] := nofun
    refine Eq.trans (sSeq_nx (by simp only [runF, startE, finF, ioOf, bnd, eVar, eC, eOp, eUn, eIx, eSl, eTup, eLst, eIf, eAnd, eOr, eNot, eChain, tCmpD, tOf, tTru, DS.tAnd, DS.tOr, DS.tNot, asT, truth, aNil, aCons, bNil, bCons, cNil, cCons, oNone, oSome, eVal, eNrm, toVal, deref, derefs, listAt, noPlc, Out.of, retOf, Res.o, ixD, slD, eB, iB, iA, iItems, itemsD, eCall, eCallIo, eCallK, permV, isMut, mutL, remut, eMeth, appendD, popD, eIsi, isi_int, isi_bool, isi_tup, sNil, sSeq, sEx, sRet, sIf, sSet, sSetIx, setIx, setOk_z, setOk_s, nI_un, nI_val, nI_own, listOf_lst, listOf_tup, listOf_fix, putO, sPars, putsR, sPar, sPar3, sAsg, sFor, sRaise, gN, gT, gsC, gsN, addD, subD, mulD, fdivD, modD, powD, cmpD, negD, lenD, listD, tupleD, intD, absD, zipD, enumD, ttYes, wipeE, canWipe, restE, wipSV, Option.getD_some, List.getElem?_cons_zero, List.getElem?_cons_succ, List.set_cons_zero, List.set_cons_succ, List.length_cons, List.length_nil, List.map_cons, List.map_nil, List.getD_cons_zero, List.getD_cons_succ, Option.bind_some, Option.map_some, Option.isSome_some, Option.bind_none, Option.map_none, Option.isSome_none, if_true, if_false, ite_ap, ixN30, ixN31, ixN32, Int.reduceLE, Int.reduceLT, Int.reduceNeg, nab10, nab2, Int.reduceToNat, Nat.reducePow, Nat.reduceLT, reduceCtorEq, atI_z, atI_1, atI_2, atI_3, atI_at, atI_m1, List.replicate, List.cons_append, List.nil_append, List.append_nil, reduceIte, and_self, and_true, true_and, false_and, and_false, ne_eq, not_true_eq_false, not_false_eq_true, eq_self, Bool.true_and, Bool.and_true, Bool.false_and, Bool.and_false, Bool.not_true, Bool.not_false, Bool.false_eq_true, Nat.reduceAdd, Nat.reduceSub, Nat.reduceLeDiff, Nat.reduceLT, neD_nil, hn, h0, decide_false, g, iL_len, h1, e2] <;> rfl)) ?_
    simp only [runF, startE, finF, ioOf, bnd, eVar, eC, eOp, eUn, eIx, eSl, eTup, eLst, eIf, eAnd, eOr, eNot, eChain, tCmpD, tOf, tTru, DS.tAnd, DS.tOr, DS.tNot, asT, truth, aNil, aCons, bNil, bCons, cNil, cCons, oNone, oSome, eVal, eNrm, toVal, deref, derefs, listAt, noPlc, Out.of, retOf, Res.o, ixD, slD, eB, iB, iA, iItems, itemsD, eCall, eCallIo, eCallK, permV, isMut, mutL, remut, eMeth, appendD, popD, eIsi, isi_int, isi_bool, isi_tup, sNil, sSeq, sEx, sRet, sIf, sSet, sSetIx, setIx, setOk_z, setOk_s, nI_un, nI_val, nI_own, listOf_lst, listOf_tup, listOf_fix, putO, sPars, putsR, sPar, sPar3, sAsg, sFor, sRaise, gN, gT, gsC, gsN, addD, subD, mulD, fdivD, modD, powD, cmpD, negD, lenD, listD, tupleD, intD, absD, zipD, enumD, ttYes, wipeE, canWipe, restE, wipSV, Option.getD_some, List.getElem?_cons_zero, List.getElem?_cons_succ, List.set_cons_zero, List.set_cons_succ, List.length_cons, List.length_nil, List.map_cons, List.map_nil, List.getD_cons_zero, List.getD_cons_succ, Option.bind_some, Option.map_some, Option.isSome_some, Option.bind_none, Option.map_none, Option.isSome_none, if_true, if_false, ite_ap, ixN30, ixN31, ixN32, Int.reduceLE, Int.reduceLT, Int.reduceNeg, nab10, nab2, Int.reduceToNat, Nat.reducePow, Nat.reduceLT, reduceCtorEq, atI_z, atI_1, atI_2, atI_3, atI_at, atI_m1, List.replicate, List.cons_append, List.nil_append, List.append_nil, reduceIte, and_self, and_true, true_and, false_and, and_false, ne_eq, not_true_eq_false, not_false_eq_true, eq_self, Bool.true_and, Bool.and_true, Bool.false_and, Bool.and_false, Bool.not_true, Bool.not_false, Bool.false_eq_true, Nat.reduceAdd, Nat.reduceSub, Nat.reduceLeDiff, Nat.reduceLT, hc]
theorem itr_ups : ∀ (k : Nat) (d : List Int), ∃ l, sq l = itr up k (sq d) ∧ l.length = d.length
  | 0, d => ⟨d, rfl, rfl⟩
  | k + 1, d => by
    obtain ⟨l, h1, h2⟩ := itr_ups k d
    exact ⟨ups l, by rw [ups_sq, h1, itr, itr_out], by rw [ups_len, h2]⟩
theorem row_of_eq {d : D} {l : List Int} {m : Nat} (h : listOf d = some (iL l)) (hl : l.length ≤ 900) (hm : m ≤ 900) : S_row_of [d, .int (m : Int)] = .ok (.val (.tup (iL (vals l m)))) [] := by
  have loop := sFor_inv (it := iB range1D (bCons (eVar 1) bNil)) (g := gN 4) (b := FB1_row_of) ((List.range m).map fun (i : Nat) => D.int (i : Int)) (fun k ε => ∃ s st, nI s = true ∧ sq st = itr up k (sq l) ∧ st.length = l.length ∧ ε = [.val d, .val (.int (m : Int)), .own (iL st), .own (iL (vals l k)), s, .un, .un])
    (ε := [.val d, .val (.int (m : Int)), .own (iL l), .own [], .un, .un, .un]) (ε1 := [.val d, .val (.int (m : Int)), .own (iL l), .own [], .un, .un, .un]) (by simp only [runF, startE, finF, ioOf, bnd, eVar, eC, eOp, eUn, eIx, eSl, eTup, eLst, eIf, eAnd, eOr, eNot, eChain, tCmpD, tOf, tTru, DS.tAnd, DS.tOr, DS.tNot, asT, truth, aNil, aCons, bNil, bCons, cNil, cCons, oNone, oSome, eVal, eNrm, toVal, deref, derefs, listAt, noPlc, Out.of, retOf, Res.o, ixD, slD, eB, iB, iA, iItems, itemsD, eCall, eCallIo, eCallK, permV, isMut, mutL, remut, eMeth, appendD, popD, eIsi, isi_int, isi_bool, isi_tup, sNil, sSeq, sEx, sRet, sIf, sSet, sSetIx, setIx, setOk_z, setOk_s, nI_un, nI_val, nI_own, listOf_lst, listOf_tup, listOf_fix, putO, sPars, putsR, sPar, sPar3, sAsg, sFor, sRaise, gN, gT, gsC, gsN, addD, subD, mulD, fdivD, modD, powD, cmpD, negD, lenD, listD, tupleD, intD, absD, zipD, enumD, ttYes, wipeE, canWipe, restE, wipSV, Option.getD_some, List.getElem?_cons_zero, List.getElem?_cons_succ, List.set_cons_zero, List.set_cons_succ, List.length_cons, List.length_nil, List.map_cons, List.map_nil, List.getD_cons_zero, List.getD_cons_succ, Option.bind_some, Option.map_some, Option.isSome_some, Option.bind_none, Option.map_none, Option.isSome_none, if_true, if_false, ite_ap, ixN30, ixN31, ixN32, Int.reduceLE, Int.reduceLT, Int.reduceNeg, nab10, nab2, Int.reduceToNat, Nat.reducePow, Nat.reduceLT, reduceCtorEq, atI_z, atI_1, atI_2, atI_3, atI_at, atI_m1, List.replicate, List.cons_append, List.nil_append, List.append_nil, reduceIte, and_self, and_true, true_and, false_and, and_false, ne_eq, not_true_eq_false, not_false_eq_true, eq_self, Bool.true_and, Bool.and_true, Bool.false_and, Bool.and_false, Bool.not_true, Bool.not_false, Bool.false_eq_true, Nat.reduceAdd, Nat.reduceSub, Nat.reduceLeDiff, Nat.reduceLT, range1_n (show m ≤ 1000000 by omega)]) (by
      rintro k d ε hk ⟨s, st, hs, h1, h2, rfl⟩
      have hk2 : k < m := by
        have := (List.getElem?_eq_some_iff.mp hk).1
        simpa using this
      rw [List.getElem?_map, List.getElem?_range hk2] at hk
      cases hk
      have e : vals l (k + 1) = vals l k ++ [sq st 0] := by
        unfold vals
        rw [List.range_succ, List.map_append, h1]; rfl
      rw [e]
      exact ⟨_, _, by simp only [runF, startE, finF, ioOf, bnd, eVar, eC, eOp, eUn, eIx, eSl, eTup, eLst, eIf, eAnd, eOr, eNot, eChain, tCmpD, tOf, tTru, DS.tAnd, DS.tOr, DS.tNot, asT, truth, aNil, aCons, bNil, bCons, cNil, cCons, oNone, oSome, eVal, eNrm, toVal, deref, derefs, listAt, noPlc, Out.of, retOf, Res.o, ixD, slD, eB, iB, iA, iItems, itemsD, eCall, eCallIo, eCallK, permV, isMut, mutL, remut, eMeth, appendD, popD, eIsi, isi_int, isi_bool, isi_tup, sNil, sSeq, sEx, sRet, sIf, sSet, sSetIx, setIx, setOk_z, setOk_s, nI_un, nI_val, nI_own, listOf_lst, listOf_tup, listOf_fix, putO, sPars, putsR, sPar, sPar3, sAsg, sFor, sRaise, gN, gT, gsC, gsN, addD, subD, mulD, fdivD, modD, powD, cmpD, negD, lenD, listD, tupleD, intD, absD, zipD, enumD, ttYes, wipeE, canWipe, restE, wipSV, Option.getD_some, List.getElem?_cons_zero, List.getElem?_cons_succ, List.set_cons_zero, List.set_cons_succ, List.length_cons, List.length_nil, List.map_cons, List.map_nil, List.getD_cons_zero, List.getD_cons_succ, Option.bind_some, Option.map_some, Option.isSome_some, Option.bind_none, Option.map_none, Option.isSome_none, if_true, if_false, ite_ap, ixN30, ixN31, ixN32, Int.reduceLE, Int.reduceLT, Int.reduceNeg, nab10, nab2, Int.reduceToNat, Nat.reducePow, Nat.reduceLT, reduceCtorEq, atI_z, atI_1, atI_2, atI_3, atI_at, atI_m1, List.replicate, List.cons_append, List.nil_append, List.append_nil, reduceIte, and_self, and_true, true_and, false_and, and_false, ne_eq, not_true_eq_false, not_false_eq_true, eq_self, Bool.true_and, Bool.and_true, Bool.false_and, Bool.and_false, Bool.not_true, Bool.not_false, Bool.false_eq_true, Nat.reduceAdd, Nat.reduceSub, Nat.reduceLeDiff, Nat.reduceLT, hs] <;> rfl, .inl (FB_row_of (by omega) (by rw [vals_len]; omega)), _, ups st, rfl, by rw [ups_sq, h1, itr, itr_out], by rw [ups_len, h2], rfl⟩) ⟨_, l, rfl, rfl, rfl, rfl⟩
  obtain ⟨ε', h1, s, st, hs, h2, h3, rfl⟩ := loop
  rw [List.length_map, List.length_range] at h1
  have : B_row_of (startE false 7 [d, .int (m : Int)]) = .ok (.rt (.val (.tup (iL (vals l m))))) [.val d, .val (.int (m : Int)), .own (iL st), .own (iL (vals l m)), s, .un, .un] := by
    have h0 : 0 ≤ sizeLine := Nat.zero_le _
    unfold B_row_of
    rcases listOf_cases h with rfl | rfl | rfl
    · refine Eq.trans (sSeq_nx (by simp only [runF, startE, finF, ioOf, bnd, eVar, eC, eOp, eUn, eIx, eSl, eTup, eLst, eIf, eAnd, eOr, eNot, eChain, tCmpD, tOf, tTru, DS.tAnd, DS.tOr, DS.tNot, asT, truth, aNil, aCons, bNil, bCons, cNil, cCons, oNone, oSome, eVal, eNrm, toVal, deref, derefs, listAt, noPlc, Out.of, retOf, Res.o, ixD, slD, eB, iB, iA, iItems, itemsD, eCall, eCallIo, eCallK, permV, isMut, mutL, remut, eMeth, appendD, popD, eIsi, isi_int, isi_bool, isi_tup, sNil, sSeq, sEx, sRet, sIf, sSet, sSetIx, setIx, setOk_z, setOk_s, nI_un, nI_val, nI_own, listOf_lst, listOf_tup, listOf_fix, putO, sPars, putsR, sPar, sPar3, sAsg, sFor, sRaise, gN, gT, gsC, gsN, addD, subD, mulD, fdivD, modD, powD, cmpD, negD, lenD, listD, tupleD, intD, absD, zipD, enumD, ttYes, wipeE, canWipe, restE, wipSV, Option.getD_some, List.getElem?_cons_zero, List.getElem?_cons_succ, List.set_cons_zero, List.set_cons_succ, List.length_cons, List.length_nil, List.map_cons, List.map_nil, List.getD_cons_zero, List.getD_cons_succ, Option.bind_some, Option.map_some, Option.isSome_some, Option.bind_none, Option.map_none, Option.isSome_none, if_true, if_false, ite_ap, ixN30, ixN31, ixN32, Int.reduceLE, Int.reduceLT, Int.reduceNeg, nab10, nab2, Int.reduceToNat, Nat.reducePow, Nat.reduceLT, reduceCtorEq, atI_z, atI_1, atI_2, atI_3, atI_at, atI_m1, List.replicate, List.cons_append, List.nil_append, List.append_nil, reduceIte, and_self, and_true, true_and, false_and, and_false, ne_eq, not_true_eq_false, not_false_eq_true, eq_self, Bool.true_and, Bool.and_true, Bool.false_and, Bool.and_false, Bool.not_true, Bool.not_false, Bool.false_eq_true, Nat.reduceAdd, Nat.reduceSub, Nat.reduceLeDiff, Nat.reduceLT, h0] <;> rfl)) ?_
      refine Eq.trans (sSeq_nx h1) ?_
      simp only [runF, startE, finF, ioOf, bnd, eVar, eC, eOp, eUn, eIx, eSl, eTup, eLst, eIf, eAnd, eOr, eNot, eChain, tCmpD, tOf, tTru, DS.tAnd, DS.tOr, DS.tNot, asT, truth, aNil, aCons, bNil, bCons, cNil, cCons, oNone, oSome, eVal, eNrm, toVal, deref, derefs, listAt, noPlc, Out.of, retOf, Res.o, ixD, slD, eB, iB, iA, iItems, itemsD, eCall, eCallIo, eCallK, permV, isMut, mutL, remut, eMeth, appendD, popD, eIsi, isi_int, isi_bool, isi_tup, sNil, sSeq, sEx, sRet, sIf, sSet, sSetIx, setIx, setOk_z, setOk_s, nI_un, nI_val, nI_own, listOf_lst, listOf_tup, listOf_fix, putO, sPars, putsR, sPar, sPar3, sAsg, sFor, sRaise, gN, gT, gsC, gsN, addD, subD, mulD, fdivD, modD, powD, cmpD, negD, lenD, listD, tupleD, intD, absD, zipD, enumD, ttYes, wipeE, canWipe, restE, wipSV, Option.getD_some, List.getElem?_cons_zero, List.getElem?_cons_succ, List.set_cons_zero, List.set_cons_succ, List.length_cons, List.length_nil, List.map_cons, List.map_nil, List.getD_cons_zero, List.getD_cons_succ, Option.bind_some, Option.map_some, Option.isSome_some, Option.bind_none, Option.map_none, Option.isSome_none, if_true, if_false, ite_ap, ixN30, ixN31, ixN32, Int.reduceLE, Int.reduceLT, Int.reduceNeg, nab10, nab2, Int.reduceToNat, Nat.reducePow, Nat.reduceLT, reduceCtorEq, atI_z, atI_1, atI_2, atI_3, atI_at, atI_m1, List.replicate, List.cons_append, List.nil_append, List.append_nil, reduceIte, and_self, and_true, true_and, false_and, and_false, ne_eq, not_true_eq_false, not_false_eq_true, eq_self, Bool.true_and, Bool.and_true, Bool.false_and, Bool.and_false, Bool.not_true, Bool.not_false, Bool.false_eq_true, Nat.reduceAdd, Nat.reduceSub, Nat.reduceLeDiff, Nat.reduceLT]
    · refine Eq.trans (sSeq_nx (by simp only [runF, startE, finF, ioOf, bnd, eVar, eC, eOp, eUn, eIx, eSl, eTup, eLst, eIf, eAnd, eOr, eNot, eChain, tCmpD, tOf, tTru, DS.tAnd, DS.tOr, DS.tNot, asT, truth, aNil, aCons, bNil, bCons, cNil, cCons, oNone, oSome, eVal, eNrm, toVal, deref, derefs, listAt, noPlc, Out.of, retOf, Res.o, ixD, slD, eB, iB, iA, iItems, itemsD, eCall, eCallIo, eCallK, permV, isMut, mutL, remut, eMeth, appendD, popD, eIsi, isi_int, isi_bool, isi_tup, sNil, sSeq, sEx, sRet, sIf, sSet, sSetIx, setIx, setOk_z, setOk_s, nI_un, nI_val, nI_own, listOf_lst, listOf_tup, listOf_fix, putO, sPars, putsR, sPar, sPar3, sAsg, sFor, sRaise, gN, gT, gsC, gsN, addD, subD, mulD, fdivD, modD, powD, cmpD, negD, lenD, listD, tupleD, intD, absD, zipD, enumD, ttYes, wipeE, canWipe, restE, wipSV, Option.getD_some, List.getElem?_cons_zero, List.getElem?_cons_succ, List.set_cons_zero, List.set_cons_succ, List.length_cons, List.length_nil, List.map_cons, List.map_nil, List.getD_cons_zero, List.getD_cons_succ, Option.bind_some, Option.map_some, Option.isSome_some, Option.bind_none, Option.map_none, Option.isSome_none, if_true, if_false, ite_ap, ixN30, ixN31, ixN32, Int.reduceLE, Int.reduceLT, Int.reduceNeg, nab10, nab2, Int.reduceToNat, Nat.reducePow, Nat.reduceLT, reduceCtorEq, atI_z, atI_1, atI_2, atI_3, atI_at, atI_m1, List.replicate, List.cons_append, List.nil_append, List.append_nil, reduceIte, and_self, and_true, true_and, false_and, and_false, ne_eq, not_true_eq_false, not_false_eq_true, eq_self, Bool.true_and, Bool.and_true, Bool.false_and, Bool.and_false, Bool.not_true, Bool.not_false, Bool.false_eq_true, Nat.reduceAdd, Nat.reduceSub, Nat.reduceLeDiff, Nat.reduceLT, h0] <;> rfl)) ?_
      refine Eq.trans (sSeq_nx h1) ?_
      simp only [runF, startE, finF, ioOf, bnd, eVar, eC, eOp, eUn, eIx, eSl, eTup, eLst, eIf, eAnd, eOr, eNot, eChain, tCmpD, tOf, tTru, DS.tAnd, DS.tOr, DS.tNot, asT, truth, aNil, aCons, bNil, bCons, cNil, cCons, oNone, oSome, eVal, eNrm, toVal, deref, derefs, listAt, noPlc, Out.of, retOf, Res.o, ixD, slD, eB, iB, iA, iItems, itemsD, eCall, eCallIo, eCallK, permV, isMut, mutL, remut, eMeth, appendD, popD, eIsi, isi_int, isi_bool, isi_tup, sNil, sSeq, sEx, sRet, sIf, sSet, sSetIx, setIx, setOk_z, setOk_s, nI_un, nI_val, nI_own, listOf_lst, listOf_tup, listOf_fix, putO, sPars, putsR, sPar, sPar3, sAsg, sFor, sRaise, gN, gT, gsC, gsN, addD, subD, mulD, fdivD, modD, powD, cmpD, negD, lenD, listD, tupleD, intD, absD, zipD, enumD, ttYes, wipeE, canWipe, restE, wipSV, Option.getD_some, List.getElem?_cons_zero, List.getElem?_cons_succ, List.set_cons_zero, List.set_cons_succ, List.length_cons, List.length_nil, List.map_cons, List.map_nil, List.getD_cons_zero, List.getD_cons_succ, Option.bind_some, Option.map_some, Option.isSome_some, Option.bind_none, Option.map_none, Option.isSome_none, if_true, if_false, ite_ap, ixN30, ixN31, ixN32, Int.reduceLE, Int.reduceLT, Int.reduceNeg, nab10, nab2, Int.reduceToNat, Nat.reducePow, Nat.reduceLT, reduceCtorEq, atI_z, atI_1, atI_2, atI_3, atI_at, atI_m1, List.replicate, List.cons_append, List.nil_append, List.append_nil, reduceIte, and_self, and_true, true_and, false_and, and_false, ne_eq, not_true_eq_false, not_false_eq_true, eq_self, Bool.true_and, Bool.and_true, Bool.false_and, Bool.and_false, Bool.not_true, Bool.not_false, Bool.false_eq_true, Nat.reduceAdd, Nat.reduceSub, Nat.reduceLeDiff, Nat.reduceLT]
    · refine Eq.trans (sSeq_nx (by simp only [runF, startE, finF, ioOf, bnd, eVar, eC, eOp, eUn, eIx, eSl, eTup, eLst, eIf, eAnd, eOr, eNot, eChain, tCmpD, tOf, tTru, DS.tAnd, DS.tOr, DS.tNot, asT, truth, aNil, aCons, bNil, bCons, cNil, cCons, oNone, oSome, eVal, eNrm, toVal, deref, derefs, listAt, noPlc, Out.of, retOf, Res.o, ixD, slD, eB, iB, iA, iItems, itemsD, eCall, eCallIo, eCallK, permV, isMut, mutL, remut, eMeth, appendD, popD, eIsi, isi_int, isi_bool, isi_tup, sNil, sSeq, sEx, sRet, sIf, sSet, sSetIx, setIx, setOk_z, setOk_s, nI_un, nI_val, nI_own, listOf_lst, listOf_tup, listOf_fix, putO, sPars, putsR, sPar, sPar3, sAsg, sFor, sRaise, gN, gT, gsC, gsN, addD, subD, mulD, fdivD, modD, powD, cmpD, negD, lenD, listD, tupleD, intD, absD, zipD, enumD, ttYes, wipeE, canWipe, restE, wipSV, Option.getD_some, List.getElem?_cons_zero, List.getElem?_cons_succ, List.set_cons_zero, List.set_cons_succ, List.length_cons, List.length_nil, List.map_cons, List.map_nil, List.getD_cons_zero, List.getD_cons_succ, Option.bind_some, Option.map_some, Option.isSome_some, Option.bind_none, Option.map_none, Option.isSome_none, if_true, if_false, ite_ap, ixN30, ixN31, ixN32, Int.reduceLE, Int.reduceLT, Int.reduceNeg, nab10, nab2, Int.reduceToNat, Nat.reducePow, Nat.reduceLT, reduceCtorEq, atI_z, atI_1, atI_2, atI_3, atI_at, atI_m1, List.replicate, List.cons_append, List.nil_append, List.append_nil, reduceIte, and_self, and_true, true_and, false_and, and_false, ne_eq, not_true_eq_false, not_false_eq_true, eq_self, Bool.true_and, Bool.and_true, Bool.false_and, Bool.and_false, Bool.not_true, Bool.not_false, Bool.false_eq_true, Nat.reduceAdd, Nat.reduceSub, Nat.reduceLeDiff, Nat.reduceLT, h0] <;> rfl)) ?_
      refine Eq.trans (sSeq_nx h1) ?_
      simp only [runF, startE, finF, ioOf, bnd, eVar, eC, eOp, eUn, eIx, eSl, eTup, eLst, eIf, eAnd, eOr, eNot, eChain, tCmpD, tOf, tTru, DS.tAnd, DS.tOr, DS.tNot, asT, truth, aNil, aCons, bNil, bCons, cNil, cCons, oNone, oSome, eVal, eNrm, toVal, deref, derefs, listAt, noPlc, Out.of, retOf, Res.o, ixD, slD, eB, iB, iA, iItems, itemsD, eCall, eCallIo, eCallK, permV, isMut, mutL, remut, eMeth, appendD, popD, eIsi, isi_int, isi_bool, isi_tup, sNil, sSeq, sEx, sRet, sIf, sSet, sSetIx, setIx, setOk_z, setOk_s, nI_un, nI_val, nI_own, listOf_lst, listOf_tup, listOf_fix, putO, sPars, putsR, sPar, sPar3, sAsg, sFor, sRaise, gN, gT, gsC, gsN, addD, subD, mulD, fdivD, modD, powD, cmpD, negD, lenD, listD, tupleD, intD, absD, zipD, enumD, ttYes, wipeE, canWipe, restE, wipSV, Option.getD_some, List.getElem?_cons_zero, List.getElem?_cons_succ, List.set_cons_zero, List.set_cons_succ, List.length_cons, List.length_nil, List.map_cons, List.map_nil, List.getD_cons_zero, List.getD_cons_succ, Option.bind_some, Option.map_some, Option.isSome_some, Option.bind_none, Option.map_none, Option.isSome_none, if_true, if_false, ite_ap, ixN30, ixN31, ixN32, Int.reduceLE, Int.reduceLT, Int.reduceNeg, nab10, nab2, Int.reduceToNat, Nat.reducePow, Nat.reduceLT, reduceCtorEq, atI_z, atI_1, atI_2, atI_3, atI_at, atI_m1, List.replicate, List.cons_append, List.nil_append, List.append_nil, reduceIte, and_self, and_true, true_and, false_and, and_false, ne_eq, not_true_eq_false, not_false_eq_true, eq_self, Bool.true_and, Bool.and_true, Bool.false_and, Bool.and_false, Bool.not_true, Bool.not_false, Bool.false_eq_true, Nat.reduceAdd, Nat.reduceSub, Nat.reduceLeDiff, Nat.reduceLT]
  unfold S_row_of runF
  rw [this]
  rfl
theorem row_by_eq {l : List Int} (h : Good l) : S_row_by [.tup (iL l)] = .ok (.val (.tup (iL (vals l l.length)))) [] := by
  simp only [S_row_by, B_row_by, runF, startE, finF, ioOf, bnd, eVar, eC, eOp, eUn, eIx, eSl, eTup, eLst, eIf, eAnd, eOr, eNot, eChain, tCmpD, tOf, tTru, DS.tAnd, DS.tOr, DS.tNot, asT, truth, aNil, aCons, bNil, bCons, cNil, cCons, oNone, oSome, eVal, eNrm, toVal, deref, derefs, listAt, noPlc, Out.of, retOf, Res.o, ixD, slD, eB, iB, iA, iItems, itemsD, eCall, eCallIo, eCallK, permV, isMut, mutL, remut, eMeth, appendD, popD, eIsi, isi_int, isi_bool, isi_tup, sNil, sSeq, sEx, sRet, sIf, sSet, sSetIx, setIx, setOk_z, setOk_s, nI_un, nI_val, nI_own, listOf_lst, listOf_tup, listOf_fix, putO, sPars, putsR, sPar, sPar3, sAsg, sFor, sRaise, gN, gT, gsC, gsN, addD, subD, mulD, fdivD, modD, powD, cmpD, negD, lenD, listD, tupleD, intD, absD, zipD, enumD, ttYes, wipeE, canWipe, restE, wipSV, Option.getD_some, List.getElem?_cons_zero, List.getElem?_cons_succ, List.set_cons_zero, List.set_cons_succ, List.length_cons, List.length_nil, List.map_cons, List.map_nil, List.getD_cons_zero, List.getD_cons_succ, Option.bind_some, Option.map_some, Option.isSome_some, Option.bind_none, Option.map_none, Option.isSome_none, if_true, if_false, ite_ap, ixN30, ixN31, ixN32, Int.reduceLE, Int.reduceLT, Int.reduceNeg, nab10, nab2, Int.reduceToNat, Nat.reducePow, Nat.reduceLT, reduceCtorEq, atI_z, atI_1, atI_2, atI_3, atI_at, atI_m1, List.replicate, List.cons_append, List.nil_append, List.append_nil, reduceIte, and_self, and_true, true_and, false_and, and_false, ne_eq, not_true_eq_false, not_false_eq_true, eq_self, Bool.true_and, Bool.and_true, Bool.false_and, Bool.and_false, Bool.not_true, Bool.not_false, Bool.false_eq_true, Nat.reduceAdd, Nat.reduceSub, Nat.reduceLeDiff, Nat.reduceLT, check_row_good h, iL_len, row_of_eq (listOf_tup (iL l)) (show l.length ≤ 900 by have := h.2.1; omega) (show l.length ≤ 900 by have := h.2.1; omega)]
theorem further_eq {l : List Int} {c : Nat} (h : Good l) (h1 : 1 ≤ c) (h2 : c ≤ 40) : S_further [.tup (iL l), .int (c : Int)] = .ok (.val (.tup (iL ((vals (due l) (l.length + c)).drop l.length)))) [] := by
  have e1 := check_count_ok (i := (c : Int)) (l := 1) (h := 40) (by omega) (by omega)
  have e2 : ((l.length : Nat) : Int) + (c : Int) = ((l.length + c : Nat) : Int) := (Int.natCast_add _ _).symm
  have hl := h.2.1
  have e3 := row_of_eq (listOf_lst (iL (due l))) (m := l.length + c) (by rw [due_len]; omega) (by omega)
  have e4 := differences_at_eq (listOf_tup (iL l)) (by omega)
  have e5 : ∀ xs : List D, cutD xs (some ((l.length : Nat) : Int)) none = xs.drop l.length := fun xs => by
    rw [cut_from xs (by omega), Int.toNat_natCast]
  simp only [S_further, B_further, runF, startE, finF, ioOf, bnd, eVar, eC, eOp, eUn, eIx, eSl, eTup, eLst, eIf, eAnd, eOr, eNot, eChain, tCmpD, tOf, tTru, DS.tAnd, DS.tOr, DS.tNot, asT, truth, aNil, aCons, bNil, bCons, cNil, cCons, oNone, oSome, eVal, eNrm, toVal, deref, derefs, listAt, noPlc, Out.of, retOf, Res.o, ixD, slD, eB, iB, iA, iItems, itemsD, eCall, eCallIo, eCallK, permV, isMut, mutL, remut, eMeth, appendD, popD, eIsi, isi_int, isi_bool, isi_tup, sNil, sSeq, sEx, sRet, sIf, sSet, sSetIx, setIx, setOk_z, setOk_s, nI_un, nI_val, nI_own, listOf_lst, listOf_tup, listOf_fix, putO, sPars, putsR, sPar, sPar3, sAsg, sFor, sRaise, gN, gT, gsC, gsN, addD, subD, mulD, fdivD, modD, powD, cmpD, negD, lenD, listD, tupleD, intD, absD, zipD, enumD, ttYes, wipeE, canWipe, restE, wipSV, Option.getD_some, List.getElem?_cons_zero, List.getElem?_cons_succ, List.set_cons_zero, List.set_cons_succ, List.length_cons, List.length_nil, List.map_cons, List.map_nil, List.getD_cons_zero, List.getD_cons_succ, Option.bind_some, Option.map_some, Option.isSome_some, Option.bind_none, Option.map_none, Option.isSome_none, if_true, if_false, ite_ap, ixN30, ixN31, ixN32, Int.reduceLE, Int.reduceLT, Int.reduceNeg, nab10, nab2, Int.reduceToNat, Nat.reducePow, Nat.reduceLT, reduceCtorEq, atI_z, atI_1, atI_2, atI_3, atI_at, atI_m1, List.replicate, List.cons_append, List.nil_append, List.append_nil, reduceIte, and_self, and_true, true_and, false_and, and_false, ne_eq, not_true_eq_false, not_false_eq_true, eq_self, Bool.true_and, Bool.and_true, Bool.false_and, Bool.and_false, Bool.not_true, Bool.not_false, Bool.false_eq_true, Nat.reduceAdd, Nat.reduceSub, Nat.reduceLeDiff, Nat.reduceLT, check_row_good h, c_MOST_ENTRIES, e1, e2, e3, e4, e5, iL_len, iL_drop]
end K34

set_option Elab.async false
set_option linter.all false
set_option maxRecDepth 100000
set_option maxHeartbeats 4000000
set_option exponentiation.threshold 5000
namespace K34
open PySem DS
def fst (l : List Int) (o : Nat) : Option Nat := (List.range (l.length - o)).find? (stl l o)
def oD : Option Nat → D
  | some a => .int (a : Int)
  | none => .non
theorem range_sub {n m : Nat} (hn : n ≤ 1000) (hm : m ≤ 1000) : range1D [.int (((n : Nat) : Int) - (m : Int))] = some ((List.range (n - m)).map fun (i : Nat) => D.int (i : Int)) := by
  by_cases h : m ≤ n
  · rw [show ((n : Nat) : Int) - (m : Int) = ((n - m : Nat) : Int) by omega]
    exact range1_n (by omega)
  · rw [range1_neg (by omega) (by omega), show n - m = 0 by omega]
    rfl
theorem first_settled_eq {l : List Int} {m : Nat} (hl : l.length ≤ 900) (hm : m ≤ 100) : S_first_settled [.tup (iL l), .int (m : Int)] = .ok (.val (oD (fst l (m + 1)))) [] := by
  have loop := sFor_find (it := iB range1D (bCons (eOp subD (eOp subD (eB lenD (bCons (eVar 0) bNil)) (eVar 1)) (eC (.int 1))) bNil)) (g := gN 2) (b := FB1_first_settled) (stl l (m + 1)) (fun ε => ∃ s, nI s = true ∧ ε = [.val (.tup (iL l)), .val (.int (m : Int)), s]) (l.length - (m + 1))
    (ε := [.val (.tup (iL l)), .val (.int (m : Int)), .un]) (ε1 := [.val (.tup (iL l)), .val (.int (m : Int)), .un]) (by
      have e : ((l.length : Nat) : Int) - (m : Int) - 1 = ((l.length : Nat) : Int) - ((m + 1 : Nat) : Int) := by omega
      simp only [runF, startE, finF, ioOf, bnd, eVar, eC, eOp, eUn, eIx, eSl, eTup, eLst, eIf, eAnd, eOr, eNot, eChain, tCmpD, tOf, tTru, DS.tAnd, DS.tOr, DS.tNot, asT, truth, aNil, aCons, bNil, bCons, cNil, cCons, oNone, oSome, eVal, eNrm, toVal, deref, derefs, listAt, noPlc, Out.of, retOf, Res.o, ixD, slD, eB, iB, iA, iItems, itemsD, eCall, eCallIo, eCallK, permV, isMut, mutL, remut, eMeth, appendD, popD, eIsi, isi_int, isi_bool, isi_tup, sNil, sSeq, sEx, sRet, sIf, sSet, sSetIx, setIx, setOk_z, setOk_s, nI_un, nI_val, nI_own, listOf_lst, listOf_tup, listOf_fix, putO, sPars, putsR, sPar, sPar3, sAsg, sFor, sRaise, gN, gT, gsC, gsN, addD, subD, mulD, fdivD, modD, powD, cmpD, negD, lenD, listD, tupleD, intD, absD, zipD, enumD, ttYes, wipeE, canWipe, restE, wipSV, Option.getD_some, List.getElem?_cons_zero, List.getElem?_cons_succ, List.set_cons_zero, List.set_cons_succ, List.length_cons, List.length_nil, List.map_cons, List.map_nil, List.getD_cons_zero, List.getD_cons_succ, Option.bind_some, Option.map_some, Option.isSome_some, Option.bind_none, Option.map_none, Option.isSome_none, if_true, if_false, ite_ap, ixN30, ixN31, ixN32, Int.reduceLE, Int.reduceLT, Int.reduceNeg, nab10, nab2, Int.reduceToNat, Nat.reducePow, Nat.reduceLT, reduceCtorEq, atI_z, atI_1, atI_2, atI_3, atI_at, atI_m1, List.replicate, List.cons_append, List.nil_append, List.append_nil, reduceIte, and_self, and_true, true_and, false_and, and_false, ne_eq, not_true_eq_false, not_false_eq_true, eq_self, Bool.true_and, Bool.and_true, Bool.false_and, Bool.and_false, Bool.not_true, Bool.not_false, Bool.false_eq_true, Nat.reduceAdd, Nat.reduceSub, Nat.reduceLeDiff, Nat.reduceLT, iL_len, e, range_sub (show l.length ≤ 1000 by omega) (show m + 1 ≤ 1000 by omega)]) (by
      rintro i hi ε ⟨s, hs, rfl⟩
      have e5 : ∀ xs : List D, cutD xs (some (i : Int)) none = xs.drop i := fun xs => by
        rw [cut_from xs (by omega), Int.toNat_natCast]
      have e6 := degree_in_eq (listOf_tup (iL (l.drop i))) (by rw [List.length_drop]; omega)
      have e7 := stl_deg (l := l) (m := m) (a := i) (by omega)
      refine ⟨_, by simp only [runF, startE, finF, ioOf, bnd, eVar, eC, eOp, eUn, eIx, eSl, eTup, eLst, eIf, eAnd, eOr, eNot, eChain, tCmpD, tOf, tTru, DS.tAnd, DS.tOr, DS.tNot, asT, truth, aNil, aCons, bNil, bCons, cNil, cCons, oNone, oSome, eVal, eNrm, toVal, deref, derefs, listAt, noPlc, Out.of, retOf, Res.o, ixD, slD, eB, iB, iA, iItems, itemsD, eCall, eCallIo, eCallK, permV, isMut, mutL, remut, eMeth, appendD, popD, eIsi, isi_int, isi_bool, isi_tup, sNil, sSeq, sEx, sRet, sIf, sSet, sSetIx, setIx, setOk_z, setOk_s, nI_un, nI_val, nI_own, listOf_lst, listOf_tup, listOf_fix, putO, sPars, putsR, sPar, sPar3, sAsg, sFor, sRaise, gN, gT, gsC, gsN, addD, subD, mulD, fdivD, modD, powD, cmpD, negD, lenD, listD, tupleD, intD, absD, zipD, enumD, ttYes, wipeE, canWipe, restE, wipSV, Option.getD_some, List.getElem?_cons_zero, List.getElem?_cons_succ, List.set_cons_zero, List.set_cons_succ, List.length_cons, List.length_nil, List.map_cons, List.map_nil, List.getD_cons_zero, List.getD_cons_succ, Option.bind_some, Option.map_some, Option.isSome_some, Option.bind_none, Option.map_none, Option.isSome_none, if_true, if_false, ite_ap, ixN30, ixN31, ixN32, Int.reduceLE, Int.reduceLT, Int.reduceNeg, nab10, nab2, Int.reduceToNat, Nat.reducePow, Nat.reduceLT, reduceCtorEq, atI_z, atI_1, atI_2, atI_3, atI_at, atI_m1, List.replicate, List.cons_append, List.nil_append, List.append_nil, reduceIte, and_self, and_true, true_and, false_and, and_false, ne_eq, not_true_eq_false, not_false_eq_true, eq_self, Bool.true_and, Bool.and_true, Bool.false_and, Bool.and_false, Bool.not_true, Bool.not_false, Bool.false_eq_true, Nat.reduceAdd, Nat.reduceSub, Nat.reduceLeDiff, Nat.reduceLT, hs] <;> rfl, fun hp => ?_, fun hp => ?_⟩
      · have e8 : ¬ degI (due (l.drop i)) ≤ (m : Int) := fun z => by
          rw [e7.mp z] at hp; cases hp
        exact ⟨_, by simp only [FB1_first_settled, runF, startE, finF, ioOf, bnd, eVar, eC, eOp, eUn, eIx, eSl, eTup, eLst, eIf, eAnd, eOr, eNot, eChain, tCmpD, tOf, tTru, DS.tAnd, DS.tOr, DS.tNot, asT, truth, aNil, aCons, bNil, bCons, cNil, cCons, oNone, oSome, eVal, eNrm, toVal, deref, derefs, listAt, noPlc, Out.of, retOf, Res.o, ixD, slD, eB, iB, iA, iItems, itemsD, eCall, eCallIo, eCallK, permV, isMut, mutL, remut, eMeth, appendD, popD, eIsi, isi_int, isi_bool, isi_tup, sNil, sSeq, sEx, sRet, sIf, sSet, sSetIx, setIx, setOk_z, setOk_s, nI_un, nI_val, nI_own, listOf_lst, listOf_tup, listOf_fix, putO, sPars, putsR, sPar, sPar3, sAsg, sFor, sRaise, gN, gT, gsC, gsN, addD, subD, mulD, fdivD, modD, powD, cmpD, negD, lenD, listD, tupleD, intD, absD, zipD, enumD, ttYes, wipeE, canWipe, restE, wipSV, Option.getD_some, List.getElem?_cons_zero, List.getElem?_cons_succ, List.set_cons_zero, List.set_cons_succ, List.length_cons, List.length_nil, List.map_cons, List.map_nil, List.getD_cons_zero, List.getD_cons_succ, Option.bind_some, Option.map_some, Option.isSome_some, Option.bind_none, Option.map_none, Option.isSome_none, if_true, if_false, ite_ap, ixN30, ixN31, ixN32, Int.reduceLE, Int.reduceLT, Int.reduceNeg, nab10, nab2, Int.reduceToNat, Nat.reducePow, Nat.reduceLT, reduceCtorEq, atI_z, atI_1, atI_2, atI_3, atI_at, atI_m1, List.replicate, List.cons_append, List.nil_append, List.append_nil, reduceIte, and_self, and_true, true_and, false_and, and_false, ne_eq, not_true_eq_false, not_false_eq_true, eq_self, Bool.true_and, Bool.and_true, Bool.false_and, Bool.and_false, Bool.not_true, Bool.not_false, Bool.false_eq_true, Nat.reduceAdd, Nat.reduceSub, Nat.reduceLeDiff, Nat.reduceLT, e5, iL_drop, e6, e8, decide_false] <;> rfl, _, rfl, rfl⟩
      · have e8 := e7.mpr hp
        exact ⟨_, by simp only [FB1_first_settled, runF, startE, finF, ioOf, bnd, eVar, eC, eOp, eUn, eIx, eSl, eTup, eLst, eIf, eAnd, eOr, eNot, eChain, tCmpD, tOf, tTru, DS.tAnd, DS.tOr, DS.tNot, asT, truth, aNil, aCons, bNil, bCons, cNil, cCons, oNone, oSome, eVal, eNrm, toVal, deref, derefs, listAt, noPlc, Out.of, retOf, Res.o, ixD, slD, eB, iB, iA, iItems, itemsD, eCall, eCallIo, eCallK, permV, isMut, mutL, remut, eMeth, appendD, popD, eIsi, isi_int, isi_bool, isi_tup, sNil, sSeq, sEx, sRet, sIf, sSet, sSetIx, setIx, setOk_z, setOk_s, nI_un, nI_val, nI_own, listOf_lst, listOf_tup, listOf_fix, putO, sPars, putsR, sPar, sPar3, sAsg, sFor, sRaise, gN, gT, gsC, gsN, addD, subD, mulD, fdivD, modD, powD, cmpD, negD, lenD, listD, tupleD, intD, absD, zipD, enumD, ttYes, wipeE, canWipe, restE, wipSV, Option.getD_some, List.getElem?_cons_zero, List.getElem?_cons_succ, List.set_cons_zero, List.set_cons_succ, List.length_cons, List.length_nil, List.map_cons, List.map_nil, List.getD_cons_zero, List.getD_cons_succ, Option.bind_some, Option.map_some, Option.isSome_some, Option.bind_none, Option.map_none, Option.isSome_none, if_true, if_false, ite_ap, ixN30, ixN31, ixN32, Int.reduceLE, Int.reduceLT, Int.reduceNeg, nab10, nab2, Int.reduceToNat, Nat.reducePow, Nat.reduceLT, reduceCtorEq, atI_z, atI_1, atI_2, atI_3, atI_at, atI_m1, List.replicate, List.cons_append, List.nil_append, List.append_nil, reduceIte, and_self, and_true, true_and, false_and, and_false, ne_eq, not_true_eq_false, not_false_eq_true, eq_self, Bool.true_and, Bool.and_true, Bool.false_and, Bool.and_false, Bool.not_true, Bool.not_false, Bool.false_eq_true, Nat.reduceAdd, Nat.reduceSub, Nat.reduceLeDiff, Nat.reduceLT, e5, iL_drop, e6, e8, decide_true] <;> rfl⟩) ⟨_, rfl, rfl⟩
  unfold S_first_settled B_first_settled runF
  unfold fst
  cases hq : (List.range (l.length - (m + 1))).find? (stl l (m + 1)) with
  | some a =>
    rw [hq] at loop
    obtain ⟨ε', h1⟩ := loop
    have : ∀ b, sSeq (sFor (iB range1D (bCons (eOp subD (eOp subD (eB lenD (bCons (eVar 0) bNil)) (eVar 1)) (eC (.int 1))) bNil)) (gN 2) FB1_first_settled) b (startE false 3 [.tup (iL l), .int (m : Int)]) = .ok (.rt (.val (.int (a : Int)))) ε' := fun b => sSeq_rt h1
    rw [this]
    rfl
  | none =>
    rw [hq] at loop
    obtain ⟨ε', h1, s, hs, rfl⟩ := loop
    have : ∀ b, sSeq (sFor (iB range1D (bCons (eOp subD (eOp subD (eB lenD (bCons (eVar 0) bNil)) (eVar 1)) (eC (.int 1))) bNil)) (gN 2) FB1_first_settled) b (startE false 3 [.tup (iL l), .int (m : Int)]) = b [.val (.tup (iL l)), .val (.int (m : Int)), s] := fun b => sSeq_nx h1
    rw [this]
    rfl
theorem settled_from_eq {l : List Int} {m : Nat} (h : Good l) (hm : m ≤ 10) : S_settled_from [.tup (iL l), .int (m : Int)] = .ok (.val (oD (fst l (m + 1)))) [] := by
  have e1 := check_count_ok (i := (m : Int)) (l := 0) (h := 10) (by omega) (by omega)
  have e2 := first_settled_eq (l := l) (m := m) (by have := h.2.1; omega) (by omega)
  simp only [S_settled_from, B_settled_from, runF, startE, finF, ioOf, bnd, eVar, eC, eOp, eUn, eIx, eSl, eTup, eLst, eIf, eAnd, eOr, eNot, eChain, tCmpD, tOf, tTru, DS.tAnd, DS.tOr, DS.tNot, asT, truth, aNil, aCons, bNil, bCons, cNil, cCons, oNone, oSome, eVal, eNrm, toVal, deref, derefs, listAt, noPlc, Out.of, retOf, Res.o, ixD, slD, eB, iB, iA, iItems, itemsD, eCall, eCallIo, eCallK, permV, isMut, mutL, remut, eMeth, appendD, popD, eIsi, isi_int, isi_bool, isi_tup, sNil, sSeq, sEx, sRet, sIf, sSet, sSetIx, setIx, setOk_z, setOk_s, nI_un, nI_val, nI_own, listOf_lst, listOf_tup, listOf_fix, putO, sPars, putsR, sPar, sPar3, sAsg, sFor, sRaise, gN, gT, gsC, gsN, addD, subD, mulD, fdivD, modD, powD, cmpD, negD, lenD, listD, tupleD, intD, absD, zipD, enumD, ttYes, wipeE, canWipe, restE, wipSV, Option.getD_some, List.getElem?_cons_zero, List.getElem?_cons_succ, List.set_cons_zero, List.set_cons_succ, List.length_cons, List.length_nil, List.map_cons, List.map_nil, List.getD_cons_zero, List.getD_cons_succ, Option.bind_some, Option.map_some, Option.isSome_some, Option.bind_none, Option.map_none, Option.isSome_none, if_true, if_false, ite_ap, ixN30, ixN31, ixN32, Int.reduceLE, Int.reduceLT, Int.reduceNeg, nab10, nab2, Int.reduceToNat, Nat.reducePow, Nat.reduceLT, reduceCtorEq, atI_z, atI_1, atI_2, atI_3, atI_at, atI_m1, List.replicate, List.cons_append, List.nil_append, List.append_nil, reduceIte, and_self, and_true, true_and, false_and, and_false, ne_eq, not_true_eq_false, not_false_eq_true, eq_self, Bool.true_and, Bool.and_true, Bool.false_and, Bool.and_false, Bool.not_true, Bool.not_false, Bool.false_eq_true, Nat.reduceAdd, Nat.reduceSub, Nat.reduceLeDiff, Nat.reduceLT, check_row_good h, c_MOST_DEGREE, e1, e2]
/-! ### the law's own -/
theorem itr_dn_shf (o : Nat) : ∀ (s : Nat) (f : Sq), itr dn o (itr shf s f) = itr shf s (itr dn o f)
  | 0, f => rfl
  | s + 1, f => by
    rw [itr, itr_dn_shf o s, itr_com (op := dn) (op2 := shf) dn_shf o f, itr]
theorem DD_at (o s : Nat) (f : Sq) : DD (itr shf s f) o = itr dn o f s := by
  show itr dn o (itr shf s f) 0 = _
  rw [itr_dn_shf, itr_shf_at, Nat.zero_add]
theorem C_settled {l : List Int} {o s : Nat} (a b : SV) (h : s + o < l.length) (hk : o ≤ 80) (hb : ∀ x ∈ l, x.natAbs < 2 ^ 1000) :
    C1_law_settled [.val (.tup (iL l)), a, .val (.lst lnL), .val (.int (o : Int)), b, .val (.int (s : Int)), .un, .un, .un] = .ok (.own (iL ((pas o).zipIdx.map fun p => p.1 * itr shf s (sq l) p.2 * sg ((o : Int) - (p.2 : Int))))) [.val (.tup (iL l)), a, .val (.lst lnL), .val (.int (o : Int)), b, .val (.int (s : Int)), .un, .un, .un] := by
  rw [← iL_map]
  unfold C1_law_settled
  refine eLc_p npr (fun p => .int (p.1 * itr shf s (sq l) p.2 * sg ((o : Int) - (p.2 : Int)))) (pas o).zipIdx (by simp only [runF, startE, finF, ioOf, bnd, eVar, eC, eOp, eUn, eIx, eSl, eTup, eLst, eIf, eAnd, eOr, eNot, eChain, tCmpD, tOf, tTru, DS.tAnd, DS.tOr, DS.tNot, asT, truth, aNil, aCons, bNil, bCons, cNil, cCons, oNone, oSome, eVal, eNrm, toVal, deref, derefs, listAt, noPlc, Out.of, retOf, Res.o, ixD, slD, eB, iB, iA, iItems, itemsD, eCall, eCallIo, eCallK, permV, isMut, mutL, remut, eMeth, appendD, popD, eIsi, isi_int, isi_bool, isi_tup, sNil, sSeq, sEx, sRet, sIf, sSet, sSetIx, setIx, setOk_z, setOk_s, nI_un, nI_val, nI_own, listOf_lst, listOf_tup, listOf_fix, putO, sPars, putsR, sPar, sPar3, sAsg, sFor, sRaise, gN, gT, gsC, gsN, addD, subD, mulD, fdivD, modD, powD, cmpD, negD, lenD, listD, tupleD, intD, absD, zipD, enumD, ttYes, wipeE, canWipe, restE, wipSV, Option.getD_some, List.getElem?_cons_zero, List.getElem?_cons_succ, List.set_cons_zero, List.set_cons_succ, List.length_cons, List.length_nil, List.map_cons, List.map_nil, List.getD_cons_zero, List.getD_cons_succ, Option.bind_some, Option.map_some, Option.isSome_some, Option.bind_none, Option.map_none, Option.isSome_none, if_true, if_false, ite_ap, ixN30, ixN31, ixN32, Int.reduceLE, Int.reduceLT, Int.reduceNeg, nab10, nab2, Int.reduceToNat, Nat.reducePow, Nat.reduceLT, reduceCtorEq, atI_z, atI_1, atI_2, atI_3, atI_at, atI_m1, List.replicate, List.cons_append, List.nil_append, List.append_nil, reduceIte, and_self, and_true, true_and, false_and, and_false, ne_eq, not_true_eq_false, not_false_eq_true, eq_self, Bool.true_and, Bool.and_true, Bool.false_and, Bool.and_false, Bool.not_true, Bool.not_false, Bool.false_eq_true, Nat.reduceAdd, Nat.reduceSub, Nat.reduceLeDiff, Nat.reduceLT, lnL_get hk, enumL_iL]) (sz63 (by simp [pas_len]; omega)) rfl (fun p hp => ?_) rfl
  obtain ⟨h1, h2⟩ := zipIdx_mem hp
  rw [pas_len] at h2
  have e : (s : Int) + (p.2 : Int) = ((s + p.2 : Nat) : Int) := (Int.natCast_add _ _).symm
  have g : (iL l)[s + p.2]? = some (.int (itr shf s (sq l) p.2)) := by
    rw [itr_shf_at, Nat.add_comm p.2 s]
    exact get_sq (by omega)
  have m1 : mulOk p.1 (itr shf s (sq l) p.2) = true := by
    rw [itr_shf_at]
    exact mulOk_k (ab_up (pas_sz o p.1 h1) (by omega)) (ab_up (sq_sz hb _) (by omega))
  have m3 : mulOk (p.1 * itr shf s (sq l) p.2) 1 = true := mulOk_t (by omega) (by omega)
  have m4 : mulOk (p.1 * itr shf s (sq l) p.2) (-1) = true := mulOk_t (by omega) (by omega)
  by_cases hz : ((o : Int) - (p.2 : Int)) % 2 = 0
  · exact ⟨_, _, rfl, by
      rw [show sg ((o : Int) - (p.2 : Int)) = 1 from if_pos hz]
      simp only [runF, startE, finF, ioOf, bnd, eVar, eC, eOp, eUn, eIx, eSl, eTup, eLst, eIf, eAnd, eOr, eNot, eChain, tCmpD, tOf, tTru, DS.tAnd, DS.tOr, DS.tNot, asT, truth, aNil, aCons, bNil, bCons, cNil, cCons, oNone, oSome, eVal, eNrm, toVal, deref, derefs, listAt, noPlc, Out.of, retOf, Res.o, ixD, slD, eB, iB, iA, iItems, itemsD, eCall, eCallIo, eCallK, permV, isMut, mutL, remut, eMeth, appendD, popD, eIsi, isi_int, isi_bool, isi_tup, sNil, sSeq, sEx, sRet, sIf, sSet, sSetIx, setIx, setOk_z, setOk_s, nI_un, nI_val, nI_own, listOf_lst, listOf_tup, listOf_fix, putO, sPars, putsR, sPar, sPar3, sAsg, sFor, sRaise, gN, gT, gsC, gsN, addD, subD, mulD, fdivD, modD, powD, cmpD, negD, lenD, listD, tupleD, intD, absD, zipD, enumD, ttYes, wipeE, canWipe, restE, wipSV, Option.getD_some, List.getElem?_cons_zero, List.getElem?_cons_succ, List.set_cons_zero, List.set_cons_succ, List.length_cons, List.length_nil, List.map_cons, List.map_nil, List.getD_cons_zero, List.getD_cons_succ, Option.bind_some, Option.map_some, Option.isSome_some, Option.bind_none, Option.map_none, Option.isSome_none, if_true, if_false, ite_ap, ixN30, ixN31, ixN32, Int.reduceLE, Int.reduceLT, Int.reduceNeg, nab10, nab2, Int.reduceToNat, Nat.reducePow, Nat.reduceLT, reduceCtorEq, atI_z, atI_1, atI_2, atI_3, atI_at, atI_m1, List.replicate, List.cons_append, List.nil_append, List.append_nil, reduceIte, and_self, and_true, true_and, false_and, and_false, ne_eq, not_true_eq_false, not_false_eq_true, eq_self, Bool.true_and, Bool.and_true, Bool.false_and, Bool.and_false, Bool.not_true, Bool.not_false, Bool.false_eq_true, Nat.reduceAdd, Nat.reduceSub, Nat.reduceLeDiff, Nat.reduceLT, e, g, m1, m3, hz, eqD_int, decide_true]; rfl, by rfl⟩
  · exact ⟨_, _, rfl, by
      rw [show sg ((o : Int) - (p.2 : Int)) = -1 from if_neg hz]
      simp only [runF, startE, finF, ioOf, bnd, eVar, eC, eOp, eUn, eIx, eSl, eTup, eLst, eIf, eAnd, eOr, eNot, eChain, tCmpD, tOf, tTru, DS.tAnd, DS.tOr, DS.tNot, asT, truth, aNil, aCons, bNil, bCons, cNil, cCons, oNone, oSome, eVal, eNrm, toVal, deref, derefs, listAt, noPlc, Out.of, retOf, Res.o, ixD, slD, eB, iB, iA, iItems, itemsD, eCall, eCallIo, eCallK, permV, isMut, mutL, remut, eMeth, appendD, popD, eIsi, isi_int, isi_bool, isi_tup, sNil, sSeq, sEx, sRet, sIf, sSet, sSetIx, setIx, setOk_z, setOk_s, nI_un, nI_val, nI_own, listOf_lst, listOf_tup, listOf_fix, putO, sPars, putsR, sPar, sPar3, sAsg, sFor, sRaise, gN, gT, gsC, gsN, addD, subD, mulD, fdivD, modD, powD, cmpD, negD, lenD, listD, tupleD, intD, absD, zipD, enumD, ttYes, wipeE, canWipe, restE, wipSV, Option.getD_some, List.getElem?_cons_zero, List.getElem?_cons_succ, List.set_cons_zero, List.set_cons_succ, List.length_cons, List.length_nil, List.map_cons, List.map_nil, List.getD_cons_zero, List.getD_cons_succ, Option.bind_some, Option.map_some, Option.isSome_some, Option.bind_none, Option.map_none, Option.isSome_none, if_true, if_false, ite_ap, ixN30, ixN31, ixN32, Int.reduceLE, Int.reduceLT, Int.reduceNeg, nab10, nab2, Int.reduceToNat, Nat.reducePow, Nat.reduceLT, reduceCtorEq, atI_z, atI_1, atI_2, atI_3, atI_at, atI_m1, List.replicate, List.cons_append, List.nil_append, List.append_nil, reduceIte, and_self, and_true, true_and, false_and, and_false, ne_eq, not_true_eq_false, not_false_eq_true, eq_self, Bool.true_and, Bool.and_true, Bool.false_and, Bool.and_false, Bool.not_true, Bool.not_false, Bool.false_eq_true, Nat.reduceAdd, Nat.reduceSub, Nat.reduceLeDiff, Nat.reduceLT, e, g, m1, m4, hz, eqD_int, decide_false]; rfl, by rfl⟩
def stps (l : List Int) (o k : Nat) : List Int := (List.range k).map (itr dn o (sq l))
theorem FB_settled {l : List Int} {o s : Nat} (a : SV) (h : s + o < l.length) (hl : l.length ≤ 900) (hk : o ≤ 80) (hb : ∀ x ∈ l, x.natAbs < 2 ^ 1000) :
    FB1_law_settled [.val (.tup (iL l)), a, .val (.lst lnL), .val (.int (o : Int)), .own (iL (stps l o s)), .val (.int (s : Int)), .un, .un, .un] = .ok .nx [.val (.tup (iL l)), a, .val (.lst lnL), .val (.int (o : Int)), .own (iL (stps l o (s + 1))), .val (.int (s : Int)), .un, .un, .un] := by
  have hs : (stps l o s).length < sizeLine := lt_sz (by simp [stps]; omega)
  have e : stps l o (s + 1) = stps l o s ++ [itr dn o (sq l) s] := by
    unfold stps
    rw [List.range_succ, List.map_append]; rfl
  rw [e]
  have hc := C_settled a (.own (iL (stps l o s))) h hk hb
  simp only [FB1_law_settled, runF, startE, finF, ioOf, bnd, eVar, eC, eOp, eUn, eIx, eSl, eTup, eLst, eIf, eAnd, eOr, eNot, eChain, tCmpD, tOf, tTru, DS.tAnd, DS.tOr, DS.tNot, asT, truth, aNil, aCons, bNil, bCons, cNil, cCons, oNone, oSome, eVal, eNrm, toVal, deref, derefs, listAt, noPlc, Out.of, retOf, Res.o, ixD, slD, eB, iB, iA, iItems, itemsD, eCall, eCallIo, eCallK, permV, isMut, mutL, remut, eMeth, appendD, popD, eIsi, isi_int, isi_bool, isi_tup, sNil, sSeq, sEx, sRet, sIf, sSet, sSetIx, setIx, setOk_z, setOk_s, nI_un, nI_val, nI_own, listOf_lst, listOf_tup, listOf_fix, putO, sPars, putsR, sPar, sPar3, sAsg, sFor, sRaise, gN, gT, gsC, gsN, addD, subD, mulD, fdivD, modD, powD, cmpD, negD, lenD, listD, tupleD, intD, absD, zipD, enumD, ttYes, wipeE, canWipe, restE, wipSV, Option.getD_some, List.getElem?_cons_zero, List.getElem?_cons_succ, List.set_cons_zero, List.set_cons_succ, List.length_cons, List.length_nil, List.map_cons, List.map_nil, List.getD_cons_zero, List.getD_cons_succ, Option.bind_some, Option.map_some, Option.isSome_some, Option.bind_none, Option.map_none, Option.isSome_none, if_true, if_false, ite_ap, ixN30, ixN31, ixN32, Int.reduceLE, Int.reduceLT, Int.reduceNeg, nab10, nab2, Int.reduceToNat, Nat.reducePow, Nat.reduceLT, reduceCtorEq, atI_z, atI_1, atI_2, atI_3, atI_at, atI_m1, List.replicate, List.cons_append, List.nil_append, List.append_nil, reduceIte, and_self, and_true, true_and, false_and, and_false, ne_eq, not_true_eq_false, not_false_eq_true, eq_self, Bool.true_and, Bool.and_true, Bool.false_and, Bool.and_false, Bool.not_true, Bool.not_false, Bool.false_eq_true, Nat.reduceAdd, Nat.reduceSub, Nat.reduceLeDiff, Nat.reduceLT, hc, sumD, intsOf_iL, sum_DD, DD_at, iL_len, hs, iL_app, iL_cons, iL_nil]
theorem C2_settled {st : List Int} {k : Nat} (a b c d e : SV) (hs : st.length ≤ 900) :
    C2_law_settled [a, b, c, d, .own (iL st), e, .val (.int (k : Int)), .un, .un] = .ok (.own (iL ((st.drop k).filter fun x => !decide (x = 0)))) [a, b, c, d, .own (iL st), e, .val (.int (k : Int)), .un, .un] := by
  have e5 : ∀ xs : List D, cutD xs (some (k : Int)) none = xs.drop k := fun xs => by
    rw [cut_from xs (by omega), Int.toNat_natCast]
  unfold C2_law_settled
  exact eLc_f D.int (fun x => !decide (x = 0)) D.int (st.drop k) (by simp only [runF, startE, finF, ioOf, bnd, eVar, eC, eOp, eUn, eIx, eSl, eTup, eLst, eIf, eAnd, eOr, eNot, eChain, tCmpD, tOf, tTru, DS.tAnd, DS.tOr, DS.tNot, asT, truth, aNil, aCons, bNil, bCons, cNil, cCons, oNone, oSome, eVal, eNrm, toVal, deref, derefs, listAt, noPlc, Out.of, retOf, Res.o, ixD, slD, eB, iB, iA, iItems, itemsD, eCall, eCallIo, eCallK, permV, isMut, mutL, remut, eMeth, appendD, popD, eIsi, isi_int, isi_bool, isi_tup, sNil, sSeq, sEx, sRet, sIf, sSet, sSetIx, setIx, setOk_z, setOk_s, nI_un, nI_val, nI_own, listOf_lst, listOf_tup, listOf_fix, putO, sPars, putsR, sPar, sPar3, sAsg, sFor, sRaise, gN, gT, gsC, gsN, addD, subD, mulD, fdivD, modD, powD, cmpD, negD, lenD, listD, tupleD, intD, absD, zipD, enumD, ttYes, wipeE, canWipe, restE, wipSV, Option.getD_some, List.getElem?_cons_zero, List.getElem?_cons_succ, List.set_cons_zero, List.set_cons_succ, List.length_cons, List.length_nil, List.map_cons, List.map_nil, List.getD_cons_zero, List.getD_cons_succ, Option.bind_some, Option.map_some, Option.isSome_some, Option.bind_none, Option.map_none, Option.isSome_none, if_true, if_false, ite_ap, ixN30, ixN31, ixN32, Int.reduceLE, Int.reduceLT, Int.reduceNeg, nab10, nab2, Int.reduceToNat, Nat.reducePow, Nat.reduceLT, reduceCtorEq, atI_z, atI_1, atI_2, atI_3, atI_at, atI_m1, List.replicate, List.cons_append, List.nil_append, List.append_nil, reduceIte, and_self, and_true, true_and, false_and, and_false, ne_eq, not_true_eq_false, not_false_eq_true, eq_self, Bool.true_and, Bool.and_true, Bool.false_and, Bool.and_false, Bool.not_true, Bool.not_false, Bool.false_eq_true, Nat.reduceAdd, Nat.reduceSub, Nat.reduceLeDiff, Nat.reduceLT, e5, iL_drop]; rfl) (sz63 (by rw [List.length_drop]; omega)) rfl (fun x hx => ⟨_, _, _, rfl, by simp only [runF, startE, finF, ioOf, bnd, eVar, eC, eOp, eUn, eIx, eSl, eTup, eLst, eIf, eAnd, eOr, eNot, eChain, tCmpD, tOf, tTru, DS.tAnd, DS.tOr, DS.tNot, asT, truth, aNil, aCons, bNil, bCons, cNil, cCons, oNone, oSome, eVal, eNrm, toVal, deref, derefs, listAt, noPlc, Out.of, retOf, Res.o, ixD, slD, eB, iB, iA, iItems, itemsD, eCall, eCallIo, eCallK, permV, isMut, mutL, remut, eMeth, appendD, popD, eIsi, isi_int, isi_bool, isi_tup, sNil, sSeq, sEx, sRet, sIf, sSet, sSetIx, setIx, setOk_z, setOk_s, nI_un, nI_val, nI_own, listOf_lst, listOf_tup, listOf_fix, putO, sPars, putsR, sPar, sPar3, sAsg, sFor, sRaise, gN, gT, gsC, gsN, addD, subD, mulD, fdivD, modD, powD, cmpD, negD, lenD, listD, tupleD, intD, absD, zipD, enumD, ttYes, wipeE, canWipe, restE, wipSV, Option.getD_some, List.getElem?_cons_zero, List.getElem?_cons_succ, List.set_cons_zero, List.set_cons_succ, List.length_cons, List.length_nil, List.map_cons, List.map_nil, List.getD_cons_zero, List.getD_cons_succ, Option.bind_some, Option.map_some, Option.isSome_some, Option.bind_none, Option.map_none, Option.isSome_none, if_true, if_false, ite_ap, ixN30, ixN31, ixN32, Int.reduceLE, Int.reduceLT, Int.reduceNeg, nab10, nab2, Int.reduceToNat, Nat.reducePow, Nat.reduceLT, reduceCtorEq, atI_z, atI_1, atI_2, atI_3, atI_at, atI_m1, List.replicate, List.cons_append, List.nil_append, List.append_nil, reduceIte, and_self, and_true, true_and, false_and, and_false, ne_eq, not_true_eq_false, not_false_eq_true, eq_self, Bool.true_and, Bool.and_true, Bool.false_and, Bool.and_false, Bool.not_true, Bool.not_false, Bool.false_eq_true, Nat.reduceAdd, Nat.reduceSub, Nat.reduceLeDiff, Nat.reduceLT, neD_int]; rfl, fun _ => ⟨by simp only [runF, startE, finF, ioOf, bnd, eVar, eC, eOp, eUn, eIx, eSl, eTup, eLst, eIf, eAnd, eOr, eNot, eChain, tCmpD, tOf, tTru, DS.tAnd, DS.tOr, DS.tNot, asT, truth, aNil, aCons, bNil, bCons, cNil, cCons, oNone, oSome, eVal, eNrm, toVal, deref, derefs, listAt, noPlc, Out.of, retOf, Res.o, ixD, slD, eB, iB, iA, iItems, itemsD, eCall, eCallIo, eCallK, permV, isMut, mutL, remut, eMeth, appendD, popD, eIsi, isi_int, isi_bool, isi_tup, sNil, sSeq, sEx, sRet, sIf, sSet, sSetIx, setIx, setOk_z, setOk_s, nI_un, nI_val, nI_own, listOf_lst, listOf_tup, listOf_fix, putO, sPars, putsR, sPar, sPar3, sAsg, sFor, sRaise, gN, gT, gsC, gsN, addD, subD, mulD, fdivD, modD, powD, cmpD, negD, lenD, listD, tupleD, intD, absD, zipD, enumD, ttYes, wipeE, canWipe, restE, wipSV, Option.getD_some, List.getElem?_cons_zero, List.getElem?_cons_succ, List.set_cons_zero, List.set_cons_succ, List.length_cons, List.length_nil, List.map_cons, List.map_nil, List.getD_cons_zero, List.getD_cons_succ, Option.bind_some, Option.map_some, Option.isSome_some, Option.bind_none, Option.map_none, Option.isSome_none, if_true, if_false, ite_ap, ixN30, ixN31, ixN32, Int.reduceLE, Int.reduceLT, Int.reduceNeg, nab10, nab2, Int.reduceToNat, Nat.reducePow, Nat.reduceLT, reduceCtorEq, atI_z, atI_1, atI_2, atI_3, atI_at, atI_m1, List.replicate, List.cons_append, List.nil_append, List.append_nil, reduceIte, and_self, and_true, true_and, false_and, and_false, ne_eq, not_true_eq_false, not_false_eq_true, eq_self, Bool.true_and, Bool.and_true, Bool.false_and, Bool.and_false, Bool.not_true, Bool.not_false, Bool.false_eq_true, Nat.reduceAdd, Nat.reduceSub, Nat.reduceLeDiff, Nat.reduceLT]; rfl, by rfl⟩, fun _ => by rfl⟩) rfl
theorem stps_stl {l : List Int} {o k : Nat} : ((stps l o (l.length - o)).drop k).filter (fun x => !decide (x = 0)) = [] ↔ stl l o k = true := by
  rw [List.filter_eq_nil_iff, stl_iff]
  constructor
  · intro h i hi hn
    have hm : itr dn o (sq l) i ∈ (stps l o (l.length - o)).drop k := by
      rw [List.mem_drop_iff_getElem]
      refine ⟨i - k, by simp [stps]; omega, ?_⟩
      simp only [stps, List.getElem_map, List.getElem_range]
      rw [Nat.add_sub_cancel' hi]
    have := h _ hm
    simpa using this
  · intro h x hx
    rw [List.mem_drop_iff_getElem] at hx
    obtain ⟨i, hi, e⟩ := hx
    simp only [stps, List.getElem_map, List.getElem_range] at e
    rw [← e]
    have : (stps l o (l.length - o)).length = l.length - o := by simp [stps]
    rw [h (k + i) (by omega) (by omega)]
    simp
theorem law_settled_eq {l : List Int} {m : Nat} (hl : l.length ≤ 900) (hm : m ≤ 70) (hb : ∀ x ∈ l, x.natAbs < 2 ^ 1000) : S_law_settled [.tup (iL l), .int (m : Int), .lst lnL] = .ok (.val (oD (fst l (m + 1)))) [] := by
  have loop := sFor_inv (it := iB range1D (bCons (eOp subD (eB lenD (bCons (eVar 0) bNil)) (eVar 3)) bNil)) (g := gN 5) (b := FB1_law_settled) ((List.range (l.length - (m + 1))).map fun (i : Nat) => D.int (i : Int)) (fun k ε => ∃ s, nI s = true ∧ ε = [.val (.tup (iL l)), .val (.int (m : Int)), .val (.lst lnL), .val (.int ((m + 1 : Nat) : Int)), .own (iL (stps l (m + 1) k)), s, .un, .un, .un])
    (ε := [.val (.tup (iL l)), .val (.int (m : Int)), .val (.lst lnL), .val (.int ((m + 1 : Nat) : Int)), .own [], .un, .un, .un, .un]) (ε1 := [.val (.tup (iL l)), .val (.int (m : Int)), .val (.lst lnL), .val (.int ((m + 1 : Nat) : Int)), .own [], .un, .un, .un, .un]) (by
      simp only [runF, startE, finF, ioOf, bnd, eVar, eC, eOp, eUn, eIx, eSl, eTup, eLst, eIf, eAnd, eOr, eNot, eChain, tCmpD, tOf, tTru, DS.tAnd, DS.tOr, DS.tNot, asT, truth, aNil, aCons, bNil, bCons, cNil, cCons, oNone, oSome, eVal, eNrm, toVal, deref, derefs, listAt, noPlc, Out.of, retOf, Res.o, ixD, slD, eB, iB, iA, iItems, itemsD, eCall, eCallIo, eCallK, permV, isMut, mutL, remut, eMeth, appendD, popD, eIsi, isi_int, isi_bool, isi_tup, sNil, sSeq, sEx, sRet, sIf, sSet, sSetIx, setIx, setOk_z, setOk_s, nI_un, nI_val, nI_own, listOf_lst, listOf_tup, listOf_fix, putO, sPars, putsR, sPar, sPar3, sAsg, sFor, sRaise, gN, gT, gsC, gsN, addD, subD, mulD, fdivD, modD, powD, cmpD, negD, lenD, listD, tupleD, intD, absD, zipD, enumD, ttYes, wipeE, canWipe, restE, wipSV, Option.getD_some, List.getElem?_cons_zero, List.getElem?_cons_succ, List.set_cons_zero, List.set_cons_succ, List.length_cons, List.length_nil, List.map_cons, List.map_nil, List.getD_cons_zero, List.getD_cons_succ, Option.bind_some, Option.map_some, Option.isSome_some, Option.bind_none, Option.map_none, Option.isSome_none, if_true, if_false, ite_ap, ixN30, ixN31, ixN32, Int.reduceLE, Int.reduceLT, Int.reduceNeg, nab10, nab2, Int.reduceToNat, Nat.reducePow, Nat.reduceLT, reduceCtorEq, atI_z, atI_1, atI_2, atI_3, atI_at, atI_m1, List.replicate, List.cons_append, List.nil_append, List.append_nil, reduceIte, and_self, and_true, true_and, false_and, and_false, ne_eq, not_true_eq_false, not_false_eq_true, eq_self, Bool.true_and, Bool.and_true, Bool.false_and, Bool.and_false, Bool.not_true, Bool.not_false, Bool.false_eq_true, Nat.reduceAdd, Nat.reduceSub, Nat.reduceLeDiff, Nat.reduceLT, iL_len, range_sub (show l.length ≤ 1000 by omega) (show m + 1 ≤ 1000 by omega)]) (by
      rintro k d ε hk ⟨s, hs, rfl⟩
      have hk2 : k < l.length - (m + 1) := by
        have := (List.getElem?_eq_some_iff.mp hk).1
        simpa using this
      rw [List.getElem?_map, List.getElem?_range hk2] at hk
      cases hk
      exact ⟨_, _, by simp only [runF, startE, finF, ioOf, bnd, eVar, eC, eOp, eUn, eIx, eSl, eTup, eLst, eIf, eAnd, eOr, eNot, eChain, tCmpD, tOf, tTru, DS.tAnd, DS.tOr, DS.tNot, asT, truth, aNil, aCons, bNil, bCons, cNil, cCons, oNone, oSome, eVal, eNrm, toVal, deref, derefs, listAt, noPlc, Out.of, retOf, Res.o, ixD, slD, eB, iB, iA, iItems, itemsD, eCall, eCallIo, eCallK, permV, isMut, mutL, remut, eMeth, appendD, popD, eIsi, isi_int, isi_bool, isi_tup, sNil, sSeq, sEx, sRet, sIf, sSet, sSetIx, setIx, setOk_z, setOk_s, nI_un, nI_val, nI_own, listOf_lst, listOf_tup, listOf_fix, putO, sPars, putsR, sPar, sPar3, sAsg, sFor, sRaise, gN, gT, gsC, gsN, addD, subD, mulD, fdivD, modD, powD, cmpD, negD, lenD, listD, tupleD, intD, absD, zipD, enumD, ttYes, wipeE, canWipe, restE, wipSV, Option.getD_some, List.getElem?_cons_zero, List.getElem?_cons_succ, List.set_cons_zero, List.set_cons_succ, List.length_cons, List.length_nil, List.map_cons, List.map_nil, List.getD_cons_zero, List.getD_cons_succ, Option.bind_some, Option.map_some, Option.isSome_some, Option.bind_none, Option.map_none, Option.isSome_none, if_true, if_false, ite_ap, ixN30, ixN31, ixN32, Int.reduceLE, Int.reduceLT, Int.reduceNeg, nab10, nab2, Int.reduceToNat, Nat.reducePow, Nat.reduceLT, reduceCtorEq, atI_z, atI_1, atI_2, atI_3, atI_at, atI_m1, List.replicate, List.cons_append, List.nil_append, List.append_nil, reduceIte, and_self, and_true, true_and, false_and, and_false, ne_eq, not_true_eq_false, not_false_eq_true, eq_self, Bool.true_and, Bool.and_true, Bool.false_and, Bool.and_false, Bool.not_true, Bool.not_false, Bool.false_eq_true, Nat.reduceAdd, Nat.reduceSub, Nat.reduceLeDiff, Nat.reduceLT, hs] <;> rfl, .inl (FB_settled _ (by omega) hl (by omega) hb), _, rfl, rfl⟩) ⟨_, rfl, rfl⟩
  obtain ⟨ε', h1, s, hs, rfl⟩ := loop
  rw [List.length_map, List.length_range] at h1
  have hsl : (stps l (m + 1) (l.length - (m + 1))).length = l.length - (m + 1) := by simp [stps]
  have loop2 := sFor_find (it := iB range1D (bCons (eB lenD (bCons (eVar 4) bNil)) bNil)) (g := gN 6) (b := FB2_law_settled) (stl l (m + 1)) (fun ε => ∃ t, nI t = true ∧ ε = [.val (.tup (iL l)), .val (.int (m : Int)), .val (.lst lnL), .val (.int ((m + 1 : Nat) : Int)), .own (iL (stps l (m + 1) (l.length - (m + 1)))), s, t, .un, .un]) (l.length - (m + 1))
    (ε := [.val (.tup (iL l)), .val (.int (m : Int)), .val (.lst lnL), .val (.int ((m + 1 : Nat) : Int)), .own (iL (stps l (m + 1) (l.length - (m + 1)))), s, .un, .un, .un]) (ε1 := [.val (.tup (iL l)), .val (.int (m : Int)), .val (.lst lnL), .val (.int ((m + 1 : Nat) : Int)), .own (iL (stps l (m + 1) (l.length - (m + 1)))), s, .un, .un, .un]) (by
      simp only [runF, startE, finF, ioOf, bnd, eVar, eC, eOp, eUn, eIx, eSl, eTup, eLst, eIf, eAnd, eOr, eNot, eChain, tCmpD, tOf, tTru, DS.tAnd, DS.tOr, DS.tNot, asT, truth, aNil, aCons, bNil, bCons, cNil, cCons, oNone, oSome, eVal, eNrm, toVal, deref, derefs, listAt, noPlc, Out.of, retOf, Res.o, ixD, slD, eB, iB, iA, iItems, itemsD, eCall, eCallIo, eCallK, permV, isMut, mutL, remut, eMeth, appendD, popD, eIsi, isi_int, isi_bool, isi_tup, sNil, sSeq, sEx, sRet, sIf, sSet, sSetIx, setIx, setOk_z, setOk_s, nI_un, nI_val, nI_own, listOf_lst, listOf_tup, listOf_fix, putO, sPars, putsR, sPar, sPar3, sAsg, sFor, sRaise, gN, gT, gsC, gsN, addD, subD, mulD, fdivD, modD, powD, cmpD, negD, lenD, listD, tupleD, intD, absD, zipD, enumD, ttYes, wipeE, canWipe, restE, wipSV, Option.getD_some, List.getElem?_cons_zero, List.getElem?_cons_succ, List.set_cons_zero, List.set_cons_succ, List.length_cons, List.length_nil, List.map_cons, List.map_nil, List.getD_cons_zero, List.getD_cons_succ, Option.bind_some, Option.map_some, Option.isSome_some, Option.bind_none, Option.map_none, Option.isSome_none, if_true, if_false, ite_ap, ixN30, ixN31, ixN32, Int.reduceLE, Int.reduceLT, Int.reduceNeg, nab10, nab2, Int.reduceToNat, Nat.reducePow, Nat.reduceLT, reduceCtorEq, atI_z, atI_1, atI_2, atI_3, atI_at, atI_m1, List.replicate, List.cons_append, List.nil_append, List.append_nil, reduceIte, and_self, and_true, true_and, false_and, and_false, ne_eq, not_true_eq_false, not_false_eq_true, eq_self, Bool.true_and, Bool.and_true, Bool.false_and, Bool.and_false, Bool.not_true, Bool.not_false, Bool.false_eq_true, Nat.reduceAdd, Nat.reduceSub, Nat.reduceLeDiff, Nat.reduceLT, iL_len, hsl, range1_n (show l.length - (m + 1) ≤ 1000000 by omega)]) (by
      rintro i hi ε ⟨t, ht, rfl⟩
      have hc := fun a b c d e => C2_settled (st := stps l (m + 1) (l.length - (m + 1))) (k := i) a b c d e (by omega)
      have h0 : 0 ≤ sizeLine := Nat.zero_le _
      have e7 := stps_stl (l := l) (o := m + 1) (k := i)
      refine ⟨_, by simp only [runF, startE, finF, ioOf, bnd, eVar, eC, eOp, eUn, eIx, eSl, eTup, eLst, eIf, eAnd, eOr, eNot, eChain, tCmpD, tOf, tTru, DS.tAnd, DS.tOr, DS.tNot, asT, truth, aNil, aCons, bNil, bCons, cNil, cCons, oNone, oSome, eVal, eNrm, toVal, deref, derefs, listAt, noPlc, Out.of, retOf, Res.o, ixD, slD, eB, iB, iA, iItems, itemsD, eCall, eCallIo, eCallK, permV, isMut, mutL, remut, eMeth, appendD, popD, eIsi, isi_int, isi_bool, isi_tup, sNil, sSeq, sEx, sRet, sIf, sSet, sSetIx, setIx, setOk_z, setOk_s, nI_un, nI_val, nI_own, listOf_lst, listOf_tup, listOf_fix, putO, sPars, putsR, sPar, sPar3, sAsg, sFor, sRaise, gN, gT, gsC, gsN, addD, subD, mulD, fdivD, modD, powD, cmpD, negD, lenD, listD, tupleD, intD, absD, zipD, enumD, ttYes, wipeE, canWipe, restE, wipSV, Option.getD_some, List.getElem?_cons_zero, List.getElem?_cons_succ, List.set_cons_zero, List.set_cons_succ, List.length_cons, List.length_nil, List.map_cons, List.map_nil, List.getD_cons_zero, List.getD_cons_succ, Option.bind_some, Option.map_some, Option.isSome_some, Option.bind_none, Option.map_none, Option.isSome_none, if_true, if_false, ite_ap, ixN30, ixN31, ixN32, Int.reduceLE, Int.reduceLT, Int.reduceNeg, nab10, nab2, Int.reduceToNat, Nat.reducePow, Nat.reduceLT, reduceCtorEq, atI_z, atI_1, atI_2, atI_3, atI_at, atI_m1, List.replicate, List.cons_append, List.nil_append, List.append_nil, reduceIte, and_self, and_true, true_and, false_and, and_false, ne_eq, not_true_eq_false, not_false_eq_true, eq_self, Bool.true_and, Bool.and_true, Bool.false_and, Bool.and_false, Bool.not_true, Bool.not_false, Bool.false_eq_true, Nat.reduceAdd, Nat.reduceSub, Nat.reduceLeDiff, Nat.reduceLT, ht] <;> rfl, fun hp => ?_, fun hp => ?_⟩
      · have e8 : ¬ ((stps l (m + 1) (l.length - (m + 1))).drop i).filter (fun x => !decide (x = 0)) = [] := fun z => by
          rw [e7.mp z] at hp; cases hp
        exact ⟨_, by simp only [FB2_law_settled, runF, startE, finF, ioOf, bnd, eVar, eC, eOp, eUn, eIx, eSl, eTup, eLst, eIf, eAnd, eOr, eNot, eChain, tCmpD, tOf, tTru, DS.tAnd, DS.tOr, DS.tNot, asT, truth, aNil, aCons, bNil, bCons, cNil, cCons, oNone, oSome, eVal, eNrm, toVal, deref, derefs, listAt, noPlc, Out.of, retOf, Res.o, ixD, slD, eB, iB, iA, iItems, itemsD, eCall, eCallIo, eCallK, permV, isMut, mutL, remut, eMeth, appendD, popD, eIsi, isi_int, isi_bool, isi_tup, sNil, sSeq, sEx, sRet, sIf, sSet, sSetIx, setIx, setOk_z, setOk_s, nI_un, nI_val, nI_own, listOf_lst, listOf_tup, listOf_fix, putO, sPars, putsR, sPar, sPar3, sAsg, sFor, sRaise, gN, gT, gsC, gsN, addD, subD, mulD, fdivD, modD, powD, cmpD, negD, lenD, listD, tupleD, intD, absD, zipD, enumD, ttYes, wipeE, canWipe, restE, wipSV, Option.getD_some, List.getElem?_cons_zero, List.getElem?_cons_succ, List.set_cons_zero, List.set_cons_succ, List.length_cons, List.length_nil, List.map_cons, List.map_nil, List.getD_cons_zero, List.getD_cons_succ, Option.bind_some, Option.map_some, Option.isSome_some, Option.bind_none, Option.map_none, Option.isSome_none, if_true, if_false, ite_ap, ixN30, ixN31, ixN32, Int.reduceLE, Int.reduceLT, Int.reduceNeg, nab10, nab2, Int.reduceToNat, Nat.reducePow, Nat.reduceLT, reduceCtorEq, atI_z, atI_1, atI_2, atI_3, atI_at, atI_m1, List.replicate, List.cons_append, List.nil_append, List.append_nil, reduceIte, and_self, and_true, true_and, false_and, and_false, ne_eq, not_true_eq_false, not_false_eq_true, eq_self, Bool.true_and, Bool.and_true, Bool.false_and, Bool.and_false, Bool.not_true, Bool.not_false, Bool.false_eq_true, Nat.reduceAdd, Nat.reduceSub, Nat.reduceLeDiff, Nat.reduceLT, hc, h0, eqD_nil, e8, decide_false] <;> rfl, _, rfl, rfl⟩
      · have e8 := e7.mpr hp
        exact ⟨_, by simp only [FB2_law_settled, runF, startE, finF, ioOf, bnd, eVar, eC, eOp, eUn, eIx, eSl, eTup, eLst, eIf, eAnd, eOr, eNot, eChain, tCmpD, tOf, tTru, DS.tAnd, DS.tOr, DS.tNot, asT, truth, aNil, aCons, bNil, bCons, cNil, cCons, oNone, oSome, eVal, eNrm, toVal, deref, derefs, listAt, noPlc, Out.of, retOf, Res.o, ixD, slD, eB, iB, iA, iItems, itemsD, eCall, eCallIo, eCallK, permV, isMut, mutL, remut, eMeth, appendD, popD, eIsi, isi_int, isi_bool, isi_tup, sNil, sSeq, sEx, sRet, sIf, sSet, sSetIx, setIx, setOk_z, setOk_s, nI_un, nI_val, nI_own, listOf_lst, listOf_tup, listOf_fix, putO, sPars, putsR, sPar, sPar3, sAsg, sFor, sRaise, gN, gT, gsC, gsN, addD, subD, mulD, fdivD, modD, powD, cmpD, negD, lenD, listD, tupleD, intD, absD, zipD, enumD, ttYes, wipeE, canWipe, restE, wipSV, Option.getD_some, List.getElem?_cons_zero, List.getElem?_cons_succ, List.set_cons_zero, List.set_cons_succ, List.length_cons, List.length_nil, List.map_cons, List.map_nil, List.getD_cons_zero, List.getD_cons_succ, Option.bind_some, Option.map_some, Option.isSome_some, Option.bind_none, Option.map_none, Option.isSome_none, if_true, if_false, ite_ap, ixN30, ixN31, ixN32, Int.reduceLE, Int.reduceLT, Int.reduceNeg, nab10, nab2, Int.reduceToNat, Nat.reducePow, Nat.reduceLT, reduceCtorEq, atI_z, atI_1, atI_2, atI_3, atI_at, atI_m1, List.replicate, List.cons_append, List.nil_append, List.append_nil, reduceIte, and_self, and_true, true_and, false_and, and_false, ne_eq, not_true_eq_false, not_false_eq_true, eq_self, Bool.true_and, Bool.and_true, Bool.false_and, Bool.and_false, Bool.not_true, Bool.not_false, Bool.false_eq_true, Nat.reduceAdd, Nat.reduceSub, Nat.reduceLeDiff, Nat.reduceLT, hc, h0, eqD_nil, e8, decide_true] <;> rfl⟩) ⟨_, rfl, rfl⟩
  have h0 : 0 ≤ sizeLine := Nat.zero_le _
  have em : (m : Int) + 1 = ((m + 1 : Nat) : Int) := by omega
  unfold S_law_settled runF
  have start : B_law_settled (startE false 9 [.tup (iL l), .int (m : Int), .lst lnL]) = sSeq (sFor (iB range1D (bCons (eB lenD (bCons (eVar 4) bNil)) bNil)) (gN 6) FB2_law_settled) (sRet (eC .non)) [.val (.tup (iL l)), .val (.int (m : Int)), .val (.lst lnL), .val (.int ((m + 1 : Nat) : Int)), .own (iL (stps l (m + 1) (l.length - (m + 1)))), s, .un, .un, .un] := by
    unfold B_law_settled
    refine Eq.trans (sSeq_nx (by simp only [runF, startE, finF, ioOf, bnd, eVar, eC, eOp, eUn, eIx, eSl, eTup, eLst, eIf, eAnd, eOr, eNot, eChain, tCmpD, tOf, tTru, DS.tAnd, DS.tOr, DS.tNot, asT, truth, aNil, aCons, bNil, bCons, cNil, cCons, oNone, oSome, eVal, eNrm, toVal, deref, derefs, listAt, noPlc, Out.of, retOf, Res.o, ixD, slD, eB, iB, iA, iItems, itemsD, eCall, eCallIo, eCallK, permV, isMut, mutL, remut, eMeth, appendD, popD, eIsi, isi_int, isi_bool, isi_tup, sNil, sSeq, sEx, sRet, sIf, sSet, sSetIx, setIx, setOk_z, setOk_s, nI_un, nI_val, nI_own, listOf_lst, listOf_tup, listOf_fix, putO, sPars, putsR, sPar, sPar3, sAsg, sFor, sRaise, gN, gT, gsC, gsN, addD, subD, mulD, fdivD, modD, powD, cmpD, negD, lenD, listD, tupleD, intD, absD, zipD, enumD, ttYes, wipeE, canWipe, restE, wipSV, Option.getD_some, List.getElem?_cons_zero, List.getElem?_cons_succ, List.set_cons_zero, List.set_cons_succ, List.length_cons, List.length_nil, List.map_cons, List.map_nil, List.getD_cons_zero, List.getD_cons_succ, Option.bind_some, Option.map_some, Option.isSome_some, Option.bind_none, Option.map_none, Option.isSome_none, if_true, if_false, ite_ap, ixN30, ixN31, ixN32, Int.reduceLE, Int.reduceLT, Int.reduceNeg, nab10, nab2, Int.reduceToNat, Nat.reducePow, Nat.reduceLT, reduceCtorEq, atI_z, atI_1, atI_2, atI_3, atI_at, atI_m1, List.replicate, List.cons_append, List.nil_append, List.append_nil, reduceIte, and_self, and_true, true_and, false_and, and_false, ne_eq, not_true_eq_false, not_false_eq_true, eq_self, Bool.true_and, Bool.and_true, Bool.false_and, Bool.and_false, Bool.not_true, Bool.not_false, Bool.false_eq_true, Nat.reduceAdd, Nat.reduceSub, Nat.reduceLeDiff, Nat.reduceLT, h0, em] <;> rfl)) ?_
    exact sSeq_nx h1
  rw [start]
  unfold fst
  cases hq : (List.range (l.length - (m + 1))).find? (stl l (m + 1)) with
  | some a =>
    rw [hq] at loop2
    obtain ⟨ε', h2⟩ := loop2
    rw [sSeq_rt h2]
    rfl
  | none =>
    rw [hq] at loop2
    obtain ⟨ε', h2, t, ht, rfl⟩ := loop2
    rw [sSeq_nx h2]
    rfl
end K34

set_option Elab.async false
set_option linter.all false
set_option maxRecDepth 100000
set_option maxHeartbeats 4000000
set_option exponentiation.threshold 5000
namespace K34
open PySem DS
theorem inB_iL (w : Int) : ∀ ns : List Int, inB (.int w) (iL ns) = decide (w ∈ ns)
  | [] => by simp [inB, L2.inV, iL]
  | n :: r => by
    have ih := inB_iL w r
    unfold inB L2.inV at ih ⊢
    simp only [iL_cons, List.map_cons, List.any_cons, ih, List.mem_cons]
    have e : L2.eqV (vOf (.int n)) (vOf (.int w)) = decide (w = n) := by
      simp only [vOf, L2.eqV]
      by_cases h : w = n
      · subst h; simp
      · simp [h, Ne.symm h]
    rw [e]
    by_cases h : w = n <;> by_cases h2 : w ∈ r <;> simp [h, h2]
theorem flat_iL : ∀ ns : List Int, (iL ns).all flatD = true
  | [] => rfl
  | n :: r => by
    rw [iL_cons, List.all_cons, flat_iL r]; rfl
theorem inD_tup (w : Int) (ns : List Int) : inD false (.int w) (.tup (iL ns)) = some (.tmp (.bl (decide (w ∈ ns)))) := by
  show inS false (.int w) (iL ns) = _
  unfold inS
  rw [flat_iL, inB_iL]; rfl
theorem one_ints {n : Nat} {l : List D} {ns : List Int} (F : Feed n l) (hn : n < 10 ^ 9) (h0 : ns ≠ []) (h1 : ns.length ≤ 1000) : ∃ x l', S_law_one [.lst l, .lst (iL ns)] = .ok (.val (.int x)) l' ∧ x ∈ ns ∧ Feed (n + 1) l' := by
  obtain ⟨d, l', e, hd, F'⟩ := draw_one F hn (ds := iL ns) (by simpa [iL] using h0) (by rw [iL_len]; exact h1)
  obtain ⟨x, hx, rfl⟩ := List.mem_map.mp hd
  exact ⟨x, l', e, hx, F'⟩
theorem p12 : (10 : Int) ^ 12 < 10 ^ 50 := by decide
section
variable {n : Nat} {l : List D} {a4 a5 a6 a7 a8 a1 a10 : SV}
/-- a draw less the size -/
theorem te_row {many size : Int} (F : Feed n l) (hn : n < 10 ^ 9) (h0 : 1 ≤ size) (h1 : size ≤ 10 ^ 12) (d : D) (a2 : SV) : ∃ x l', eVal (eOp subD (eCallIo S_law_draw 0 (aCons (eOp addD (eOp mulD (eC (.int 2)) (eVar 3)) (eC (.int 1))) aNil)) (eVar 3)) [.inn l, a1, a2, .val (.int size), a4, a5, a6, a7, a8, .val d, a10] = .ok (.int x) [.inn l', a1, a2, .val (.int size), a4, a5, a6, a7, a8, .val d, a10] ∧ x.natAbs < 2 ^ 50 ∧ Feed (n + 1) l' := by
  obtain ⟨r, l', e, r0, r1, F'⟩ := draw_ok F hn (m := 2 * size + 1) (by omega) (by have := p12; omega)
  have m1 : mulOk 2 size = true := mulOk_s (by decide) (by decide)
  refine ⟨r - size, l', by simp only [runF, startE, finF, ioOf, bnd, eVar, eC, eOp, eUn, eIx, eSl, eTup, eLst, eIf, eAnd, eOr, eNot, eChain, tCmpD, tOf, tTru, DS.tAnd, DS.tOr, DS.tNot, asT, truth, aNil, aCons, bNil, bCons, cNil, cCons, oNone, oSome, eVal, eNrm, toVal, deref, derefs, listAt, noPlc, Out.of, retOf, Res.o, ixD, slD, eB, iB, iA, iItems, itemsD, eCall, eCallIo, eCallK, permV, isMut, mutL, remut, eMeth, appendD, popD, eIsi, isi_int, isi_bool, isi_tup, sNil, sSeq, sEx, sRet, sIf, sSet, sSetIx, setIx, setOk_z, setOk_s, nI_un, nI_val, nI_own, listOf_lst, listOf_tup, listOf_fix, putO, sPars, putsR, sPar, sPar3, sAsg, sFor, sRaise, gN, gT, gsC, gsN, addD, subD, mulD, fdivD, modD, powD, cmpD, negD, lenD, listD, tupleD, intD, absD, zipD, enumD, ttYes, wipeE, canWipe, restE, wipSV, Option.getD_some, List.getElem?_cons_zero, List.getElem?_cons_succ, List.set_cons_zero, List.set_cons_succ, List.length_cons, List.length_nil, List.map_cons, List.map_nil, List.getD_cons_zero, List.getD_cons_succ, Option.bind_some, Option.map_some, Option.isSome_some, Option.bind_none, Option.map_none, Option.isSome_none, if_true, if_false, ite_ap, ixN30, ixN31, ixN32, Int.reduceLE, Int.reduceLT, Int.reduceNeg, nab10, nab2, Int.reduceToNat, Nat.reducePow, Nat.reduceLT, reduceCtorEq, atI_z, atI_1, atI_2, atI_3, atI_at, atI_m1, List.replicate, List.cons_append, List.nil_append, List.append_nil, reduceIte, and_self, and_true, true_and, false_and, and_false, ne_eq, not_true_eq_false, not_false_eq_true, eq_self, Bool.true_and, Bool.and_true, Bool.false_and, Bool.and_false, Bool.not_true, Bool.not_false, Bool.false_eq_true, Nat.reduceAdd, Nat.reduceSub, Nat.reduceLeDiff, Nat.reduceLT, m1, e], ?_, F'⟩
  have : (10 : Int) ^ 12 < 2 ^ 50 := by decide
  omega
theorem lc_row {many size : Int} (a2 : SV) (h0 : 1 ≤ size) (h1 : size ≤ 10 ^ 12) (ds : List D) (F : Feed n l) (hn : n + ds.length < 10 ^ 9) :
    ∃ acc ε', lcL [9] (gN 9) ttYes (eOp subD (eCallIo S_law_draw 0 (aCons (eOp addD (eOp mulD (eC (.int 2)) (eVar 3)) (eC (.int 1))) aNil)) (eVar 3)) ds [] [.inn l, a1, a2, .val (.int size), a4, a5, a6, a7, a8, .un, a10] = .ok acc ε' ∧
      ∃ ns l', acc = iL ns ∧ ns.length = ds.length ∧ (∀ x ∈ ns, x.natAbs < 2 ^ 50) ∧ Feed (n + ds.length) l' ∧ ε' = [.inn l', a1, a2, .val (.int size), a4, a5, a6, a7, a8, .un, a10] := by
  obtain ⟨acc, ε', h2, h3⟩ := lcL_inv (te := eOp subD (eCallIo S_law_draw 0 (aCons (eOp addD (eOp mulD (eC (.int 2)) (eVar 3)) (eC (.int 1))) aNil)) (eVar 3)) (vs := [9]) (g := gN 9)
    (fun k acc ε => ∃ ns l', acc = iL ns ∧ ns.length = k ∧ (∀ x ∈ ns, x.natAbs < 2 ^ 50) ∧ Feed (n + k) l' ∧ ε = [.inn l', a1, a2, .val (.int size), a4, a5, a6, a7, a8, .un, a10]) ds 0 [] [.inn l, a1, a2, .val (.int size), a4, a5, a6, a7, a8, .un, a10] (by
      rintro k d acc ε hk ⟨ns, l', rfl, hl, hx, F', rfl⟩
      have hk2 : k < ds.length := (List.getElem?_eq_some_iff.mp hk).1
      obtain ⟨x, l2, e, e2, F2⟩ := te_row (many := many) (a1 := a1) (a4 := a4) (a5 := a5) (a6 := a6) (a7 := a7) (a8 := a8) (a10 := a10) F' (by omega) h0 h1 d a2
      exact ⟨_, _, _, by simp only [runF, startE, finF, ioOf, bnd, eVar, eC, eOp, eUn, eIx, eSl, eTup, eLst, eIf, eAnd, eOr, eNot, eChain, tCmpD, tOf, tTru, DS.tAnd, DS.tOr, DS.tNot, asT, truth, aNil, aCons, bNil, bCons, cNil, cCons, oNone, oSome, eVal, eNrm, toVal, deref, derefs, listAt, noPlc, Out.of, retOf, Res.o, ixD, slD, eB, iB, iA, iItems, itemsD, eCall, eCallIo, eCallK, permV, isMut, mutL, remut, eMeth, appendD, popD, eIsi, isi_int, isi_bool, isi_tup, sNil, sSeq, sEx, sRet, sIf, sSet, sSetIx, setIx, setOk_z, setOk_s, nI_un, nI_val, nI_own, listOf_lst, listOf_tup, listOf_fix, putO, sPars, putsR, sPar, sPar3, sAsg, sFor, sRaise, gN, gT, gsC, gsN, addD, subD, mulD, fdivD, modD, powD, cmpD, negD, lenD, listD, tupleD, intD, absD, zipD, enumD, ttYes, wipeE, canWipe, restE, wipSV, Option.getD_some, List.getElem?_cons_zero, List.getElem?_cons_succ, List.set_cons_zero, List.set_cons_succ, List.length_cons, List.length_nil, List.map_cons, List.map_nil, List.getD_cons_zero, List.getD_cons_succ, Option.bind_some, Option.map_some, Option.isSome_some, Option.bind_none, Option.map_none, Option.isSome_none, if_true, if_false, ite_ap, ixN30, ixN31, ixN32, Int.reduceLE, Int.reduceLT, Int.reduceNeg, nab10, nab2, Int.reduceToNat, Nat.reducePow, Nat.reduceLT, reduceCtorEq, atI_z, atI_1, atI_2, atI_3, atI_at, atI_m1, List.replicate, List.cons_append, List.nil_append, List.append_nil, reduceIte, and_self, and_true, true_and, false_and, and_false, ne_eq, not_true_eq_false, not_false_eq_true, eq_self, Bool.true_and, Bool.and_true, Bool.false_and, Bool.and_false, Bool.not_true, Bool.not_false, Bool.false_eq_true, Nat.reduceAdd, Nat.reduceSub, Nat.reduceLeDiff, Nat.reduceLT] <;> rfl, e, ns ++ [x], l2, by simp [iL], by simp; omega, by
        intro y hy
        rcases List.mem_append.mp hy with hy | hy
        · exact hx y hy
        · simp at hy; rw [hy]; exact e2, by rw [Nat.zero_add, ← Nat.add_assoc] at *; exact F2, by simp only [runF, startE, finF, ioOf, bnd, eVar, eC, eOp, eUn, eIx, eSl, eTup, eLst, eIf, eAnd, eOr, eNot, eChain, tCmpD, tOf, tTru, DS.tAnd, DS.tOr, DS.tNot, asT, truth, aNil, aCons, bNil, bCons, cNil, cCons, oNone, oSome, eVal, eNrm, toVal, deref, derefs, listAt, noPlc, Out.of, retOf, Res.o, ixD, slD, eB, iB, iA, iItems, itemsD, eCall, eCallIo, eCallK, permV, isMut, mutL, remut, eMeth, appendD, popD, eIsi, isi_int, isi_bool, isi_tup, sNil, sSeq, sEx, sRet, sIf, sSet, sSetIx, setIx, setOk_z, setOk_s, nI_un, nI_val, nI_own, listOf_lst, listOf_tup, listOf_fix, putO, sPars, putsR, sPar, sPar3, sAsg, sFor, sRaise, gN, gT, gsC, gsN, addD, subD, mulD, fdivD, modD, powD, cmpD, negD, lenD, listD, tupleD, intD, absD, zipD, enumD, ttYes, wipeE, canWipe, restE, wipSV, Option.getD_some, List.getElem?_cons_zero, List.getElem?_cons_succ, List.set_cons_zero, List.set_cons_succ, List.length_cons, List.length_nil, List.map_cons, List.map_nil, List.getD_cons_zero, List.getD_cons_succ, Option.bind_some, Option.map_some, Option.isSome_some, Option.bind_none, Option.map_none, Option.isSome_none, if_true, if_false, ite_ap, ixN30, ixN31, ixN32, Int.reduceLE, Int.reduceLT, Int.reduceNeg, nab10, nab2, Int.reduceToNat, Nat.reducePow, Nat.reduceLT, reduceCtorEq, atI_z, atI_1, atI_2, atI_3, atI_at, atI_m1, List.replicate, List.cons_append, List.nil_append, List.append_nil, reduceIte, and_self, and_true, true_and, false_and, and_false, ne_eq, not_true_eq_false, not_false_eq_true, eq_self, Bool.true_and, Bool.and_true, Bool.false_and, Bool.and_false, Bool.not_true, Bool.not_false, Bool.false_eq_true, Nat.reduceAdd, Nat.reduceSub, Nat.reduceLeDiff, Nat.reduceLT]⟩) ⟨[], l, rfl, rfl, nofun, F, rfl⟩
  rw [Nat.zero_add] at h3
  exact ⟨acc, ε', h2, h3⟩
end
end K34

set_option Elab.async false
set_option linter.all false
set_option maxRecDepth 100000
set_option maxHeartbeats 4000000
set_option exponentiation.threshold 5000
namespace K34
open PySem DS
def rngD (m : Nat) : List D := (List.range m).map fun (i : Nat) => D.int (i : Int)
theorem rngD_len (m : Nat) : (rngD m).length = m := by simp [rngD]
theorem range1_D {m : Nat} (h : m ≤ 1000000) : range1D [.int (m : Int)] = some (rngD m) := range1_n h
section
variable {n : Nat} {l : List D} {a3 a4 a5 a6 a7 a8 a1 a2 a10 : SV}
theorem C1_row {m : Nat} {size : Int} (F : Feed n l) (hm : m ≤ 40) (hn : n + 40 < 10 ^ 9) (h0 : 1 ≤ size) (h1 : size ≤ 10 ^ 12) :
    ∃ ns l', C1_law_row [.inn l, a1, .val (.int (m : Int)), .val (.int size), a4, a5, a6, a7, a8, .un, a10] = .ok (.own (iL ns)) [.inn l', a1, .val (.int (m : Int)), .val (.int size), a4, a5, a6, a7, a8, .un, a10] ∧ ns.length = m ∧ Feed (n + m) l' := by
  obtain ⟨acc, ε', h2, ns, l', rfl, hl, hx, F', rfl⟩ := lc_row (many := 0) (a1 := a1) (a4 := a4) (a5 := a5) (a6 := a6) (a7 := a7) (a8 := a8) (a10 := a10) (.val (.int (m : Int))) h0 h1 (rngD m) F (by rw [rngD_len]; omega)
  rw [rngD_len] at hl F'
  refine ⟨ns, l', ?_, hl, F'⟩
  unfold C1_law_row
  exact eLc_run (ε1 := [.inn l, a1, .val (.int (m : Int)), .val (.int size), a4, a5, a6, a7, a8, .un, a10]) (by simp only [runF, startE, finF, ioOf, bnd, eVar, eC, eOp, eUn, eIx, eSl, eTup, eLst, eIf, eAnd, eOr, eNot, eChain, tCmpD, tOf, tTru, DS.tAnd, DS.tOr, DS.tNot, asT, truth, aNil, aCons, bNil, bCons, cNil, cCons, oNone, oSome, eVal, eNrm, toVal, deref, derefs, listAt, noPlc, Out.of, retOf, Res.o, ixD, slD, eB, iB, iA, iItems, itemsD, eCall, eCallIo, eCallK, permV, isMut, mutL, remut, eMeth, appendD, popD, eIsi, isi_int, isi_bool, isi_tup, sNil, sSeq, sEx, sRet, sIf, sSet, sSetIx, setIx, setOk_z, setOk_s, nI_un, nI_val, nI_own, listOf_lst, listOf_tup, listOf_fix, putO, sPars, putsR, sPar, sPar3, sAsg, sFor, sRaise, gN, gT, gsC, gsN, addD, subD, mulD, fdivD, modD, powD, cmpD, negD, lenD, listD, tupleD, intD, absD, zipD, enumD, ttYes, wipeE, canWipe, restE, wipSV, Option.getD_some, List.getElem?_cons_zero, List.getElem?_cons_succ, List.set_cons_zero, List.set_cons_succ, List.length_cons, List.length_nil, List.map_cons, List.map_nil, List.getD_cons_zero, List.getD_cons_succ, Option.bind_some, Option.map_some, Option.isSome_some, Option.bind_none, Option.map_none, Option.isSome_none, if_true, if_false, ite_ap, ixN30, ixN31, ixN32, Int.reduceLE, Int.reduceLT, Int.reduceNeg, nab10, nab2, Int.reduceToNat, Nat.reducePow, Nat.reduceLT, reduceCtorEq, atI_z, atI_1, atI_2, atI_3, atI_at, atI_m1, List.replicate, List.cons_append, List.nil_append, List.append_nil, reduceIte, and_self, and_true, true_and, false_and, and_false, ne_eq, not_true_eq_false, not_false_eq_true, eq_self, Bool.true_and, Bool.and_true, Bool.false_and, Bool.and_false, Bool.not_true, Bool.not_false, Bool.false_eq_true, Nat.reduceAdd, Nat.reduceSub, Nat.reduceLeDiff, Nat.reduceLT, range1_D (show m ≤ 1000000 by omega)]) (sz63 (by rw [rngD_len]; omega)) rfl h2 rfl
theorem C3_row {size : Int} (F : Feed n l) (hn : n + 40 < 10 ^ 9) (h0 : 1 ≤ size) (h1 : size ≤ 10 ^ 12) :
    ∃ ns l', C3_law_row [.inn l, a1, a2, .val (.int size), a4, a5, a6, a7, a8, .un, a10] = .ok (.own (iL ns)) [.inn l', a1, a2, .val (.int size), a4, a5, a6, a7, a8, .un, a10] ∧ ns.length ≤ 10 ∧ (∀ x ∈ ns, x.natAbs < 2 ^ 50) ∧ Feed (n + 20) l' := by
  obtain ⟨r, l1, e, r0, r1, F1⟩ := draw_ok F (by omega) (m := 11) (by decide) (by decide)
  obtain ⟨m, rfl⟩ := Int.eq_ofNat_of_zero_le r0
  obtain ⟨acc, ε', h2, ns, l', rfl, hl, hx, F', rfl⟩ := lc_row (many := 0) (a1 := a1) (a4 := a4) (a5 := a5) (a6 := a6) (a7 := a7) (a8 := a8) (a10 := a10) a2 h0 h1 (rngD m) F1 (by rw [rngD_len]; omega)
  rw [rngD_len] at hl F'
  refine ⟨ns, l', ?_, by omega, hx, F'.mono (by omega)⟩
  unfold C3_law_row
  exact eLc_run (ε1 := [.inn l1, a1, a2, .val (.int size), a4, a5, a6, a7, a8, .un, a10]) (by simp only [runF, startE, finF, ioOf, bnd, eVar, eC, eOp, eUn, eIx, eSl, eTup, eLst, eIf, eAnd, eOr, eNot, eChain, tCmpD, tOf, tTru, DS.tAnd, DS.tOr, DS.tNot, asT, truth, aNil, aCons, bNil, bCons, cNil, cCons, oNone, oSome, eVal, eNrm, toVal, deref, derefs, listAt, noPlc, Out.of, retOf, Res.o, ixD, slD, eB, iB, iA, iItems, itemsD, eCall, eCallIo, eCallK, permV, isMut, mutL, remut, eMeth, appendD, popD, eIsi, isi_int, isi_bool, isi_tup, sNil, sSeq, sEx, sRet, sIf, sSet, sSetIx, setIx, setOk_z, setOk_s, nI_un, nI_val, nI_own, listOf_lst, listOf_tup, listOf_fix, putO, sPars, putsR, sPar, sPar3, sAsg, sFor, sRaise, gN, gT, gsC, gsN, addD, subD, mulD, fdivD, modD, powD, cmpD, negD, lenD, listD, tupleD, intD, absD, zipD, enumD, ttYes, wipeE, canWipe, restE, wipSV, Option.getD_some, List.getElem?_cons_zero, List.getElem?_cons_succ, List.set_cons_zero, List.set_cons_succ, List.length_cons, List.length_nil, List.map_cons, List.map_nil, List.getD_cons_zero, List.getD_cons_succ, Option.bind_some, Option.map_some, Option.isSome_some, Option.bind_none, Option.map_none, Option.isSome_none, if_true, if_false, ite_ap, ixN30, ixN31, ixN32, Int.reduceLE, Int.reduceLT, Int.reduceNeg, nab10, nab2, Int.reduceToNat, Nat.reducePow, Nat.reduceLT, reduceCtorEq, atI_z, atI_1, atI_2, atI_3, atI_at, atI_m1, List.replicate, List.cons_append, List.nil_append, List.append_nil, reduceIte, and_self, and_true, true_and, false_and, and_false, ne_eq, not_true_eq_false, not_false_eq_true, eq_self, Bool.true_and, Bool.and_true, Bool.false_and, Bool.and_false, Bool.not_true, Bool.not_false, Bool.false_eq_true, Nat.reduceAdd, Nat.reduceSub, Nat.reduceLeDiff, Nat.reduceLT, e, range1_D (show m ≤ 1000000 by omega)]) (sz63 (by rw [rngD_len]; omega)) rfl h2 rfl
theorem C2_row {m : Nat} (F : Feed n l) (hm : m ≤ 40) (hn : n + 100 < 10 ^ 9) :
    ∃ ns l', C2_law_row [.inn l, a1, .val (.int (m : Int)), a3, a4, a5, a6, a7, a8, .un, a10] = .ok (.own (iL ns)) [.inn l', a1, .val (.int (m : Int)), a3, a4, a5, a6, a7, a8, .un, a10] ∧ ns.length = m ∧ Feed (n + 2 * m) l' := by
  have h4 : 0 + 1 + 1 + 1 + 1 ≤ sizeLine := sz63 (by omega)
  obtain ⟨acc, ε', h2, ns, l', rfl, hl, F', rfl⟩ := eLc_inv (vs := [9]) (it := iB range1D (bCons (eVar 2) bNil)) (g := gN 9) (te := eCallIo S_law_one 0 (aCons (eLst (aCons (eOp subD (eOp powD (eC (.int 10)) (eC (.int 30))) (eC (.int 1))) (aCons (eOp subD (eC (.int 1)) (eOp powD (eC (.int 10)) (eC (.int 30)))) (aCons (eC (.int 0)) (aCons (eCallIo S_law_draw 0 (aCons (eOp powD (eC (.int 10)) (eC (.int 30))) aNil)) aNil))))) aNil)) (rngD m)
    (fun k acc ε => ∃ ns l', acc = iL ns ∧ ns.length = k ∧ Feed (n + 2 * k) l' ∧ ε = [.inn l', a1, .val (.int (m : Int)), a3, a4, a5, a6, a7, a8, .un, a10]) (ε := [.inn l, a1, .val (.int (m : Int)), a3, a4, a5, a6, a7, a8, .un, a10]) (ε1 := [.inn l, a1, .val (.int (m : Int)), a3, a4, a5, a6, a7, a8, .un, a10]) (by simp only [runF, startE, finF, ioOf, bnd, eVar, eC, eOp, eUn, eIx, eSl, eTup, eLst, eIf, eAnd, eOr, eNot, eChain, tCmpD, tOf, tTru, DS.tAnd, DS.tOr, DS.tNot, asT, truth, aNil, aCons, bNil, bCons, cNil, cCons, oNone, oSome, eVal, eNrm, toVal, deref, derefs, listAt, noPlc, Out.of, retOf, Res.o, ixD, slD, eB, iB, iA, iItems, itemsD, eCall, eCallIo, eCallK, permV, isMut, mutL, remut, eMeth, appendD, popD, eIsi, isi_int, isi_bool, isi_tup, sNil, sSeq, sEx, sRet, sIf, sSet, sSetIx, setIx, setOk_z, setOk_s, nI_un, nI_val, nI_own, listOf_lst, listOf_tup, listOf_fix, putO, sPars, putsR, sPar, sPar3, sAsg, sFor, sRaise, gN, gT, gsC, gsN, addD, subD, mulD, fdivD, modD, powD, cmpD, negD, lenD, listD, tupleD, intD, absD, zipD, enumD, ttYes, wipeE, canWipe, restE, wipSV, Option.getD_some, List.getElem?_cons_zero, List.getElem?_cons_succ, List.set_cons_zero, List.set_cons_succ, List.length_cons, List.length_nil, List.map_cons, List.map_nil, List.getD_cons_zero, List.getD_cons_succ, Option.bind_some, Option.map_some, Option.isSome_some, Option.bind_none, Option.map_none, Option.isSome_none, if_true, if_false, ite_ap, ixN30, ixN31, ixN32, Int.reduceLE, Int.reduceLT, Int.reduceNeg, nab10, nab2, Int.reduceToNat, Nat.reducePow, Nat.reduceLT, reduceCtorEq, atI_z, atI_1, atI_2, atI_3, atI_at, atI_m1, List.replicate, List.cons_append, List.nil_append, List.append_nil, reduceIte, and_self, and_true, true_and, false_and, and_false, ne_eq, not_true_eq_false, not_false_eq_true, eq_self, Bool.true_and, Bool.and_true, Bool.false_and, Bool.and_false, Bool.not_true, Bool.not_false, Bool.false_eq_true, Nat.reduceAdd, Nat.reduceSub, Nat.reduceLeDiff, Nat.reduceLT, range1_D (show m ≤ 1000000 by omega)]) (sz63 (by rw [rngD_len]; omega)) rfl (by
      rintro k d acc ε hk ⟨ns, l', rfl, hl, F', rfl⟩
      have hk2 : k < m := by
        have := (List.getElem?_eq_some_iff.mp hk).1
        rw [rngD_len] at this
        exact this
      obtain ⟨r, l2, e, r0, r1, F2⟩ := draw_ok F' (by omega) (m := 10 ^ 30) (by decide) (by decide)
      obtain ⟨x, l3, e3, hx, F3⟩ := one_ints F2 (by omega) (ns := [10 ^ 30 - 1, 1 - 10 ^ 30, 0, r]) nofun (by simp)
      simp only [iL_cons, iL_nil] at e3
      exact ⟨_, .int x, _, by simp only [runF, startE, finF, ioOf, bnd, eVar, eC, eOp, eUn, eIx, eSl, eTup, eLst, eIf, eAnd, eOr, eNot, eChain, tCmpD, tOf, tTru, DS.tAnd, DS.tOr, DS.tNot, asT, truth, aNil, aCons, bNil, bCons, cNil, cCons, oNone, oSome, eVal, eNrm, toVal, deref, derefs, listAt, noPlc, Out.of, retOf, Res.o, ixD, slD, eB, iB, iA, iItems, itemsD, eCall, eCallIo, eCallK, permV, isMut, mutL, remut, eMeth, appendD, popD, eIsi, isi_int, isi_bool, isi_tup, sNil, sSeq, sEx, sRet, sIf, sSet, sSetIx, setIx, setOk_z, setOk_s, nI_un, nI_val, nI_own, listOf_lst, listOf_tup, listOf_fix, putO, sPars, putsR, sPar, sPar3, sAsg, sFor, sRaise, gN, gT, gsC, gsN, addD, subD, mulD, fdivD, modD, powD, cmpD, negD, lenD, listD, tupleD, intD, absD, zipD, enumD, ttYes, wipeE, canWipe, restE, wipSV, Option.getD_some, List.getElem?_cons_zero, List.getElem?_cons_succ, List.set_cons_zero, List.set_cons_succ, List.length_cons, List.length_nil, List.map_cons, List.map_nil, List.getD_cons_zero, List.getD_cons_succ, Option.bind_some, Option.map_some, Option.isSome_some, Option.bind_none, Option.map_none, Option.isSome_none, if_true, if_false, ite_ap, ixN30, ixN31, ixN32, Int.reduceLE, Int.reduceLT, Int.reduceNeg, nab10, nab2, Int.reduceToNat, Nat.reducePow, Nat.reduceLT, reduceCtorEq, atI_z, atI_1, atI_2, atI_3, atI_at, atI_m1, List.replicate, List.cons_append, List.nil_append, List.append_nil, reduceIte, and_self, and_true, true_and, false_and, and_false, ne_eq, not_true_eq_false, not_false_eq_true, eq_self, Bool.true_and, Bool.and_true, Bool.false_and, Bool.and_false, Bool.not_true, Bool.not_false, Bool.false_eq_true, Nat.reduceAdd, Nat.reduceSub, Nat.reduceLeDiff, Nat.reduceLT] <;> rfl, by simp only [runF, startE, finF, ioOf, bnd, eVar, eC, eOp, eUn, eIx, eSl, eTup, eLst, eIf, eAnd, eOr, eNot, eChain, tCmpD, tOf, tTru, DS.tAnd, DS.tOr, DS.tNot, asT, truth, aNil, aCons, bNil, bCons, cNil, cCons, oNone, oSome, eVal, eNrm, toVal, deref, derefs, listAt, noPlc, Out.of, retOf, Res.o, ixD, slD, eB, iB, iA, iItems, itemsD, eCall, eCallIo, eCallK, permV, isMut, mutL, remut, eMeth, appendD, popD, eIsi, isi_int, isi_bool, isi_tup, sNil, sSeq, sEx, sRet, sIf, sSet, sSetIx, setIx, setOk_z, setOk_s, nI_un, nI_val, nI_own, listOf_lst, listOf_tup, listOf_fix, putO, sPars, putsR, sPar, sPar3, sAsg, sFor, sRaise, gN, gT, gsC, gsN, addD, subD, mulD, fdivD, modD, powD, cmpD, negD, lenD, listD, tupleD, intD, absD, zipD, enumD, ttYes, wipeE, canWipe, restE, wipSV, Option.getD_some, List.getElem?_cons_zero, List.getElem?_cons_succ, List.set_cons_zero, List.set_cons_succ, List.length_cons, List.length_nil, List.map_cons, List.map_nil, List.getD_cons_zero, List.getD_cons_succ, Option.bind_some, Option.map_some, Option.isSome_some, Option.bind_none, Option.map_none, Option.isSome_none, if_true, if_false, ite_ap, ixN30, ixN31, ixN32, Int.reduceLE, Int.reduceLT, Int.reduceNeg, nab10, nab2, Int.reduceToNat, Nat.reducePow, Nat.reduceLT, reduceCtorEq, atI_z, atI_1, atI_2, atI_3, atI_at, atI_m1, List.replicate, List.cons_append, List.nil_append, List.append_nil, reduceIte, and_self, and_true, true_and, false_and, and_false, ne_eq, not_true_eq_false, not_false_eq_true, eq_self, Bool.true_and, Bool.and_true, Bool.false_and, Bool.and_false, Bool.not_true, Bool.not_false, Bool.false_eq_true, Nat.reduceAdd, Nat.reduceSub, Nat.reduceLeDiff, Nat.reduceLT, e, e3, h4] <;> rfl, ns ++ [x], l3, by simp [iL], by simp; omega, F3.mono (by omega), by simp only [runF, startE, finF, ioOf, bnd, eVar, eC, eOp, eUn, eIx, eSl, eTup, eLst, eIf, eAnd, eOr, eNot, eChain, tCmpD, tOf, tTru, DS.tAnd, DS.tOr, DS.tNot, asT, truth, aNil, aCons, bNil, bCons, cNil, cCons, oNone, oSome, eVal, eNrm, toVal, deref, derefs, listAt, noPlc, Out.of, retOf, Res.o, ixD, slD, eB, iB, iA, iItems, itemsD, eCall, eCallIo, eCallK, permV, isMut, mutL, remut, eMeth, appendD, popD, eIsi, isi_int, isi_bool, isi_tup, sNil, sSeq, sEx, sRet, sIf, sSet, sSetIx, setIx, setOk_z, setOk_s, nI_un, nI_val, nI_own, listOf_lst, listOf_tup, listOf_fix, putO, sPars, putsR, sPar, sPar3, sAsg, sFor, sRaise, gN, gT, gsC, gsN, addD, subD, mulD, fdivD, modD, powD, cmpD, negD, lenD, listD, tupleD, intD, absD, zipD, enumD, ttYes, wipeE, canWipe, restE, wipSV, Option.getD_some, List.getElem?_cons_zero, List.getElem?_cons_succ, List.set_cons_zero, List.set_cons_succ, List.length_cons, List.length_nil, List.map_cons, List.map_nil, List.getD_cons_zero, List.getD_cons_succ, Option.bind_some, Option.map_some, Option.isSome_some, Option.bind_none, Option.map_none, Option.isSome_none, if_true, if_false, ite_ap, ixN30, ixN31, ixN32, Int.reduceLE, Int.reduceLT, Int.reduceNeg, nab10, nab2, Int.reduceToNat, Nat.reducePow, Nat.reduceLT, reduceCtorEq, atI_z, atI_1, atI_2, atI_3, atI_at, atI_m1, List.replicate, List.cons_append, List.nil_append, List.append_nil, reduceIte, and_self, and_true, true_and, false_and, and_false, ne_eq, not_true_eq_false, not_false_eq_true, eq_self, Bool.true_and, Bool.and_true, Bool.false_and, Bool.and_false, Bool.not_true, Bool.not_false, Bool.false_eq_true, Nat.reduceAdd, Nat.reduceSub, Nat.reduceLeDiff, Nat.reduceLT]⟩) ⟨[], l, rfl, rfl, F, rfl⟩
  rw [rngD_len] at hl F'
  exact ⟨ns, l', h2, hl, F'⟩
theorem C5_row {m : Nat} (F : Feed n l) (hm : m ≤ 40) (hn : n + 100 < 10 ^ 9) :
    ∃ ns l', C5_law_row [.inn l, a1, a2, a3, a4, a5, a6, a7, .val (.int (m : Int)), .un, a10] = .ok (.own (iL ns)) [.inn l', a1, a2, a3, a4, a5, a6, a7, .val (.int (m : Int)), .un, a10] ∧ ns.length = m ∧ Feed (n + m) l' := by
  obtain ⟨acc, ε', h2, ns, l', rfl, hl, F', rfl⟩ := eLc_inv (vs := [9]) (it := iB range1D (bCons (eVar 8) bNil)) (g := gN 9) (te := eOp subD (eCallIo S_law_draw 0 (aCons (eC (.int 21)) aNil)) (eC (.int 10))) (rngD m)
    (fun k acc ε => ∃ ns l', acc = iL ns ∧ ns.length = k ∧ Feed (n + k) l' ∧ ε = [.inn l', a1, a2, a3, a4, a5, a6, a7, .val (.int (m : Int)), .un, a10]) (ε := [.inn l, a1, a2, a3, a4, a5, a6, a7, .val (.int (m : Int)), .un, a10]) (ε1 := [.inn l, a1, a2, a3, a4, a5, a6, a7, .val (.int (m : Int)), .un, a10]) (by simp only [runF, startE, finF, ioOf, bnd, eVar, eC, eOp, eUn, eIx, eSl, eTup, eLst, eIf, eAnd, eOr, eNot, eChain, tCmpD, tOf, tTru, DS.tAnd, DS.tOr, DS.tNot, asT, truth, aNil, aCons, bNil, bCons, cNil, cCons, oNone, oSome, eVal, eNrm, toVal, deref, derefs, listAt, noPlc, Out.of, retOf, Res.o, ixD, slD, eB, iB, iA, iItems, itemsD, eCall, eCallIo, eCallK, permV, isMut, mutL, remut, eMeth, appendD, popD, eIsi, isi_int, isi_bool, isi_tup, sNil, sSeq, sEx, sRet, sIf, sSet, sSetIx, setIx, setOk_z, setOk_s, nI_un, nI_val, nI_own, listOf_lst, listOf_tup, listOf_fix, putO, sPars, putsR, sPar, sPar3, sAsg, sFor, sRaise, gN, gT, gsC, gsN, addD, subD, mulD, fdivD, modD, powD, cmpD, negD, lenD, listD, tupleD, intD, absD, zipD, enumD, ttYes, wipeE, canWipe, restE, wipSV, Option.getD_some, List.getElem?_cons_zero, List.getElem?_cons_succ, List.set_cons_zero, List.set_cons_succ, List.length_cons, List.length_nil, List.map_cons, List.map_nil, List.getD_cons_zero, List.getD_cons_succ, Option.bind_some, Option.map_some, Option.isSome_some, Option.bind_none, Option.map_none, Option.isSome_none, if_true, if_false, ite_ap, ixN30, ixN31, ixN32, Int.reduceLE, Int.reduceLT, Int.reduceNeg, nab10, nab2, Int.reduceToNat, Nat.reducePow, Nat.reduceLT, reduceCtorEq, atI_z, atI_1, atI_2, atI_3, atI_at, atI_m1, List.replicate, List.cons_append, List.nil_append, List.append_nil, reduceIte, and_self, and_true, true_and, false_and, and_false, ne_eq, not_true_eq_false, not_false_eq_true, eq_self, Bool.true_and, Bool.and_true, Bool.false_and, Bool.and_false, Bool.not_true, Bool.not_false, Bool.false_eq_true, Nat.reduceAdd, Nat.reduceSub, Nat.reduceLeDiff, Nat.reduceLT, range1_D (show m ≤ 1000000 by omega)]) (sz63 (by rw [rngD_len]; omega)) rfl (by
      rintro k d acc ε hk ⟨ns, l', rfl, hl, F', rfl⟩
      have hk2 : k < m := by
        have := (List.getElem?_eq_some_iff.mp hk).1
        rw [rngD_len] at this
        exact this
      obtain ⟨r, l2, e, r0, r1, F2⟩ := draw_ok F' (by omega) (m := 21) (by decide) (by decide)
      exact ⟨_, .int (r - 10), _, by simp only [runF, startE, finF, ioOf, bnd, eVar, eC, eOp, eUn, eIx, eSl, eTup, eLst, eIf, eAnd, eOr, eNot, eChain, tCmpD, tOf, tTru, DS.tAnd, DS.tOr, DS.tNot, asT, truth, aNil, aCons, bNil, bCons, cNil, cCons, oNone, oSome, eVal, eNrm, toVal, deref, derefs, listAt, noPlc, Out.of, retOf, Res.o, ixD, slD, eB, iB, iA, iItems, itemsD, eCall, eCallIo, eCallK, permV, isMut, mutL, remut, eMeth, appendD, popD, eIsi, isi_int, isi_bool, isi_tup, sNil, sSeq, sEx, sRet, sIf, sSet, sSetIx, setIx, setOk_z, setOk_s, nI_un, nI_val, nI_own, listOf_lst, listOf_tup, listOf_fix, putO, sPars, putsR, sPar, sPar3, sAsg, sFor, sRaise, gN, gT, gsC, gsN, addD, subD, mulD, fdivD, modD, powD, cmpD, negD, lenD, listD, tupleD, intD, absD, zipD, enumD, ttYes, wipeE, canWipe, restE, wipSV, Option.getD_some, List.getElem?_cons_zero, List.getElem?_cons_succ, List.set_cons_zero, List.set_cons_succ, List.length_cons, List.length_nil, List.map_cons, List.map_nil, List.getD_cons_zero, List.getD_cons_succ, Option.bind_some, Option.map_some, Option.isSome_some, Option.bind_none, Option.map_none, Option.isSome_none, if_true, if_false, ite_ap, ixN30, ixN31, ixN32, Int.reduceLE, Int.reduceLT, Int.reduceNeg, nab10, nab2, Int.reduceToNat, Nat.reducePow, Nat.reduceLT, reduceCtorEq, atI_z, atI_1, atI_2, atI_3, atI_at, atI_m1, List.replicate, List.cons_append, List.nil_append, List.append_nil, reduceIte, and_self, and_true, true_and, false_and, and_false, ne_eq, not_true_eq_false, not_false_eq_true, eq_self, Bool.true_and, Bool.and_true, Bool.false_and, Bool.and_false, Bool.not_true, Bool.not_false, Bool.false_eq_true, Nat.reduceAdd, Nat.reduceSub, Nat.reduceLeDiff, Nat.reduceLT] <;> rfl, by simp only [runF, startE, finF, ioOf, bnd, eVar, eC, eOp, eUn, eIx, eSl, eTup, eLst, eIf, eAnd, eOr, eNot, eChain, tCmpD, tOf, tTru, DS.tAnd, DS.tOr, DS.tNot, asT, truth, aNil, aCons, bNil, bCons, cNil, cCons, oNone, oSome, eVal, eNrm, toVal, deref, derefs, listAt, noPlc, Out.of, retOf, Res.o, ixD, slD, eB, iB, iA, iItems, itemsD, eCall, eCallIo, eCallK, permV, isMut, mutL, remut, eMeth, appendD, popD, eIsi, isi_int, isi_bool, isi_tup, sNil, sSeq, sEx, sRet, sIf, sSet, sSetIx, setIx, setOk_z, setOk_s, nI_un, nI_val, nI_own, listOf_lst, listOf_tup, listOf_fix, putO, sPars, putsR, sPar, sPar3, sAsg, sFor, sRaise, gN, gT, gsC, gsN, addD, subD, mulD, fdivD, modD, powD, cmpD, negD, lenD, listD, tupleD, intD, absD, zipD, enumD, ttYes, wipeE, canWipe, restE, wipSV, Option.getD_some, List.getElem?_cons_zero, List.getElem?_cons_succ, List.set_cons_zero, List.set_cons_succ, List.length_cons, List.length_nil, List.map_cons, List.map_nil, List.getD_cons_zero, List.getD_cons_succ, Option.bind_some, Option.map_some, Option.isSome_some, Option.bind_none, Option.map_none, Option.isSome_none, if_true, if_false, ite_ap, ixN30, ixN31, ixN32, Int.reduceLE, Int.reduceLT, Int.reduceNeg, nab10, nab2, Int.reduceToNat, Nat.reducePow, Nat.reduceLT, reduceCtorEq, atI_z, atI_1, atI_2, atI_3, atI_at, atI_m1, List.replicate, List.cons_append, List.nil_append, List.append_nil, reduceIte, and_self, and_true, true_and, false_and, and_false, ne_eq, not_true_eq_false, not_false_eq_true, eq_self, Bool.true_and, Bool.and_true, Bool.false_and, Bool.and_false, Bool.not_true, Bool.not_false, Bool.false_eq_true, Nat.reduceAdd, Nat.reduceSub, Nat.reduceLeDiff, Nat.reduceLT, e] <;> rfl, ns ++ [r - 10], l2, by simp [iL], by simp; omega, F2.mono (by omega), by simp only [runF, startE, finF, ioOf, bnd, eVar, eC, eOp, eUn, eIx, eSl, eTup, eLst, eIf, eAnd, eOr, eNot, eChain, tCmpD, tOf, tTru, DS.tAnd, DS.tOr, DS.tNot, asT, truth, aNil, aCons, bNil, bCons, cNil, cCons, oNone, oSome, eVal, eNrm, toVal, deref, derefs, listAt, noPlc, Out.of, retOf, Res.o, ixD, slD, eB, iB, iA, iItems, itemsD, eCall, eCallIo, eCallK, permV, isMut, mutL, remut, eMeth, appendD, popD, eIsi, isi_int, isi_bool, isi_tup, sNil, sSeq, sEx, sRet, sIf, sSet, sSetIx, setIx, setOk_z, setOk_s, nI_un, nI_val, nI_own, listOf_lst, listOf_tup, listOf_fix, putO, sPars, putsR, sPar, sPar3, sAsg, sFor, sRaise, gN, gT, gsC, gsN, addD, subD, mulD, fdivD, modD, powD, cmpD, negD, lenD, listD, tupleD, intD, absD, zipD, enumD, ttYes, wipeE, canWipe, restE, wipSV, Option.getD_some, List.getElem?_cons_zero, List.getElem?_cons_succ, List.set_cons_zero, List.set_cons_succ, List.length_cons, List.length_nil, List.map_cons, List.map_nil, List.getD_cons_zero, List.getD_cons_succ, Option.bind_some, Option.map_some, Option.isSome_some, Option.bind_none, Option.map_none, Option.isSome_none, if_true, if_false, ite_ap, ixN30, ixN31, ixN32, Int.reduceLE, Int.reduceLT, Int.reduceNeg, nab10, nab2, Int.reduceToNat, Nat.reducePow, Nat.reduceLT, reduceCtorEq, atI_z, atI_1, atI_2, atI_3, atI_at, atI_m1, List.replicate, List.cons_append, List.nil_append, List.append_nil, reduceIte, and_self, and_true, true_and, false_and, and_false, ne_eq, not_true_eq_false, not_false_eq_true, eq_self, Bool.true_and, Bool.and_true, Bool.false_and, Bool.and_false, Bool.not_true, Bool.not_false, Bool.false_eq_true, Nat.reduceAdd, Nat.reduceSub, Nat.reduceLeDiff, Nat.reduceLT]⟩) ⟨[], l, rfl, rfl, F, rfl⟩
  rw [rngD_len] at hl F'
  exact ⟨ns, l', h2, hl, F'⟩
theorem C4_row {m : Nat} {e : List Int} (hm : m ≤ 80) (he : ∀ x ∈ e, x.natAbs < 2 ^ 50) :
    ∃ s, (s = .own (iL e) ∨ s = .val (.lst (iL e))) ∧ C4_law_row [a1, .val (.lst lnL), .val (.int (m : Int)), a3, a4, .own (iL e), a6, a7, a8, a2, .un] = .ok (.own (iL (vals e m))) [a1, .val (.lst lnL), .val (.int (m : Int)), a3, a4, s, a6, a7, a8, a2, .un] := by
  obtain ⟨acc, ε', h2, rfl, s, hs, rfl⟩ := eLc_inv (vs := [10]) (it := iB range1D (bCons (eVar 2) bNil)) (g := gN 10) (te := eCall S_law_value (aCons (eVar 5) (aCons (eVar 1) (aCons (eVar 10) aNil)))) (rngD m)
    (fun k acc ε => acc = iL (vals e k) ∧ ∃ s, (s = .own (iL e) ∨ s = .val (.lst (iL e))) ∧ ε = [a1, .val (.lst lnL), .val (.int (m : Int)), a3, a4, s, a6, a7, a8, a2, .un]) (ε := [a1, .val (.lst lnL), .val (.int (m : Int)), a3, a4, .own (iL e), a6, a7, a8, a2, .un]) (ε1 := [a1, .val (.lst lnL), .val (.int (m : Int)), a3, a4, .own (iL e), a6, a7, a8, a2, .un]) (by simp only [runF, startE, finF, ioOf, bnd, eVar, eC, eOp, eUn, eIx, eSl, eTup, eLst, eIf, eAnd, eOr, eNot, eChain, tCmpD, tOf, tTru, DS.tAnd, DS.tOr, DS.tNot, asT, truth, aNil, aCons, bNil, bCons, cNil, cCons, oNone, oSome, eVal, eNrm, toVal, deref, derefs, listAt, noPlc, Out.of, retOf, Res.o, ixD, slD, eB, iB, iA, iItems, itemsD, eCall, eCallIo, eCallK, permV, isMut, mutL, remut, eMeth, appendD, popD, eIsi, isi_int, isi_bool, isi_tup, sNil, sSeq, sEx, sRet, sIf, sSet, sSetIx, setIx, setOk_z, setOk_s, nI_un, nI_val, nI_own, listOf_lst, listOf_tup, listOf_fix, putO, sPars, putsR, sPar, sPar3, sAsg, sFor, sRaise, gN, gT, gsC, gsN, addD, subD, mulD, fdivD, modD, powD, cmpD, negD, lenD, listD, tupleD, intD, absD, zipD, enumD, ttYes, wipeE, canWipe, restE, wipSV, Option.getD_some, List.getElem?_cons_zero, List.getElem?_cons_succ, List.set_cons_zero, List.set_cons_succ, List.length_cons, List.length_nil, List.map_cons, List.map_nil, List.getD_cons_zero, List.getD_cons_succ, Option.bind_some, Option.map_some, Option.isSome_some, Option.bind_none, Option.map_none, Option.isSome_none, if_true, if_false, ite_ap, ixN30, ixN31, ixN32, Int.reduceLE, Int.reduceLT, Int.reduceNeg, nab10, nab2, Int.reduceToNat, Nat.reducePow, Nat.reduceLT, reduceCtorEq, atI_z, atI_1, atI_2, atI_3, atI_at, atI_m1, List.replicate, List.cons_append, List.nil_append, List.append_nil, reduceIte, and_self, and_true, true_and, false_and, and_false, ne_eq, not_true_eq_false, not_false_eq_true, eq_self, Bool.true_and, Bool.and_true, Bool.false_and, Bool.and_false, Bool.not_true, Bool.not_false, Bool.false_eq_true, Nat.reduceAdd, Nat.reduceSub, Nat.reduceLeDiff, Nat.reduceLT, range1_D (show m ≤ 1000000 by omega)]) (sz63 (by rw [rngD_len]; omega)) rfl (by
      rintro k d acc ε hk ⟨rfl, s, hs, rfl⟩
      have hk2 : k < m := by
        have := (List.getElem?_eq_some_iff.mp hk).1
        rw [rngD_len] at this
        exact this
      have hd : d = .int (k : Int) := by
        unfold rngD at hk
        rw [List.getElem?_map, List.getElem?_range hk2] at hk
        exact (Option.some.inj hk).symm
      subst hd
      have ev := value_eq (listOf_lst (iL e)) (n := k) (by omega) (fun x hx => ab_up (he x hx) (by omega))
      have e1 : iL (vals e k) ++ [D.int (VV (sq e) k)] = iL (vals e (k + 1)) := by
        unfold vals
        rw [List.range_succ, List.map_append]; simp [iL]
      rcases hs with rfl | rfl
      · exact ⟨_, .int (VV (sq e) k), _, by simp only [runF, startE, finF, ioOf, bnd, eVar, eC, eOp, eUn, eIx, eSl, eTup, eLst, eIf, eAnd, eOr, eNot, eChain, tCmpD, tOf, tTru, DS.tAnd, DS.tOr, DS.tNot, asT, truth, aNil, aCons, bNil, bCons, cNil, cCons, oNone, oSome, eVal, eNrm, toVal, deref, derefs, listAt, noPlc, Out.of, retOf, Res.o, ixD, slD, eB, iB, iA, iItems, itemsD, eCall, eCallIo, eCallK, permV, isMut, mutL, remut, eMeth, appendD, popD, eIsi, isi_int, isi_bool, isi_tup, sNil, sSeq, sEx, sRet, sIf, sSet, sSetIx, setIx, setOk_z, setOk_s, nI_un, nI_val, nI_own, listOf_lst, listOf_tup, listOf_fix, putO, sPars, putsR, sPar, sPar3, sAsg, sFor, sRaise, gN, gT, gsC, gsN, addD, subD, mulD, fdivD, modD, powD, cmpD, negD, lenD, listD, tupleD, intD, absD, zipD, enumD, ttYes, wipeE, canWipe, restE, wipSV, Option.getD_some, List.getElem?_cons_zero, List.getElem?_cons_succ, List.set_cons_zero, List.set_cons_succ, List.length_cons, List.length_nil, List.map_cons, List.map_nil, List.getD_cons_zero, List.getD_cons_succ, Option.bind_some, Option.map_some, Option.isSome_some, Option.bind_none, Option.map_none, Option.isSome_none, if_true, if_false, ite_ap, ixN30, ixN31, ixN32, Int.reduceLE, Int.reduceLT, Int.reduceNeg, nab10, nab2, Int.reduceToNat, Nat.reducePow, Nat.reduceLT, reduceCtorEq, atI_z, atI_1, atI_2, atI_3, atI_at, atI_m1, List.replicate, List.cons_append, List.nil_append, List.append_nil, reduceIte, and_self, and_true, true_and, false_and, and_false, ne_eq, not_true_eq_false, not_false_eq_true, eq_self, Bool.true_and, Bool.and_true, Bool.false_and, Bool.and_false, Bool.not_true, Bool.not_false, Bool.false_eq_true, Nat.reduceAdd, Nat.reduceSub, Nat.reduceLeDiff, Nat.reduceLT] <;> rfl, by simp only [runF, startE, finF, ioOf, bnd, eVar, eC, eOp, eUn, eIx, eSl, eTup, eLst, eIf, eAnd, eOr, eNot, eChain, tCmpD, tOf, tTru, DS.tAnd, DS.tOr, DS.tNot, asT, truth, aNil, aCons, bNil, bCons, cNil, cCons, oNone, oSome, eVal, eNrm, toVal, deref, derefs, listAt, noPlc, Out.of, retOf, Res.o, ixD, slD, eB, iB, iA, iItems, itemsD, eCall, eCallIo, eCallK, permV, isMut, mutL, remut, eMeth, appendD, popD, eIsi, isi_int, isi_bool, isi_tup, sNil, sSeq, sEx, sRet, sIf, sSet, sSetIx, setIx, setOk_z, setOk_s, nI_un, nI_val, nI_own, listOf_lst, listOf_tup, listOf_fix, putO, sPars, putsR, sPar, sPar3, sAsg, sFor, sRaise, gN, gT, gsC, gsN, addD, subD, mulD, fdivD, modD, powD, cmpD, negD, lenD, listD, tupleD, intD, absD, zipD, enumD, ttYes, wipeE, canWipe, restE, wipSV, Option.getD_some, List.getElem?_cons_zero, List.getElem?_cons_succ, List.set_cons_zero, List.set_cons_succ, List.length_cons, List.length_nil, List.map_cons, List.map_nil, List.getD_cons_zero, List.getD_cons_succ, Option.bind_some, Option.map_some, Option.isSome_some, Option.bind_none, Option.map_none, Option.isSome_none, if_true, if_false, ite_ap, ixN30, ixN31, ixN32, Int.reduceLE, Int.reduceLT, Int.reduceNeg, nab10, nab2, Int.reduceToNat, Nat.reducePow, Nat.reduceLT, reduceCtorEq, atI_z, atI_1, atI_2, atI_3, atI_at, atI_m1, List.replicate, List.cons_append, List.nil_append, List.append_nil, reduceIte, and_self, and_true, true_and, false_and, and_false, ne_eq, not_true_eq_false, not_false_eq_true, eq_self, Bool.true_and, Bool.and_true, Bool.false_and, Bool.and_false, Bool.not_true, Bool.not_false, Bool.false_eq_true, Nat.reduceAdd, Nat.reduceSub, Nat.reduceLeDiff, Nat.reduceLT, ev] <;> rfl, e1, .val (.lst (iL e)), .inr rfl, by simp only [runF, startE, finF, ioOf, bnd, eVar, eC, eOp, eUn, eIx, eSl, eTup, eLst, eIf, eAnd, eOr, eNot, eChain, tCmpD, tOf, tTru, DS.tAnd, DS.tOr, DS.tNot, asT, truth, aNil, aCons, bNil, bCons, cNil, cCons, oNone, oSome, eVal, eNrm, toVal, deref, derefs, listAt, noPlc, Out.of, retOf, Res.o, ixD, slD, eB, iB, iA, iItems, itemsD, eCall, eCallIo, eCallK, permV, isMut, mutL, remut, eMeth, appendD, popD, eIsi, isi_int, isi_bool, isi_tup, sNil, sSeq, sEx, sRet, sIf, sSet, sSetIx, setIx, setOk_z, setOk_s, nI_un, nI_val, nI_own, listOf_lst, listOf_tup, listOf_fix, putO, sPars, putsR, sPar, sPar3, sAsg, sFor, sRaise, gN, gT, gsC, gsN, addD, subD, mulD, fdivD, modD, powD, cmpD, negD, lenD, listD, tupleD, intD, absD, zipD, enumD, ttYes, wipeE, canWipe, restE, wipSV, Option.getD_some, List.getElem?_cons_zero, List.getElem?_cons_succ, List.set_cons_zero, List.set_cons_succ, List.length_cons, List.length_nil, List.map_cons, List.map_nil, List.getD_cons_zero, List.getD_cons_succ, Option.bind_some, Option.map_some, Option.isSome_some, Option.bind_none, Option.map_none, Option.isSome_none, if_true, if_false, ite_ap, ixN30, ixN31, ixN32, Int.reduceLE, Int.reduceLT, Int.reduceNeg, nab10, nab2, Int.reduceToNat, Nat.reducePow, Nat.reduceLT, reduceCtorEq, atI_z, atI_1, atI_2, atI_3, atI_at, atI_m1, List.replicate, List.cons_append, List.nil_append, List.append_nil, reduceIte, and_self, and_true, true_and, false_and, and_false, ne_eq, not_true_eq_false, not_false_eq_true, eq_self, Bool.true_and, Bool.and_true, Bool.false_and, Bool.and_false, Bool.not_true, Bool.not_false, Bool.false_eq_true, Nat.reduceAdd, Nat.reduceSub, Nat.reduceLeDiff, Nat.reduceLT]⟩
      · exact ⟨_, .int (VV (sq e) k), _, by simp only [runF, startE, finF, ioOf, bnd, eVar, eC, eOp, eUn, eIx, eSl, eTup, eLst, eIf, eAnd, eOr, eNot, eChain, tCmpD, tOf, tTru, DS.tAnd, DS.tOr, DS.tNot, asT, truth, aNil, aCons, bNil, bCons, cNil, cCons, oNone, oSome, eVal, eNrm, toVal, deref, derefs, listAt, noPlc, Out.of, retOf, Res.o, ixD, slD, eB, iB, iA, iItems, itemsD, eCall, eCallIo, eCallK, permV, isMut, mutL, remut, eMeth, appendD, popD, eIsi, isi_int, isi_bool, isi_tup, sNil, sSeq, sEx, sRet, sIf, sSet, sSetIx, setIx, setOk_z, setOk_s, nI_un, nI_val, nI_own, listOf_lst, listOf_tup, listOf_fix, putO, sPars, putsR, sPar, sPar3, sAsg, sFor, sRaise, gN, gT, gsC, gsN, addD, subD, mulD, fdivD, modD, powD, cmpD, negD, lenD, listD, tupleD, intD, absD, zipD, enumD, ttYes, wipeE, canWipe, restE, wipSV, Option.getD_some, List.getElem?_cons_zero, List.getElem?_cons_succ, List.set_cons_zero, List.set_cons_succ, List.length_cons, List.length_nil, List.map_cons, List.map_nil, List.getD_cons_zero, List.getD_cons_succ, Option.bind_some, Option.map_some, Option.isSome_some, Option.bind_none, Option.map_none, Option.isSome_none, if_true, if_false, ite_ap, ixN30, ixN31, ixN32, Int.reduceLE, Int.reduceLT, Int.reduceNeg, nab10, nab2, Int.reduceToNat, Nat.reducePow, Nat.reduceLT, reduceCtorEq, atI_z, atI_1, atI_2, atI_3, atI_at, atI_m1, List.replicate, List.cons_append, List.nil_append, List.append_nil, reduceIte, and_self, and_true, true_and, false_and, and_false, ne_eq, not_true_eq_false, not_false_eq_true, eq_self, Bool.true_and, Bool.and_true, Bool.false_and, Bool.and_false, Bool.not_true, Bool.not_false, Bool.false_eq_true, Nat.reduceAdd, Nat.reduceSub, Nat.reduceLeDiff, Nat.reduceLT] <;> rfl, by simp only [runF, startE, finF, ioOf, bnd, eVar, eC, eOp, eUn, eIx, eSl, eTup, eLst, eIf, eAnd, eOr, eNot, eChain, tCmpD, tOf, tTru, DS.tAnd, DS.tOr, DS.tNot, asT, truth, aNil, aCons, bNil, bCons, cNil, cCons, oNone, oSome, eVal, eNrm, toVal, deref, derefs, listAt, noPlc, Out.of, retOf, Res.o, ixD, slD, eB, iB, iA, iItems, itemsD, eCall, eCallIo, eCallK, permV, isMut, mutL, remut, eMeth, appendD, popD, eIsi, isi_int, isi_bool, isi_tup, sNil, sSeq, sEx, sRet, sIf, sSet, sSetIx, setIx, setOk_z, setOk_s, nI_un, nI_val, nI_own, listOf_lst, listOf_tup, listOf_fix, putO, sPars, putsR, sPar, sPar3, sAsg, sFor, sRaise, gN, gT, gsC, gsN, addD, subD, mulD, fdivD, modD, powD, cmpD, negD, lenD, listD, tupleD, intD, absD, zipD, enumD, ttYes, wipeE, canWipe, restE, wipSV, Option.getD_some, List.getElem?_cons_zero, List.getElem?_cons_succ, List.set_cons_zero, List.set_cons_succ, List.length_cons, List.length_nil, List.map_cons, List.map_nil, List.getD_cons_zero, List.getD_cons_succ, Option.bind_some, Option.map_some, Option.isSome_some, Option.bind_none, Option.map_none, Option.isSome_none, if_true, if_false, ite_ap, ixN30, ixN31, ixN32, Int.reduceLE, Int.reduceLT, Int.reduceNeg, nab10, nab2, Int.reduceToNat, Nat.reducePow, Nat.reduceLT, reduceCtorEq, atI_z, atI_1, atI_2, atI_3, atI_at, atI_m1, List.replicate, List.cons_append, List.nil_append, List.append_nil, reduceIte, and_self, and_true, true_and, false_and, and_false, ne_eq, not_true_eq_false, not_false_eq_true, eq_self, Bool.true_and, Bool.and_true, Bool.false_and, Bool.and_false, Bool.not_true, Bool.not_false, Bool.false_eq_true, Nat.reduceAdd, Nat.reduceSub, Nat.reduceLeDiff, Nat.reduceLT, ev] <;> rfl, e1, .val (.lst (iL e)), .inr rfl, by simp only [runF, startE, finF, ioOf, bnd, eVar, eC, eOp, eUn, eIx, eSl, eTup, eLst, eIf, eAnd, eOr, eNot, eChain, tCmpD, tOf, tTru, DS.tAnd, DS.tOr, DS.tNot, asT, truth, aNil, aCons, bNil, bCons, cNil, cCons, oNone, oSome, eVal, eNrm, toVal, deref, derefs, listAt, noPlc, Out.of, retOf, Res.o, ixD, slD, eB, iB, iA, iItems, itemsD, eCall, eCallIo, eCallK, permV, isMut, mutL, remut, eMeth, appendD, popD, eIsi, isi_int, isi_bool, isi_tup, sNil, sSeq, sEx, sRet, sIf, sSet, sSetIx, setIx, setOk_z, setOk_s, nI_un, nI_val, nI_own, listOf_lst, listOf_tup, listOf_fix, putO, sPars, putsR, sPar, sPar3, sAsg, sFor, sRaise, gN, gT, gsC, gsN, addD, subD, mulD, fdivD, modD, powD, cmpD, negD, lenD, listD, tupleD, intD, absD, zipD, enumD, ttYes, wipeE, canWipe, restE, wipSV, Option.getD_some, List.getElem?_cons_zero, List.getElem?_cons_succ, List.set_cons_zero, List.set_cons_succ, List.length_cons, List.length_nil, List.map_cons, List.map_nil, List.getD_cons_zero, List.getD_cons_succ, Option.bind_some, Option.map_some, Option.isSome_some, Option.bind_none, Option.map_none, Option.isSome_none, if_true, if_false, ite_ap, ixN30, ixN31, ixN32, Int.reduceLE, Int.reduceLT, Int.reduceNeg, nab10, nab2, Int.reduceToNat, Nat.reducePow, Nat.reduceLT, reduceCtorEq, atI_z, atI_1, atI_2, atI_3, atI_at, atI_m1, List.replicate, List.cons_append, List.nil_append, List.append_nil, reduceIte, and_self, and_true, true_and, false_and, and_false, ne_eq, not_true_eq_false, not_false_eq_true, eq_self, Bool.true_and, Bool.and_true, Bool.false_and, Bool.and_false, Bool.not_true, Bool.not_false, Bool.false_eq_true, Nat.reduceAdd, Nat.reduceSub, Nat.reduceLeDiff, Nat.reduceLT]⟩) ⟨rfl, _, .inl rfl, rfl⟩
  rw [rngD_len] at h2
  exact ⟨s, hs, h2⟩
end
end K34

set_option Elab.async false
set_option linter.all false
set_option maxRecDepth 100000
set_option maxHeartbeats 4000000
set_option exponentiation.threshold 5000
namespace K34
open PySem DS
/-- what a row is, and how it was made -/
def Made (r : List Int) (md : D) : Prop := md = .non ∨ ∃ e : List Int, md = .lst (iL e) ∧ e.length ≤ 10 ∧ (∀ x ∈ e, x.natAbs < 2 ^ 50) ∧ r = vals e r.length
theorem cut_n (xs : List D) (k : Nat) : cutD xs none (some (k : Int)) = xs.take k := by rw [cut_to xs (by omega), Int.toNat_natCast]
theorem cut_f (xs : List D) (k : Nat) : cutD xs (some (k : Int)) none = xs.drop k := by rw [cut_from xs (by omega), Int.toNat_natCast]
theorem law_row_ok {n : Nat} {l : List D} (F : Feed n l) (hn : n + 1000 < 10 ^ 9) :
    ∃ r md l', S_law_row [.lst l, .lst lnL] = .ok (.val (.tup [.tup (iL r), md])) l' ∧ r.length ≤ 40 ∧ Made r md ∧ Feed (n + 500) l' := by
  have z8 : 0 + 1 + 1 + 1 + 1 + 1 + 1 + 1 + 1 ≤ sizeLine := sz63 (by omega)
  have z5 : 0 + 1 + 1 + 1 + 1 + 1 ≤ sizeLine := sz63 (by omega)
  have z3 : 0 + 1 + 1 + 1 ≤ sizeLine := sz63 (by omega)
  have z2 : 0 + 1 + 1 ≤ sizeLine := sz63 (by omega)
  have z1 : 0 + 1 ≤ sizeLine := sz63 (by omega)
  obtain ⟨r1, l1, e1, p1, q1, F1⟩ := draw_ok F (by omega) (m := 40) (by decide) (by decide)
  obtain ⟨many, l2, e2, p2, F2⟩ := one_ints F1 (by omega) (ns := [1, 2, 3, 5, 8, 13, 40, 1 + r1]) nofun (by simp)
  simp only [iL_cons, iL_nil] at e2
  have hm : 1 ≤ many ∧ many ≤ 40 := by
    simp only [List.mem_cons, List.not_mem_nil, or_false] at p2
    omega
  obtain ⟨m, rfl⟩ := Int.eq_ofNat_of_zero_le (show 0 ≤ many by omega)
  have hm40 : m ≤ 40 := by omega
  obtain ⟨size, l3, e3, p3, F3⟩ := one_ints F2 (by omega) (ns := [1, 3, 10, 10 ^ 6, 10 ^ 12]) nofun (by simp)
  simp only [iL_cons, iL_nil] at e3
  have hs : 1 ≤ size ∧ size ≤ 10 ^ 12 := by
    simp only [List.mem_cons, List.not_mem_nil, or_false] at p3
    have c1 : (10 : Int) ^ 6 ≤ 10 ^ 12 := by decide
    have c2 : (10 : Int) ≤ 10 ^ 6 := by decide
    omega
  obtain ⟨way, l4, e4, p4, q4, F4⟩ := draw_ok F3 (by omega) (m := 9) (by decide) (by decide)
  have fin : ∀ (r : List Int) (md : D) (l' : List D) (ε : Env'), B_law_row (startE true 11 [.lst l, .lst lnL]) = .ok (.rt (.val (.tup [.tup (iL r), md]))) (.inn l' :: ε) → S_law_row [.lst l, .lst lnL] = .ok (.val (.tup [.tup (iL r), md])) l' := fun r md l' ε e => by
    unfold S_law_row runF
    rw [e]
    rfl
  by_cases w0 : way = 0
  · obtain ⟨ns, l5, e5, h5, F5⟩ := C1_row (a1 := .val (.lst lnL)) (a4 := .val (.int way)) (a5 := .un) (a6 := .un) (a7 := .un) (a8 := .un) (a10 := .un) F4 hm40 (by omega) hs.1 hs.2
    refine ⟨ns, .non, l5, fin _ _ _ ([.val (.lst lnL), .val (.int (m : Int)), .val (.int size), .val (.int way), .un, .un, .un, .un, .un, .un]) ?_, by omega, .inl rfl, F5.mono (by omega)⟩
    unfold B_law_row
    refine Eq.trans (sSeq_nx (by simp only [runF, startE, finF, ioOf, bnd, eVar, eC, eOp, eUn, eIx, eSl, eTup, eLst, eIf, eAnd, eOr, eNot, eChain, tCmpD, tOf, tTru, DS.tAnd, DS.tOr, DS.tNot, asT, truth, aNil, aCons, bNil, bCons, cNil, cCons, oNone, oSome, eVal, eNrm, toVal, deref, derefs, listAt, noPlc, Out.of, retOf, Res.o, ixD, slD, eB, iB, iA, iItems, itemsD, eCall, eCallIo, eCallK, permV, isMut, mutL, remut, eMeth, appendD, popD, eIsi, isi_int, isi_bool, isi_tup, sNil, sSeq, sEx, sRet, sIf, sSet, sSetIx, setIx, setOk_z, setOk_s, nI_un, nI_val, nI_own, listOf_lst, listOf_tup, listOf_fix, putO, sPars, putsR, sPar, sPar3, sAsg, sFor, sRaise, gN, gT, gsC, gsN, addD, subD, mulD, fdivD, modD, powD, cmpD, negD, lenD, listD, tupleD, intD, absD, zipD, enumD, ttYes, wipeE, canWipe, restE, wipSV, Option.getD_some, List.getElem?_cons_zero, List.getElem?_cons_succ, List.set_cons_zero, List.set_cons_succ, List.length_cons, List.length_nil, List.map_cons, List.map_nil, List.getD_cons_zero, List.getD_cons_succ, Option.bind_some, Option.map_some, Option.isSome_some, Option.bind_none, Option.map_none, Option.isSome_none, if_true, if_false, ite_ap, ixN30, ixN31, ixN32, Int.reduceLE, Int.reduceLT, Int.reduceNeg, nab10, nab2, Int.reduceToNat, Nat.reducePow, Nat.reduceLT, reduceCtorEq, atI_z, atI_1, atI_2, atI_3, atI_at, atI_m1, List.replicate, List.cons_append, List.nil_append, List.append_nil, reduceIte, and_self, and_true, true_and, false_and, and_false, ne_eq, not_true_eq_false, not_false_eq_true, eq_self, Bool.true_and, Bool.and_true, Bool.false_and, Bool.and_false, Bool.not_true, Bool.not_false, Bool.false_eq_true, Nat.reduceAdd, Nat.reduceSub, Nat.reduceLeDiff, Nat.reduceLT, z8, z5, e1, e2, e3] <;> rfl)) ?_
    refine Eq.trans (sSeq_nx (by simp only [runF, startE, finF, ioOf, bnd, eVar, eC, eOp, eUn, eIx, eSl, eTup, eLst, eIf, eAnd, eOr, eNot, eChain, tCmpD, tOf, tTru, DS.tAnd, DS.tOr, DS.tNot, asT, truth, aNil, aCons, bNil, bCons, cNil, cCons, oNone, oSome, eVal, eNrm, toVal, deref, derefs, listAt, noPlc, Out.of, retOf, Res.o, ixD, slD, eB, iB, iA, iItems, itemsD, eCall, eCallIo, eCallK, permV, isMut, mutL, remut, eMeth, appendD, popD, eIsi, isi_int, isi_bool, isi_tup, sNil, sSeq, sEx, sRet, sIf, sSet, sSetIx, setIx, setOk_z, setOk_s, nI_un, nI_val, nI_own, listOf_lst, listOf_tup, listOf_fix, putO, sPars, putsR, sPar, sPar3, sAsg, sFor, sRaise, gN, gT, gsC, gsN, addD, subD, mulD, fdivD, modD, powD, cmpD, negD, lenD, listD, tupleD, intD, absD, zipD, enumD, ttYes, wipeE, canWipe, restE, wipSV, Option.getD_some, List.getElem?_cons_zero, List.getElem?_cons_succ, List.set_cons_zero, List.set_cons_succ, List.length_cons, List.length_nil, List.map_cons, List.map_nil, List.getD_cons_zero, List.getD_cons_succ, Option.bind_some, Option.map_some, Option.isSome_some, Option.bind_none, Option.map_none, Option.isSome_none, if_true, if_false, ite_ap, ixN30, ixN31, ixN32, Int.reduceLE, Int.reduceLT, Int.reduceNeg, nab10, nab2, Int.reduceToNat, Nat.reducePow, Nat.reduceLT, reduceCtorEq, atI_z, atI_1, atI_2, atI_3, atI_at, atI_m1, List.replicate, List.cons_append, List.nil_append, List.append_nil, reduceIte, and_self, and_true, true_and, false_and, and_false, ne_eq, not_true_eq_false, not_false_eq_true, eq_self, Bool.true_and, Bool.and_true, Bool.false_and, Bool.and_false, Bool.not_true, Bool.not_false, Bool.false_eq_true, Nat.reduceAdd, Nat.reduceSub, Nat.reduceLeDiff, Nat.reduceLT, e4] <;> rfl)) ?_
    refine sSeq_rt ?_
    simp only [runF, startE, finF, ioOf, bnd, eVar, eC, eOp, eUn, eIx, eSl, eTup, eLst, eIf, eAnd, eOr, eNot, eChain, tCmpD, tOf, tTru, DS.tAnd, DS.tOr, DS.tNot, asT, truth, aNil, aCons, bNil, bCons, cNil, cCons, oNone, oSome, eVal, eNrm, toVal, deref, derefs, listAt, noPlc, Out.of, retOf, Res.o, ixD, slD, eB, iB, iA, iItems, itemsD, eCall, eCallIo, eCallK, permV, isMut, mutL, remut, eMeth, appendD, popD, eIsi, isi_int, isi_bool, isi_tup, sNil, sSeq, sEx, sRet, sIf, sSet, sSetIx, setIx, setOk_z, setOk_s, nI_un, nI_val, nI_own, listOf_lst, listOf_tup, listOf_fix, putO, sPars, putsR, sPar, sPar3, sAsg, sFor, sRaise, gN, gT, gsC, gsN, addD, subD, mulD, fdivD, modD, powD, cmpD, negD, lenD, listD, tupleD, intD, absD, zipD, enumD, ttYes, wipeE, canWipe, restE, wipSV, Option.getD_some, List.getElem?_cons_zero, List.getElem?_cons_succ, List.set_cons_zero, List.set_cons_succ, List.length_cons, List.length_nil, List.map_cons, List.map_nil, List.getD_cons_zero, List.getD_cons_succ, Option.bind_some, Option.map_some, Option.isSome_some, Option.bind_none, Option.map_none, Option.isSome_none, if_true, if_false, ite_ap, ixN30, ixN31, ixN32, Int.reduceLE, Int.reduceLT, Int.reduceNeg, nab10, nab2, Int.reduceToNat, Nat.reducePow, Nat.reduceLT, reduceCtorEq, atI_z, atI_1, atI_2, atI_3, atI_at, atI_m1, List.replicate, List.cons_append, List.nil_append, List.append_nil, reduceIte, and_self, and_true, true_and, false_and, and_false, ne_eq, not_true_eq_false, not_false_eq_true, eq_self, Bool.true_and, Bool.and_true, Bool.false_and, Bool.and_false, Bool.not_true, Bool.not_false, Bool.false_eq_true, Nat.reduceAdd, Nat.reduceSub, Nat.reduceLeDiff, Nat.reduceLT, eqD_int, w0, decide_true] at e5 ⊢
    simp only [runF, startE, finF, ioOf, bnd, eVar, eC, eOp, eUn, eIx, eSl, eTup, eLst, eIf, eAnd, eOr, eNot, eChain, tCmpD, tOf, tTru, DS.tAnd, DS.tOr, DS.tNot, asT, truth, aNil, aCons, bNil, bCons, cNil, cCons, oNone, oSome, eVal, eNrm, toVal, deref, derefs, listAt, noPlc, Out.of, retOf, Res.o, ixD, slD, eB, iB, iA, iItems, itemsD, eCall, eCallIo, eCallK, permV, isMut, mutL, remut, eMeth, appendD, popD, eIsi, isi_int, isi_bool, isi_tup, sNil, sSeq, sEx, sRet, sIf, sSet, sSetIx, setIx, setOk_z, setOk_s, nI_un, nI_val, nI_own, listOf_lst, listOf_tup, listOf_fix, putO, sPars, putsR, sPar, sPar3, sAsg, sFor, sRaise, gN, gT, gsC, gsN, addD, subD, mulD, fdivD, modD, powD, cmpD, negD, lenD, listD, tupleD, intD, absD, zipD, enumD, ttYes, wipeE, canWipe, restE, wipSV, Option.getD_some, List.getElem?_cons_zero, List.getElem?_cons_succ, List.set_cons_zero, List.set_cons_succ, List.length_cons, List.length_nil, List.map_cons, List.map_nil, List.getD_cons_zero, List.getD_cons_succ, Option.bind_some, Option.map_some, Option.isSome_some, Option.bind_none, Option.map_none, Option.isSome_none, if_true, if_false, ite_ap, ixN30, ixN31, ixN32, Int.reduceLE, Int.reduceLT, Int.reduceNeg, nab10, nab2, Int.reduceToNat, Nat.reducePow, Nat.reduceLT, reduceCtorEq, atI_z, atI_1, atI_2, atI_3, atI_at, atI_m1, List.replicate, List.cons_append, List.nil_append, List.append_nil, reduceIte, and_self, and_true, true_and, false_and, and_false, ne_eq, not_true_eq_false, not_false_eq_true, eq_self, Bool.true_and, Bool.and_true, Bool.false_and, Bool.and_false, Bool.not_true, Bool.not_false, Bool.false_eq_true, Nat.reduceAdd, Nat.reduceSub, Nat.reduceLeDiff, Nat.reduceLT, e5, z2]
  by_cases w1 : way = 1
  · obtain ⟨ns, l5, e5, h5, F5⟩ := C2_row (a1 := .val (.lst lnL)) (a3 := .val (.int size)) (a4 := .val (.int way)) (a5 := .un) (a6 := .un) (a7 := .un) (a8 := .un) (a10 := .un) F4 hm40 (by omega)
    refine ⟨ns, .non, l5, fin _ _ _ ([.val (.lst lnL), .val (.int (m : Int)), .val (.int size), .val (.int way), .un, .un, .un, .un, .un, .un]) ?_, by omega, .inl rfl, F5.mono (by omega)⟩
    unfold B_law_row
    refine Eq.trans (sSeq_nx (by simp only [runF, startE, finF, ioOf, bnd, eVar, eC, eOp, eUn, eIx, eSl, eTup, eLst, eIf, eAnd, eOr, eNot, eChain, tCmpD, tOf, tTru, DS.tAnd, DS.tOr, DS.tNot, asT, truth, aNil, aCons, bNil, bCons, cNil, cCons, oNone, oSome, eVal, eNrm, toVal, deref, derefs, listAt, noPlc, Out.of, retOf, Res.o, ixD, slD, eB, iB, iA, iItems, itemsD, eCall, eCallIo, eCallK, permV, isMut, mutL, remut, eMeth, appendD, popD, eIsi, isi_int, isi_bool, isi_tup, sNil, sSeq, sEx, sRet, sIf, sSet, sSetIx, setIx, setOk_z, setOk_s, nI_un, nI_val, nI_own, listOf_lst, listOf_tup, listOf_fix, putO, sPars, putsR, sPar, sPar3, sAsg, sFor, sRaise, gN, gT, gsC, gsN, addD, subD, mulD, fdivD, modD, powD, cmpD, negD, lenD, listD, tupleD, intD, absD, zipD, enumD, ttYes, wipeE, canWipe, restE, wipSV, Option.getD_some, List.getElem?_cons_zero, List.getElem?_cons_succ, List.set_cons_zero, List.set_cons_succ, List.length_cons, List.length_nil, List.map_cons, List.map_nil, List.getD_cons_zero, List.getD_cons_succ, Option.bind_some, Option.map_some, Option.isSome_some, Option.bind_none, Option.map_none, Option.isSome_none, if_true, if_false, ite_ap, ixN30, ixN31, ixN32, Int.reduceLE, Int.reduceLT, Int.reduceNeg, nab10, nab2, Int.reduceToNat, Nat.reducePow, Nat.reduceLT, reduceCtorEq, atI_z, atI_1, atI_2, atI_3, atI_at, atI_m1, List.replicate, List.cons_append, List.nil_append, List.append_nil, reduceIte, and_self, and_true, true_and, false_and, and_false, ne_eq, not_true_eq_false, not_false_eq_true, eq_self, Bool.true_and, Bool.and_true, Bool.false_and, Bool.and_false, Bool.not_true, Bool.not_false, Bool.false_eq_true, Nat.reduceAdd, Nat.reduceSub, Nat.reduceLeDiff, Nat.reduceLT, z8, z5, e1, e2, e3] <;> rfl)) ?_
    refine Eq.trans (sSeq_nx (by simp only [runF, startE, finF, ioOf, bnd, eVar, eC, eOp, eUn, eIx, eSl, eTup, eLst, eIf, eAnd, eOr, eNot, eChain, tCmpD, tOf, tTru, DS.tAnd, DS.tOr, DS.tNot, asT, truth, aNil, aCons, bNil, bCons, cNil, cCons, oNone, oSome, eVal, eNrm, toVal, deref, derefs, listAt, noPlc, Out.of, retOf, Res.o, ixD, slD, eB, iB, iA, iItems, itemsD, eCall, eCallIo, eCallK, permV, isMut, mutL, remut, eMeth, appendD, popD, eIsi, isi_int, isi_bool, isi_tup, sNil, sSeq, sEx, sRet, sIf, sSet, sSetIx, setIx, setOk_z, setOk_s, nI_un, nI_val, nI_own, listOf_lst, listOf_tup, listOf_fix, putO, sPars, putsR, sPar, sPar3, sAsg, sFor, sRaise, gN, gT, gsC, gsN, addD, subD, mulD, fdivD, modD, powD, cmpD, negD, lenD, listD, tupleD, intD, absD, zipD, enumD, ttYes, wipeE, canWipe, restE, wipSV, Option.getD_some, List.getElem?_cons_zero, List.getElem?_cons_succ, List.set_cons_zero, List.set_cons_succ, List.length_cons, List.length_nil, List.map_cons, List.map_nil, List.getD_cons_zero, List.getD_cons_succ, Option.bind_some, Option.map_some, Option.isSome_some, Option.bind_none, Option.map_none, Option.isSome_none, if_true, if_false, ite_ap, ixN30, ixN31, ixN32, Int.reduceLE, Int.reduceLT, Int.reduceNeg, nab10, nab2, Int.reduceToNat, Nat.reducePow, Nat.reduceLT, reduceCtorEq, atI_z, atI_1, atI_2, atI_3, atI_at, atI_m1, List.replicate, List.cons_append, List.nil_append, List.append_nil, reduceIte, and_self, and_true, true_and, false_and, and_false, ne_eq, not_true_eq_false, not_false_eq_true, eq_self, Bool.true_and, Bool.and_true, Bool.false_and, Bool.and_false, Bool.not_true, Bool.not_false, Bool.false_eq_true, Nat.reduceAdd, Nat.reduceSub, Nat.reduceLeDiff, Nat.reduceLT, e4] <;> rfl)) ?_
    refine Eq.trans (sSeq_nx (by simp only [runF, startE, finF, ioOf, bnd, eVar, eC, eOp, eUn, eIx, eSl, eTup, eLst, eIf, eAnd, eOr, eNot, eChain, tCmpD, tOf, tTru, DS.tAnd, DS.tOr, DS.tNot, asT, truth, aNil, aCons, bNil, bCons, cNil, cCons, oNone, oSome, eVal, eNrm, toVal, deref, derefs, listAt, noPlc, Out.of, retOf, Res.o, ixD, slD, eB, iB, iA, iItems, itemsD, eCall, eCallIo, eCallK, permV, isMut, mutL, remut, eMeth, appendD, popD, eIsi, isi_int, isi_bool, isi_tup, sNil, sSeq, sEx, sRet, sIf, sSet, sSetIx, setIx, setOk_z, setOk_s, nI_un, nI_val, nI_own, listOf_lst, listOf_tup, listOf_fix, putO, sPars, putsR, sPar, sPar3, sAsg, sFor, sRaise, gN, gT, gsC, gsN, addD, subD, mulD, fdivD, modD, powD, cmpD, negD, lenD, listD, tupleD, intD, absD, zipD, enumD, ttYes, wipeE, canWipe, restE, wipSV, Option.getD_some, List.getElem?_cons_zero, List.getElem?_cons_succ, List.set_cons_zero, List.set_cons_succ, List.length_cons, List.length_nil, List.map_cons, List.map_nil, List.getD_cons_zero, List.getD_cons_succ, Option.bind_some, Option.map_some, Option.isSome_some, Option.bind_none, Option.map_none, Option.isSome_none, if_true, if_false, ite_ap, ixN30, ixN31, ixN32, Int.reduceLE, Int.reduceLT, Int.reduceNeg, nab10, nab2, Int.reduceToNat, Nat.reducePow, Nat.reduceLT, reduceCtorEq, atI_z, atI_1, atI_2, atI_3, atI_at, atI_m1, List.replicate, List.cons_append, List.nil_append, List.append_nil, reduceIte, and_self, and_true, true_and, false_and, and_false, ne_eq, not_true_eq_false, not_false_eq_true, eq_self, Bool.true_and, Bool.and_true, Bool.false_and, Bool.and_false, Bool.not_true, Bool.not_false, Bool.false_eq_true, Nat.reduceAdd, Nat.reduceSub, Nat.reduceLeDiff, Nat.reduceLT, eqD_int, w0, decide_false] <;> rfl)) ?_
    refine sSeq_rt ?_
    have d1 : decide (way = 1) = true := decide_eq_true w1
    simp only [runF, startE, finF, ioOf, bnd, eVar, eC, eOp, eUn, eIx, eSl, eTup, eLst, eIf, eAnd, eOr, eNot, eChain, tCmpD, tOf, tTru, DS.tAnd, DS.tOr, DS.tNot, asT, truth, aNil, aCons, bNil, bCons, cNil, cCons, oNone, oSome, eVal, eNrm, toVal, deref, derefs, listAt, noPlc, Out.of, retOf, Res.o, ixD, slD, eB, iB, iA, iItems, itemsD, eCall, eCallIo, eCallK, permV, isMut, mutL, remut, eMeth, appendD, popD, eIsi, isi_int, isi_bool, isi_tup, sNil, sSeq, sEx, sRet, sIf, sSet, sSetIx, setIx, setOk_z, setOk_s, nI_un, nI_val, nI_own, listOf_lst, listOf_tup, listOf_fix, putO, sPars, putsR, sPar, sPar3, sAsg, sFor, sRaise, gN, gT, gsC, gsN, addD, subD, mulD, fdivD, modD, powD, cmpD, negD, lenD, listD, tupleD, intD, absD, zipD, enumD, ttYes, wipeE, canWipe, restE, wipSV, Option.getD_some, List.getElem?_cons_zero, List.getElem?_cons_succ, List.set_cons_zero, List.set_cons_succ, List.length_cons, List.length_nil, List.map_cons, List.map_nil, List.getD_cons_zero, List.getD_cons_succ, Option.bind_some, Option.map_some, Option.isSome_some, Option.bind_none, Option.map_none, Option.isSome_none, if_true, if_false, ite_ap, ixN30, ixN31, ixN32, Int.reduceLE, Int.reduceLT, Int.reduceNeg, nab10, nab2, Int.reduceToNat, Nat.reducePow, Nat.reduceLT, reduceCtorEq, atI_z, atI_1, atI_2, atI_3, atI_at, atI_m1, List.replicate, List.cons_append, List.nil_append, List.append_nil, reduceIte, and_self, and_true, true_and, false_and, and_false, ne_eq, not_true_eq_false, not_false_eq_true, eq_self, Bool.true_and, Bool.and_true, Bool.false_and, Bool.and_false, Bool.not_true, Bool.not_false, Bool.false_eq_true, Nat.reduceAdd, Nat.reduceSub, Nat.reduceLeDiff, Nat.reduceLT, eqD_int, d1, e5, z2]
  obtain ⟨e, l5, e5, h5, b5, F5⟩ := C3_row (a1 := .val (.lst lnL)) (a2 := .val (.int (m : Int))) (a4 := .val (.int way)) (a5 := .un) (a6 := .un) (a7 := .un) (a8 := .un) (a10 := .un) F4 (by omega) hs.1 hs.2
  obtain ⟨s, hsl, e6⟩ := C4_row (a1 := .inn l5) (a3 := .val (.int size)) (a4 := .val (.int way)) (a6 := .un) (a7 := .un) (a8 := .un) (a2 := .un) (m := m) (e := e) (by omega) b5
  have nIs : nI s = true := by rcases hsl with rfl | rfl <;> rfl
  have pre : ∀ (X : Sm Fl), (sSeq (sPars [2, 3] (cCons (eCallIo S_law_one 0 (aCons (eLst (aCons (eC (.int 1)) (aCons (eC (.int 2)) (aCons (eC (.int 3)) (aCons (eC (.int 5)) (aCons (eC (.int 8)) (aCons (eC (.int 13)) (aCons (eC (.int 40)) (aCons (eOp addD (eC (.int 1)) (eCallIo S_law_draw 0 (aCons (eC (.int 40)) aNil))) aNil))))))))) aNil)) (cCons (eCallIo S_law_one 0 (aCons (eLst (aCons (eC (.int 1)) (aCons (eC (.int 3)) (aCons (eC (.int 10)) (aCons (eOp powD (eC (.int 10)) (eC (.int 6))) (aCons (eOp powD (eC (.int 10)) (eC (.int 12))) aNil)))))) aNil)) cNil)))
      (sSeq (sSet 4 (eCallIo S_law_draw 0 (aCons (eC (.int 9)) aNil)))
      (sSeq (sIf (tCmpD eqD (eVar 4) (eC (.int 0))) (sRet (eTup (aCons (eB tupleD (bCons C1_law_row bNil)) (aCons (eC .non) aNil)))) sNil)
      (sSeq (sIf (tCmpD eqD (eVar 4) (eC (.int 1))) (sRet (eTup (aCons (eB tupleD (bCons C2_law_row bNil)) (aCons (eC .non) aNil)))) sNil)
      (sSeq (sSet 5 C3_law_row) (sSeq (sSet 6 C4_law_row) X)))))) (startE true 11 [.lst l, .lst lnL]) = X [.inn l5, .val (.lst lnL), .val (.int (m : Int)), .val (.int size), .val (.int way), s, .own (iL (vals e m)), .un, .un, .un, .un] := fun X => by
    refine Eq.trans (sSeq_nx (by simp only [runF, startE, finF, ioOf, bnd, eVar, eC, eOp, eUn, eIx, eSl, eTup, eLst, eIf, eAnd, eOr, eNot, eChain, tCmpD, tOf, tTru, DS.tAnd, DS.tOr, DS.tNot, asT, truth, aNil, aCons, bNil, bCons, cNil, cCons, oNone, oSome, eVal, eNrm, toVal, deref, derefs, listAt, noPlc, Out.of, retOf, Res.o, ixD, slD, eB, iB, iA, iItems, itemsD, eCall, eCallIo, eCallK, permV, isMut, mutL, remut, eMeth, appendD, popD, eIsi, isi_int, isi_bool, isi_tup, sNil, sSeq, sEx, sRet, sIf, sSet, sSetIx, setIx, setOk_z, setOk_s, nI_un, nI_val, nI_own, listOf_lst, listOf_tup, listOf_fix, putO, sPars, putsR, sPar, sPar3, sAsg, sFor, sRaise, gN, gT, gsC, gsN, addD, subD, mulD, fdivD, modD, powD, cmpD, negD, lenD, listD, tupleD, intD, absD, zipD, enumD, ttYes, wipeE, canWipe, restE, wipSV, Option.getD_some, List.getElem?_cons_zero, List.getElem?_cons_succ, List.set_cons_zero, List.set_cons_succ, List.length_cons, List.length_nil, List.map_cons, List.map_nil, List.getD_cons_zero, List.getD_cons_succ, Option.bind_some, Option.map_some, Option.isSome_some, Option.bind_none, Option.map_none, Option.isSome_none, if_true, if_false, ite_ap, ixN30, ixN31, ixN32, Int.reduceLE, Int.reduceLT, Int.reduceNeg, nab10, nab2, Int.reduceToNat, Nat.reducePow, Nat.reduceLT, reduceCtorEq, atI_z, atI_1, atI_2, atI_3, atI_at, atI_m1, List.replicate, List.cons_append, List.nil_append, List.append_nil, reduceIte, and_self, and_true, true_and, false_and, and_false, ne_eq, not_true_eq_false, not_false_eq_true, eq_self, Bool.true_and, Bool.and_true, Bool.false_and, Bool.and_false, Bool.not_true, Bool.not_false, Bool.false_eq_true, Nat.reduceAdd, Nat.reduceSub, Nat.reduceLeDiff, Nat.reduceLT, z8, z5, e1, e2, e3] <;> rfl)) ?_
    refine Eq.trans (sSeq_nx (by simp only [runF, startE, finF, ioOf, bnd, eVar, eC, eOp, eUn, eIx, eSl, eTup, eLst, eIf, eAnd, eOr, eNot, eChain, tCmpD, tOf, tTru, DS.tAnd, DS.tOr, DS.tNot, asT, truth, aNil, aCons, bNil, bCons, cNil, cCons, oNone, oSome, eVal, eNrm, toVal, deref, derefs, listAt, noPlc, Out.of, retOf, Res.o, ixD, slD, eB, iB, iA, iItems, itemsD, eCall, eCallIo, eCallK, permV, isMut, mutL, remut, eMeth, appendD, popD, eIsi, isi_int, isi_bool, isi_tup, sNil, sSeq, sEx, sRet, sIf, sSet, sSetIx, setIx, setOk_z, setOk_s, nI_un, nI_val, nI_own, listOf_lst, listOf_tup, listOf_fix, putO, sPars, putsR, sPar, sPar3, sAsg, sFor, sRaise, gN, gT, gsC, gsN, addD, subD, mulD, fdivD, modD, powD, cmpD, negD, lenD, listD, tupleD, intD, absD, zipD, enumD, ttYes, wipeE, canWipe, restE, wipSV, Option.getD_some, List.getElem?_cons_zero, List.getElem?_cons_succ, List.set_cons_zero, List.set_cons_succ, List.length_cons, List.length_nil, List.map_cons, List.map_nil, List.getD_cons_zero, List.getD_cons_succ, Option.bind_some, Option.map_some, Option.isSome_some, Option.bind_none, Option.map_none, Option.isSome_none, if_true, if_false, ite_ap, ixN30, ixN31, ixN32, Int.reduceLE, Int.reduceLT, Int.reduceNeg, nab10, nab2, Int.reduceToNat, Nat.reducePow, Nat.reduceLT, reduceCtorEq, atI_z, atI_1, atI_2, atI_3, atI_at, atI_m1, List.replicate, List.cons_append, List.nil_append, List.append_nil, reduceIte, and_self, and_true, true_and, false_and, and_false, ne_eq, not_true_eq_false, not_false_eq_true, eq_self, Bool.true_and, Bool.and_true, Bool.false_and, Bool.and_false, Bool.not_true, Bool.not_false, Bool.false_eq_true, Nat.reduceAdd, Nat.reduceSub, Nat.reduceLeDiff, Nat.reduceLT, e4] <;> rfl)) ?_
    refine Eq.trans (sSeq_nx (by simp only [runF, startE, finF, ioOf, bnd, eVar, eC, eOp, eUn, eIx, eSl, eTup, eLst, eIf, eAnd, eOr, eNot, eChain, tCmpD, tOf, tTru, DS.tAnd, DS.tOr, DS.tNot, asT, truth, aNil, aCons, bNil, bCons, cNil, cCons, oNone, oSome, eVal, eNrm, toVal, deref, derefs, listAt, noPlc, Out.of, retOf, Res.o, ixD, slD, eB, iB, iA, iItems, itemsD, eCall, eCallIo, eCallK, permV, isMut, mutL, remut, eMeth, appendD, popD, eIsi, isi_int, isi_bool, isi_tup, sNil, sSeq, sEx, sRet, sIf, sSet, sSetIx, setIx, setOk_z, setOk_s, nI_un, nI_val, nI_own, listOf_lst, listOf_tup, listOf_fix, putO, sPars, putsR, sPar, sPar3, sAsg, sFor, sRaise, gN, gT, gsC, gsN, addD, subD, mulD, fdivD, modD, powD, cmpD, negD, lenD, listD, tupleD, intD, absD, zipD, enumD, ttYes, wipeE, canWipe, restE, wipSV, Option.getD_some, List.getElem?_cons_zero, List.getElem?_cons_succ, List.set_cons_zero, List.set_cons_succ, List.length_cons, List.length_nil, List.map_cons, List.map_nil, List.getD_cons_zero, List.getD_cons_succ, Option.bind_some, Option.map_some, Option.isSome_some, Option.bind_none, Option.map_none, Option.isSome_none, if_true, if_false, ite_ap, ixN30, ixN31, ixN32, Int.reduceLE, Int.reduceLT, Int.reduceNeg, nab10, nab2, Int.reduceToNat, Nat.reducePow, Nat.reduceLT, reduceCtorEq, atI_z, atI_1, atI_2, atI_3, atI_at, atI_m1, List.replicate, List.cons_append, List.nil_append, List.append_nil, reduceIte, and_self, and_true, true_and, false_and, and_false, ne_eq, not_true_eq_false, not_false_eq_true, eq_self, Bool.true_and, Bool.and_true, Bool.false_and, Bool.and_false, Bool.not_true, Bool.not_false, Bool.false_eq_true, Nat.reduceAdd, Nat.reduceSub, Nat.reduceLeDiff, Nat.reduceLT, eqD_int, w0, decide_false] <;> rfl)) ?_
    refine Eq.trans (sSeq_nx (by simp only [runF, startE, finF, ioOf, bnd, eVar, eC, eOp, eUn, eIx, eSl, eTup, eLst, eIf, eAnd, eOr, eNot, eChain, tCmpD, tOf, tTru, DS.tAnd, DS.tOr, DS.tNot, asT, truth, aNil, aCons, bNil, bCons, cNil, cCons, oNone, oSome, eVal, eNrm, toVal, deref, derefs, listAt, noPlc, Out.of, retOf, Res.o, ixD, slD, eB, iB, iA, iItems, itemsD, eCall, eCallIo, eCallK, permV, isMut, mutL, remut, eMeth, appendD, popD, eIsi, isi_int, isi_bool, isi_tup, sNil, sSeq, sEx, sRet, sIf, sSet, sSetIx, setIx, setOk_z, setOk_s, nI_un, nI_val, nI_own, listOf_lst, listOf_tup, listOf_fix, putO, sPars, putsR, sPar, sPar3, sAsg, sFor, sRaise, gN, gT, gsC, gsN, addD, subD, mulD, fdivD, modD, powD, cmpD, negD, lenD, listD, tupleD, intD, absD, zipD, enumD, ttYes, wipeE, canWipe, restE, wipSV, Option.getD_some, List.getElem?_cons_zero, List.getElem?_cons_succ, List.set_cons_zero, List.set_cons_succ, List.length_cons, List.length_nil, List.map_cons, List.map_nil, List.getD_cons_zero, List.getD_cons_succ, Option.bind_some, Option.map_some, Option.isSome_some, Option.bind_none, Option.map_none, Option.isSome_none, if_true, if_false, ite_ap, ixN30, ixN31, ixN32, Int.reduceLE, Int.reduceLT, Int.reduceNeg, nab10, nab2, Int.reduceToNat, Nat.reducePow, Nat.reduceLT, reduceCtorEq, atI_z, atI_1, atI_2, atI_3, atI_at, atI_m1, List.replicate, List.cons_append, List.nil_append, List.append_nil, reduceIte, and_self, and_true, true_and, false_and, and_false, ne_eq, not_true_eq_false, not_false_eq_true, eq_self, Bool.true_and, Bool.and_true, Bool.false_and, Bool.and_false, Bool.not_true, Bool.not_false, Bool.false_eq_true, Nat.reduceAdd, Nat.reduceSub, Nat.reduceLeDiff, Nat.reduceLT, eqD_int, w1, decide_false] <;> rfl)) ?_
    refine Eq.trans (sSeq_nx (by simp only [runF, startE, finF, ioOf, bnd, eVar, eC, eOp, eUn, eIx, eSl, eTup, eLst, eIf, eAnd, eOr, eNot, eChain, tCmpD, tOf, tTru, DS.tAnd, DS.tOr, DS.tNot, asT, truth, aNil, aCons, bNil, bCons, cNil, cCons, oNone, oSome, eVal, eNrm, toVal, deref, derefs, listAt, noPlc, Out.of, retOf, Res.o, ixD, slD, eB, iB, iA, iItems, itemsD, eCall, eCallIo, eCallK, permV, isMut, mutL, remut, eMeth, appendD, popD, eIsi, isi_int, isi_bool, isi_tup, sNil, sSeq, sEx, sRet, sIf, sSet, sSetIx, setIx, setOk_z, setOk_s, nI_un, nI_val, nI_own, listOf_lst, listOf_tup, listOf_fix, putO, sPars, putsR, sPar, sPar3, sAsg, sFor, sRaise, gN, gT, gsC, gsN, addD, subD, mulD, fdivD, modD, powD, cmpD, negD, lenD, listD, tupleD, intD, absD, zipD, enumD, ttYes, wipeE, canWipe, restE, wipSV, Option.getD_some, List.getElem?_cons_zero, List.getElem?_cons_succ, List.set_cons_zero, List.set_cons_succ, List.length_cons, List.length_nil, List.map_cons, List.map_nil, List.getD_cons_zero, List.getD_cons_succ, Option.bind_some, Option.map_some, Option.isSome_some, Option.bind_none, Option.map_none, Option.isSome_none, if_true, if_false, ite_ap, ixN30, ixN31, ixN32, Int.reduceLE, Int.reduceLT, Int.reduceNeg, nab10, nab2, Int.reduceToNat, Nat.reducePow, Nat.reduceLT, reduceCtorEq, atI_z, atI_1, atI_2, atI_3, atI_at, atI_m1, List.replicate, List.cons_append, List.nil_append, List.append_nil, reduceIte, and_self, and_true, true_and, false_and, and_false, ne_eq, not_true_eq_false, not_false_eq_true, eq_self, Bool.true_and, Bool.and_true, Bool.false_and, Bool.and_false, Bool.not_true, Bool.not_false, Bool.false_eq_true, Nat.reduceAdd, Nat.reduceSub, Nat.reduceLeDiff, Nat.reduceLT, e5] <;> rfl)) ?_
    refine sSeq_nx ?_
    simp only [runF, startE, finF, ioOf, bnd, eVar, eC, eOp, eUn, eIx, eSl, eTup, eLst, eIf, eAnd, eOr, eNot, eChain, tCmpD, tOf, tTru, DS.tAnd, DS.tOr, DS.tNot, asT, truth, aNil, aCons, bNil, bCons, cNil, cCons, oNone, oSome, eVal, eNrm, toVal, deref, derefs, listAt, noPlc, Out.of, retOf, Res.o, ixD, slD, eB, iB, iA, iItems, itemsD, eCall, eCallIo, eCallK, permV, isMut, mutL, remut, eMeth, appendD, popD, eIsi, isi_int, isi_bool, isi_tup, sNil, sSeq, sEx, sRet, sIf, sSet, sSetIx, setIx, setOk_z, setOk_s, nI_un, nI_val, nI_own, listOf_lst, listOf_tup, listOf_fix, putO, sPars, putsR, sPar, sPar3, sAsg, sFor, sRaise, gN, gT, gsC, gsN, addD, subD, mulD, fdivD, modD, powD, cmpD, negD, lenD, listD, tupleD, intD, absD, zipD, enumD, ttYes, wipeE, canWipe, restE, wipSV, Option.getD_some, List.getElem?_cons_zero, List.getElem?_cons_succ, List.set_cons_zero, List.set_cons_succ, List.length_cons, List.length_nil, List.map_cons, List.map_nil, List.getD_cons_zero, List.getD_cons_succ, Option.bind_some, Option.map_some, Option.isSome_some, Option.bind_none, Option.map_none, Option.isSome_none, if_true, if_false, ite_ap, ixN30, ixN31, ixN32, Int.reduceLE, Int.reduceLT, Int.reduceNeg, nab10, nab2, Int.reduceToNat, Nat.reducePow, Nat.reduceLT, reduceCtorEq, atI_z, atI_1, atI_2, atI_3, atI_at, atI_m1, List.replicate, List.cons_append, List.nil_append, List.append_nil, reduceIte, and_self, and_true, true_and, false_and, and_false, ne_eq, not_true_eq_false, not_false_eq_true, eq_self, Bool.true_and, Bool.and_true, Bool.false_and, Bool.and_false, Bool.not_true, Bool.not_false, Bool.false_eq_true, Nat.reduceAdd, Nat.reduceSub, Nat.reduceLeDiff, Nat.reduceLT, e6]
  have vl := vals_len e m
  by_cases w2 : way = 2
  · obtain ⟨sp, l6, e7, p7, q7, F6⟩ := draw_ok F5 (by omega) (m := (m : Int)) (by omega) (by have : (40 : Int) < 10 ^ 60 := (by decide); omega)
    obtain ⟨k, rfl⟩ := Int.eq_ofNat_of_zero_le p7
    obtain ⟨x, l7, e8, p8, F7⟩ := one_ints F6 (by omega) (ns := [1, -1, 60]) nofun (by simp)
    simp only [iL_cons, iL_nil] at e8
    have g := get_sq (l := vals e m) (i := k) (by omega)
    let r' := (vals e m).take k ++ [sq (vals e m) k + x] ++ (vals e m).drop (k + 1)
    have rl : r'.length = m := by simp [r', vl]; omega
    refine ⟨r', .non, l7, fin _ _ _ ([.val (.lst lnL), .val (.int (m : Int)), .val (.int size), .val (.int way), s, .own (iL (vals e m)), .val (.int (k : Int)), .un, .un, .un]) ?_, by omega, .inl rfl, F7.mono (by omega)⟩
    have d2 : decide (way = 2) = true := decide_eq_true w2
    have t1 : ((vals e m).take k).length + 1 ≤ sizeLine := sz63 (by simp; omega)
    have t2 : ((vals e m).take k ++ [sq (vals e m) k + x]).length + ((vals e m).drop (k + 1)).length ≤ sizeLine := sz63 (by simp; omega)
    have t3 : iL ((vals e m).take k) ++ [D.int (sq (vals e m) k + x)] = iL ((vals e m).take k ++ [sq (vals e m) k + x]) := by simp [iL]
    have t4 : (k : Int) + 1 = ((k + 1 : Nat) : Int) := by omega
    unfold B_law_row
    refine (pre _).trans (sSeq_rt ?_)
    have inner : (sSet 7 (eCallIo S_law_draw 0 (aCons (eVar 2) aNil))) [.inn l5, .val (.lst lnL), .val (.int (m : Int)), .val (.int size), .val (.int way), s, .own (iL (vals e m)), .un, .un, .un, .un] = .ok .nx [.inn l6, .val (.lst lnL), .val (.int (m : Int)), .val (.int size), .val (.int way), s, .own (iL (vals e m)), .val (.int (k : Int)), .un, .un, .un] := by
      simp only [runF, startE, finF, ioOf, bnd, eVar, eC, eOp, eUn, eIx, eSl, eTup, eLst, eIf, eAnd, eOr, eNot, eChain, tCmpD, tOf, tTru, DS.tAnd, DS.tOr, DS.tNot, asT, truth, aNil, aCons, bNil, bCons, cNil, cCons, oNone, oSome, eVal, eNrm, toVal, deref, derefs, listAt, noPlc, Out.of, retOf, Res.o, ixD, slD, eB, iB, iA, iItems, itemsD, eCall, eCallIo, eCallK, permV, isMut, mutL, remut, eMeth, appendD, popD, eIsi, isi_int, isi_bool, isi_tup, sNil, sSeq, sEx, sRet, sIf, sSet, sSetIx, setIx, setOk_z, setOk_s, nI_un, nI_val, nI_own, listOf_lst, listOf_tup, listOf_fix, putO, sPars, putsR, sPar, sPar3, sAsg, sFor, sRaise, gN, gT, gsC, gsN, addD, subD, mulD, fdivD, modD, powD, cmpD, negD, lenD, listD, tupleD, intD, absD, zipD, enumD, ttYes, wipeE, canWipe, restE, wipSV, Option.getD_some, List.getElem?_cons_zero, List.getElem?_cons_succ, List.set_cons_zero, List.set_cons_succ, List.length_cons, List.length_nil, List.map_cons, List.map_nil, List.getD_cons_zero, List.getD_cons_succ, Option.bind_some, Option.map_some, Option.isSome_some, Option.bind_none, Option.map_none, Option.isSome_none, if_true, if_false, ite_ap, ixN30, ixN31, ixN32, Int.reduceLE, Int.reduceLT, Int.reduceNeg, nab10, nab2, Int.reduceToNat, Nat.reducePow, Nat.reduceLT, reduceCtorEq, atI_z, atI_1, atI_2, atI_3, atI_at, atI_m1, List.replicate, List.cons_append, List.nil_append, List.append_nil, reduceIte, and_self, and_true, true_and, false_and, and_false, ne_eq, not_true_eq_false, not_false_eq_true, eq_self, Bool.true_and, Bool.and_true, Bool.false_and, Bool.and_false, Bool.not_true, Bool.not_false, Bool.false_eq_true, Nat.reduceAdd, Nat.reduceSub, Nat.reduceLeDiff, Nat.reduceLT, e7]
    have cond : tCmpD eqD (eVar 4) (eC (.int 2)) [.inn l5, .val (.lst lnL), .val (.int (m : Int)), .val (.int size), .val (.int way), s, .own (iL (vals e m)), .un, .un, .un, .un] = .ok true [.inn l5, .val (.lst lnL), .val (.int (m : Int)), .val (.int size), .val (.int way), s, .own (iL (vals e m)), .un, .un, .un, .un] := by
      simp only [runF, startE, finF, ioOf, bnd, eVar, eC, eOp, eUn, eIx, eSl, eTup, eLst, eIf, eAnd, eOr, eNot, eChain, tCmpD, tOf, tTru, DS.tAnd, DS.tOr, DS.tNot, asT, truth, aNil, aCons, bNil, bCons, cNil, cCons, oNone, oSome, eVal, eNrm, toVal, deref, derefs, listAt, noPlc, Out.of, retOf, Res.o, ixD, slD, eB, iB, iA, iItems, itemsD, eCall, eCallIo, eCallK, permV, isMut, mutL, remut, eMeth, appendD, popD, eIsi, isi_int, isi_bool, isi_tup, sNil, sSeq, sEx, sRet, sIf, sSet, sSetIx, setIx, setOk_z, setOk_s, nI_un, nI_val, nI_own, listOf_lst, listOf_tup, listOf_fix, putO, sPars, putsR, sPar, sPar3, sAsg, sFor, sRaise, gN, gT, gsC, gsN, addD, subD, mulD, fdivD, modD, powD, cmpD, negD, lenD, listD, tupleD, intD, absD, zipD, enumD, ttYes, wipeE, canWipe, restE, wipSV, Option.getD_some, List.getElem?_cons_zero, List.getElem?_cons_succ, List.set_cons_zero, List.set_cons_succ, List.length_cons, List.length_nil, List.map_cons, List.map_nil, List.getD_cons_zero, List.getD_cons_succ, Option.bind_some, Option.map_some, Option.isSome_some, Option.bind_none, Option.map_none, Option.isSome_none, if_true, if_false, ite_ap, ixN30, ixN31, ixN32, Int.reduceLE, Int.reduceLT, Int.reduceNeg, nab10, nab2, Int.reduceToNat, Nat.reducePow, Nat.reduceLT, reduceCtorEq, atI_z, atI_1, atI_2, atI_3, atI_at, atI_m1, List.replicate, List.cons_append, List.nil_append, List.append_nil, reduceIte, and_self, and_true, true_and, false_and, and_false, ne_eq, not_true_eq_false, not_false_eq_true, eq_self, Bool.true_and, Bool.and_true, Bool.false_and, Bool.and_false, Bool.not_true, Bool.not_false, Bool.false_eq_true, Nat.reduceAdd, Nat.reduceSub, Nat.reduceLeDiff, Nat.reduceLT, eqD_int, d2]
    unfold sIf bnd
    rw [cond]
    dsimp only
    rw [if_pos rfl, sSeq_nx inner]
    simp only [runF, startE, finF, ioOf, bnd, eVar, eC, eOp, eUn, eIx, eSl, eTup, eLst, eIf, eAnd, eOr, eNot, eChain, tCmpD, tOf, tTru, DS.tAnd, DS.tOr, DS.tNot, asT, truth, aNil, aCons, bNil, bCons, cNil, cCons, oNone, oSome, eVal, eNrm, toVal, deref, derefs, listAt, noPlc, Out.of, retOf, Res.o, ixD, slD, eB, iB, iA, iItems, itemsD, eCall, eCallIo, eCallK, permV, isMut, mutL, remut, eMeth, appendD, popD, eIsi, isi_int, isi_bool, isi_tup, sNil, sSeq, sEx, sRet, sIf, sSet, sSetIx, setIx, setOk_z, setOk_s, nI_un, nI_val, nI_own, listOf_lst, listOf_tup, listOf_fix, putO, sPars, putsR, sPar, sPar3, sAsg, sFor, sRaise, gN, gT, gsC, gsN, addD, subD, mulD, fdivD, modD, powD, cmpD, negD, lenD, listD, tupleD, intD, absD, zipD, enumD, ttYes, wipeE, canWipe, restE, wipSV, Option.getD_some, List.getElem?_cons_zero, List.getElem?_cons_succ, List.set_cons_zero, List.set_cons_succ, List.length_cons, List.length_nil, List.map_cons, List.map_nil, List.getD_cons_zero, List.getD_cons_succ, Option.bind_some, Option.map_some, Option.isSome_some, Option.bind_none, Option.map_none, Option.isSome_none, if_true, if_false, ite_ap, ixN30, ixN31, ixN32, Int.reduceLE, Int.reduceLT, Int.reduceNeg, nab10, nab2, Int.reduceToNat, Nat.reducePow, Nat.reduceLT, reduceCtorEq, atI_z, atI_1, atI_2, atI_3, atI_at, atI_m1, List.replicate, List.cons_append, List.nil_append, List.append_nil, reduceIte, and_self, and_true, true_and, false_and, and_false, ne_eq, not_true_eq_false, not_false_eq_true, eq_self, Bool.true_and, Bool.and_true, Bool.false_and, Bool.and_false, Bool.not_true, Bool.not_false, Bool.false_eq_true, Nat.reduceAdd, Nat.reduceSub, Nat.reduceLeDiff, Nat.reduceLT, cut_n, cut_f, t4, iL_take, iL_drop, iL_len, g, e8, z3, z1, t1, t3, t2, z2, ← iL_app]
    rfl
  · have c2 : tCmpD eqD (eVar 4) (eC (.int 2)) [.inn l5, .val (.lst lnL), .val (.int (m : Int)), .val (.int size), .val (.int way), s, .own (iL (vals e m)), .un, .un, .un, .un] = .ok false [.inn l5, .val (.lst lnL), .val (.int (m : Int)), .val (.int size), .val (.int way), s, .own (iL (vals e m)), .un, .un, .un, .un] := by
      simp only [runF, startE, finF, ioOf, bnd, eVar, eC, eOp, eUn, eIx, eSl, eTup, eLst, eIf, eAnd, eOr, eNot, eChain, tCmpD, tOf, tTru, DS.tAnd, DS.tOr, DS.tNot, asT, truth, aNil, aCons, bNil, bCons, cNil, cCons, oNone, oSome, eVal, eNrm, toVal, deref, derefs, listAt, noPlc, Out.of, retOf, Res.o, ixD, slD, eB, iB, iA, iItems, itemsD, eCall, eCallIo, eCallK, permV, isMut, mutL, remut, eMeth, appendD, popD, eIsi, isi_int, isi_bool, isi_tup, sNil, sSeq, sEx, sRet, sIf, sSet, sSetIx, setIx, setOk_z, setOk_s, nI_un, nI_val, nI_own, listOf_lst, listOf_tup, listOf_fix, putO, sPars, putsR, sPar, sPar3, sAsg, sFor, sRaise, gN, gT, gsC, gsN, addD, subD, mulD, fdivD, modD, powD, cmpD, negD, lenD, listD, tupleD, intD, absD, zipD, enumD, ttYes, wipeE, canWipe, restE, wipSV, Option.getD_some, List.getElem?_cons_zero, List.getElem?_cons_succ, List.set_cons_zero, List.set_cons_succ, List.length_cons, List.length_nil, List.map_cons, List.map_nil, List.getD_cons_zero, List.getD_cons_succ, Option.bind_some, Option.map_some, Option.isSome_some, Option.bind_none, Option.map_none, Option.isSome_none, if_true, if_false, ite_ap, ixN30, ixN31, ixN32, Int.reduceLE, Int.reduceLT, Int.reduceNeg, nab10, nab2, Int.reduceToNat, Nat.reducePow, Nat.reduceLT, reduceCtorEq, atI_z, atI_1, atI_2, atI_3, atI_at, atI_m1, List.replicate, List.cons_append, List.nil_append, List.append_nil, reduceIte, and_self, and_true, true_and, false_and, and_false, ne_eq, not_true_eq_false, not_false_eq_true, eq_self, Bool.true_and, Bool.and_true, Bool.false_and, Bool.and_false, Bool.not_true, Bool.not_false, Bool.false_eq_true, Nat.reduceAdd, Nat.reduceSub, Nat.reduceLeDiff, Nat.reduceLT, eqD_int, w2, decide_false]
    have c2' : ∀ A : Sm Fl, sIf (tCmpD eqD (eVar 4) (eC (.int 2))) A sNil [.inn l5, .val (.lst lnL), .val (.int (m : Int)), .val (.int size), .val (.int way), s, .own (iL (vals e m)), .un, .un, .un, .un] = .ok .nx [.inn l5, .val (.lst lnL), .val (.int (m : Int)), .val (.int size), .val (.int way), s, .own (iL (vals e m)), .un, .un, .un, .un] := fun A => by
      unfold sIf bnd
      rw [c2]
      rfl
    have ti := inD_tup way [3, 4]
    simp only [iL_cons, iL_nil] at ti
    by_cases w34 : way ∈ [(3 : Int), 4]
    · obtain ⟨sm, l6, e7, p7, q7, F6⟩ := draw_ok F5 (by omega) (m := (m : Int) + 1) (by omega) (by have : (41 : Int) < 10 ^ 60 := (by decide); omega)
      obtain ⟨k, rfl⟩ := Int.eq_ofNat_of_zero_le p7
      obtain ⟨ns, l7, e8, h8, F7⟩ := C5_row (a1 := .val (.lst lnL)) (a2 := .val (.int (m : Int))) (a3 := .val (.int size)) (a4 := .val (.int way)) (a5 := s) (a6 := .own (iL (vals e m))) (a7 := .un) (a10 := .un) (m := k) F6 (by omega) (by omega)
      let r' := ns ++ (vals e m).drop k
      have rl : r'.length = m := by simp [r', vl]; omega
      refine ⟨r', .non, l7, fin _ _ _ ([.val (.lst lnL), .val (.int (m : Int)), .val (.int size), .val (.int way), s, .own (iL (vals e m)), .un, .val (.int (k : Int)), .un, .un]) ?_, by omega, .inl rfl, F7.mono (by omega)⟩
      have d2 : decide (way ∈ [(3 : Int), 4]) = true := decide_eq_true w34
      have t2 : ns.length + ((vals e m).drop k).length ≤ sizeLine := sz63 (by simp; omega)
      unfold B_law_row
      refine (pre _).trans ((sSeq_nx (c2' _)).trans (sSeq_rt ?_))
      have cond : tCmpD (inD false) (eVar 4) (eTup (aCons (eC (.int 3)) (aCons (eC (.int 4)) aNil))) [.inn l5, .val (.lst lnL), .val (.int (m : Int)), .val (.int size), .val (.int way), s, .own (iL (vals e m)), .un, .un, .un, .un] = .ok true [.inn l5, .val (.lst lnL), .val (.int (m : Int)), .val (.int size), .val (.int way), s, .own (iL (vals e m)), .un, .un, .un, .un] := by
        simp only [runF, startE, finF, ioOf, bnd, eVar, eC, eOp, eUn, eIx, eSl, eTup, eLst, eIf, eAnd, eOr, eNot, eChain, tCmpD, tOf, tTru, DS.tAnd, DS.tOr, DS.tNot, asT, truth, aNil, aCons, bNil, bCons, cNil, cCons, oNone, oSome, eVal, eNrm, toVal, deref, derefs, listAt, noPlc, Out.of, retOf, Res.o, ixD, slD, eB, iB, iA, iItems, itemsD, eCall, eCallIo, eCallK, permV, isMut, mutL, remut, eMeth, appendD, popD, eIsi, isi_int, isi_bool, isi_tup, sNil, sSeq, sEx, sRet, sIf, sSet, sSetIx, setIx, setOk_z, setOk_s, nI_un, nI_val, nI_own, listOf_lst, listOf_tup, listOf_fix, putO, sPars, putsR, sPar, sPar3, sAsg, sFor, sRaise, gN, gT, gsC, gsN, addD, subD, mulD, fdivD, modD, powD, cmpD, negD, lenD, listD, tupleD, intD, absD, zipD, enumD, ttYes, wipeE, canWipe, restE, wipSV, Option.getD_some, List.getElem?_cons_zero, List.getElem?_cons_succ, List.set_cons_zero, List.set_cons_succ, List.length_cons, List.length_nil, List.map_cons, List.map_nil, List.getD_cons_zero, List.getD_cons_succ, Option.bind_some, Option.map_some, Option.isSome_some, Option.bind_none, Option.map_none, Option.isSome_none, if_true, if_false, ite_ap, ixN30, ixN31, ixN32, Int.reduceLE, Int.reduceLT, Int.reduceNeg, nab10, nab2, Int.reduceToNat, Nat.reducePow, Nat.reduceLT, reduceCtorEq, atI_z, atI_1, atI_2, atI_3, atI_at, atI_m1, List.replicate, List.cons_append, List.nil_append, List.append_nil, reduceIte, and_self, and_true, true_and, false_and, and_false, ne_eq, not_true_eq_false, not_false_eq_true, eq_self, Bool.true_and, Bool.and_true, Bool.false_and, Bool.and_false, Bool.not_true, Bool.not_false, Bool.false_eq_true, Nat.reduceAdd, Nat.reduceSub, Nat.reduceLeDiff, Nat.reduceLT, z2, ti, d2]
      have inner : (sSet 8 (eCallIo S_law_draw 0 (aCons (eOp addD (eVar 2) (eC (.int 1))) aNil))) [.inn l5, .val (.lst lnL), .val (.int (m : Int)), .val (.int size), .val (.int way), s, .own (iL (vals e m)), .un, .un, .un, .un] = .ok .nx [.inn l6, .val (.lst lnL), .val (.int (m : Int)), .val (.int size), .val (.int way), s, .own (iL (vals e m)), .un, .val (.int (k : Int)), .un, .un] := by
        simp only [runF, startE, finF, ioOf, bnd, eVar, eC, eOp, eUn, eIx, eSl, eTup, eLst, eIf, eAnd, eOr, eNot, eChain, tCmpD, tOf, tTru, DS.tAnd, DS.tOr, DS.tNot, asT, truth, aNil, aCons, bNil, bCons, cNil, cCons, oNone, oSome, eVal, eNrm, toVal, deref, derefs, listAt, noPlc, Out.of, retOf, Res.o, ixD, slD, eB, iB, iA, iItems, itemsD, eCall, eCallIo, eCallK, permV, isMut, mutL, remut, eMeth, appendD, popD, eIsi, isi_int, isi_bool, isi_tup, sNil, sSeq, sEx, sRet, sIf, sSet, sSetIx, setIx, setOk_z, setOk_s, nI_un, nI_val, nI_own, listOf_lst, listOf_tup, listOf_fix, putO, sPars, putsR, sPar, sPar3, sAsg, sFor, sRaise, gN, gT, gsC, gsN, addD, subD, mulD, fdivD, modD, powD, cmpD, negD, lenD, listD, tupleD, intD, absD, zipD, enumD, ttYes, wipeE, canWipe, restE, wipSV, Option.getD_some, List.getElem?_cons_zero, List.getElem?_cons_succ, List.set_cons_zero, List.set_cons_succ, List.length_cons, List.length_nil, List.map_cons, List.map_nil, List.getD_cons_zero, List.getD_cons_succ, Option.bind_some, Option.map_some, Option.isSome_some, Option.bind_none, Option.map_none, Option.isSome_none, if_true, if_false, ite_ap, ixN30, ixN31, ixN32, Int.reduceLE, Int.reduceLT, Int.reduceNeg, nab10, nab2, Int.reduceToNat, Nat.reducePow, Nat.reduceLT, reduceCtorEq, atI_z, atI_1, atI_2, atI_3, atI_at, atI_m1, List.replicate, List.cons_append, List.nil_append, List.append_nil, reduceIte, and_self, and_true, true_and, false_and, and_false, ne_eq, not_true_eq_false, not_false_eq_true, eq_self, Bool.true_and, Bool.and_true, Bool.false_and, Bool.and_false, Bool.not_true, Bool.not_false, Bool.false_eq_true, Nat.reduceAdd, Nat.reduceSub, Nat.reduceLeDiff, Nat.reduceLT, e7]
      unfold sIf bnd
      rw [cond]
      dsimp only
      rw [if_pos rfl, sSeq_nx inner]
      simp only [runF, startE, finF, ioOf, bnd, eVar, eC, eOp, eUn, eIx, eSl, eTup, eLst, eIf, eAnd, eOr, eNot, eChain, tCmpD, tOf, tTru, DS.tAnd, DS.tOr, DS.tNot, asT, truth, aNil, aCons, bNil, bCons, cNil, cCons, oNone, oSome, eVal, eNrm, toVal, deref, derefs, listAt, noPlc, Out.of, retOf, Res.o, ixD, slD, eB, iB, iA, iItems, itemsD, eCall, eCallIo, eCallK, permV, isMut, mutL, remut, eMeth, appendD, popD, eIsi, isi_int, isi_bool, isi_tup, sNil, sSeq, sEx, sRet, sIf, sSet, sSetIx, setIx, setOk_z, setOk_s, nI_un, nI_val, nI_own, listOf_lst, listOf_tup, listOf_fix, putO, sPars, putsR, sPar, sPar3, sAsg, sFor, sRaise, gN, gT, gsC, gsN, addD, subD, mulD, fdivD, modD, powD, cmpD, negD, lenD, listD, tupleD, intD, absD, zipD, enumD, ttYes, wipeE, canWipe, restE, wipSV, Option.getD_some, List.getElem?_cons_zero, List.getElem?_cons_succ, List.set_cons_zero, List.set_cons_succ, List.length_cons, List.length_nil, List.map_cons, List.map_nil, List.getD_cons_zero, List.getD_cons_succ, Option.bind_some, Option.map_some, Option.isSome_some, Option.bind_none, Option.map_none, Option.isSome_none, if_true, if_false, ite_ap, ixN30, ixN31, ixN32, Int.reduceLE, Int.reduceLT, Int.reduceNeg, nab10, nab2, Int.reduceToNat, Nat.reducePow, Nat.reduceLT, reduceCtorEq, atI_z, atI_1, atI_2, atI_3, atI_at, atI_m1, List.replicate, List.cons_append, List.nil_append, List.append_nil, reduceIte, and_self, and_true, true_and, false_and, and_false, ne_eq, not_true_eq_false, not_false_eq_true, eq_self, Bool.true_and, Bool.and_true, Bool.false_and, Bool.and_false, Bool.not_true, Bool.not_false, Bool.false_eq_true, Nat.reduceAdd, Nat.reduceSub, Nat.reduceLeDiff, Nat.reduceLT, e8, cut_f, iL_drop, iL_len, t2, z2, ← iL_app]
      rfl
    · have d2 : decide (way ∈ [(3 : Int), 4]) = false := decide_eq_false w34
      have cond : ∀ A : Sm Fl, sIf (tCmpD (inD false) (eVar 4) (eTup (aCons (eC (.int 3)) (aCons (eC (.int 4)) aNil)))) A sNil [.inn l5, .val (.lst lnL), .val (.int (m : Int)), .val (.int size), .val (.int way), s, .own (iL (vals e m)), .un, .un, .un, .un] = .ok .nx [.inn l5, .val (.lst lnL), .val (.int (m : Int)), .val (.int size), .val (.int way), s, .own (iL (vals e m)), .un, .un, .un, .un] := fun A => by
        simp only [runF, startE, finF, ioOf, bnd, eVar, eC, eOp, eUn, eIx, eSl, eTup, eLst, eIf, eAnd, eOr, eNot, eChain, tCmpD, tOf, tTru, DS.tAnd, DS.tOr, DS.tNot, asT, truth, aNil, aCons, bNil, bCons, cNil, cCons, oNone, oSome, eVal, eNrm, toVal, deref, derefs, listAt, noPlc, Out.of, retOf, Res.o, ixD, slD, eB, iB, iA, iItems, itemsD, eCall, eCallIo, eCallK, permV, isMut, mutL, remut, eMeth, appendD, popD, eIsi, isi_int, isi_bool, isi_tup, sNil, sSeq, sEx, sRet, sIf, sSet, sSetIx, setIx, setOk_z, setOk_s, nI_un, nI_val, nI_own, listOf_lst, listOf_tup, listOf_fix, putO, sPars, putsR, sPar, sPar3, sAsg, sFor, sRaise, gN, gT, gsC, gsN, addD, subD, mulD, fdivD, modD, powD, cmpD, negD, lenD, listD, tupleD, intD, absD, zipD, enumD, ttYes, wipeE, canWipe, restE, wipSV, Option.getD_some, List.getElem?_cons_zero, List.getElem?_cons_succ, List.set_cons_zero, List.set_cons_succ, List.length_cons, List.length_nil, List.map_cons, List.map_nil, List.getD_cons_zero, List.getD_cons_succ, Option.bind_some, Option.map_some, Option.isSome_some, Option.bind_none, Option.map_none, Option.isSome_none, if_true, if_false, ite_ap, ixN30, ixN31, ixN32, Int.reduceLE, Int.reduceLT, Int.reduceNeg, nab10, nab2, Int.reduceToNat, Nat.reducePow, Nat.reduceLT, reduceCtorEq, atI_z, atI_1, atI_2, atI_3, atI_at, atI_m1, List.replicate, List.cons_append, List.nil_append, List.append_nil, reduceIte, and_self, and_true, true_and, false_and, and_false, ne_eq, not_true_eq_false, not_false_eq_true, eq_self, Bool.true_and, Bool.and_true, Bool.false_and, Bool.and_false, Bool.not_true, Bool.not_false, Bool.false_eq_true, Nat.reduceAdd, Nat.reduceSub, Nat.reduceLeDiff, Nat.reduceLT, z2, ti, d2]
      refine ⟨vals e m, .lst (iL e), l5, fin _ _ _ ([.val (.lst lnL), .val (.int (m : Int)), .val (.int size), .val (.int way), .val (.lst (iL e)), .own (iL (vals e m)), .un, .un, .un, .un]) ?_, by omega, .inr ⟨e, rfl, h5, b5, by rw [vl]⟩, F5.mono (by omega)⟩
      unfold B_law_row
      refine (pre _).trans ((sSeq_nx (c2' _)).trans ((sSeq_nx (cond _)).trans ?_))
      rcases hsl with rfl | rfl
      · simp only [runF, startE, finF, ioOf, bnd, eVar, eC, eOp, eUn, eIx, eSl, eTup, eLst, eIf, eAnd, eOr, eNot, eChain, tCmpD, tOf, tTru, DS.tAnd, DS.tOr, DS.tNot, asT, truth, aNil, aCons, bNil, bCons, cNil, cCons, oNone, oSome, eVal, eNrm, toVal, deref, derefs, listAt, noPlc, Out.of, retOf, Res.o, ixD, slD, eB, iB, iA, iItems, itemsD, eCall, eCallIo, eCallK, permV, isMut, mutL, remut, eMeth, appendD, popD, eIsi, isi_int, isi_bool, isi_tup, sNil, sSeq, sEx, sRet, sIf, sSet, sSetIx, setIx, setOk_z, setOk_s, nI_un, nI_val, nI_own, listOf_lst, listOf_tup, listOf_fix, putO, sPars, putsR, sPar, sPar3, sAsg, sFor, sRaise, gN, gT, gsC, gsN, addD, subD, mulD, fdivD, modD, powD, cmpD, negD, lenD, listD, tupleD, intD, absD, zipD, enumD, ttYes, wipeE, canWipe, restE, wipSV, Option.getD_some, List.getElem?_cons_zero, List.getElem?_cons_succ, List.set_cons_zero, List.set_cons_succ, List.length_cons, List.length_nil, List.map_cons, List.map_nil, List.getD_cons_zero, List.getD_cons_succ, Option.bind_some, Option.map_some, Option.isSome_some, Option.bind_none, Option.map_none, Option.isSome_none, if_true, if_false, ite_ap, ixN30, ixN31, ixN32, Int.reduceLE, Int.reduceLT, Int.reduceNeg, nab10, nab2, Int.reduceToNat, Nat.reducePow, Nat.reduceLT, reduceCtorEq, atI_z, atI_1, atI_2, atI_3, atI_at, atI_m1, List.replicate, List.cons_append, List.nil_append, List.append_nil, reduceIte, and_self, and_true, true_and, false_and, and_false, ne_eq, not_true_eq_false, not_false_eq_true, eq_self, Bool.true_and, Bool.and_true, Bool.false_and, Bool.and_false, Bool.not_true, Bool.not_false, Bool.false_eq_true, Nat.reduceAdd, Nat.reduceSub, Nat.reduceLeDiff, Nat.reduceLT, z2]
      · simp only [runF, startE, finF, ioOf, bnd, eVar, eC, eOp, eUn, eIx, eSl, eTup, eLst, eIf, eAnd, eOr, eNot, eChain, tCmpD, tOf, tTru, DS.tAnd, DS.tOr, DS.tNot, asT, truth, aNil, aCons, bNil, bCons, cNil, cCons, oNone, oSome, eVal, eNrm, toVal, deref, derefs, listAt, noPlc, Out.of, retOf, Res.o, ixD, slD, eB, iB, iA, iItems, itemsD, eCall, eCallIo, eCallK, permV, isMut, mutL, remut, eMeth, appendD, popD, eIsi, isi_int, isi_bool, isi_tup, sNil, sSeq, sEx, sRet, sIf, sSet, sSetIx, setIx, setOk_z, setOk_s, nI_un, nI_val, nI_own, listOf_lst, listOf_tup, listOf_fix, putO, sPars, putsR, sPar, sPar3, sAsg, sFor, sRaise, gN, gT, gsC, gsN, addD, subD, mulD, fdivD, modD, powD, cmpD, negD, lenD, listD, tupleD, intD, absD, zipD, enumD, ttYes, wipeE, canWipe, restE, wipSV, Option.getD_some, List.getElem?_cons_zero, List.getElem?_cons_succ, List.set_cons_zero, List.set_cons_succ, List.length_cons, List.length_nil, List.map_cons, List.map_nil, List.getD_cons_zero, List.getD_cons_succ, Option.bind_some, Option.map_some, Option.isSome_some, Option.bind_none, Option.map_none, Option.isSome_none, if_true, if_false, ite_ap, ixN30, ixN31, ixN32, Int.reduceLE, Int.reduceLT, Int.reduceNeg, nab10, nab2, Int.reduceToNat, Nat.reducePow, Nat.reduceLT, reduceCtorEq, atI_z, atI_1, atI_2, atI_3, atI_at, atI_m1, List.replicate, List.cons_append, List.nil_append, List.append_nil, reduceIte, and_self, and_true, true_and, false_and, and_false, ne_eq, not_true_eq_false, not_false_eq_true, eq_self, Bool.true_and, Bool.and_true, Bool.false_and, Bool.and_false, Bool.not_true, Bool.not_false, Bool.false_eq_true, Nat.reduceAdd, Nat.reduceSub, Nat.reduceLeDiff, Nat.reduceLT, z2]
end K34

set_option Elab.async false
set_option linter.all false
set_option maxRecDepth 100000
set_option maxHeartbeats 4000000
set_option exponentiation.threshold 5000
namespace K34
open PySem DS
theorem Good.sub {r : List Int} (h : Good r) {a : Nat} (ha : a < r.length) : Good (r.drop a) :=
  ⟨by rw [List.length_drop]; omega, by have := h.2.1; rw [List.length_drop]; omega, fun x hx => h.2.2 x (List.mem_of_mem_drop hx)⟩
theorem fst_some {l : List Int} {o a : Nat} (h : fst l o = some a) : a < l.length - o ∧ stl l o a = true ∧ ∀ b, b < a → stl l o b = false := by
  unfold fst at h
  rw [List.find?_range_eq_some] at h
  obtain ⟨h1, h2, h3⟩ := h
  exact ⟨by simpa using h2, h1, fun b hb => by simpa using h3 b hb⟩
theorem oD_ok {l : List Int} {o : Nat} (hl : l.length ≤ 1000) : (toPy (oD (fst l o))).showable = true ∧ (toPy (oD (fst l o))).depth ≤ 10 ∧ (shownD (oD (fst l o))).length ≤ 4000000 := by
  cases h : fst l o with
  | none => exact ok_non
  | some a =>
    have := (fst_some h).1
    exact ok_int (Nat.lt_of_lt_of_le (m := 2 ^ 20) (by omega) (Nat.pow_le_pow_right (by decide) (by decide)))
/-- one turn of the last loop -/
theorem FB_right {r : List Int} {m : Nat} {a0 a3 a4 a5 a6 a7 a8 s10 a11 a12 : SV} (h : Good r) (hm : m ≤ 10) (hs : nI s10 = true) : ∃ s', nI s' = true ∧
    FB1_law_right [a0, .val (.lst lnL), .val (.tup (iL r)), a3, a4, a5, a6, a7, a8, .val (.int (m : Int)), s10, a11, a12] = .ok .nx [a0, .val (.lst lnL), .val (.tup (iL r)), a3, a4, a5, a6, a7, a8, .val (.int (m : Int)), s', a11, a12] := by
  have hl := h.2.1
  have e1 := law_settled_eq (l := r) (m := m) (by omega) (by omega) (fun x hx => ab_up (h.sz x hx) (by omega))
  have e2 := settled_from_eq h hm
  have e3 := repr_two (oD_ok (l := r) (o := m + 1) (by omega)) (oD_ok (l := r) (o := m + 1) (by omega))
  have z2 : 0 + 1 + 1 ≤ sizeLine := sz63 (by omega)
  refine ⟨.val (oD (fst r (m + 1))), rfl, ?_⟩
  unfold FB1_law_right
  refine Eq.trans (sSeq_nx (by simp only [runF, startE, finF, ioOf, bnd, eVar, eC, eOp, eUn, eIx, eSl, eTup, eLst, eIf, eAnd, eOr, eNot, eChain, tCmpD, tOf, tTru, DS.tAnd, DS.tOr, DS.tNot, asT, truth, aNil, aCons, bNil, bCons, cNil, cCons, oNone, oSome, eVal, eNrm, toVal, deref, derefs, listAt, noPlc, Out.of, retOf, Res.o, ixD, slD, eB, iB, iA, iItems, itemsD, eCall, eCallIo, eCallK, permV, isMut, mutL, remut, eMeth, appendD, popD, eIsi, isi_int, isi_bool, isi_tup, sNil, sSeq, sEx, sRet, sIf, sSet, sSetIx, setIx, setOk_z, setOk_s, nI_un, nI_val, nI_own, listOf_lst, listOf_tup, listOf_fix, putO, sPars, putsR, sPar, sPar3, sAsg, sFor, sRaise, gN, gT, gsC, gsN, addD, subD, mulD, fdivD, modD, powD, cmpD, negD, lenD, listD, tupleD, intD, absD, zipD, enumD, ttYes, wipeE, canWipe, restE, wipSV, Option.getD_some, List.getElem?_cons_zero, List.getElem?_cons_succ, List.set_cons_zero, List.set_cons_succ, List.length_cons, List.length_nil, List.map_cons, List.map_nil, List.getD_cons_zero, List.getD_cons_succ, Option.bind_some, Option.map_some, Option.isSome_some, Option.bind_none, Option.map_none, Option.isSome_none, if_true, if_false, ite_ap, ixN30, ixN31, ixN32, Int.reduceLE, Int.reduceLT, Int.reduceNeg, nab10, nab2, Int.reduceToNat, Nat.reducePow, Nat.reduceLT, reduceCtorEq, atI_z, atI_1, atI_2, atI_3, atI_at, atI_m1, List.replicate, List.cons_append, List.nil_append, List.append_nil, reduceIte, and_self, and_true, true_and, false_and, and_false, ne_eq, not_true_eq_false, not_false_eq_true, eq_self, Bool.true_and, Bool.and_true, Bool.false_and, Bool.and_false, Bool.not_true, Bool.not_false, Bool.false_eq_true, Nat.reduceAdd, Nat.reduceSub, Nat.reduceLeDiff, Nat.reduceLT, e1, hs] <;> rfl)) ?_
  cases hq : fst r (m + 1) with
  | none =>
    rw [hq] at e2 e3
    simp only [oD] at e2 e3 ⊢
    refine Eq.trans (sSeq_nx (by simp only [runF, startE, finF, ioOf, bnd, eVar, eC, eOp, eUn, eIx, eSl, eTup, eLst, eIf, eAnd, eOr, eNot, eChain, tCmpD, tOf, tTru, DS.tAnd, DS.tOr, DS.tNot, asT, truth, aNil, aCons, bNil, bCons, cNil, cCons, oNone, oSome, eVal, eNrm, toVal, deref, derefs, listAt, noPlc, Out.of, retOf, Res.o, ixD, slD, eB, iB, iA, iItems, itemsD, eCall, eCallIo, eCallK, permV, isMut, mutL, remut, eMeth, appendD, popD, eIsi, isi_int, isi_bool, isi_tup, sNil, sSeq, sEx, sRet, sIf, sSet, sSetIx, setIx, setOk_z, setOk_s, nI_un, nI_val, nI_own, listOf_lst, listOf_tup, listOf_fix, putO, sPars, putsR, sPar, sPar3, sAsg, sFor, sRaise, gN, gT, gsC, gsN, addD, subD, mulD, fdivD, modD, powD, cmpD, negD, lenD, listD, tupleD, intD, absD, zipD, enumD, ttYes, wipeE, canWipe, restE, wipSV, Option.getD_some, List.getElem?_cons_zero, List.getElem?_cons_succ, List.set_cons_zero, List.set_cons_succ, List.length_cons, List.length_nil, List.map_cons, List.map_nil, List.getD_cons_zero, List.getD_cons_succ, Option.bind_some, Option.map_some, Option.isSome_some, Option.bind_none, Option.map_none, Option.isSome_none, if_true, if_false, ite_ap, ixN30, ixN31, ixN32, Int.reduceLE, Int.reduceLT, Int.reduceNeg, nab10, nab2, Int.reduceToNat, Nat.reducePow, Nat.reduceLT, reduceCtorEq, atI_z, atI_1, atI_2, atI_3, atI_at, atI_m1, List.replicate, List.cons_append, List.nil_append, List.append_nil, reduceIte, and_self, and_true, true_and, false_and, and_false, ne_eq, not_true_eq_false, not_false_eq_true, eq_self, Bool.true_and, Bool.and_true, Bool.false_and, Bool.and_false, Bool.not_true, Bool.not_false, Bool.false_eq_true, Nat.reduceAdd, Nat.reduceSub, Nat.reduceLeDiff, Nat.reduceLT, e2, e3, z2, neD_str, decide_true] <;> rfl)) ?_
    simp only [runF, startE, finF, ioOf, bnd, eVar, eC, eOp, eUn, eIx, eSl, eTup, eLst, eIf, eAnd, eOr, eNot, eChain, tCmpD, tOf, tTru, DS.tAnd, DS.tOr, DS.tNot, asT, truth, aNil, aCons, bNil, bCons, cNil, cCons, oNone, oSome, eVal, eNrm, toVal, deref, derefs, listAt, noPlc, Out.of, retOf, Res.o, ixD, slD, eB, iB, iA, iItems, itemsD, eCall, eCallIo, eCallK, permV, isMut, mutL, remut, eMeth, appendD, popD, eIsi, isi_int, isi_bool, isi_tup, sNil, sSeq, sEx, sRet, sIf, sSet, sSetIx, setIx, setOk_z, setOk_s, nI_un, nI_val, nI_own, listOf_lst, listOf_tup, listOf_fix, putO, sPars, putsR, sPar, sPar3, sAsg, sFor, sRaise, gN, gT, gsC, gsN, addD, subD, mulD, fdivD, modD, powD, cmpD, negD, lenD, listD, tupleD, intD, absD, zipD, enumD, ttYes, wipeE, canWipe, restE, wipSV, Option.getD_some, List.getElem?_cons_zero, List.getElem?_cons_succ, List.set_cons_zero, List.set_cons_succ, List.length_cons, List.length_nil, List.map_cons, List.map_nil, List.getD_cons_zero, List.getD_cons_succ, Option.bind_some, Option.map_some, Option.isSome_some, Option.bind_none, Option.map_none, Option.isSome_none, if_true, if_false, ite_ap, ixN30, ixN31, ixN32, Int.reduceLE, Int.reduceLT, Int.reduceNeg, nab10, nab2, Int.reduceToNat, Nat.reducePow, Nat.reduceLT, reduceCtorEq, atI_z, atI_1, atI_2, atI_3, atI_at, atI_m1, List.replicate, List.cons_append, List.nil_append, List.append_nil, reduceIte, and_self, and_true, true_and, false_and, and_false, ne_eq, not_true_eq_false, not_false_eq_true, eq_self, Bool.true_and, Bool.and_true, Bool.false_and, Bool.and_false, Bool.not_true, Bool.not_false, Bool.false_eq_true, Nat.reduceAdd, Nat.reduceSub, Nat.reduceLeDiff, Nat.reduceLT, isNotD, isN]
  | some a =>
    rw [hq] at e2 e3
    obtain ⟨h1, h2, h3⟩ := fst_some hq
    simp only [oD] at e2 e3 ⊢
    refine Eq.trans (sSeq_nx (by simp only [runF, startE, finF, ioOf, bnd, eVar, eC, eOp, eUn, eIx, eSl, eTup, eLst, eIf, eAnd, eOr, eNot, eChain, tCmpD, tOf, tTru, DS.tAnd, DS.tOr, DS.tNot, asT, truth, aNil, aCons, bNil, bCons, cNil, cCons, oNone, oSome, eVal, eNrm, toVal, deref, derefs, listAt, noPlc, Out.of, retOf, Res.o, ixD, slD, eB, iB, iA, iItems, itemsD, eCall, eCallIo, eCallK, permV, isMut, mutL, remut, eMeth, appendD, popD, eIsi, isi_int, isi_bool, isi_tup, sNil, sSeq, sEx, sRet, sIf, sSet, sSetIx, setIx, setOk_z, setOk_s, nI_un, nI_val, nI_own, listOf_lst, listOf_tup, listOf_fix, putO, sPars, putsR, sPar, sPar3, sAsg, sFor, sRaise, gN, gT, gsC, gsN, addD, subD, mulD, fdivD, modD, powD, cmpD, negD, lenD, listD, tupleD, intD, absD, zipD, enumD, ttYes, wipeE, canWipe, restE, wipSV, Option.getD_some, List.getElem?_cons_zero, List.getElem?_cons_succ, List.set_cons_zero, List.set_cons_succ, List.length_cons, List.length_nil, List.map_cons, List.map_nil, List.getD_cons_zero, List.getD_cons_succ, Option.bind_some, Option.map_some, Option.isSome_some, Option.bind_none, Option.map_none, Option.isSome_none, if_true, if_false, ite_ap, ixN30, ixN31, ixN32, Int.reduceLE, Int.reduceLT, Int.reduceNeg, nab10, nab2, Int.reduceToNat, Nat.reducePow, Nat.reduceLT, reduceCtorEq, atI_z, atI_1, atI_2, atI_3, atI_at, atI_m1, List.replicate, List.cons_append, List.nil_append, List.append_nil, reduceIte, and_self, and_true, true_and, false_and, and_false, ne_eq, not_true_eq_false, not_false_eq_true, eq_self, Bool.true_and, Bool.and_true, Bool.false_and, Bool.and_false, Bool.not_true, Bool.not_false, Bool.false_eq_true, Nat.reduceAdd, Nat.reduceSub, Nat.reduceLeDiff, Nat.reduceLT, e2, e3, z2, neD_str, decide_true] <;> rfl)) ?_
    have g1 := degree_of_row_eq (h.sub (show a < r.length by omega))
    have g2 : ¬ (m : Int) < degI (due (r.drop a)) := by
      have := (stl_deg (l := r) (m := m) (a := a) (by omega)).mpr h2
      omega
    by_cases ha : a = 0
    · subst ha
      have g7 : ¬ (0 : Int) < ((0 : Nat) : Int) := by omega
      simp only [runF, startE, finF, ioOf, bnd, eVar, eC, eOp, eUn, eIx, eSl, eTup, eLst, eIf, eAnd, eOr, eNot, eChain, tCmpD, tOf, tTru, DS.tAnd, DS.tOr, DS.tNot, asT, truth, aNil, aCons, bNil, bCons, cNil, cCons, oNone, oSome, eVal, eNrm, toVal, deref, derefs, listAt, noPlc, Out.of, retOf, Res.o, ixD, slD, eB, iB, iA, iItems, itemsD, eCall, eCallIo, eCallK, permV, isMut, mutL, remut, eMeth, appendD, popD, eIsi, isi_int, isi_bool, isi_tup, sNil, sSeq, sEx, sRet, sIf, sSet, sSetIx, setIx, setOk_z, setOk_s, nI_un, nI_val, nI_own, listOf_lst, listOf_tup, listOf_fix, putO, sPars, putsR, sPar, sPar3, sAsg, sFor, sRaise, gN, gT, gsC, gsN, addD, subD, mulD, fdivD, modD, powD, cmpD, negD, lenD, listD, tupleD, intD, absD, zipD, enumD, ttYes, wipeE, canWipe, restE, wipSV, Option.getD_some, List.getElem?_cons_zero, List.getElem?_cons_succ, List.set_cons_zero, List.set_cons_succ, List.length_cons, List.length_nil, List.map_cons, List.map_nil, List.getD_cons_zero, List.getD_cons_succ, Option.bind_some, Option.map_some, Option.isSome_some, Option.bind_none, Option.map_none, Option.isSome_none, if_true, if_false, ite_ap, ixN30, ixN31, ixN32, Int.reduceLE, Int.reduceLT, Int.reduceNeg, nab10, nab2, Int.reduceToNat, Nat.reducePow, Nat.reduceLT, reduceCtorEq, atI_z, atI_1, atI_2, atI_3, atI_at, atI_m1, List.replicate, List.cons_append, List.nil_append, List.append_nil, reduceIte, and_self, and_true, true_and, false_and, and_false, ne_eq, not_true_eq_false, not_false_eq_true, eq_self, Bool.true_and, Bool.and_true, Bool.false_and, Bool.and_false, Bool.not_true, Bool.not_false, Bool.false_eq_true, Nat.reduceAdd, Nat.reduceSub, Nat.reduceLeDiff, Nat.reduceLT, isNotD, isN, cut_f, iL_drop, g1, g2, g7, decide_false]
    · have g3 := degree_of_row_eq (h.sub (show a - 1 < r.length by omega))
      have g4 : ¬ degI (due (r.drop (a - 1))) ≤ (m : Int) := fun z => by
        have := (stl_deg (l := r) (m := m) (a := a - 1) (by omega)).mp z
        rw [h3 (a - 1) (by omega)] at this
        cases this
      have g5 : (a : Int) - 1 = ((a - 1 : Nat) : Int) := by omega
      have g6 : (0 : Int) < (a : Int) := by omega
      simp only [runF, startE, finF, ioOf, bnd, eVar, eC, eOp, eUn, eIx, eSl, eTup, eLst, eIf, eAnd, eOr, eNot, eChain, tCmpD, tOf, tTru, DS.tAnd, DS.tOr, DS.tNot, asT, truth, aNil, aCons, bNil, bCons, cNil, cCons, oNone, oSome, eVal, eNrm, toVal, deref, derefs, listAt, noPlc, Out.of, retOf, Res.o, ixD, slD, eB, iB, iA, iItems, itemsD, eCall, eCallIo, eCallK, permV, isMut, mutL, remut, eMeth, appendD, popD, eIsi, isi_int, isi_bool, isi_tup, sNil, sSeq, sEx, sRet, sIf, sSet, sSetIx, setIx, setOk_z, setOk_s, nI_un, nI_val, nI_own, listOf_lst, listOf_tup, listOf_fix, putO, sPars, putsR, sPar, sPar3, sAsg, sFor, sRaise, gN, gT, gsC, gsN, addD, subD, mulD, fdivD, modD, powD, cmpD, negD, lenD, listD, tupleD, intD, absD, zipD, enumD, ttYes, wipeE, canWipe, restE, wipSV, Option.getD_some, List.getElem?_cons_zero, List.getElem?_cons_succ, List.set_cons_zero, List.set_cons_succ, List.length_cons, List.length_nil, List.map_cons, List.map_nil, List.getD_cons_zero, List.getD_cons_succ, Option.bind_some, Option.map_some, Option.isSome_some, Option.bind_none, Option.map_none, Option.isSome_none, if_true, if_false, ite_ap, ixN30, ixN31, ixN32, Int.reduceLE, Int.reduceLT, Int.reduceNeg, nab10, nab2, Int.reduceToNat, Nat.reducePow, Nat.reduceLT, reduceCtorEq, atI_z, atI_1, atI_2, atI_3, atI_at, atI_m1, List.replicate, List.cons_append, List.nil_append, List.append_nil, reduceIte, and_self, and_true, true_and, false_and, and_false, ne_eq, not_true_eq_false, not_false_eq_true, eq_self, Bool.true_and, Bool.and_true, Bool.false_and, Bool.and_false, Bool.not_true, Bool.not_false, Bool.false_eq_true, Nat.reduceAdd, Nat.reduceSub, Nat.reduceLeDiff, Nat.reduceLT, isNotD, isN, cut_f, iL_drop, g1, g2, g3, g4, g5, g6, decide_false, decide_true]
section
variable {a0 a1 a2 a3 a4 a5 a6 a7 a8 a9 a10 a11 : SV}
theorem C1_right (r : List Int) (h : r.length ≤ 900) : C1_law_right [a0, a1, a2, a3, .val (.tup (iL r)), a5, a6, a7, a8, a9, a10, .un, .un] = .ok (.own (iL (cst (pl r)))) [a0, a1, a2, a3, .val (.tup (iL r)), a5, a6, a7, a8, a9, a10, .un, .un] := by
  have e : iL (cst (pl r)) = (r.zipIdx.filter fun p => !decide (p.1 = 0)).map fun p => D.int (p.2 : Int) := by
    simp only [iL, cst, pl, plk, List.map_map]
    rfl
  rw [e]
  unfold C1_law_right
  exact eLc_f npr (fun p => !decide (p.1 = 0)) (fun p => .int (p.2 : Int)) r.zipIdx (by simp only [runF, startE, finF, ioOf, bnd, eVar, eC, eOp, eUn, eIx, eSl, eTup, eLst, eIf, eAnd, eOr, eNot, eChain, tCmpD, tOf, tTru, DS.tAnd, DS.tOr, DS.tNot, asT, truth, aNil, aCons, bNil, bCons, cNil, cCons, oNone, oSome, eVal, eNrm, toVal, deref, derefs, listAt, noPlc, Out.of, retOf, Res.o, ixD, slD, eB, iB, iA, iItems, itemsD, eCall, eCallIo, eCallK, permV, isMut, mutL, remut, eMeth, appendD, popD, eIsi, isi_int, isi_bool, isi_tup, sNil, sSeq, sEx, sRet, sIf, sSet, sSetIx, setIx, setOk_z, setOk_s, nI_un, nI_val, nI_own, listOf_lst, listOf_tup, listOf_fix, putO, sPars, putsR, sPar, sPar3, sAsg, sFor, sRaise, gN, gT, gsC, gsN, addD, subD, mulD, fdivD, modD, powD, cmpD, negD, lenD, listD, tupleD, intD, absD, zipD, enumD, ttYes, wipeE, canWipe, restE, wipSV, Option.getD_some, List.getElem?_cons_zero, List.getElem?_cons_succ, List.set_cons_zero, List.set_cons_succ, List.length_cons, List.length_nil, List.map_cons, List.map_nil, List.getD_cons_zero, List.getD_cons_succ, Option.bind_some, Option.map_some, Option.isSome_some, Option.bind_none, Option.map_none, Option.isSome_none, if_true, if_false, ite_ap, ixN30, ixN31, ixN32, Int.reduceLE, Int.reduceLT, Int.reduceNeg, nab10, nab2, Int.reduceToNat, Nat.reducePow, Nat.reduceLT, reduceCtorEq, atI_z, atI_1, atI_2, atI_3, atI_at, atI_m1, List.replicate, List.cons_append, List.nil_append, List.append_nil, reduceIte, and_self, and_true, true_and, false_and, and_false, ne_eq, not_true_eq_false, not_false_eq_true, eq_self, Bool.true_and, Bool.and_true, Bool.false_and, Bool.and_false, Bool.not_true, Bool.not_false, Bool.false_eq_true, Nat.reduceAdd, Nat.reduceSub, Nat.reduceLeDiff, Nat.reduceLT, enumL_iL]) (sz63 (by simp; omega)) rfl (fun p hp => ⟨_, _, _, rfl, by simp only [runF, startE, finF, ioOf, bnd, eVar, eC, eOp, eUn, eIx, eSl, eTup, eLst, eIf, eAnd, eOr, eNot, eChain, tCmpD, tOf, tTru, DS.tAnd, DS.tOr, DS.tNot, asT, truth, aNil, aCons, bNil, bCons, cNil, cCons, oNone, oSome, eVal, eNrm, toVal, deref, derefs, listAt, noPlc, Out.of, retOf, Res.o, ixD, slD, eB, iB, iA, iItems, itemsD, eCall, eCallIo, eCallK, permV, isMut, mutL, remut, eMeth, appendD, popD, eIsi, isi_int, isi_bool, isi_tup, sNil, sSeq, sEx, sRet, sIf, sSet, sSetIx, setIx, setOk_z, setOk_s, nI_un, nI_val, nI_own, listOf_lst, listOf_tup, listOf_fix, putO, sPars, putsR, sPar, sPar3, sAsg, sFor, sRaise, gN, gT, gsC, gsN, addD, subD, mulD, fdivD, modD, powD, cmpD, negD, lenD, listD, tupleD, intD, absD, zipD, enumD, ttYes, wipeE, canWipe, restE, wipSV, Option.getD_some, List.getElem?_cons_zero, List.getElem?_cons_succ, List.set_cons_zero, List.set_cons_succ, List.length_cons, List.length_nil, List.map_cons, List.map_nil, List.getD_cons_zero, List.getD_cons_succ, Option.bind_some, Option.map_some, Option.isSome_some, Option.bind_none, Option.map_none, Option.isSome_none, if_true, if_false, ite_ap, ixN30, ixN31, ixN32, Int.reduceLE, Int.reduceLT, Int.reduceNeg, nab10, nab2, Int.reduceToNat, Nat.reducePow, Nat.reduceLT, reduceCtorEq, atI_z, atI_1, atI_2, atI_3, atI_at, atI_m1, List.replicate, List.cons_append, List.nil_append, List.append_nil, reduceIte, and_self, and_true, true_and, false_and, and_false, ne_eq, not_true_eq_false, not_false_eq_true, eq_self, Bool.true_and, Bool.and_true, Bool.false_and, Bool.and_false, Bool.not_true, Bool.not_false, Bool.false_eq_true, Nat.reduceAdd, Nat.reduceSub, Nat.reduceLeDiff, Nat.reduceLT, neD_int]; rfl, fun _ => ⟨by simp only [runF, startE, finF, ioOf, bnd, eVar, eC, eOp, eUn, eIx, eSl, eTup, eLst, eIf, eAnd, eOr, eNot, eChain, tCmpD, tOf, tTru, DS.tAnd, DS.tOr, DS.tNot, asT, truth, aNil, aCons, bNil, bCons, cNil, cCons, oNone, oSome, eVal, eNrm, toVal, deref, derefs, listAt, noPlc, Out.of, retOf, Res.o, ixD, slD, eB, iB, iA, iItems, itemsD, eCall, eCallIo, eCallK, permV, isMut, mutL, remut, eMeth, appendD, popD, eIsi, isi_int, isi_bool, isi_tup, sNil, sSeq, sEx, sRet, sIf, sSet, sSetIx, setIx, setOk_z, setOk_s, nI_un, nI_val, nI_own, listOf_lst, listOf_tup, listOf_fix, putO, sPars, putsR, sPar, sPar3, sAsg, sFor, sRaise, gN, gT, gsC, gsN, addD, subD, mulD, fdivD, modD, powD, cmpD, negD, lenD, listD, tupleD, intD, absD, zipD, enumD, ttYes, wipeE, canWipe, restE, wipSV, Option.getD_some, List.getElem?_cons_zero, List.getElem?_cons_succ, List.set_cons_zero, List.set_cons_succ, List.length_cons, List.length_nil, List.map_cons, List.map_nil, List.getD_cons_zero, List.getD_cons_succ, Option.bind_some, Option.map_some, Option.isSome_some, Option.bind_none, Option.map_none, Option.isSome_none, if_true, if_false, ite_ap, ixN30, ixN31, ixN32, Int.reduceLE, Int.reduceLT, Int.reduceNeg, nab10, nab2, Int.reduceToNat, Nat.reducePow, Nat.reduceLT, reduceCtorEq, atI_z, atI_1, atI_2, atI_3, atI_at, atI_m1, List.replicate, List.cons_append, List.nil_append, List.append_nil, reduceIte, and_self, and_true, true_and, false_and, and_false, ne_eq, not_true_eq_false, not_false_eq_true, eq_self, Bool.true_and, Bool.and_true, Bool.false_and, Bool.and_false, Bool.not_true, Bool.not_false, Bool.false_eq_true, Nat.reduceAdd, Nat.reduceSub, Nat.reduceLeDiff, Nat.reduceLT]; rfl, by rfl⟩, fun _ => by rfl⟩) rfl
theorem C2_right {r : List Int} (h : r.length ≤ 80) (hb : ∀ x ∈ r, x.natAbs < 2 ^ 4000) : C2_law_right [a0, .val (.lst lnL), .val (.tup (iL r)), a3, a4, a5, a6, a7, a8, a9, a10, .un, a11] = .ok (.own (iL (vals r r.length))) [a0, .val (.lst lnL), .val (.tup (iL r)), a3, a4, a5, a6, a7, a8, a9, a10, .un, a11] := by
  unfold vals
  rw [← iL_map]
  unfold C2_law_right
  exact eLc_p (fun (i : Nat) => D.int (i : Int)) (fun i => .int (VV (sq r) i)) (List.range r.length) (by simp only [runF, startE, finF, ioOf, bnd, eVar, eC, eOp, eUn, eIx, eSl, eTup, eLst, eIf, eAnd, eOr, eNot, eChain, tCmpD, tOf, tTru, DS.tAnd, DS.tOr, DS.tNot, asT, truth, aNil, aCons, bNil, bCons, cNil, cCons, oNone, oSome, eVal, eNrm, toVal, deref, derefs, listAt, noPlc, Out.of, retOf, Res.o, ixD, slD, eB, iB, iA, iItems, itemsD, eCall, eCallIo, eCallK, permV, isMut, mutL, remut, eMeth, appendD, popD, eIsi, isi_int, isi_bool, isi_tup, sNil, sSeq, sEx, sRet, sIf, sSet, sSetIx, setIx, setOk_z, setOk_s, nI_un, nI_val, nI_own, listOf_lst, listOf_tup, listOf_fix, putO, sPars, putsR, sPar, sPar3, sAsg, sFor, sRaise, gN, gT, gsC, gsN, addD, subD, mulD, fdivD, modD, powD, cmpD, negD, lenD, listD, tupleD, intD, absD, zipD, enumD, ttYes, wipeE, canWipe, restE, wipSV, Option.getD_some, List.getElem?_cons_zero, List.getElem?_cons_succ, List.set_cons_zero, List.set_cons_succ, List.length_cons, List.length_nil, List.map_cons, List.map_nil, List.getD_cons_zero, List.getD_cons_succ, Option.bind_some, Option.map_some, Option.isSome_some, Option.bind_none, Option.map_none, Option.isSome_none, if_true, if_false, ite_ap, ixN30, ixN31, ixN32, Int.reduceLE, Int.reduceLT, Int.reduceNeg, nab10, nab2, Int.reduceToNat, Nat.reducePow, Nat.reduceLT, reduceCtorEq, atI_z, atI_1, atI_2, atI_3, atI_at, atI_m1, List.replicate, List.cons_append, List.nil_append, List.append_nil, reduceIte, and_self, and_true, true_and, false_and, and_false, ne_eq, not_true_eq_false, not_false_eq_true, eq_self, Bool.true_and, Bool.and_true, Bool.false_and, Bool.and_false, Bool.not_true, Bool.not_false, Bool.false_eq_true, Nat.reduceAdd, Nat.reduceSub, Nat.reduceLeDiff, Nat.reduceLT, iL_len, range1_n (show r.length ≤ 1000000 by omega)]) (sz63 (by simp; omega)) rfl (fun i hi => ⟨_, _, rfl, by
    have ev := value_eq (listOf_tup (iL r)) (n := i) (by have := List.mem_range.mp hi; omega) hb
    simp only [runF, startE, finF, ioOf, bnd, eVar, eC, eOp, eUn, eIx, eSl, eTup, eLst, eIf, eAnd, eOr, eNot, eChain, tCmpD, tOf, tTru, DS.tAnd, DS.tOr, DS.tNot, asT, truth, aNil, aCons, bNil, bCons, cNil, cCons, oNone, oSome, eVal, eNrm, toVal, deref, derefs, listAt, noPlc, Out.of, retOf, Res.o, ixD, slD, eB, iB, iA, iItems, itemsD, eCall, eCallIo, eCallK, permV, isMut, mutL, remut, eMeth, appendD, popD, eIsi, isi_int, isi_bool, isi_tup, sNil, sSeq, sEx, sRet, sIf, sSet, sSetIx, setIx, setOk_z, setOk_s, nI_un, nI_val, nI_own, listOf_lst, listOf_tup, listOf_fix, putO, sPars, putsR, sPar, sPar3, sAsg, sFor, sRaise, gN, gT, gsC, gsN, addD, subD, mulD, fdivD, modD, powD, cmpD, negD, lenD, listD, tupleD, intD, absD, zipD, enumD, ttYes, wipeE, canWipe, restE, wipSV, Option.getD_some, List.getElem?_cons_zero, List.getElem?_cons_succ, List.set_cons_zero, List.set_cons_succ, List.length_cons, List.length_nil, List.map_cons, List.map_nil, List.getD_cons_zero, List.getD_cons_succ, Option.bind_some, Option.map_some, Option.isSome_some, Option.bind_none, Option.map_none, Option.isSome_none, if_true, if_false, ite_ap, ixN30, ixN31, ixN32, Int.reduceLE, Int.reduceLT, Int.reduceNeg, nab10, nab2, Int.reduceToNat, Nat.reducePow, Nat.reduceLT, reduceCtorEq, atI_z, atI_1, atI_2, atI_3, atI_at, atI_m1, List.replicate, List.cons_append, List.nil_append, List.append_nil, reduceIte, and_self, and_true, true_and, false_and, and_false, ne_eq, not_true_eq_false, not_false_eq_true, eq_self, Bool.true_and, Bool.and_true, Bool.false_and, Bool.and_false, Bool.not_true, Bool.not_false, Bool.false_eq_true, Nat.reduceAdd, Nat.reduceSub, Nat.reduceLeDiff, Nat.reduceLT, ev]; rfl, by rfl⟩) rfl
def behind (l : List Int) (n c : Nat) : List Int := (List.range' n c).map (VV (sq l))
theorem C3_right {r d : List Int} {c : Nat} (h : r.length + c ≤ 80) (hb : ∀ x ∈ d, x.natAbs < 2 ^ 4000) : C3_law_right [a0, .val (.lst lnL), .val (.tup (iL r)), a3, .val (.tup (iL d)), a5, a6, .val (.int (c : Int)), a8, a9, a10, .un, a11] = .ok (.own (iL (behind d r.length c))) [a0, .val (.lst lnL), .val (.tup (iL r)), a3, .val (.tup (iL d)), a5, a6, .val (.int (c : Int)), a8, a9, a10, .un, a11] := by
  have e : ((r.length : Nat) : Int) + (c : Int) = ((r.length + c : Nat) : Int) := (Int.natCast_add _ _).symm
  have e2 := range2_n (a := r.length) (b := r.length + c) (by omega) (by omega)
  rw [Nat.add_sub_cancel_left] at e2
  unfold behind
  rw [← iL_map]
  unfold C3_law_right
  exact eLc_p (fun (i : Nat) => D.int (i : Int)) (fun i => .int (VV (sq d) i)) (List.range' r.length c) (by simp only [runF, startE, finF, ioOf, bnd, eVar, eC, eOp, eUn, eIx, eSl, eTup, eLst, eIf, eAnd, eOr, eNot, eChain, tCmpD, tOf, tTru, DS.tAnd, DS.tOr, DS.tNot, asT, truth, aNil, aCons, bNil, bCons, cNil, cCons, oNone, oSome, eVal, eNrm, toVal, deref, derefs, listAt, noPlc, Out.of, retOf, Res.o, ixD, slD, eB, iB, iA, iItems, itemsD, eCall, eCallIo, eCallK, permV, isMut, mutL, remut, eMeth, appendD, popD, eIsi, isi_int, isi_bool, isi_tup, sNil, sSeq, sEx, sRet, sIf, sSet, sSetIx, setIx, setOk_z, setOk_s, nI_un, nI_val, nI_own, listOf_lst, listOf_tup, listOf_fix, putO, sPars, putsR, sPar, sPar3, sAsg, sFor, sRaise, gN, gT, gsC, gsN, addD, subD, mulD, fdivD, modD, powD, cmpD, negD, lenD, listD, tupleD, intD, absD, zipD, enumD, ttYes, wipeE, canWipe, restE, wipSV, Option.getD_some, List.getElem?_cons_zero, List.getElem?_cons_succ, List.set_cons_zero, List.set_cons_succ, List.length_cons, List.length_nil, List.map_cons, List.map_nil, List.getD_cons_zero, List.getD_cons_succ, Option.bind_some, Option.map_some, Option.isSome_some, Option.bind_none, Option.map_none, Option.isSome_none, if_true, if_false, ite_ap, ixN30, ixN31, ixN32, Int.reduceLE, Int.reduceLT, Int.reduceNeg, nab10, nab2, Int.reduceToNat, Nat.reducePow, Nat.reduceLT, reduceCtorEq, atI_z, atI_1, atI_2, atI_3, atI_at, atI_m1, List.replicate, List.cons_append, List.nil_append, List.append_nil, reduceIte, and_self, and_true, true_and, false_and, and_false, ne_eq, not_true_eq_false, not_false_eq_true, eq_self, Bool.true_and, Bool.and_true, Bool.false_and, Bool.and_false, Bool.not_true, Bool.not_false, Bool.false_eq_true, Nat.reduceAdd, Nat.reduceSub, Nat.reduceLeDiff, Nat.reduceLT, iL_len, e, e2]) (sz63 (by simp; omega)) rfl (fun i hi => ⟨_, _, rfl, by
    have ev := value_eq (listOf_tup (iL d)) (n := i) (by have := List.mem_range'_1.mp hi; omega) hb
    simp only [runF, startE, finF, ioOf, bnd, eVar, eC, eOp, eUn, eIx, eSl, eTup, eLst, eIf, eAnd, eOr, eNot, eChain, tCmpD, tOf, tTru, DS.tAnd, DS.tOr, DS.tNot, asT, truth, aNil, aCons, bNil, bCons, cNil, cCons, oNone, oSome, eVal, eNrm, toVal, deref, derefs, listAt, noPlc, Out.of, retOf, Res.o, ixD, slD, eB, iB, iA, iItems, itemsD, eCall, eCallIo, eCallK, permV, isMut, mutL, remut, eMeth, appendD, popD, eIsi, isi_int, isi_bool, isi_tup, sNil, sSeq, sEx, sRet, sIf, sSet, sSetIx, setIx, setOk_z, setOk_s, nI_un, nI_val, nI_own, listOf_lst, listOf_tup, listOf_fix, putO, sPars, putsR, sPar, sPar3, sAsg, sFor, sRaise, gN, gT, gsC, gsN, addD, subD, mulD, fdivD, modD, powD, cmpD, negD, lenD, listD, tupleD, intD, absD, zipD, enumD, ttYes, wipeE, canWipe, restE, wipSV, Option.getD_some, List.getElem?_cons_zero, List.getElem?_cons_succ, List.set_cons_zero, List.set_cons_succ, List.length_cons, List.length_nil, List.map_cons, List.map_nil, List.getD_cons_zero, List.getD_cons_succ, Option.bind_some, Option.map_some, Option.isSome_some, Option.bind_none, Option.map_none, Option.isSome_none, if_true, if_false, ite_ap, ixN30, ixN31, ixN32, Int.reduceLE, Int.reduceLT, Int.reduceNeg, nab10, nab2, Int.reduceToNat, Nat.reducePow, Nat.reduceLT, reduceCtorEq, atI_z, atI_1, atI_2, atI_3, atI_at, atI_m1, List.replicate, List.cons_append, List.nil_append, List.append_nil, reduceIte, and_self, and_true, true_and, false_and, and_false, ne_eq, not_true_eq_false, not_false_eq_true, eq_self, Bool.true_and, Bool.and_true, Bool.false_and, Bool.and_false, Bool.not_true, Bool.not_false, Bool.false_eq_true, Nat.reduceAdd, Nat.reduceSub, Nat.reduceLeDiff, Nat.reduceLT, ev]; rfl, by rfl⟩) rfl
theorem C4_right {r d : List Int} {c : Nat} (h : r.length + c ≤ 80) (hb : ∀ x ∈ d, x.natAbs < 2 ^ 4000) : C4_law_right [a0, .val (.lst lnL), .val (.tup (iL r)), .val (.lst (iL d)), a4, a5, a6, .val (.int (c : Int)), a8, a9, a10, .un, a11] = .ok (.own (iL (behind d r.length c))) [a0, .val (.lst lnL), .val (.tup (iL r)), .val (.lst (iL d)), a4, a5, a6, .val (.int (c : Int)), a8, a9, a10, .un, a11] := by
  have e : ((r.length : Nat) : Int) + (c : Int) = ((r.length + c : Nat) : Int) := (Int.natCast_add _ _).symm
  have e2 := range2_n (a := r.length) (b := r.length + c) (by omega) (by omega)
  rw [Nat.add_sub_cancel_left] at e2
  unfold behind
  rw [← iL_map]
  unfold C4_law_right
  exact eLc_p (fun (i : Nat) => D.int (i : Int)) (fun i => .int (VV (sq d) i)) (List.range' r.length c) (by simp only [runF, startE, finF, ioOf, bnd, eVar, eC, eOp, eUn, eIx, eSl, eTup, eLst, eIf, eAnd, eOr, eNot, eChain, tCmpD, tOf, tTru, DS.tAnd, DS.tOr, DS.tNot, asT, truth, aNil, aCons, bNil, bCons, cNil, cCons, oNone, oSome, eVal, eNrm, toVal, deref, derefs, listAt, noPlc, Out.of, retOf, Res.o, ixD, slD, eB, iB, iA, iItems, itemsD, eCall, eCallIo, eCallK, permV, isMut, mutL, remut, eMeth, appendD, popD, eIsi, isi_int, isi_bool, isi_tup, sNil, sSeq, sEx, sRet, sIf, sSet, sSetIx, setIx, setOk_z, setOk_s, nI_un, nI_val, nI_own, listOf_lst, listOf_tup, listOf_fix, putO, sPars, putsR, sPar, sPar3, sAsg, sFor, sRaise, gN, gT, gsC, gsN, addD, subD, mulD, fdivD, modD, powD, cmpD, negD, lenD, listD, tupleD, intD, absD, zipD, enumD, ttYes, wipeE, canWipe, restE, wipSV, Option.getD_some, List.getElem?_cons_zero, List.getElem?_cons_succ, List.set_cons_zero, List.set_cons_succ, List.length_cons, List.length_nil, List.map_cons, List.map_nil, List.getD_cons_zero, List.getD_cons_succ, Option.bind_some, Option.map_some, Option.isSome_some, Option.bind_none, Option.map_none, Option.isSome_none, if_true, if_false, ite_ap, ixN30, ixN31, ixN32, Int.reduceLE, Int.reduceLT, Int.reduceNeg, nab10, nab2, Int.reduceToNat, Nat.reducePow, Nat.reduceLT, reduceCtorEq, atI_z, atI_1, atI_2, atI_3, atI_at, atI_m1, List.replicate, List.cons_append, List.nil_append, List.append_nil, reduceIte, and_self, and_true, true_and, false_and, and_false, ne_eq, not_true_eq_false, not_false_eq_true, eq_self, Bool.true_and, Bool.and_true, Bool.false_and, Bool.and_false, Bool.not_true, Bool.not_false, Bool.false_eq_true, Nat.reduceAdd, Nat.reduceSub, Nat.reduceLeDiff, Nat.reduceLT, iL_len, e, e2]) (sz63 (by simp; omega)) rfl (fun i hi => ⟨_, _, rfl, by
    have ev := value_eq (listOf_lst (iL d)) (n := i) (by have := List.mem_range'_1.mp hi; omega) hb
    simp only [runF, startE, finF, ioOf, bnd, eVar, eC, eOp, eUn, eIx, eSl, eTup, eLst, eIf, eAnd, eOr, eNot, eChain, tCmpD, tOf, tTru, DS.tAnd, DS.tOr, DS.tNot, asT, truth, aNil, aCons, bNil, bCons, cNil, cCons, oNone, oSome, eVal, eNrm, toVal, deref, derefs, listAt, noPlc, Out.of, retOf, Res.o, ixD, slD, eB, iB, iA, iItems, itemsD, eCall, eCallIo, eCallK, permV, isMut, mutL, remut, eMeth, appendD, popD, eIsi, isi_int, isi_bool, isi_tup, sNil, sSeq, sEx, sRet, sIf, sSet, sSetIx, setIx, setOk_z, setOk_s, nI_un, nI_val, nI_own, listOf_lst, listOf_tup, listOf_fix, putO, sPars, putsR, sPar, sPar3, sAsg, sFor, sRaise, gN, gT, gsC, gsN, addD, subD, mulD, fdivD, modD, powD, cmpD, negD, lenD, listD, tupleD, intD, absD, zipD, enumD, ttYes, wipeE, canWipe, restE, wipSV, Option.getD_some, List.getElem?_cons_zero, List.getElem?_cons_succ, List.set_cons_zero, List.set_cons_succ, List.length_cons, List.length_nil, List.map_cons, List.map_nil, List.getD_cons_zero, List.getD_cons_succ, Option.bind_some, Option.map_some, Option.isSome_some, Option.bind_none, Option.map_none, Option.isSome_none, if_true, if_false, ite_ap, ixN30, ixN31, ixN32, Int.reduceLE, Int.reduceLT, Int.reduceNeg, nab10, nab2, Int.reduceToNat, Nat.reducePow, Nat.reduceLT, reduceCtorEq, atI_z, atI_1, atI_2, atI_3, atI_at, atI_m1, List.replicate, List.cons_append, List.nil_append, List.append_nil, reduceIte, and_self, and_true, true_and, false_and, and_false, ne_eq, not_true_eq_false, not_false_eq_true, eq_self, Bool.true_and, Bool.and_true, Bool.false_and, Bool.and_false, Bool.not_true, Bool.not_false, Bool.false_eq_true, Nat.reduceAdd, Nat.reduceSub, Nat.reduceLeDiff, Nat.reduceLT, ev]; rfl, by rfl⟩) rfl
end
theorem maxD_deg (l : List Int) : maxD [.lst (iL (cst (pl l) ++ [-1]))] = some (.tmp (.int (degI l))) := by
  have key : ∀ n ns, cst (pl l) ++ [-1] = n :: ns → maxL n ns = degI l := fun n ns e => by
    refine IsD.uniq (l := l) ?_ (degI_is l)
    obtain ⟨h1, h2⟩ := maxL_le ns n
    have hmem : maxL n ns ∈ cst (pl l) ++ [-1] := by
      rw [e]
      rcases maxL_mem ns n with h | h
      · rw [h]; exact List.mem_cons_self
      · exact List.mem_cons_of_mem _ h
    have hle : ∀ y ∈ cst (pl l) ++ [-1], y ≤ maxL n ns := fun y hy => by
      rw [e] at hy
      rcases List.mem_cons.mp hy with rfl | hy
      · exact h1
      · exact h2 y hy
    refine ⟨?_, fun i hi => hle _ (List.mem_append_left _ (List.mem_map.mpr ⟨i, pl_mem.mpr hi, rfl⟩))⟩
    rcases List.mem_append.mp hmem with h | h
    · obtain ⟨i, hi, e⟩ := List.mem_map.mp h
      exact .inr ⟨i, e.symm, pl_mem.mp hi⟩
    · exact .inl (by simpa using h)
  cases hq : cst (pl l) ++ [-1] with
  | nil => simp at hq
  | cons n ns =>
    unfold maxD
    simp only [intsOf_iL, key n ns hq]
theorem behind_eq (l : List Int) (c : Nat) : (vals (due l) (l.length + c)).drop l.length = behind (due l) l.length c := by
  apply List.ext_getElem
  · simp [vals, behind]
  · intro i h1 h2
    simp [vals, behind]
theorem row_behind (l : List Int) (c : Nat) : l ++ behind (due l) l.length c = vals (due l) (l.length + c) := by
  rw [← behind_eq]
  have e : l = (vals (due l) (l.length + c)).take l.length := by
    conv => lhs; rw [← vals_due l]
    unfold vals
    rw [← List.map_take, List.take_range]
    congr 2
    omega
  conv => lhs; lhs; rw [e]
  rw [List.take_append_drop]
theorem due_take (l : List Int) (c : Nat) : (due (vals (due l) (l.length + c))).take l.length = due l := by
  have e : due (vals (due l) (l.length + c)) = (List.range (l.length + c)).map (DD (sq (vals (due l) (l.length + c)))) := by rw [due, vals_len]
  rw [e, ← List.map_take, List.take_range, Nat.min_eq_left (by omega)]
  show (List.range l.length).map (DD (sq (vals (due l) (l.length + c)))) = (List.range l.length).map (DD (sq l))
  apply List.map_congr_left
  intro i hi
  have hi := List.mem_range.mp hi
  rw [DD_loc (g := VV (sq (due l))) fun j hj => vals_sq (by omega), DD_VV]
  exact due_sq hi
theorem Good.small {r : List Int} (h : Good r) : Small r := ⟨by have := h.2.1; omega, fun x hx => ab_up (h.sz x hx) (by omega)⟩
theorem due_sz {r : List Int} (h : Good r) : ∀ x ∈ due r, x.natAbs < 2 ^ 200 := fun x hx => by
  obtain ⟨i, hi, rfl⟩ := List.mem_map.mp hx
  have hi := List.mem_range.mp hi
  exact ab_up (DD_sz h.sz i) (by have := h.2.1; omega)
theorem vals_sz {r : List Int} {b m : Nat} (h : ∀ x ∈ r, x.natAbs < 2 ^ b) : ∀ x ∈ vals r m, x.natAbs < 2 ^ (b + m) := fun x hx => by
  obtain ⟨i, hi, rfl⟩ := List.mem_map.mp hx
  have hi := List.mem_range.mp hi
  exact ab_up (VV_sz h i) (by omega)
theorem behind_sz {r : List Int} {b n c : Nat} (h : ∀ x ∈ r, x.natAbs < 2 ^ b) : ∀ x ∈ behind r n c, x.natAbs < 2 ^ (b + n + c) := fun x hx => by
  obtain ⟨i, hi, rfl⟩ := List.mem_map.mp hx
  have hi := List.mem_range'_1.mp hi
  exact ab_up (VV_sz h i) (by omega)
end K34

set_option Elab.async false
set_option linter.all false
set_option maxRecDepth 100000
set_option maxHeartbeats 4000000
set_option exponentiation.threshold 5000
namespace K34
open PySem DS
theorem ne_self {α : Type} [DecidableEq α] (a : α) : (!decide (a = a)) = false := by simp
theorem law_right_ok {n : Nat} {l : List D} (F : Feed n l) (hn : n + 5000 < 10 ^ 9) : ∃ l', S_law_right [.lst l, .lst lnL] = .ok (.val (.bl true)) l' ∧ Feed (n + 600) l' := by
  have z5 : 0 + 1 + 1 + 1 + 1 + 1 ≤ sizeLine := sz63 (by omega)
  have z4 : 0 + 1 + 1 + 1 + 1 ≤ sizeLine := sz63 (by omega)
  have z2 : 0 + 1 + 1 ≤ sizeLine := sz63 (by omega)
  have z1 : 0 + 1 ≤ sizeLine := sz63 (by omega)
  obtain ⟨r, md, l1, e1, hr, hmade, F1⟩ := law_row_ok F (by omega)
  have e2 := fits_eq r (by omega)
  have fin : ∀ (l' : List D) (ε : Env'), B_law_right (startE true 13 [.lst l, .lst lnL]) = .ok (.rt (.val (.bl true))) (.inn l' :: ε) → S_law_right [.lst l, .lst lnL] = .ok (.val (.bl true)) l' := fun l' ε e => by
    unfold S_law_right runF
    rw [e]
    rfl
  cases hf : fitsB r with
  | false =>
    rw [hf] at e2
    refine ⟨l1, fin l1 [.val (.lst lnL), .val (.tup (iL r)), .val md, .un, .un, .un, .un, .un, .un, .un, .un, .un] ?_, F1.mono (by omega)⟩
    unfold B_law_right
    refine Eq.trans (sSeq_nx (by simp only [runF, startE, finF, ioOf, bnd, eVar, eC, eOp, eUn, eIx, eSl, eTup, eLst, eIf, eAnd, eOr, eNot, eChain, tCmpD, tOf, tTru, DS.tAnd, DS.tOr, DS.tNot, asT, truth, aNil, aCons, bNil, bCons, cNil, cCons, oNone, oSome, eVal, eNrm, toVal, deref, derefs, listAt, noPlc, Out.of, retOf, Res.o, ixD, slD, eB, iB, iA, iItems, itemsD, eCall, eCallIo, eCallK, permV, isMut, mutL, remut, eMeth, appendD, popD, eIsi, isi_int, isi_bool, isi_tup, sNil, sSeq, sEx, sRet, sIf, sSet, sSetIx, setIx, setOk_z, setOk_s, nI_un, nI_val, nI_own, listOf_lst, listOf_tup, listOf_fix, putO, sPars, putsR, sPar, sPar3, sAsg, sFor, sRaise, gN, gT, gsC, gsN, addD, subD, mulD, fdivD, modD, powD, cmpD, negD, lenD, listD, tupleD, intD, absD, zipD, enumD, ttYes, wipeE, canWipe, restE, wipSV, Option.getD_some, List.getElem?_cons_zero, List.getElem?_cons_succ, List.set_cons_zero, List.set_cons_succ, List.length_cons, List.length_nil, List.map_cons, List.map_nil, List.getD_cons_zero, List.getD_cons_succ, Option.bind_some, Option.map_some, Option.isSome_some, Option.bind_none, Option.map_none, Option.isSome_none, if_true, if_false, ite_ap, ixN30, ixN31, ixN32, decide_true, decide_false, Int.reduceLE, Int.reduceLT, Int.reduceNeg, nab10, nab2, Int.reduceToNat, Nat.reducePow, Nat.reduceLT, reduceCtorEq, atI_z, atI_1, atI_2, atI_3, atI_at, atI_m1, List.replicate, List.cons_append, List.nil_append, List.append_nil, reduceIte, and_self, and_true, true_and, false_and, and_false, ne_eq, not_true_eq_false, not_false_eq_true, eq_self, Bool.true_and, Bool.and_true, Bool.false_and, Bool.and_false, Bool.not_true, Bool.not_false, Bool.false_eq_true, Nat.reduceAdd, Nat.reduceSub, Nat.reduceLeDiff, Nat.reduceLT, e1] <;> rfl)) ?_
    refine sSeq_rt ?_
    simp only [runF, startE, finF, ioOf, bnd, eVar, eC, eOp, eUn, eIx, eSl, eTup, eLst, eIf, eAnd, eOr, eNot, eChain, tCmpD, tOf, tTru, DS.tAnd, DS.tOr, DS.tNot, asT, truth, aNil, aCons, bNil, bCons, cNil, cCons, oNone, oSome, eVal, eNrm, toVal, deref, derefs, listAt, noPlc, Out.of, retOf, Res.o, ixD, slD, eB, iB, iA, iItems, itemsD, eCall, eCallIo, eCallK, permV, isMut, mutL, remut, eMeth, appendD, popD, eIsi, isi_int, isi_bool, isi_tup, sNil, sSeq, sEx, sRet, sIf, sSet, sSetIx, setIx, setOk_z, setOk_s, nI_un, nI_val, nI_own, listOf_lst, listOf_tup, listOf_fix, putO, sPars, putsR, sPar, sPar3, sAsg, sFor, sRaise, gN, gT, gsC, gsN, addD, subD, mulD, fdivD, modD, powD, cmpD, negD, lenD, listD, tupleD, intD, absD, zipD, enumD, ttYes, wipeE, canWipe, restE, wipSV, Option.getD_some, List.getElem?_cons_zero, List.getElem?_cons_succ, List.set_cons_zero, List.set_cons_succ, List.length_cons, List.length_nil, List.map_cons, List.map_nil, List.getD_cons_zero, List.getD_cons_succ, Option.bind_some, Option.map_some, Option.isSome_some, Option.bind_none, Option.map_none, Option.isSome_none, if_true, if_false, ite_ap, ixN30, ixN31, ixN32, decide_true, decide_false, Int.reduceLE, Int.reduceLT, Int.reduceNeg, nab10, nab2, Int.reduceToNat, Nat.reducePow, Nat.reduceLT, reduceCtorEq, atI_z, atI_1, atI_2, atI_3, atI_at, atI_m1, List.replicate, List.cons_append, List.nil_append, List.append_nil, reduceIte, and_self, and_true, true_and, false_and, and_false, ne_eq, not_true_eq_false, not_false_eq_true, eq_self, Bool.true_and, Bool.and_true, Bool.false_and, Bool.and_false, Bool.not_true, Bool.not_false, Bool.false_eq_true, Nat.reduceAdd, Nat.reduceSub, Nat.reduceLeDiff, Nat.reduceLT, e2]
  | true =>
  rw [hf] at e2
  have G := fitsB_good hf
  have hr1 := G.1
  have e3 := differences_law (r := r) (by omega) (fun x hx => ab_up (G.sz x hx) (by omega))
  have e4 := fun a0 a1 a2 a3 a5 a6 a7 a8 a9 a10 => C1_right (a0 := a0) (a1 := a1) (a2 := a2) (a3 := a3) (a5 := a5) (a6 := a6) (a7 := a7) (a8 := a8) (a9 := a9) (a10 := a10) (due r) (by rw [due_len]; omega)
  have t4 : (cst (pl (due r))).length + 1 ≤ sizeLine := sz63 (by
    have : (pl (due r)).length ≤ (due r).zipIdx.length := by
      unfold pl plk
      rw [List.length_map]
      exact List.length_filter_le _ _
    rw [List.length_zipIdx, due_len] at this
    simp [cst]; omega)
  have t5 : iL (cst (pl (due r))) ++ [D.int (-1)] = iL (cst (pl (due r)) ++ [-1]) := by simp [iL]
  have e5 := differences_eq G
  have sd : Small (due r) := ⟨by rw [due_len]; omega, fun x hx => ab_up (due_sz G x hx) (by omega)⟩
  have e6 := repr_tups sd sd
  have e7 := degree_of_row_eq G
  have e8 := fits_eq (due r) (by rw [due_len]; omega)
  have e9 : fitsB (due r) = true → S_row_by [.tup (iL (due r))] = .ok (.val (.tup (iL r))) [] := fun h => by
    have := row_by_eq (fitsB_good h)
    rw [due_len, vals_due] at this
    exact this
  have e10 := repr_tup G.small
  have e11 := fun a0 a3 a4 a5 a6 a7 a8 a9 a10 a11 => C2_right (a0 := a0) (a3 := a3) (a4 := a4) (a5 := a5) (a6 := a6) (a7 := a7) (a8 := a8) (a9 := a9) (a10 := a10) (a11 := a11) (r := r) (by omega) (fun x hx => ab_up (G.sz x hx) (by omega))
  have e12 := row_by_eq G
  have sw : Small (vals r r.length) := ⟨by rw [vals_len]; omega, fun x hx => ab_up (vals_sz G.sz x hx) (by omega)⟩
  have e13 := repr_tups sw sw
  have e14 := fits_eq (vals r r.length) (by rw [vals_len]; omega)
  have e15 : fitsB (vals r r.length) = true → S_differences [.tup (iL (vals r r.length))] = .ok (.val (.tup (iL r))) [] := fun h => by
    have := differences_eq (fitsB_good h)
    rw [due_vals] at this
    exact this
  obtain ⟨r1, l2, e16, p1, q1, F2⟩ := draw_ok F1 (by omega) (m := 40) (by decide) (by decide)
  obtain ⟨cc, l3, e17, p2, F3⟩ := one_ints F2 (by omega) (ns := [1, 2, 1 + r1, 40]) nofun (by simp)
  simp only [iL_cons, iL_nil] at e17
  have hc : 1 ≤ cc ∧ cc ≤ 40 := by
    simp only [List.mem_cons, List.not_mem_nil, or_false] at p2
    omega
  obtain ⟨c, rfl⟩ := Int.eq_ofNat_of_zero_le (show 0 ≤ cc by omega)
  have e18 := fun a0 a3 a5 a6 a8 a9 a10 a11 => C3_right (a0 := a0) (a3 := a3) (a5 := a5) (a6 := a6) (a8 := a8) (a9 := a9) (a10 := a10) (a11 := a11) (r := r) (d := due r) (c := c) (by omega) (fun x hx => ab_up (due_sz G x hx) (by omega))
  have e19 := further_eq G (c := c) (by omega) (by omega)
  rw [behind_eq] at e19
  have sb : Small (behind (due r) r.length c) := ⟨by simp [behind]; omega, fun x hx => ab_up (behind_sz (due_sz G) x hx) (by omega)⟩
  have e20 := repr_tups sb sb
  have t6 : r.length + (behind (due r) r.length c).length ≤ sizeLine := sz63 (by simp [behind]; omega)
  have t7 : iL r ++ iL (behind (due r) r.length c) = iL (vals (due r) (r.length + c)) := by rw [← iL_app, row_behind]
  have e21 := fits_eq (vals (due r) (r.length + c)) (by rw [vals_len]; omega)
  have e22 : fitsB (vals (due r) (r.length + c)) = true → S_degree_of_row [.tup (iL (vals (due r) (r.length + c)))] = .ok (.val (.int (degI (due r)))) [] := fun h => by
    have := degree_of_row_eq (fitsB_good h)
    rw [degI_sq (due_ext_sq r c)] at this
    exact this
  have e23 : fitsB (vals (due r) (r.length + c)) = true → S_differences [.tup (iL (vals (due r) (r.length + c)))] = .ok (.val (.tup (iL (due (vals (due r) (r.length + c)))))) [] := fun h => differences_eq (fitsB_good h)
  obtain ⟨m3, l4, e24, p4, q4, F4⟩ := draw_ok F3 (by omega) (m := 11) (by decide) (by decide)
  let deg := degI (due r)
  let y (i : Int) : Int := if (if i < 10 then i else 10) > 0 then (if i < 10 then i else 10) else 0
  have hy : ∀ i, 0 ≤ y i ∧ y i ≤ 10 := fun i => by
    simp only [y]
    split <;> split <;> omega
  have mm : ∀ i : Int, eB maxD (bCons (eC (.int 0)) (bCons (eB minD (bCons (eC (.int 10)) (bCons (eC (.int i)) bNil))) bNil)) = eB maxD (bCons (eC (.int 0)) (bCons (eB minD (bCons (eC (.int 10)) (bCons (eC (.int i)) bNil))) bNil)) := fun _ => rfl
  -- up to the last loop
  have pre : ∃ a6 a7 a8, ∀ (X : Sm Fl), True ∧ B_law_right (startE true 13 [.lst l, .lst lnL]) = sSeq (sFor (iItems (eLst (aCons (eC (.int 0)) (aCons (eC (.int 10)) (aCons (eCallIo S_law_draw 0 (aCons (eC (.int 11)) aNil)) (aCons (eB maxD (bCons (eC (.int 0)) (bCons (eB minD (bCons (eC (.int 10)) (bCons (eVar 5) bNil))) bNil))) (aCons (eB maxD (bCons (eC (.int 0)) (bCons (eB minD (bCons (eC (.int 10)) (bCons (eOp subD (eVar 5) (eC (.int 1))) bNil))) bNil))) aNil))))))) (gN 9) FB1_law_right) (sRet (eC (.bl true))) [.inn l3, .val (.lst lnL), .val (.tup (iL r)), .val md, .val (.tup (iL (due r))), .val (.int (degI (due r))), a6, a7, a8, .un, .un, .un, .un] := by
    refine ⟨.val (.tup (iL (vals r r.length))), .val (.int (c : Int)), .val (.tup (iL (behind (due r) r.length c))), fun X => ⟨trivial, ?_⟩⟩
    unfold B_law_right
    refine Eq.trans (sSeq_nx (by simp only [runF, startE, finF, ioOf, bnd, eVar, eC, eOp, eUn, eIx, eSl, eTup, eLst, eIf, eAnd, eOr, eNot, eChain, tCmpD, tOf, tTru, DS.tAnd, DS.tOr, DS.tNot, asT, truth, aNil, aCons, bNil, bCons, cNil, cCons, oNone, oSome, eVal, eNrm, toVal, deref, derefs, listAt, noPlc, Out.of, retOf, Res.o, ixD, slD, eB, iB, iA, iItems, itemsD, eCall, eCallIo, eCallK, permV, isMut, mutL, remut, eMeth, appendD, popD, eIsi, isi_int, isi_bool, isi_tup, sNil, sSeq, sEx, sRet, sIf, sSet, sSetIx, setIx, setOk_z, setOk_s, nI_un, nI_val, nI_own, listOf_lst, listOf_tup, listOf_fix, putO, sPars, putsR, sPar, sPar3, sAsg, sFor, sRaise, gN, gT, gsC, gsN, addD, subD, mulD, fdivD, modD, powD, cmpD, negD, lenD, listD, tupleD, intD, absD, zipD, enumD, ttYes, wipeE, canWipe, restE, wipSV, Option.getD_some, List.getElem?_cons_zero, List.getElem?_cons_succ, List.set_cons_zero, List.set_cons_succ, List.length_cons, List.length_nil, List.map_cons, List.map_nil, List.getD_cons_zero, List.getD_cons_succ, Option.bind_some, Option.map_some, Option.isSome_some, Option.bind_none, Option.map_none, Option.isSome_none, if_true, if_false, ite_ap, ixN30, ixN31, ixN32, decide_true, decide_false, Int.reduceLE, Int.reduceLT, Int.reduceNeg, nab10, nab2, Int.reduceToNat, Nat.reducePow, Nat.reduceLT, reduceCtorEq, atI_z, atI_1, atI_2, atI_3, atI_at, atI_m1, List.replicate, List.cons_append, List.nil_append, List.append_nil, reduceIte, and_self, and_true, true_and, false_and, and_false, ne_eq, not_true_eq_false, not_false_eq_true, eq_self, Bool.true_and, Bool.and_true, Bool.false_and, Bool.and_false, Bool.not_true, Bool.not_false, Bool.false_eq_true, Nat.reduceAdd, Nat.reduceSub, Nat.reduceLeDiff, Nat.reduceLT, e1] <;> rfl)) ?_
    refine Eq.trans (sSeq_nx (by simp only [runF, startE, finF, ioOf, bnd, eVar, eC, eOp, eUn, eIx, eSl, eTup, eLst, eIf, eAnd, eOr, eNot, eChain, tCmpD, tOf, tTru, DS.tAnd, DS.tOr, DS.tNot, asT, truth, aNil, aCons, bNil, bCons, cNil, cCons, oNone, oSome, eVal, eNrm, toVal, deref, derefs, listAt, noPlc, Out.of, retOf, Res.o, ixD, slD, eB, iB, iA, iItems, itemsD, eCall, eCallIo, eCallK, permV, isMut, mutL, remut, eMeth, appendD, popD, eIsi, isi_int, isi_bool, isi_tup, sNil, sSeq, sEx, sRet, sIf, sSet, sSetIx, setIx, setOk_z, setOk_s, nI_un, nI_val, nI_own, listOf_lst, listOf_tup, listOf_fix, putO, sPars, putsR, sPar, sPar3, sAsg, sFor, sRaise, gN, gT, gsC, gsN, addD, subD, mulD, fdivD, modD, powD, cmpD, negD, lenD, listD, tupleD, intD, absD, zipD, enumD, ttYes, wipeE, canWipe, restE, wipSV, Option.getD_some, List.getElem?_cons_zero, List.getElem?_cons_succ, List.set_cons_zero, List.set_cons_succ, List.length_cons, List.length_nil, List.map_cons, List.map_nil, List.getD_cons_zero, List.getD_cons_succ, Option.bind_some, Option.map_some, Option.isSome_some, Option.bind_none, Option.map_none, Option.isSome_none, if_true, if_false, ite_ap, ixN30, ixN31, ixN32, decide_true, decide_false, Int.reduceLE, Int.reduceLT, Int.reduceNeg, nab10, nab2, Int.reduceToNat, Nat.reducePow, Nat.reduceLT, reduceCtorEq, atI_z, atI_1, atI_2, atI_3, atI_at, atI_m1, List.replicate, List.cons_append, List.nil_append, List.append_nil, reduceIte, and_self, and_true, true_and, false_and, and_false, ne_eq, not_true_eq_false, not_false_eq_true, eq_self, Bool.true_and, Bool.and_true, Bool.false_and, Bool.and_false, Bool.not_true, Bool.not_false, Bool.false_eq_true, Nat.reduceAdd, Nat.reduceSub, Nat.reduceLeDiff, Nat.reduceLT, e2] <;> rfl)) ?_
    refine Eq.trans (sSeq_nx (by simp only [runF, startE, finF, ioOf, bnd, eVar, eC, eOp, eUn, eIx, eSl, eTup, eLst, eIf, eAnd, eOr, eNot, eChain, tCmpD, tOf, tTru, DS.tAnd, DS.tOr, DS.tNot, asT, truth, aNil, aCons, bNil, bCons, cNil, cCons, oNone, oSome, eVal, eNrm, toVal, deref, derefs, listAt, noPlc, Out.of, retOf, Res.o, ixD, slD, eB, iB, iA, iItems, itemsD, eCall, eCallIo, eCallK, permV, isMut, mutL, remut, eMeth, appendD, popD, eIsi, isi_int, isi_bool, isi_tup, sNil, sSeq, sEx, sRet, sIf, sSet, sSetIx, setIx, setOk_z, setOk_s, nI_un, nI_val, nI_own, listOf_lst, listOf_tup, listOf_fix, putO, sPars, putsR, sPar, sPar3, sAsg, sFor, sRaise, gN, gT, gsC, gsN, addD, subD, mulD, fdivD, modD, powD, cmpD, negD, lenD, listD, tupleD, intD, absD, zipD, enumD, ttYes, wipeE, canWipe, restE, wipSV, Option.getD_some, List.getElem?_cons_zero, List.getElem?_cons_succ, List.set_cons_zero, List.set_cons_succ, List.length_cons, List.length_nil, List.map_cons, List.map_nil, List.getD_cons_zero, List.getD_cons_succ, Option.bind_some, Option.map_some, Option.isSome_some, Option.bind_none, Option.map_none, Option.isSome_none, if_true, if_false, ite_ap, ixN30, ixN31, ixN32, decide_true, decide_false, Int.reduceLE, Int.reduceLT, Int.reduceNeg, nab10, nab2, Int.reduceToNat, Nat.reducePow, Nat.reduceLT, reduceCtorEq, atI_z, atI_1, atI_2, atI_3, atI_at, atI_m1, List.replicate, List.cons_append, List.nil_append, List.append_nil, reduceIte, and_self, and_true, true_and, false_and, and_false, ne_eq, not_true_eq_false, not_false_eq_true, eq_self, Bool.true_and, Bool.and_true, Bool.false_and, Bool.and_false, Bool.not_true, Bool.not_false, Bool.false_eq_true, Nat.reduceAdd, Nat.reduceSub, Nat.reduceLeDiff, Nat.reduceLT, e3] <;> rfl)) ?_
    refine Eq.trans (sSeq_nx (by simp only [runF, startE, finF, ioOf, bnd, eVar, eC, eOp, eUn, eIx, eSl, eTup, eLst, eIf, eAnd, eOr, eNot, eChain, tCmpD, tOf, tTru, DS.tAnd, DS.tOr, DS.tNot, asT, truth, aNil, aCons, bNil, bCons, cNil, cCons, oNone, oSome, eVal, eNrm, toVal, deref, derefs, listAt, noPlc, Out.of, retOf, Res.o, ixD, slD, eB, iB, iA, iItems, itemsD, eCall, eCallIo, eCallK, permV, isMut, mutL, remut, eMeth, appendD, popD, eIsi, isi_int, isi_bool, isi_tup, sNil, sSeq, sEx, sRet, sIf, sSet, sSetIx, setIx, setOk_z, setOk_s, nI_un, nI_val, nI_own, listOf_lst, listOf_tup, listOf_fix, putO, sPars, putsR, sPar, sPar3, sAsg, sFor, sRaise, gN, gT, gsC, gsN, addD, subD, mulD, fdivD, modD, powD, cmpD, negD, lenD, listD, tupleD, intD, absD, zipD, enumD, ttYes, wipeE, canWipe, restE, wipSV, Option.getD_some, List.getElem?_cons_zero, List.getElem?_cons_succ, List.set_cons_zero, List.set_cons_succ, List.length_cons, List.length_nil, List.map_cons, List.map_nil, List.getD_cons_zero, List.getD_cons_succ, Option.bind_some, Option.map_some, Option.isSome_some, Option.bind_none, Option.map_none, Option.isSome_none, if_true, if_false, ite_ap, ixN30, ixN31, ixN32, decide_true, decide_false, Int.reduceLE, Int.reduceLT, Int.reduceNeg, nab10, nab2, Int.reduceToNat, Nat.reducePow, Nat.reduceLT, reduceCtorEq, atI_z, atI_1, atI_2, atI_3, atI_at, atI_m1, List.replicate, List.cons_append, List.nil_append, List.append_nil, reduceIte, and_self, and_true, true_and, false_and, and_false, ne_eq, not_true_eq_false, not_false_eq_true, eq_self, Bool.true_and, Bool.and_true, Bool.false_and, Bool.and_false, Bool.not_true, Bool.not_false, Bool.false_eq_true, Nat.reduceAdd, Nat.reduceSub, Nat.reduceLeDiff, Nat.reduceLT, e4, z1, t4, t5, iL_len, maxD_deg] <;> rfl)) ?_
    refine Eq.trans (sSeq_nx (by simp only [runF, startE, finF, ioOf, bnd, eVar, eC, eOp, eUn, eIx, eSl, eTup, eLst, eIf, eAnd, eOr, eNot, eChain, tCmpD, tOf, tTru, DS.tAnd, DS.tOr, DS.tNot, asT, truth, aNil, aCons, bNil, bCons, cNil, cCons, oNone, oSome, eVal, eNrm, toVal, deref, derefs, listAt, noPlc, Out.of, retOf, Res.o, ixD, slD, eB, iB, iA, iItems, itemsD, eCall, eCallIo, eCallK, permV, isMut, mutL, remut, eMeth, appendD, popD, eIsi, isi_int, isi_bool, isi_tup, sNil, sSeq, sEx, sRet, sIf, sSet, sSetIx, setIx, setOk_z, setOk_s, nI_un, nI_val, nI_own, listOf_lst, listOf_tup, listOf_fix, putO, sPars, putsR, sPar, sPar3, sAsg, sFor, sRaise, gN, gT, gsC, gsN, addD, subD, mulD, fdivD, modD, powD, cmpD, negD, lenD, listD, tupleD, intD, absD, zipD, enumD, ttYes, wipeE, canWipe, restE, wipSV, Option.getD_some, List.getElem?_cons_zero, List.getElem?_cons_succ, List.set_cons_zero, List.set_cons_succ, List.length_cons, List.length_nil, List.map_cons, List.map_nil, List.getD_cons_zero, List.getD_cons_succ, Option.bind_some, Option.map_some, Option.isSome_some, Option.bind_none, Option.map_none, Option.isSome_none, if_true, if_false, ite_ap, ixN30, ixN31, ixN32, decide_true, decide_false, Int.reduceLE, Int.reduceLT, Int.reduceNeg, nab10, nab2, Int.reduceToNat, Nat.reducePow, Nat.reduceLT, reduceCtorEq, atI_z, atI_1, atI_2, atI_3, atI_at, atI_m1, List.replicate, List.cons_append, List.nil_append, List.append_nil, reduceIte, and_self, and_true, true_and, false_and, and_false, ne_eq, not_true_eq_false, not_false_eq_true, eq_self, Bool.true_and, Bool.and_true, Bool.false_and, Bool.and_false, Bool.not_true, Bool.not_false, Bool.false_eq_true, Nat.reduceAdd, Nat.reduceSub, Nat.reduceLeDiff, Nat.reduceLT, e5, z2, e6, neD_str, ne_self] <;> rfl)) ?_
    refine Eq.trans (sSeq_nx (by simp only [runF, startE, finF, ioOf, bnd, eVar, eC, eOp, eUn, eIx, eSl, eTup, eLst, eIf, eAnd, eOr, eNot, eChain, tCmpD, tOf, tTru, DS.tAnd, DS.tOr, DS.tNot, asT, truth, aNil, aCons, bNil, bCons, cNil, cCons, oNone, oSome, eVal, eNrm, toVal, deref, derefs, listAt, noPlc, Out.of, retOf, Res.o, ixD, slD, eB, iB, iA, iItems, itemsD, eCall, eCallIo, eCallK, permV, isMut, mutL, remut, eMeth, appendD, popD, eIsi, isi_int, isi_bool, isi_tup, sNil, sSeq, sEx, sRet, sIf, sSet, sSetIx, setIx, setOk_z, setOk_s, nI_un, nI_val, nI_own, listOf_lst, listOf_tup, listOf_fix, putO, sPars, putsR, sPar, sPar3, sAsg, sFor, sRaise, gN, gT, gsC, gsN, addD, subD, mulD, fdivD, modD, powD, cmpD, negD, lenD, listD, tupleD, intD, absD, zipD, enumD, ttYes, wipeE, canWipe, restE, wipSV, Option.getD_some, List.getElem?_cons_zero, List.getElem?_cons_succ, List.set_cons_zero, List.set_cons_succ, List.length_cons, List.length_nil, List.map_cons, List.map_nil, List.getD_cons_zero, List.getD_cons_succ, Option.bind_some, Option.map_some, Option.isSome_some, Option.bind_none, Option.map_none, Option.isSome_none, if_true, if_false, ite_ap, ixN30, ixN31, ixN32, decide_true, decide_false, Int.reduceLE, Int.reduceLT, Int.reduceNeg, nab10, nab2, Int.reduceToNat, Nat.reducePow, Nat.reduceLT, reduceCtorEq, atI_z, atI_1, atI_2, atI_3, atI_at, atI_m1, List.replicate, List.cons_append, List.nil_append, List.append_nil, reduceIte, and_self, and_true, true_and, false_and, and_false, ne_eq, not_true_eq_false, not_false_eq_true, eq_self, Bool.true_and, Bool.and_true, Bool.false_and, Bool.and_false, Bool.not_true, Bool.not_false, Bool.false_eq_true, Nat.reduceAdd, Nat.reduceSub, Nat.reduceLeDiff, Nat.reduceLT, e7, law_is_int, decide_true] <;> rfl)) ?_
    refine Eq.trans (sSeq_nx (ε1 := [.inn l1, .val (.lst lnL), .val (.tup (iL r)), .val md, .val (.tup (iL (due r))), .val (.int (degI (due r))), .un, .un, .un, .un, .un, .un, .un]) ?_) ?_
    · cases h : fitsB (due r) with
      | false =>
        rw [h] at e8
        simp only [runF, startE, finF, ioOf, bnd, eVar, eC, eOp, eUn, eIx, eSl, eTup, eLst, eIf, eAnd, eOr, eNot, eChain, tCmpD, tOf, tTru, DS.tAnd, DS.tOr, DS.tNot, asT, truth, aNil, aCons, bNil, bCons, cNil, cCons, oNone, oSome, eVal, eNrm, toVal, deref, derefs, listAt, noPlc, Out.of, retOf, Res.o, ixD, slD, eB, iB, iA, iItems, itemsD, eCall, eCallIo, eCallK, permV, isMut, mutL, remut, eMeth, appendD, popD, eIsi, isi_int, isi_bool, isi_tup, sNil, sSeq, sEx, sRet, sIf, sSet, sSetIx, setIx, setOk_z, setOk_s, nI_un, nI_val, nI_own, listOf_lst, listOf_tup, listOf_fix, putO, sPars, putsR, sPar, sPar3, sAsg, sFor, sRaise, gN, gT, gsC, gsN, addD, subD, mulD, fdivD, modD, powD, cmpD, negD, lenD, listD, tupleD, intD, absD, zipD, enumD, ttYes, wipeE, canWipe, restE, wipSV, Option.getD_some, List.getElem?_cons_zero, List.getElem?_cons_succ, List.set_cons_zero, List.set_cons_succ, List.length_cons, List.length_nil, List.map_cons, List.map_nil, List.getD_cons_zero, List.getD_cons_succ, Option.bind_some, Option.map_some, Option.isSome_some, Option.bind_none, Option.map_none, Option.isSome_none, if_true, if_false, ite_ap, ixN30, ixN31, ixN32, decide_true, decide_false, Int.reduceLE, Int.reduceLT, Int.reduceNeg, nab10, nab2, Int.reduceToNat, Nat.reducePow, Nat.reduceLT, reduceCtorEq, atI_z, atI_1, atI_2, atI_3, atI_at, atI_m1, List.replicate, List.cons_append, List.nil_append, List.append_nil, reduceIte, and_self, and_true, true_and, false_and, and_false, ne_eq, not_true_eq_false, not_false_eq_true, eq_self, Bool.true_and, Bool.and_true, Bool.false_and, Bool.and_false, Bool.not_true, Bool.not_false, Bool.false_eq_true, Nat.reduceAdd, Nat.reduceSub, Nat.reduceLeDiff, Nat.reduceLT, e8]
      | true =>
        rw [h] at e8
        simp only [runF, startE, finF, ioOf, bnd, eVar, eC, eOp, eUn, eIx, eSl, eTup, eLst, eIf, eAnd, eOr, eNot, eChain, tCmpD, tOf, tTru, DS.tAnd, DS.tOr, DS.tNot, asT, truth, aNil, aCons, bNil, bCons, cNil, cCons, oNone, oSome, eVal, eNrm, toVal, deref, derefs, listAt, noPlc, Out.of, retOf, Res.o, ixD, slD, eB, iB, iA, iItems, itemsD, eCall, eCallIo, eCallK, permV, isMut, mutL, remut, eMeth, appendD, popD, eIsi, isi_int, isi_bool, isi_tup, sNil, sSeq, sEx, sRet, sIf, sSet, sSetIx, setIx, setOk_z, setOk_s, nI_un, nI_val, nI_own, listOf_lst, listOf_tup, listOf_fix, putO, sPars, putsR, sPar, sPar3, sAsg, sFor, sRaise, gN, gT, gsC, gsN, addD, subD, mulD, fdivD, modD, powD, cmpD, negD, lenD, listD, tupleD, intD, absD, zipD, enumD, ttYes, wipeE, canWipe, restE, wipSV, Option.getD_some, List.getElem?_cons_zero, List.getElem?_cons_succ, List.set_cons_zero, List.set_cons_succ, List.length_cons, List.length_nil, List.map_cons, List.map_nil, List.getD_cons_zero, List.getD_cons_succ, Option.bind_some, Option.map_some, Option.isSome_some, Option.bind_none, Option.map_none, Option.isSome_none, if_true, if_false, ite_ap, ixN30, ixN31, ixN32, decide_true, decide_false, Int.reduceLE, Int.reduceLT, Int.reduceNeg, nab10, nab2, Int.reduceToNat, Nat.reducePow, Nat.reduceLT, reduceCtorEq, atI_z, atI_1, atI_2, atI_3, atI_at, atI_m1, List.replicate, List.cons_append, List.nil_append, List.append_nil, reduceIte, and_self, and_true, true_and, false_and, and_false, ne_eq, not_true_eq_false, not_false_eq_true, eq_self, Bool.true_and, Bool.and_true, Bool.false_and, Bool.and_false, Bool.not_true, Bool.not_false, Bool.false_eq_true, Nat.reduceAdd, Nat.reduceSub, Nat.reduceLeDiff, Nat.reduceLT, e8, e9 h, e10, neD_str, ne_self]
    refine Eq.trans (sSeq_nx (by simp only [runF, startE, finF, ioOf, bnd, eVar, eC, eOp, eUn, eIx, eSl, eTup, eLst, eIf, eAnd, eOr, eNot, eChain, tCmpD, tOf, tTru, DS.tAnd, DS.tOr, DS.tNot, asT, truth, aNil, aCons, bNil, bCons, cNil, cCons, oNone, oSome, eVal, eNrm, toVal, deref, derefs, listAt, noPlc, Out.of, retOf, Res.o, ixD, slD, eB, iB, iA, iItems, itemsD, eCall, eCallIo, eCallK, permV, isMut, mutL, remut, eMeth, appendD, popD, eIsi, isi_int, isi_bool, isi_tup, sNil, sSeq, sEx, sRet, sIf, sSet, sSetIx, setIx, setOk_z, setOk_s, nI_un, nI_val, nI_own, listOf_lst, listOf_tup, listOf_fix, putO, sPars, putsR, sPar, sPar3, sAsg, sFor, sRaise, gN, gT, gsC, gsN, addD, subD, mulD, fdivD, modD, powD, cmpD, negD, lenD, listD, tupleD, intD, absD, zipD, enumD, ttYes, wipeE, canWipe, restE, wipSV, Option.getD_some, List.getElem?_cons_zero, List.getElem?_cons_succ, List.set_cons_zero, List.set_cons_succ, List.length_cons, List.length_nil, List.map_cons, List.map_nil, List.getD_cons_zero, List.getD_cons_succ, Option.bind_some, Option.map_some, Option.isSome_some, Option.bind_none, Option.map_none, Option.isSome_none, if_true, if_false, ite_ap, ixN30, ixN31, ixN32, decide_true, decide_false, Int.reduceLE, Int.reduceLT, Int.reduceNeg, nab10, nab2, Int.reduceToNat, Nat.reducePow, Nat.reduceLT, reduceCtorEq, atI_z, atI_1, atI_2, atI_3, atI_at, atI_m1, List.replicate, List.cons_append, List.nil_append, List.append_nil, reduceIte, and_self, and_true, true_and, false_and, and_false, ne_eq, not_true_eq_false, not_false_eq_true, eq_self, Bool.true_and, Bool.and_true, Bool.false_and, Bool.and_false, Bool.not_true, Bool.not_false, Bool.false_eq_true, Nat.reduceAdd, Nat.reduceSub, Nat.reduceLeDiff, Nat.reduceLT, e11] <;> rfl)) ?_
    refine Eq.trans (sSeq_nx (ε1 := [.inn l1, .val (.lst lnL), .val (.tup (iL r)), .val md, .val (.tup (iL (due r))), .val (.int (degI (due r))), .val (.tup (iL (vals r r.length))), .un, .un, .un, .un, .un, .un]) ?_) ?_
    · cases h : fitsB (vals r r.length) with
      | false =>
        rw [h] at e14
        simp only [runF, startE, finF, ioOf, bnd, eVar, eC, eOp, eUn, eIx, eSl, eTup, eLst, eIf, eAnd, eOr, eNot, eChain, tCmpD, tOf, tTru, DS.tAnd, DS.tOr, DS.tNot, asT, truth, aNil, aCons, bNil, bCons, cNil, cCons, oNone, oSome, eVal, eNrm, toVal, deref, derefs, listAt, noPlc, Out.of, retOf, Res.o, ixD, slD, eB, iB, iA, iItems, itemsD, eCall, eCallIo, eCallK, permV, isMut, mutL, remut, eMeth, appendD, popD, eIsi, isi_int, isi_bool, isi_tup, sNil, sSeq, sEx, sRet, sIf, sSet, sSetIx, setIx, setOk_z, setOk_s, nI_un, nI_val, nI_own, listOf_lst, listOf_tup, listOf_fix, putO, sPars, putsR, sPar, sPar3, sAsg, sFor, sRaise, gN, gT, gsC, gsN, addD, subD, mulD, fdivD, modD, powD, cmpD, negD, lenD, listD, tupleD, intD, absD, zipD, enumD, ttYes, wipeE, canWipe, restE, wipSV, Option.getD_some, List.getElem?_cons_zero, List.getElem?_cons_succ, List.set_cons_zero, List.set_cons_succ, List.length_cons, List.length_nil, List.map_cons, List.map_nil, List.getD_cons_zero, List.getD_cons_succ, Option.bind_some, Option.map_some, Option.isSome_some, Option.bind_none, Option.map_none, Option.isSome_none, if_true, if_false, ite_ap, ixN30, ixN31, ixN32, decide_true, decide_false, Int.reduceLE, Int.reduceLT, Int.reduceNeg, nab10, nab2, Int.reduceToNat, Nat.reducePow, Nat.reduceLT, reduceCtorEq, atI_z, atI_1, atI_2, atI_3, atI_at, atI_m1, List.replicate, List.cons_append, List.nil_append, List.append_nil, reduceIte, and_self, and_true, true_and, false_and, and_false, ne_eq, not_true_eq_false, not_false_eq_true, eq_self, Bool.true_and, Bool.and_true, Bool.false_and, Bool.and_false, Bool.not_true, Bool.not_false, Bool.false_eq_true, Nat.reduceAdd, Nat.reduceSub, Nat.reduceLeDiff, Nat.reduceLT, e12, z2, e13, neD_str, ne_self, e14]
      | true =>
        rw [h] at e14
        simp only [runF, startE, finF, ioOf, bnd, eVar, eC, eOp, eUn, eIx, eSl, eTup, eLst, eIf, eAnd, eOr, eNot, eChain, tCmpD, tOf, tTru, DS.tAnd, DS.tOr, DS.tNot, asT, truth, aNil, aCons, bNil, bCons, cNil, cCons, oNone, oSome, eVal, eNrm, toVal, deref, derefs, listAt, noPlc, Out.of, retOf, Res.o, ixD, slD, eB, iB, iA, iItems, itemsD, eCall, eCallIo, eCallK, permV, isMut, mutL, remut, eMeth, appendD, popD, eIsi, isi_int, isi_bool, isi_tup, sNil, sSeq, sEx, sRet, sIf, sSet, sSetIx, setIx, setOk_z, setOk_s, nI_un, nI_val, nI_own, listOf_lst, listOf_tup, listOf_fix, putO, sPars, putsR, sPar, sPar3, sAsg, sFor, sRaise, gN, gT, gsC, gsN, addD, subD, mulD, fdivD, modD, powD, cmpD, negD, lenD, listD, tupleD, intD, absD, zipD, enumD, ttYes, wipeE, canWipe, restE, wipSV, Option.getD_some, List.getElem?_cons_zero, List.getElem?_cons_succ, List.set_cons_zero, List.set_cons_succ, List.length_cons, List.length_nil, List.map_cons, List.map_nil, List.getD_cons_zero, List.getD_cons_succ, Option.bind_some, Option.map_some, Option.isSome_some, Option.bind_none, Option.map_none, Option.isSome_none, if_true, if_false, ite_ap, ixN30, ixN31, ixN32, decide_true, decide_false, Int.reduceLE, Int.reduceLT, Int.reduceNeg, nab10, nab2, Int.reduceToNat, Nat.reducePow, Nat.reduceLT, reduceCtorEq, atI_z, atI_1, atI_2, atI_3, atI_at, atI_m1, List.replicate, List.cons_append, List.nil_append, List.append_nil, reduceIte, and_self, and_true, true_and, false_and, and_false, ne_eq, not_true_eq_false, not_false_eq_true, eq_self, Bool.true_and, Bool.and_true, Bool.false_and, Bool.and_false, Bool.not_true, Bool.not_false, Bool.false_eq_true, Nat.reduceAdd, Nat.reduceSub, Nat.reduceLeDiff, Nat.reduceLT, e12, z2, e13, e14, e15 h, e10, neD_str, ne_self]
    refine Eq.trans (sSeq_nx (by simp only [runF, startE, finF, ioOf, bnd, eVar, eC, eOp, eUn, eIx, eSl, eTup, eLst, eIf, eAnd, eOr, eNot, eChain, tCmpD, tOf, tTru, DS.tAnd, DS.tOr, DS.tNot, asT, truth, aNil, aCons, bNil, bCons, cNil, cCons, oNone, oSome, eVal, eNrm, toVal, deref, derefs, listAt, noPlc, Out.of, retOf, Res.o, ixD, slD, eB, iB, iA, iItems, itemsD, eCall, eCallIo, eCallK, permV, isMut, mutL, remut, eMeth, appendD, popD, eIsi, isi_int, isi_bool, isi_tup, sNil, sSeq, sEx, sRet, sIf, sSet, sSetIx, setIx, setOk_z, setOk_s, nI_un, nI_val, nI_own, listOf_lst, listOf_tup, listOf_fix, putO, sPars, putsR, sPar, sPar3, sAsg, sFor, sRaise, gN, gT, gsC, gsN, addD, subD, mulD, fdivD, modD, powD, cmpD, negD, lenD, listD, tupleD, intD, absD, zipD, enumD, ttYes, wipeE, canWipe, restE, wipSV, Option.getD_some, List.getElem?_cons_zero, List.getElem?_cons_succ, List.set_cons_zero, List.set_cons_succ, List.length_cons, List.length_nil, List.map_cons, List.map_nil, List.getD_cons_zero, List.getD_cons_succ, Option.bind_some, Option.map_some, Option.isSome_some, Option.bind_none, Option.map_none, Option.isSome_none, if_true, if_false, ite_ap, ixN30, ixN31, ixN32, decide_true, decide_false, Int.reduceLE, Int.reduceLT, Int.reduceNeg, nab10, nab2, Int.reduceToNat, Nat.reducePow, Nat.reduceLT, reduceCtorEq, atI_z, atI_1, atI_2, atI_3, atI_at, atI_m1, List.replicate, List.cons_append, List.nil_append, List.append_nil, reduceIte, and_self, and_true, true_and, false_and, and_false, ne_eq, not_true_eq_false, not_false_eq_true, eq_self, Bool.true_and, Bool.and_true, Bool.false_and, Bool.and_false, Bool.not_true, Bool.not_false, Bool.false_eq_true, Nat.reduceAdd, Nat.reduceSub, Nat.reduceLeDiff, Nat.reduceLT, z4, e16, e17] <;> rfl)) ?_
    refine Eq.trans (sSeq_nx (by simp only [runF, startE, finF, ioOf, bnd, eVar, eC, eOp, eUn, eIx, eSl, eTup, eLst, eIf, eAnd, eOr, eNot, eChain, tCmpD, tOf, tTru, DS.tAnd, DS.tOr, DS.tNot, asT, truth, aNil, aCons, bNil, bCons, cNil, cCons, oNone, oSome, eVal, eNrm, toVal, deref, derefs, listAt, noPlc, Out.of, retOf, Res.o, ixD, slD, eB, iB, iA, iItems, itemsD, eCall, eCallIo, eCallK, permV, isMut, mutL, remut, eMeth, appendD, popD, eIsi, isi_int, isi_bool, isi_tup, sNil, sSeq, sEx, sRet, sIf, sSet, sSetIx, setIx, setOk_z, setOk_s, nI_un, nI_val, nI_own, listOf_lst, listOf_tup, listOf_fix, putO, sPars, putsR, sPar, sPar3, sAsg, sFor, sRaise, gN, gT, gsC, gsN, addD, subD, mulD, fdivD, modD, powD, cmpD, negD, lenD, listD, tupleD, intD, absD, zipD, enumD, ttYes, wipeE, canWipe, restE, wipSV, Option.getD_some, List.getElem?_cons_zero, List.getElem?_cons_succ, List.set_cons_zero, List.set_cons_succ, List.length_cons, List.length_nil, List.map_cons, List.map_nil, List.getD_cons_zero, List.getD_cons_succ, Option.bind_some, Option.map_some, Option.isSome_some, Option.bind_none, Option.map_none, Option.isSome_none, if_true, if_false, ite_ap, ixN30, ixN31, ixN32, decide_true, decide_false, Int.reduceLE, Int.reduceLT, Int.reduceNeg, nab10, nab2, Int.reduceToNat, Nat.reducePow, Nat.reduceLT, reduceCtorEq, atI_z, atI_1, atI_2, atI_3, atI_at, atI_m1, List.replicate, List.cons_append, List.nil_append, List.append_nil, reduceIte, and_self, and_true, true_and, false_and, and_false, ne_eq, not_true_eq_false, not_false_eq_true, eq_self, Bool.true_and, Bool.and_true, Bool.false_and, Bool.and_false, Bool.not_true, Bool.not_false, Bool.false_eq_true, Nat.reduceAdd, Nat.reduceSub, Nat.reduceLeDiff, Nat.reduceLT, e18] <;> rfl)) ?_
    refine Eq.trans (sSeq_nx (by simp only [runF, startE, finF, ioOf, bnd, eVar, eC, eOp, eUn, eIx, eSl, eTup, eLst, eIf, eAnd, eOr, eNot, eChain, tCmpD, tOf, tTru, DS.tAnd, DS.tOr, DS.tNot, asT, truth, aNil, aCons, bNil, bCons, cNil, cCons, oNone, oSome, eVal, eNrm, toVal, deref, derefs, listAt, noPlc, Out.of, retOf, Res.o, ixD, slD, eB, iB, iA, iItems, itemsD, eCall, eCallIo, eCallK, permV, isMut, mutL, remut, eMeth, appendD, popD, eIsi, isi_int, isi_bool, isi_tup, sNil, sSeq, sEx, sRet, sIf, sSet, sSetIx, setIx, setOk_z, setOk_s, nI_un, nI_val, nI_own, listOf_lst, listOf_tup, listOf_fix, putO, sPars, putsR, sPar, sPar3, sAsg, sFor, sRaise, gN, gT, gsC, gsN, addD, subD, mulD, fdivD, modD, powD, cmpD, negD, lenD, listD, tupleD, intD, absD, zipD, enumD, ttYes, wipeE, canWipe, restE, wipSV, Option.getD_some, List.getElem?_cons_zero, List.getElem?_cons_succ, List.set_cons_zero, List.set_cons_succ, List.length_cons, List.length_nil, List.map_cons, List.map_nil, List.getD_cons_zero, List.getD_cons_succ, Option.bind_some, Option.map_some, Option.isSome_some, Option.bind_none, Option.map_none, Option.isSome_none, if_true, if_false, ite_ap, ixN30, ixN31, ixN32, decide_true, decide_false, Int.reduceLE, Int.reduceLT, Int.reduceNeg, nab10, nab2, Int.reduceToNat, Nat.reducePow, Nat.reduceLT, reduceCtorEq, atI_z, atI_1, atI_2, atI_3, atI_at, atI_m1, List.replicate, List.cons_append, List.nil_append, List.append_nil, reduceIte, and_self, and_true, true_and, false_and, and_false, ne_eq, not_true_eq_false, not_false_eq_true, eq_self, Bool.true_and, Bool.and_true, Bool.false_and, Bool.and_false, Bool.not_true, Bool.not_false, Bool.false_eq_true, Nat.reduceAdd, Nat.reduceSub, Nat.reduceLeDiff, Nat.reduceLT, e19, z2, e20, neD_str, ne_self] <;> rfl)) ?_
    refine Eq.trans (sSeq_nx (ε1 := [.inn l3, .val (.lst lnL), .val (.tup (iL r)), .val md, .val (.tup (iL (due r))), .val (.int (degI (due r))), .val (.tup (iL (vals r r.length))), .val (.int (c : Int)), .val (.tup (iL (behind (due r) r.length c))), .un, .un, .un, .un]) ?_) ?_
    · cases h : fitsB (vals (due r) (r.length + c)) with
      | false =>
        rw [h] at e21
        simp only [runF, startE, finF, ioOf, bnd, eVar, eC, eOp, eUn, eIx, eSl, eTup, eLst, eIf, eAnd, eOr, eNot, eChain, tCmpD, tOf, tTru, DS.tAnd, DS.tOr, DS.tNot, asT, truth, aNil, aCons, bNil, bCons, cNil, cCons, oNone, oSome, eVal, eNrm, toVal, deref, derefs, listAt, noPlc, Out.of, retOf, Res.o, ixD, slD, eB, iB, iA, iItems, itemsD, eCall, eCallIo, eCallK, permV, isMut, mutL, remut, eMeth, appendD, popD, eIsi, isi_int, isi_bool, isi_tup, sNil, sSeq, sEx, sRet, sIf, sSet, sSetIx, setIx, setOk_z, setOk_s, nI_un, nI_val, nI_own, listOf_lst, listOf_tup, listOf_fix, putO, sPars, putsR, sPar, sPar3, sAsg, sFor, sRaise, gN, gT, gsC, gsN, addD, subD, mulD, fdivD, modD, powD, cmpD, negD, lenD, listD, tupleD, intD, absD, zipD, enumD, ttYes, wipeE, canWipe, restE, wipSV, Option.getD_some, List.getElem?_cons_zero, List.getElem?_cons_succ, List.set_cons_zero, List.set_cons_succ, List.length_cons, List.length_nil, List.map_cons, List.map_nil, List.getD_cons_zero, List.getD_cons_succ, Option.bind_some, Option.map_some, Option.isSome_some, Option.bind_none, Option.map_none, Option.isSome_none, if_true, if_false, ite_ap, ixN30, ixN31, ixN32, decide_true, decide_false, Int.reduceLE, Int.reduceLT, Int.reduceNeg, nab10, nab2, Int.reduceToNat, Nat.reducePow, Nat.reduceLT, reduceCtorEq, atI_z, atI_1, atI_2, atI_3, atI_at, atI_m1, List.replicate, List.cons_append, List.nil_append, List.append_nil, reduceIte, and_self, and_true, true_and, false_and, and_false, ne_eq, not_true_eq_false, not_false_eq_true, eq_self, Bool.true_and, Bool.and_true, Bool.false_and, Bool.and_false, Bool.not_true, Bool.not_false, Bool.false_eq_true, Nat.reduceAdd, Nat.reduceSub, Nat.reduceLeDiff, Nat.reduceLT, iL_len, t6, t7, e21]
      | true =>
        rw [h] at e21
        simp only [runF, startE, finF, ioOf, bnd, eVar, eC, eOp, eUn, eIx, eSl, eTup, eLst, eIf, eAnd, eOr, eNot, eChain, tCmpD, tOf, tTru, DS.tAnd, DS.tOr, DS.tNot, asT, truth, aNil, aCons, bNil, bCons, cNil, cCons, oNone, oSome, eVal, eNrm, toVal, deref, derefs, listAt, noPlc, Out.of, retOf, Res.o, ixD, slD, eB, iB, iA, iItems, itemsD, eCall, eCallIo, eCallK, permV, isMut, mutL, remut, eMeth, appendD, popD, eIsi, isi_int, isi_bool, isi_tup, sNil, sSeq, sEx, sRet, sIf, sSet, sSetIx, setIx, setOk_z, setOk_s, nI_un, nI_val, nI_own, listOf_lst, listOf_tup, listOf_fix, putO, sPars, putsR, sPar, sPar3, sAsg, sFor, sRaise, gN, gT, gsC, gsN, addD, subD, mulD, fdivD, modD, powD, cmpD, negD, lenD, listD, tupleD, intD, absD, zipD, enumD, ttYes, wipeE, canWipe, restE, wipSV, Option.getD_some, List.getElem?_cons_zero, List.getElem?_cons_succ, List.set_cons_zero, List.set_cons_succ, List.length_cons, List.length_nil, List.map_cons, List.map_nil, List.getD_cons_zero, List.getD_cons_succ, Option.bind_some, Option.map_some, Option.isSome_some, Option.bind_none, Option.map_none, Option.isSome_none, if_true, if_false, ite_ap, ixN30, ixN31, ixN32, decide_true, decide_false, Int.reduceLE, Int.reduceLT, Int.reduceNeg, nab10, nab2, Int.reduceToNat, Nat.reducePow, Nat.reduceLT, reduceCtorEq, atI_z, atI_1, atI_2, atI_3, atI_at, atI_m1, List.replicate, List.cons_append, List.nil_append, List.append_nil, reduceIte, and_self, and_true, true_and, false_and, and_false, ne_eq, not_true_eq_false, not_false_eq_true, eq_self, Bool.true_and, Bool.and_true, Bool.false_and, Bool.and_false, Bool.not_true, Bool.not_false, Bool.false_eq_true, Nat.reduceAdd, Nat.reduceSub, Nat.reduceLeDiff, Nat.reduceLT, iL_len, t6, t7, e21, e22 h, e23 h, neD_int, ne_self, cut_n, iL_take, due_take, neD_tups]
    refine Eq.trans (sSeq_nx (ε1 := [.inn l3, .val (.lst lnL), .val (.tup (iL r)), .val md, .val (.tup (iL (due r))), .val (.int (degI (due r))), .val (.tup (iL (vals r r.length))), .val (.int (c : Int)), .val (.tup (iL (behind (due r) r.length c))), .un, .un, .un, .un]) ?_) ?_
    · rcases hmade with rfl | ⟨e, rfl, he1, he2, he3⟩
      · simp only [runF, startE, finF, ioOf, bnd, eVar, eC, eOp, eUn, eIx, eSl, eTup, eLst, eIf, eAnd, eOr, eNot, eChain, tCmpD, tOf, tTru, DS.tAnd, DS.tOr, DS.tNot, asT, truth, aNil, aCons, bNil, bCons, cNil, cCons, oNone, oSome, eVal, eNrm, toVal, deref, derefs, listAt, noPlc, Out.of, retOf, Res.o, ixD, slD, eB, iB, iA, iItems, itemsD, eCall, eCallIo, eCallK, permV, isMut, mutL, remut, eMeth, appendD, popD, eIsi, isi_int, isi_bool, isi_tup, sNil, sSeq, sEx, sRet, sIf, sSet, sSetIx, setIx, setOk_z, setOk_s, nI_un, nI_val, nI_own, listOf_lst, listOf_tup, listOf_fix, putO, sPars, putsR, sPar, sPar3, sAsg, sFor, sRaise, gN, gT, gsC, gsN, addD, subD, mulD, fdivD, modD, powD, cmpD, negD, lenD, listD, tupleD, intD, absD, zipD, enumD, ttYes, wipeE, canWipe, restE, wipSV, Option.getD_some, List.getElem?_cons_zero, List.getElem?_cons_succ, List.set_cons_zero, List.set_cons_succ, List.length_cons, List.length_nil, List.map_cons, List.map_nil, List.getD_cons_zero, List.getD_cons_succ, Option.bind_some, Option.map_some, Option.isSome_some, Option.bind_none, Option.map_none, Option.isSome_none, if_true, if_false, ite_ap, ixN30, ixN31, ixN32, decide_true, decide_false, Int.reduceLE, Int.reduceLT, Int.reduceNeg, nab10, nab2, Int.reduceToNat, Nat.reducePow, Nat.reduceLT, reduceCtorEq, atI_z, atI_1, atI_2, atI_3, atI_at, atI_m1, List.replicate, List.cons_append, List.nil_append, List.append_nil, reduceIte, and_self, and_true, true_and, false_and, and_false, ne_eq, not_true_eq_false, not_false_eq_true, eq_self, Bool.true_and, Bool.and_true, Bool.false_and, Bool.and_false, Bool.not_true, Bool.not_false, Bool.false_eq_true, Nat.reduceAdd, Nat.reduceSub, Nat.reduceLeDiff, Nat.reduceLT, isNotD, isN]
      · by_cases hle : e.length ≤ r.length
        · have hle2 : ((e.length : Nat) : Int) ≤ (r.length : Int) := by omega
          have e25 := fun a0 a4 a5 a6 a8 a9 a10 a11 => C4_right (a0 := a0) (a4 := a4) (a5 := a5) (a6 := a6) (a8 := a8) (a9 := a9) (a10 := a10) (a11 := a11) (r := r) (d := e) (c := c) (by omega) (fun x hx => ab_up (he2 x hx) (by omega))
          have e26 : behind e r.length c = behind (due r) r.length c := by
            have := due_made hle
            rw [← he3] at this
            unfold behind
            rw [this]
          rw [e26] at e25
          simp only [runF, startE, finF, ioOf, bnd, eVar, eC, eOp, eUn, eIx, eSl, eTup, eLst, eIf, eAnd, eOr, eNot, eChain, tCmpD, tOf, tTru, DS.tAnd, DS.tOr, DS.tNot, asT, truth, aNil, aCons, bNil, bCons, cNil, cCons, oNone, oSome, eVal, eNrm, toVal, deref, derefs, listAt, noPlc, Out.of, retOf, Res.o, ixD, slD, eB, iB, iA, iItems, itemsD, eCall, eCallIo, eCallK, permV, isMut, mutL, remut, eMeth, appendD, popD, eIsi, isi_int, isi_bool, isi_tup, sNil, sSeq, sEx, sRet, sIf, sSet, sSetIx, setIx, setOk_z, setOk_s, nI_un, nI_val, nI_own, listOf_lst, listOf_tup, listOf_fix, putO, sPars, putsR, sPar, sPar3, sAsg, sFor, sRaise, gN, gT, gsC, gsN, addD, subD, mulD, fdivD, modD, powD, cmpD, negD, lenD, listD, tupleD, intD, absD, zipD, enumD, ttYes, wipeE, canWipe, restE, wipSV, Option.getD_some, List.getElem?_cons_zero, List.getElem?_cons_succ, List.set_cons_zero, List.set_cons_succ, List.length_cons, List.length_nil, List.map_cons, List.map_nil, List.getD_cons_zero, List.getD_cons_succ, Option.bind_some, Option.map_some, Option.isSome_some, Option.bind_none, Option.map_none, Option.isSome_none, if_true, if_false, ite_ap, ixN30, ixN31, ixN32, decide_true, decide_false, Int.reduceLE, Int.reduceLT, Int.reduceNeg, nab10, nab2, Int.reduceToNat, Nat.reducePow, Nat.reduceLT, reduceCtorEq, atI_z, atI_1, atI_2, atI_3, atI_at, atI_m1, List.replicate, List.cons_append, List.nil_append, List.append_nil, reduceIte, and_self, and_true, true_and, false_and, and_false, ne_eq, not_true_eq_false, not_false_eq_true, eq_self, Bool.true_and, Bool.and_true, Bool.false_and, Bool.and_false, Bool.not_true, Bool.not_false, Bool.false_eq_true, Nat.reduceAdd, Nat.reduceSub, Nat.reduceLeDiff, Nat.reduceLT, isNotD, isN, iL_len, hle2, decide_true, e25, neD_tups, ne_self]
        · have hle2 : ¬ ((e.length : Nat) : Int) ≤ (r.length : Int) := by omega
          simp only [runF, startE, finF, ioOf, bnd, eVar, eC, eOp, eUn, eIx, eSl, eTup, eLst, eIf, eAnd, eOr, eNot, eChain, tCmpD, tOf, tTru, DS.tAnd, DS.tOr, DS.tNot, asT, truth, aNil, aCons, bNil, bCons, cNil, cCons, oNone, oSome, eVal, eNrm, toVal, deref, derefs, listAt, noPlc, Out.of, retOf, Res.o, ixD, slD, eB, iB, iA, iItems, itemsD, eCall, eCallIo, eCallK, permV, isMut, mutL, remut, eMeth, appendD, popD, eIsi, isi_int, isi_bool, isi_tup, sNil, sSeq, sEx, sRet, sIf, sSet, sSetIx, setIx, setOk_z, setOk_s, nI_un, nI_val, nI_own, listOf_lst, listOf_tup, listOf_fix, putO, sPars, putsR, sPar, sPar3, sAsg, sFor, sRaise, gN, gT, gsC, gsN, addD, subD, mulD, fdivD, modD, powD, cmpD, negD, lenD, listD, tupleD, intD, absD, zipD, enumD, ttYes, wipeE, canWipe, restE, wipSV, Option.getD_some, List.getElem?_cons_zero, List.getElem?_cons_succ, List.set_cons_zero, List.set_cons_succ, List.length_cons, List.length_nil, List.map_cons, List.map_nil, List.getD_cons_zero, List.getD_cons_succ, Option.bind_some, Option.map_some, Option.isSome_some, Option.bind_none, Option.map_none, Option.isSome_none, if_true, if_false, ite_ap, ixN30, ixN31, ixN32, decide_true, decide_false, Int.reduceLE, Int.reduceLT, Int.reduceNeg, nab10, nab2, Int.reduceToNat, Nat.reducePow, Nat.reduceLT, reduceCtorEq, atI_z, atI_1, atI_2, atI_3, atI_at, atI_m1, List.replicate, List.cons_append, List.nil_append, List.append_nil, reduceIte, and_self, and_true, true_and, false_and, and_false, ne_eq, not_true_eq_false, not_false_eq_true, eq_self, Bool.true_and, Bool.and_true, Bool.false_and, Bool.and_false, Bool.not_true, Bool.not_false, Bool.false_eq_true, Nat.reduceAdd, Nat.reduceSub, Nat.reduceLeDiff, Nat.reduceLT, isNotD, isN, iL_len, hle2, decide_false]
    rfl
  obtain ⟨a6, a7, a8, pre⟩ := pre
  have pre := (pre sNil).2
  obtain ⟨ε', e27, s9, s10, hs9, hs10, rfl⟩ := sFor_inv (it := iItems (eLst (aCons (eC (.int 0)) (aCons (eC (.int 10)) (aCons (eCallIo S_law_draw 0 (aCons (eC (.int 11)) aNil)) (aCons (eB maxD (bCons (eC (.int 0)) (bCons (eB minD (bCons (eC (.int 10)) (bCons (eVar 5) bNil))) bNil))) (aCons (eB maxD (bCons (eC (.int 0)) (bCons (eB minD (bCons (eC (.int 10)) (bCons (eOp subD (eVar 5) (eC (.int 1))) bNil))) bNil))) aNil))))))) (g := gN 9) (b := FB1_law_right) [.int 0, .int 10, .int m3, .int (y (degI (due r))), .int (y (degI (due r) - 1))]
    (fun k ε => ∃ s9 s10, nI s9 = true ∧ nI s10 = true ∧ ε = [.inn l4, .val (.lst lnL), .val (.tup (iL r)), .val md, .val (.tup (iL (due r))), .val (.int (degI (due r))), a6, a7, a8, s9, s10, .un, .un])
    (ε := [.inn l3, .val (.lst lnL), .val (.tup (iL r)), .val md, .val (.tup (iL (due r))), .val (.int (degI (due r))), a6, a7, a8, .un, .un, .un, .un]) (ε1 := [.inn l4, .val (.lst lnL), .val (.tup (iL r)), .val md, .val (.tup (iL (due r))), .val (.int (degI (due r))), a6, a7, a8, .un, .un, .un, .un]) (by
      simp only [runF, startE, finF, ioOf, bnd, eVar, eC, eOp, eUn, eIx, eSl, eTup, eLst, eIf, eAnd, eOr, eNot, eChain, tCmpD, tOf, tTru, DS.tAnd, DS.tOr, DS.tNot, asT, truth, aNil, aCons, bNil, bCons, cNil, cCons, oNone, oSome, eVal, eNrm, toVal, deref, derefs, listAt, noPlc, Out.of, retOf, Res.o, ixD, slD, eB, iB, iA, iItems, itemsD, eCall, eCallIo, eCallK, permV, isMut, mutL, remut, eMeth, appendD, popD, eIsi, isi_int, isi_bool, isi_tup, sNil, sSeq, sEx, sRet, sIf, sSet, sSetIx, setIx, setOk_z, setOk_s, nI_un, nI_val, nI_own, listOf_lst, listOf_tup, listOf_fix, putO, sPars, putsR, sPar, sPar3, sAsg, sFor, sRaise, gN, gT, gsC, gsN, addD, subD, mulD, fdivD, modD, powD, cmpD, negD, lenD, listD, tupleD, intD, absD, zipD, enumD, ttYes, wipeE, canWipe, restE, wipSV, Option.getD_some, List.getElem?_cons_zero, List.getElem?_cons_succ, List.set_cons_zero, List.set_cons_succ, List.length_cons, List.length_nil, List.map_cons, List.map_nil, List.getD_cons_zero, List.getD_cons_succ, Option.bind_some, Option.map_some, Option.isSome_some, Option.bind_none, Option.map_none, Option.isSome_none, if_true, if_false, ite_ap, ixN30, ixN31, ixN32, decide_true, decide_false, Int.reduceLE, Int.reduceLT, Int.reduceNeg, nab10, nab2, Int.reduceToNat, Nat.reducePow, Nat.reduceLT, reduceCtorEq, atI_z, atI_1, atI_2, atI_3, atI_at, atI_m1, List.replicate, List.cons_append, List.nil_append, List.append_nil, reduceIte, and_self, and_true, true_and, false_and, and_false, ne_eq, not_true_eq_false, not_false_eq_true, eq_self, Bool.true_and, Bool.and_true, Bool.false_and, Bool.and_false, Bool.not_true, Bool.not_false, Bool.false_eq_true, Nat.reduceAdd, Nat.reduceSub, Nat.reduceLeDiff, Nat.reduceLT, e24, maxD, minD, z5]
      rfl) (by
      rintro k d ε hk ⟨s9, s10, hs9, hs10, rfl⟩
      have hd : ∃ m : Nat, d = .int (m : Int) ∧ m ≤ 10 := by
        have hmem := List.mem_of_getElem? hk
        simp only [List.mem_cons, List.not_mem_nil, or_false] at hmem
        have h1 := hy (degI (due r))
        have h2 := hy (degI (due r) - 1)
        rcases hmem with rfl | rfl | rfl | rfl | rfl
        · exact ⟨0, rfl, by omega⟩
        · exact ⟨10, rfl, by omega⟩
        · obtain ⟨m, e⟩ := Int.eq_ofNat_of_zero_le p4
          exact ⟨m, by rw [e], by omega⟩
        · obtain ⟨m, e⟩ := Int.eq_ofNat_of_zero_le h1.1
          exact ⟨m, by rw [e], by omega⟩
        · obtain ⟨m, e⟩ := Int.eq_ofNat_of_zero_le h2.1
          exact ⟨m, by rw [e], by omega⟩
      obtain ⟨m, rfl, hm⟩ := hd
      obtain ⟨s', hs', eb⟩ := FB_right (r := r) (m := m) (a0 := .inn l4) (a3 := .val md) (a4 := .val (.tup (iL (due r)))) (a5 := .val (.int (degI (due r)))) (a6 := a6) (a7 := a7) (a8 := a8) (s10 := s10) (a11 := .un) (a12 := .un) G hm hs10
      exact ⟨_, _, by simp only [runF, startE, finF, ioOf, bnd, eVar, eC, eOp, eUn, eIx, eSl, eTup, eLst, eIf, eAnd, eOr, eNot, eChain, tCmpD, tOf, tTru, DS.tAnd, DS.tOr, DS.tNot, asT, truth, aNil, aCons, bNil, bCons, cNil, cCons, oNone, oSome, eVal, eNrm, toVal, deref, derefs, listAt, noPlc, Out.of, retOf, Res.o, ixD, slD, eB, iB, iA, iItems, itemsD, eCall, eCallIo, eCallK, permV, isMut, mutL, remut, eMeth, appendD, popD, eIsi, isi_int, isi_bool, isi_tup, sNil, sSeq, sEx, sRet, sIf, sSet, sSetIx, setIx, setOk_z, setOk_s, nI_un, nI_val, nI_own, listOf_lst, listOf_tup, listOf_fix, putO, sPars, putsR, sPar, sPar3, sAsg, sFor, sRaise, gN, gT, gsC, gsN, addD, subD, mulD, fdivD, modD, powD, cmpD, negD, lenD, listD, tupleD, intD, absD, zipD, enumD, ttYes, wipeE, canWipe, restE, wipSV, Option.getD_some, List.getElem?_cons_zero, List.getElem?_cons_succ, List.set_cons_zero, List.set_cons_succ, List.length_cons, List.length_nil, List.map_cons, List.map_nil, List.getD_cons_zero, List.getD_cons_succ, Option.bind_some, Option.map_some, Option.isSome_some, Option.bind_none, Option.map_none, Option.isSome_none, if_true, if_false, ite_ap, ixN30, ixN31, ixN32, decide_true, decide_false, Int.reduceLE, Int.reduceLT, Int.reduceNeg, nab10, nab2, Int.reduceToNat, Nat.reducePow, Nat.reduceLT, reduceCtorEq, atI_z, atI_1, atI_2, atI_3, atI_at, atI_m1, List.replicate, List.cons_append, List.nil_append, List.append_nil, reduceIte, and_self, and_true, true_and, false_and, and_false, ne_eq, not_true_eq_false, not_false_eq_true, eq_self, Bool.true_and, Bool.and_true, Bool.false_and, Bool.and_false, Bool.not_true, Bool.not_false, Bool.false_eq_true, Nat.reduceAdd, Nat.reduceSub, Nat.reduceLeDiff, Nat.reduceLT, hs9] <;> rfl, .inl eb, _, s', rfl, hs', rfl⟩) ⟨.un, .un, rfl, rfl, rfl⟩
  refine ⟨l4, fin l4 [.val (.lst lnL), .val (.tup (iL r)), .val md, .val (.tup (iL (due r))), .val (.int (degI (due r))), a6, a7, a8, s9, s10, .un, .un] ?_, F4.mono (by omega)⟩
  rw [pre, sSeq_nx e27]
  rfl
end K34

set_option Elab.async false
set_option linter.all false
set_option maxRecDepth 100000
set_option maxHeartbeats 4000000
set_option exponentiation.threshold 5000
namespace K34
open PySem DS
theorem bits_mono {a b : Int} (h : a.natAbs ≤ b.natAbs) : Builtin.Int.intBits a ≤ Builtin.Int.intBits b := by
  apply PyProof.Rows.intBits_le
  exact Nat.lt_of_le_of_lt h (ab_bits b)
theorem feed_ok {ns : List Int} {k : Nat} (hk : k < ns.length ∨ k = 0) (hk4 : k ≤ 4) (hb : ∀ z ∈ ns, Builtin.Int.intBits z ≤ 1048576) : ∃ l, S_law_feed [.fix (iL ns), .int (k : Int)] = .ok (.own l) [] ∧ Feed 0 l := by
  have fin : ∀ cell : Int, Builtin.Int.intBits cell ≤ 1048576 → Feed 0 [.int (if cell - 10 ^ 18 > 0 then cell - 10 ^ 18 else 0), .int ((cell * 19 + 7 * (k : Int)) % (10 ^ 39 + 23)), .int 0] := fun cell h => by
    refine ⟨_, _, _, rfl, ?_, ?_, Int.emod_nonneg _ (by decide), ?_, by omega, by omega⟩
    · split <;> omega
    · split
      · have := bits_mono (a := cell - 10 ^ 18) (b := cell) (by omega)
        omega
      · have := bits_mono (a := 0) (b := cell) (by simp)
        omega
    · have h1 : (cell * 19 + 7 * (k : Int)) % (10 ^ 39 + 23) < 10 ^ 39 + 23 := Int.emod_lt_of_pos _ (by decide)
      have : (10 : Int) ^ 39 + 23 < 10 ^ 40 := by decide
      omega
  have p : (0 : Int) < 10 ^ 39 + 23 := by decide
  have m1 : mulOk 977 (k : Int) = true := mulOk_s (by decide) (by decide)
  have m2 : ∀ c, mulOk c 19 = true := fun c => mulOk_t (by decide) (by decide)
  have m3 : mulOk 7 (k : Int) = true := mulOk_s (by decide) (by decide)
  have z3 : 0 + 1 + 1 + 1 ≤ sizeLine := by unfold sizeLine; omega
  have t1 : ∀ xs : List D, cutD xs none (some 1) = xs.take 1 := fun xs => cut_n xs 1
  by_cases h : k < ns.length
  · have h2 : (k : Int) < (ns.length : Int) := by omega
    have g : (iL ns)[k]? = some (.int ns[k]) := by
      rw [iL_get, List.getElem?_eq_getElem h]; rfl
    refine ⟨_, ?_, fin ns[k] (hb _ (List.getElem_mem h))⟩
    simp only [S_law_feed, B_law_feed, runF, startE, finF, ioOf, bnd, eVar, eC, eOp, eUn, eIx, eSl, eTup, eLst, eIf, eAnd, eOr, eNot, eChain, tCmpD, tOf, tTru, DS.tAnd, DS.tOr, DS.tNot, asT, truth, aNil, aCons, bNil, bCons, cNil, cCons, oNone, oSome, eVal, eNrm, toVal, deref, derefs, listAt, noPlc, Out.of, retOf, Res.o, ixD, slD, eB, iB, iA, iItems, itemsD, eCall, eCallIo, eCallK, permV, isMut, mutL, remut, eMeth, appendD, popD, eIsi, isi_int, isi_bool, isi_tup, sNil, sSeq, sEx, sRet, sIf, sSet, sSetIx, setIx, setOk_z, setOk_s, nI_un, nI_val, nI_own, listOf_lst, listOf_tup, listOf_fix, putO, sPars, putsR, sPar, sPar3, sAsg, sFor, sRaise, gN, gT, gsC, gsN, addD, subD, mulD, fdivD, modD, powD, cmpD, negD, lenD, listD, tupleD, intD, absD, zipD, enumD, ttYes, wipeE, canWipe, restE, wipSV, Option.getD_some, List.getElem?_cons_zero, List.getElem?_cons_succ, List.set_cons_zero, List.set_cons_succ, List.length_cons, List.length_nil, List.map_cons, List.map_nil, List.getD_cons_zero, List.getD_cons_succ, Option.bind_some, Option.map_some, Option.isSome_some, Option.bind_none, Option.map_none, Option.isSome_none, if_true, if_false, ite_ap, ixN30, ixN31, ixN32, decide_true, decide_false, Int.reduceLE, Int.reduceLT, Int.reduceNeg, nab10, nab2, Int.reduceToNat, Nat.reducePow, Nat.reduceLT, reduceCtorEq, atI_z, atI_1, atI_2, atI_3, atI_at, atI_m1, List.replicate, List.cons_append, List.nil_append, List.append_nil, reduceIte, and_self, and_true, true_and, false_and, and_false, ne_eq, not_true_eq_false, not_false_eq_true, eq_self, Bool.true_and, Bool.and_true, Bool.false_and, Bool.and_false, Bool.not_true, Bool.not_false, Bool.false_eq_true, Nat.reduceAdd, Nat.reduceSub, Nat.reduceLeDiff, Nat.reduceLT, m1, t1, iL_take, sumD, intsOf_iL, iL_len, h2, g, maxD, m2, m3, p, z3]
  · have hn : ns = [] := List.eq_nil_of_length_eq_zero (by omega)
    have hk0 : k = 0 := by omega
    subst hn hk0
    have h2 : ¬ ((0 : Nat) : Int) < ((0 : Nat) : Int) := by omega
    refine ⟨_, ?_, fin (977 * ((0 : Nat) : Int) + ([] : List Int).sum) (by
      have := bits_mono (a := 977 * ((0 : Nat) : Int) + ([] : List Int).sum) (b := 0) (by simp)
      have e : Builtin.Int.intBits 0 = 0 := by decide
      omega)⟩
    simp only [S_law_feed, B_law_feed, runF, startE, finF, ioOf, bnd, eVar, eC, eOp, eUn, eIx, eSl, eTup, eLst, eIf, eAnd, eOr, eNot, eChain, tCmpD, tOf, tTru, DS.tAnd, DS.tOr, DS.tNot, asT, truth, aNil, aCons, bNil, bCons, cNil, cCons, oNone, oSome, eVal, eNrm, toVal, deref, derefs, listAt, noPlc, Out.of, retOf, Res.o, ixD, slD, eB, iB, iA, iItems, itemsD, eCall, eCallIo, eCallK, permV, isMut, mutL, remut, eMeth, appendD, popD, eIsi, isi_int, isi_bool, isi_tup, sNil, sSeq, sEx, sRet, sIf, sSet, sSetIx, setIx, setOk_z, setOk_s, nI_un, nI_val, nI_own, listOf_lst, listOf_tup, listOf_fix, putO, sPars, putsR, sPar, sPar3, sAsg, sFor, sRaise, gN, gT, gsC, gsN, addD, subD, mulD, fdivD, modD, powD, cmpD, negD, lenD, listD, tupleD, intD, absD, zipD, enumD, ttYes, wipeE, canWipe, restE, wipSV, Option.getD_some, List.getElem?_cons_zero, List.getElem?_cons_succ, List.set_cons_zero, List.set_cons_succ, List.length_cons, List.length_nil, List.map_cons, List.map_nil, List.getD_cons_zero, List.getD_cons_succ, Option.bind_some, Option.map_some, Option.isSome_some, Option.bind_none, Option.map_none, Option.isSome_none, if_true, if_false, ite_ap, ixN30, ixN31, ixN32, decide_true, decide_false, Int.reduceLE, Int.reduceLT, Int.reduceNeg, nab10, nab2, Int.reduceToNat, Nat.reducePow, Nat.reduceLT, reduceCtorEq, atI_z, atI_1, atI_2, atI_3, atI_at, atI_m1, List.replicate, List.cons_append, List.nil_append, List.append_nil, reduceIte, and_self, and_true, true_and, false_and, and_false, ne_eq, not_true_eq_false, not_false_eq_true, eq_self, Bool.true_and, Bool.and_true, Bool.false_and, Bool.and_false, Bool.not_true, Bool.not_false, Bool.false_eq_true, Nat.reduceAdd, Nat.reduceSub, Nat.reduceLeDiff, Nat.reduceLT, m1, t1, iL_take, sumD, intsOf_iL, iL_len, h2, maxD, m2, m3, p, z3, List.take_nil]
theorem FB1_ok {n : Nat} {l : List D} {a0 s1 a2 a4 : SV} (hs : s1 = .own lnL ∨ s1 = .val (.lst lnL)) (F : Feed n l) (hn : n + 5000 < 10 ^ 9) : ∃ s1' l', (s1' = .own lnL ∨ s1' = .val (.lst lnL)) ∧ Feed (n + 600) l' ∧ FB1_law [a0, s1, a2, .own l, a4] = .ok .nx [a0, s1', a2, .own l', a4] := by
  obtain ⟨l', e, F'⟩ := law_right_ok F hn
  refine ⟨.val (.lst lnL), l', .inr rfl, F', ?_⟩
  rcases hs with rfl | rfl
  · simp only [FB1_law, runF, startE, finF, ioOf, bnd, eVar, eC, eOp, eUn, eIx, eSl, eTup, eLst, eIf, eAnd, eOr, eNot, eChain, tCmpD, tOf, tTru, DS.tAnd, DS.tOr, DS.tNot, asT, truth, aNil, aCons, bNil, bCons, cNil, cCons, oNone, oSome, eVal, eNrm, toVal, deref, derefs, listAt, noPlc, Out.of, retOf, Res.o, ixD, slD, eB, iB, iA, iItems, itemsD, eCall, eCallIo, eCallK, permV, isMut, mutL, remut, eMeth, appendD, popD, eIsi, isi_int, isi_bool, isi_tup, sNil, sSeq, sEx, sRet, sIf, sSet, sSetIx, setIx, setOk_z, setOk_s, nI_un, nI_val, nI_own, listOf_lst, listOf_tup, listOf_fix, putO, sPars, putsR, sPar, sPar3, sAsg, sFor, sRaise, gN, gT, gsC, gsN, addD, subD, mulD, fdivD, modD, powD, cmpD, negD, lenD, listD, tupleD, intD, absD, zipD, enumD, ttYes, wipeE, canWipe, restE, wipSV, Option.getD_some, List.getElem?_cons_zero, List.getElem?_cons_succ, List.set_cons_zero, List.set_cons_succ, List.length_cons, List.length_nil, List.map_cons, List.map_nil, List.getD_cons_zero, List.getD_cons_succ, Option.bind_some, Option.map_some, Option.isSome_some, Option.bind_none, Option.map_none, Option.isSome_none, if_true, if_false, ite_ap, ixN30, ixN31, ixN32, decide_true, decide_false, Int.reduceLE, Int.reduceLT, Int.reduceNeg, nab10, nab2, Int.reduceToNat, Nat.reducePow, Nat.reduceLT, reduceCtorEq, atI_z, atI_1, atI_2, atI_3, atI_at, atI_m1, List.replicate, List.cons_append, List.nil_append, List.append_nil, reduceIte, and_self, and_true, true_and, false_and, and_false, ne_eq, not_true_eq_false, not_false_eq_true, eq_self, Bool.true_and, Bool.and_true, Bool.false_and, Bool.and_false, Bool.not_true, Bool.not_false, Bool.false_eq_true, Nat.reduceAdd, Nat.reduceSub, Nat.reduceLeDiff, Nat.reduceLT, e]
  · simp only [FB1_law, runF, startE, finF, ioOf, bnd, eVar, eC, eOp, eUn, eIx, eSl, eTup, eLst, eIf, eAnd, eOr, eNot, eChain, tCmpD, tOf, tTru, DS.tAnd, DS.tOr, DS.tNot, asT, truth, aNil, aCons, bNil, bCons, cNil, cCons, oNone, oSome, eVal, eNrm, toVal, deref, derefs, listAt, noPlc, Out.of, retOf, Res.o, ixD, slD, eB, iB, iA, iItems, itemsD, eCall, eCallIo, eCallK, permV, isMut, mutL, remut, eMeth, appendD, popD, eIsi, isi_int, isi_bool, isi_tup, sNil, sSeq, sEx, sRet, sIf, sSet, sSetIx, setIx, setOk_z, setOk_s, nI_un, nI_val, nI_own, listOf_lst, listOf_tup, listOf_fix, putO, sPars, putsR, sPar, sPar3, sAsg, sFor, sRaise, gN, gT, gsC, gsN, addD, subD, mulD, fdivD, modD, powD, cmpD, negD, lenD, listD, tupleD, intD, absD, zipD, enumD, ttYes, wipeE, canWipe, restE, wipSV, Option.getD_some, List.getElem?_cons_zero, List.getElem?_cons_succ, List.set_cons_zero, List.set_cons_succ, List.length_cons, List.length_nil, List.map_cons, List.map_nil, List.getD_cons_zero, List.getD_cons_succ, Option.bind_some, Option.map_some, Option.isSome_some, Option.bind_none, Option.map_none, Option.isSome_none, if_true, if_false, ite_ap, ixN30, ixN31, ixN32, decide_true, decide_false, Int.reduceLE, Int.reduceLT, Int.reduceNeg, nab10, nab2, Int.reduceToNat, Nat.reducePow, Nat.reduceLT, reduceCtorEq, atI_z, atI_1, atI_2, atI_3, atI_at, atI_m1, List.replicate, List.cons_append, List.nil_append, List.append_nil, reduceIte, and_self, and_true, true_and, false_and, and_false, ne_eq, not_true_eq_false, not_false_eq_true, eq_self, Bool.true_and, Bool.and_true, Bool.false_and, Bool.and_false, Bool.not_true, Bool.not_false, Bool.false_eq_true, Nat.reduceAdd, Nat.reduceSub, Nat.reduceLeDiff, Nat.reduceLT, e]
theorem FB2_ok {ns : List Int} {k : Nat} {s1 a3 a4 : SV} (hk : k < ns.length ∨ k = 0) (hk4 : k ≤ 4) (hb : ∀ z ∈ ns, Builtin.Int.intBits z ≤ 1048576) (hs : s1 = .own lnL ∨ s1 = .val (.lst lnL)) (h3 : nI a3 = true) (h4 : nI a4 = true) :
    ∃ s1' a3' a4', (s1' = .own lnL ∨ s1' = .val (.lst lnL)) ∧ nI a3' = true ∧ nI a4' = true ∧ FB2_law [.val (.fix (iL ns)), s1, .val (.int (k : Int)), a3, a4] = .ok .nx [.val (.fix (iL ns)), s1', .val (.int (k : Int)), a3', a4'] := by
  obtain ⟨l, e, F⟩ := feed_ok hk hk4 hb
  obtain ⟨ε', e2, s1', l', a4', hs', F', ha, rfl⟩ := sFor_inv (it := iB range1D (bCons (eC (.int 2)) bNil)) (g := gN 4) (b := FB1_law) [.int 0, .int 1] (fun j ε => ∃ s1' l' a4', (s1' = .own lnL ∨ s1' = .val (.lst lnL)) ∧ Feed (600 * j) l' ∧ nI a4' = true ∧ ε = [.val (.fix (iL ns)), s1', .val (.int (k : Int)), .own l', a4'])
    (ε := [.val (.fix (iL ns)), s1, .val (.int (k : Int)), .own l, a4]) (ε1 := [.val (.fix (iL ns)), s1, .val (.int (k : Int)), .own l, a4]) (by simp only [runF, startE, finF, ioOf, bnd, eVar, eC, eOp, eUn, eIx, eSl, eTup, eLst, eIf, eAnd, eOr, eNot, eChain, tCmpD, tOf, tTru, DS.tAnd, DS.tOr, DS.tNot, asT, truth, aNil, aCons, bNil, bCons, cNil, cCons, oNone, oSome, eVal, eNrm, toVal, deref, derefs, listAt, noPlc, Out.of, retOf, Res.o, ixD, slD, eB, iB, iA, iItems, itemsD, eCall, eCallIo, eCallK, permV, isMut, mutL, remut, eMeth, appendD, popD, eIsi, isi_int, isi_bool, isi_tup, sNil, sSeq, sEx, sRet, sIf, sSet, sSetIx, setIx, setOk_z, setOk_s, nI_un, nI_val, nI_own, listOf_lst, listOf_tup, listOf_fix, putO, sPars, putsR, sPar, sPar3, sAsg, sFor, sRaise, gN, gT, gsC, gsN, addD, subD, mulD, fdivD, modD, powD, cmpD, negD, lenD, listD, tupleD, intD, absD, zipD, enumD, ttYes, wipeE, canWipe, restE, wipSV, Option.getD_some, List.getElem?_cons_zero, List.getElem?_cons_succ, List.set_cons_zero, List.set_cons_succ, List.length_cons, List.length_nil, List.map_cons, List.map_nil, List.getD_cons_zero, List.getD_cons_succ, Option.bind_some, Option.map_some, Option.isSome_some, Option.bind_none, Option.map_none, Option.isSome_none, if_true, if_false, ite_ap, ixN30, ixN31, ixN32, decide_true, decide_false, Int.reduceLE, Int.reduceLT, Int.reduceNeg, nab10, nab2, Int.reduceToNat, Nat.reducePow, Nat.reduceLT, reduceCtorEq, atI_z, atI_1, atI_2, atI_3, atI_at, atI_m1, List.replicate, List.cons_append, List.nil_append, List.append_nil, reduceIte, and_self, and_true, true_and, false_and, and_false, ne_eq, not_true_eq_false, not_false_eq_true, eq_self, Bool.true_and, Bool.and_true, Bool.false_and, Bool.and_false, Bool.not_true, Bool.not_false, Bool.false_eq_true, Nat.reduceAdd, Nat.reduceSub, Nat.reduceLeDiff, Nat.reduceLT, show range1D [.int 2] = _ from range1_n (n := 2) (by decide)]; rfl) (by
      rintro j d ε hj ⟨s1', l', a4', hs', F', ha, rfl⟩
      have hj2 : j < 2 := (List.getElem?_eq_some_iff.mp hj).1
      obtain ⟨s2, l2, hs2, F2, e3⟩ := FB1_ok (a0 := .val (.fix (iL ns))) (a2 := .val (.int (k : Int))) (a4 := .val d) hs' F' (by omega)
      exact ⟨_, _, by simp only [runF, startE, finF, ioOf, bnd, eVar, eC, eOp, eUn, eIx, eSl, eTup, eLst, eIf, eAnd, eOr, eNot, eChain, tCmpD, tOf, tTru, DS.tAnd, DS.tOr, DS.tNot, asT, truth, aNil, aCons, bNil, bCons, cNil, cCons, oNone, oSome, eVal, eNrm, toVal, deref, derefs, listAt, noPlc, Out.of, retOf, Res.o, ixD, slD, eB, iB, iA, iItems, itemsD, eCall, eCallIo, eCallK, permV, isMut, mutL, remut, eMeth, appendD, popD, eIsi, isi_int, isi_bool, isi_tup, sNil, sSeq, sEx, sRet, sIf, sSet, sSetIx, setIx, setOk_z, setOk_s, nI_un, nI_val, nI_own, listOf_lst, listOf_tup, listOf_fix, putO, sPars, putsR, sPar, sPar3, sAsg, sFor, sRaise, gN, gT, gsC, gsN, addD, subD, mulD, fdivD, modD, powD, cmpD, negD, lenD, listD, tupleD, intD, absD, zipD, enumD, ttYes, wipeE, canWipe, restE, wipSV, Option.getD_some, List.getElem?_cons_zero, List.getElem?_cons_succ, List.set_cons_zero, List.set_cons_succ, List.length_cons, List.length_nil, List.map_cons, List.map_nil, List.getD_cons_zero, List.getD_cons_succ, Option.bind_some, Option.map_some, Option.isSome_some, Option.bind_none, Option.map_none, Option.isSome_none, if_true, if_false, ite_ap, ixN30, ixN31, ixN32, decide_true, decide_false, Int.reduceLE, Int.reduceLT, Int.reduceNeg, nab10, nab2, Int.reduceToNat, Nat.reducePow, Nat.reduceLT, reduceCtorEq, atI_z, atI_1, atI_2, atI_3, atI_at, atI_m1, List.replicate, List.cons_append, List.nil_append, List.append_nil, reduceIte, and_self, and_true, true_and, false_and, and_false, ne_eq, not_true_eq_false, not_false_eq_true, eq_self, Bool.true_and, Bool.and_true, Bool.false_and, Bool.and_false, Bool.not_true, Bool.not_false, Bool.false_eq_true, Nat.reduceAdd, Nat.reduceSub, Nat.reduceLeDiff, Nat.reduceLT, ha] <;> rfl, .inl e3, s2, l2, .val d, hs2, F2.mono (by omega), rfl, rfl⟩) ⟨s1, l, a4, hs, F, h4, rfl⟩
  refine ⟨s1', .own l', a4', hs', rfl, ha, ?_⟩
  unfold FB2_law
  rcases hs with rfl | rfl
  · refine Eq.trans (sSeq_nx (by simp only [runF, startE, finF, ioOf, bnd, eVar, eC, eOp, eUn, eIx, eSl, eTup, eLst, eIf, eAnd, eOr, eNot, eChain, tCmpD, tOf, tTru, DS.tAnd, DS.tOr, DS.tNot, asT, truth, aNil, aCons, bNil, bCons, cNil, cCons, oNone, oSome, eVal, eNrm, toVal, deref, derefs, listAt, noPlc, Out.of, retOf, Res.o, ixD, slD, eB, iB, iA, iItems, itemsD, eCall, eCallIo, eCallK, permV, isMut, mutL, remut, eMeth, appendD, popD, eIsi, isi_int, isi_bool, isi_tup, sNil, sSeq, sEx, sRet, sIf, sSet, sSetIx, setIx, setOk_z, setOk_s, nI_un, nI_val, nI_own, listOf_lst, listOf_tup, listOf_fix, putO, sPars, putsR, sPar, sPar3, sAsg, sFor, sRaise, gN, gT, gsC, gsN, addD, subD, mulD, fdivD, modD, powD, cmpD, negD, lenD, listD, tupleD, intD, absD, zipD, enumD, ttYes, wipeE, canWipe, restE, wipSV, Option.getD_some, List.getElem?_cons_zero, List.getElem?_cons_succ, List.set_cons_zero, List.set_cons_succ, List.length_cons, List.length_nil, List.map_cons, List.map_nil, List.getD_cons_zero, List.getD_cons_succ, Option.bind_some, Option.map_some, Option.isSome_some, Option.bind_none, Option.map_none, Option.isSome_none, if_true, if_false, ite_ap, ixN30, ixN31, ixN32, decide_true, decide_false, Int.reduceLE, Int.reduceLT, Int.reduceNeg, nab10, nab2, Int.reduceToNat, Nat.reducePow, Nat.reduceLT, reduceCtorEq, atI_z, atI_1, atI_2, atI_3, atI_at, atI_m1, List.replicate, List.cons_append, List.nil_append, List.append_nil, reduceIte, and_self, and_true, true_and, false_and, and_false, ne_eq, not_true_eq_false, not_false_eq_true, eq_self, Bool.true_and, Bool.and_true, Bool.false_and, Bool.and_false, Bool.not_true, Bool.not_false, Bool.false_eq_true, Nat.reduceAdd, Nat.reduceSub, Nat.reduceLeDiff, Nat.reduceLT, e, h3] <;> rfl)) ?_
    exact e2
  · refine Eq.trans (sSeq_nx (by simp only [runF, startE, finF, ioOf, bnd, eVar, eC, eOp, eUn, eIx, eSl, eTup, eLst, eIf, eAnd, eOr, eNot, eChain, tCmpD, tOf, tTru, DS.tAnd, DS.tOr, DS.tNot, asT, truth, aNil, aCons, bNil, bCons, cNil, cCons, oNone, oSome, eVal, eNrm, toVal, deref, derefs, listAt, noPlc, Out.of, retOf, Res.o, ixD, slD, eB, iB, iA, iItems, itemsD, eCall, eCallIo, eCallK, permV, isMut, mutL, remut, eMeth, appendD, popD, eIsi, isi_int, isi_bool, isi_tup, sNil, sSeq, sEx, sRet, sIf, sSet, sSetIx, setIx, setOk_z, setOk_s, nI_un, nI_val, nI_own, listOf_lst, listOf_tup, listOf_fix, putO, sPars, putsR, sPar, sPar3, sAsg, sFor, sRaise, gN, gT, gsC, gsN, addD, subD, mulD, fdivD, modD, powD, cmpD, negD, lenD, listD, tupleD, intD, absD, zipD, enumD, ttYes, wipeE, canWipe, restE, wipSV, Option.getD_some, List.getElem?_cons_zero, List.getElem?_cons_succ, List.set_cons_zero, List.set_cons_succ, List.length_cons, List.length_nil, List.map_cons, List.map_nil, List.getD_cons_zero, List.getD_cons_succ, Option.bind_some, Option.map_some, Option.isSome_some, Option.bind_none, Option.map_none, Option.isSome_none, if_true, if_false, ite_ap, ixN30, ixN31, ixN32, decide_true, decide_false, Int.reduceLE, Int.reduceLT, Int.reduceNeg, nab10, nab2, Int.reduceToNat, Nat.reducePow, Nat.reduceLT, reduceCtorEq, atI_z, atI_1, atI_2, atI_3, atI_at, atI_m1, List.replicate, List.cons_append, List.nil_append, List.append_nil, reduceIte, and_self, and_true, true_and, false_and, and_false, ne_eq, not_true_eq_false, not_false_eq_true, eq_self, Bool.true_and, Bool.and_true, Bool.false_and, Bool.and_false, Bool.not_true, Bool.not_false, Bool.false_eq_true, Nat.reduceAdd, Nat.reduceSub, Nat.reduceLeDiff, Nat.reduceLT, e, h3] <;> rfl)) ?_
    exact e2
theorem fin : ∀ ns : List Int, ns.length ≤ 63 → (∀ z ∈ ns, Builtin.Int.intBits z ≤ 1048576) → S_law [.fix (ns.map D.int)] = .ok (.val (.bl true)) [] := by
  intro ns hl hb
  show S_law [.fix (iL ns)] = _
  have hM : ∃ M : Nat, M ≤ 4 ∧ (M ≤ ns.length ∨ M = 1) ∧ iB range1D (bCons (eB maxD (bCons (eC (.int 1)) (bCons (eB minD (bCons (eB lenD (bCons (eVar 0) bNil)) (bCons (eC (.int 4)) bNil))) bNil))) bNil) [.val (.fix (iL ns)), .own lnL, .un, .un, .un] = .ok ((List.range M).map fun (i : Nat) => D.int (i : Int)) [.val (.fix (iL ns)), .own lnL, .un, .un, .un] := by
    refine ⟨(if (if (4 : Int) < (ns.length : Int) then 4 else (ns.length : Int)) > 1 then (if (4 : Int) < (ns.length : Int) then 4 else (ns.length : Int)) else 1).toNat, ?_, ?_, ?_⟩
    · split <;> split <;> omega
    · split <;> split <;> omega
    · have hx : ∀ i : Int, 0 ≤ i → i ≤ 4 → range1D [.int i] = some ((List.range i.toNat).map fun (i : Nat) => D.int (i : Int)) := fun i h0 h1 => by
        obtain ⟨m, rfl⟩ := Int.eq_ofNat_of_zero_le h0
        rw [Int.toNat_natCast]
        exact range1_n (by omega)
      have e := hx (if (if (4 : Int) < (ns.length : Int) then 4 else (ns.length : Int)) > 1 then (if (4 : Int) < (ns.length : Int) then 4 else (ns.length : Int)) else 1) (by split <;> split <;> omega) (by split <;> split <;> omega)
      simp only [runF, startE, finF, ioOf, bnd, eVar, eC, eOp, eUn, eIx, eSl, eTup, eLst, eIf, eAnd, eOr, eNot, eChain, tCmpD, tOf, tTru, DS.tAnd, DS.tOr, DS.tNot, asT, truth, aNil, aCons, bNil, bCons, cNil, cCons, oNone, oSome, eVal, eNrm, toVal, deref, derefs, listAt, noPlc, Out.of, retOf, Res.o, ixD, slD, eB, iB, iA, iItems, itemsD, eCall, eCallIo, eCallK, permV, isMut, mutL, remut, eMeth, appendD, popD, eIsi, isi_int, isi_bool, isi_tup, sNil, sSeq, sEx, sRet, sIf, sSet, sSetIx, setIx, setOk_z, setOk_s, nI_un, nI_val, nI_own, listOf_lst, listOf_tup, listOf_fix, putO, sPars, putsR, sPar, sPar3, sAsg, sFor, sRaise, gN, gT, gsC, gsN, addD, subD, mulD, fdivD, modD, powD, cmpD, negD, lenD, listD, tupleD, intD, absD, zipD, enumD, ttYes, wipeE, canWipe, restE, wipSV, Option.getD_some, List.getElem?_cons_zero, List.getElem?_cons_succ, List.set_cons_zero, List.set_cons_succ, List.length_cons, List.length_nil, List.map_cons, List.map_nil, List.getD_cons_zero, List.getD_cons_succ, Option.bind_some, Option.map_some, Option.isSome_some, Option.bind_none, Option.map_none, Option.isSome_none, if_true, if_false, ite_ap, ixN30, ixN31, ixN32, decide_true, decide_false, Int.reduceLE, Int.reduceLT, Int.reduceNeg, nab10, nab2, Int.reduceToNat, Nat.reducePow, Nat.reduceLT, reduceCtorEq, atI_z, atI_1, atI_2, atI_3, atI_at, atI_m1, List.replicate, List.cons_append, List.nil_append, List.append_nil, reduceIte, and_self, and_true, true_and, false_and, and_false, ne_eq, not_true_eq_false, not_false_eq_true, eq_self, Bool.true_and, Bool.and_true, Bool.false_and, Bool.and_false, Bool.not_true, Bool.not_false, Bool.false_eq_true, Nat.reduceAdd, Nat.reduceSub, Nat.reduceLeDiff, Nat.reduceLT, iL_len, minD, maxD, e]
  obtain ⟨M, hM4, hMl, eM⟩ := hM
  obtain ⟨ε', e2, s1, a2, a3, a4, hs, h2, h3, h4, rfl⟩ := sFor_inv (it := iB range1D (bCons (eB maxD (bCons (eC (.int 1)) (bCons (eB minD (bCons (eB lenD (bCons (eVar 0) bNil)) (bCons (eC (.int 4)) bNil))) bNil))) bNil)) (g := gN 2) (b := FB2_law) ((List.range M).map fun (i : Nat) => D.int (i : Int)) (fun j ε => ∃ s1 a2 a3 a4, (s1 = .own lnL ∨ s1 = .val (.lst lnL)) ∧ nI a2 = true ∧ nI a3 = true ∧ nI a4 = true ∧ ε = [.val (.fix (iL ns)), s1, a2, a3, a4])
    (ε := [.val (.fix (iL ns)), .own lnL, .un, .un, .un]) (ε1 := [.val (.fix (iL ns)), .own lnL, .un, .un, .un]) eM (by
      rintro j d ε hj ⟨s1, a2, a3, a4, hs, h2, h3, h4, rfl⟩
      have hj2 : j < M := by
        have := (List.getElem?_eq_some_iff.mp hj).1
        simpa using this
      rw [List.getElem?_map, List.getElem?_range hj2] at hj
      cases hj
      obtain ⟨s1', a3', a4', hs', h3', h4', e3⟩ := FB2_ok (k := j) (ns := ns) (by omega) (by omega) hb hs h3 h4
      exact ⟨_, _, by simp only [runF, startE, finF, ioOf, bnd, eVar, eC, eOp, eUn, eIx, eSl, eTup, eLst, eIf, eAnd, eOr, eNot, eChain, tCmpD, tOf, tTru, DS.tAnd, DS.tOr, DS.tNot, asT, truth, aNil, aCons, bNil, bCons, cNil, cCons, oNone, oSome, eVal, eNrm, toVal, deref, derefs, listAt, noPlc, Out.of, retOf, Res.o, ixD, slD, eB, iB, iA, iItems, itemsD, eCall, eCallIo, eCallK, permV, isMut, mutL, remut, eMeth, appendD, popD, eIsi, isi_int, isi_bool, isi_tup, sNil, sSeq, sEx, sRet, sIf, sSet, sSetIx, setIx, setOk_z, setOk_s, nI_un, nI_val, nI_own, listOf_lst, listOf_tup, listOf_fix, putO, sPars, putsR, sPar, sPar3, sAsg, sFor, sRaise, gN, gT, gsC, gsN, addD, subD, mulD, fdivD, modD, powD, cmpD, negD, lenD, listD, tupleD, intD, absD, zipD, enumD, ttYes, wipeE, canWipe, restE, wipSV, Option.getD_some, List.getElem?_cons_zero, List.getElem?_cons_succ, List.set_cons_zero, List.set_cons_succ, List.length_cons, List.length_nil, List.map_cons, List.map_nil, List.getD_cons_zero, List.getD_cons_succ, Option.bind_some, Option.map_some, Option.isSome_some, Option.bind_none, Option.map_none, Option.isSome_none, if_true, if_false, ite_ap, ixN30, ixN31, ixN32, decide_true, decide_false, Int.reduceLE, Int.reduceLT, Int.reduceNeg, nab10, nab2, Int.reduceToNat, Nat.reducePow, Nat.reduceLT, reduceCtorEq, atI_z, atI_1, atI_2, atI_3, atI_at, atI_m1, List.replicate, List.cons_append, List.nil_append, List.append_nil, reduceIte, and_self, and_true, true_and, false_and, and_false, ne_eq, not_true_eq_false, not_false_eq_true, eq_self, Bool.true_and, Bool.and_true, Bool.false_and, Bool.and_false, Bool.not_true, Bool.not_false, Bool.false_eq_true, Nat.reduceAdd, Nat.reduceSub, Nat.reduceLeDiff, Nat.reduceLT, h2] <;> rfl, .inl e3, s1', _, a3', a4', hs', rfl, h3', h4', rfl⟩) ⟨.own lnL, .un, .un, .un, .inl rfl, rfl, rfl, rfl, rfl⟩
  have : B_law (startE false 5 [.fix (iL ns)]) = .ok (.rt (.val (.bl true))) [.val (.fix (iL ns)), s1, a2, a3, a4] := by
    unfold B_law
    refine Eq.trans (sSeq_nx (by simp only [runF, startE, finF, ioOf, bnd, eVar, eC, eOp, eUn, eIx, eSl, eTup, eLst, eIf, eAnd, eOr, eNot, eChain, tCmpD, tOf, tTru, DS.tAnd, DS.tOr, DS.tNot, asT, truth, aNil, aCons, bNil, bCons, cNil, cCons, oNone, oSome, eVal, eNrm, toVal, deref, derefs, listAt, noPlc, Out.of, retOf, Res.o, ixD, slD, eB, iB, iA, iItems, itemsD, eCall, eCallIo, eCallK, permV, isMut, mutL, remut, eMeth, appendD, popD, eIsi, isi_int, isi_bool, isi_tup, sNil, sSeq, sEx, sRet, sIf, sSet, sSetIx, setIx, setOk_z, setOk_s, nI_un, nI_val, nI_own, listOf_lst, listOf_tup, listOf_fix, putO, sPars, putsR, sPar, sPar3, sAsg, sFor, sRaise, gN, gT, gsC, gsN, addD, subD, mulD, fdivD, modD, powD, cmpD, negD, lenD, listD, tupleD, intD, absD, zipD, enumD, ttYes, wipeE, canWipe, restE, wipSV, Option.getD_some, List.getElem?_cons_zero, List.getElem?_cons_succ, List.set_cons_zero, List.set_cons_succ, List.length_cons, List.length_nil, List.map_cons, List.map_nil, List.getD_cons_zero, List.getD_cons_succ, Option.bind_some, Option.map_some, Option.isSome_some, Option.bind_none, Option.map_none, Option.isSome_none, if_true, if_false, ite_ap, ixN30, ixN31, ixN32, decide_true, decide_false, Int.reduceLE, Int.reduceLT, Int.reduceNeg, nab10, nab2, Int.reduceToNat, Nat.reducePow, Nat.reduceLT, reduceCtorEq, atI_z, atI_1, atI_2, atI_3, atI_at, atI_m1, List.replicate, List.cons_append, List.nil_append, List.append_nil, reduceIte, and_self, and_true, true_and, false_and, and_false, ne_eq, not_true_eq_false, not_false_eq_true, eq_self, Bool.true_and, Bool.and_true, Bool.false_and, Bool.and_false, Bool.not_true, Bool.not_false, Bool.false_eq_true, Nat.reduceAdd, Nat.reduceSub, Nat.reduceLeDiff, Nat.reduceLT, choices_eq] <;> rfl)) ?_
    refine Eq.trans (sSeq_nx e2) ?_
    rfl
  unfold S_law runF
  rw [this]
  rfl
end K34

open PySem PySem.W PyProof.Rows
set_option maxHeartbeats 0 in
theorem PySem.Challenge.cw_wholefurther_k34_whole_rows_their_differ_holds : PySem.Challenge.rw_wholefurther_k34_whole_rows_their_differ.Holds := by
  w_on; o_law; k_head; (case hw => w_witness2)
  k_fill
  refine DS.walk_G (l := PySem.Challenge.rw_wholefurther_k34_whole_rows_their_differ) (n := 63) (k := 7) (x := "script") (sp := fun w => DS.spLaw _) rfl (by decide) rfl ⟨⟨rfl, by decide, by decide⟩, rfl⟩ (fun w h Y => PySem.W.kIn_of Y) ?F (fun _ H a ns hl hb hO hS => ⟨a, ns, rfl, hS, hO, hl, hb, fun _ => rfl⟩)
  case F =>
    intro w mg fa h KX G hmg
    refine' K34.all_mk KX G hmg ?z_all ?z_bool ?z_enumerate ?z_int ?z_isinstance ?z_len ?z_list ?z_max ?z_min ?z_range ?z_repr ?z_sum ?z_tuple ?z_zip ?v_MOST_ENTRIES ?v_ENTRY_LIMIT ?v_MOST_DEGREE ?ga_BadCount ?gb_BadCount ?gc_BadCount ?gd_BadCount ?ge_BadCount ?ga_BadRow ?gb_BadRow ?gc_BadRow ?gd_BadRow ?ge_BadRow ?a_law_choices ?l_law_choices ?c_law_choices ?k_law_choices ?a_law_feed ?l_law_feed ?c_law_feed ?k_law_feed ?a_law_differences ?l_law_differences ?c_law_differences ?k_law_differences ?a_law_draw ?l_law_draw ?c_law_draw ?k_law_draw ?a_law_fits ?l_law_fits ?c_law_fits ?k_law_fits ?a_law_is ?l_law_is ?c_law_is ?k_law_is ?a_law_one ?l_law_one ?c_law_one ?k_law_one ?a_law_value ?l_law_value ?c_law_value ?k_law_value ?a_law_row ?l_law_row ?c_law_row ?k_law_row ?a_law_settled ?l_law_settled ?c_law_settled ?k_law_settled ?a_is_integer ?l_is_integer ?c_is_integer ?k_is_integer ?a_in_range ?l_in_range ?c_in_range ?k_in_range ?a_is_row ?l_is_row ?c_is_row ?k_is_row ?a_check_row ?l_check_row ?c_check_row ?k_check_row ?a_differences_at ?l_differences_at ?c_differences_at ?k_differences_at ?a_degree_in ?l_degree_in ?c_degree_in ?k_degree_in ?a_degree_of_row ?l_degree_of_row ?c_degree_of_row ?k_degree_of_row ?a_differences ?l_differences ?c_differences ?k_differences ?a_check_count ?l_check_count ?c_check_count ?k_check_count ?a_row_of ?l_row_of ?c_row_of ?k_row_of ?a_further ?l_further ?c_further ?k_further ?a_row_by ?l_row_by ?c_row_by ?k_row_by ?a_first_settled ?l_first_settled ?c_first_settled ?k_first_settled ?a_settled_from ?l_settled_from ?c_settled_from ?k_settled_from ?a_law_right ?l_law_right ?c_law_right ?k_law_right ?a_law ?l_law ?c_law ?k_law K34.fin
    case z_all => k_is
    case z_bool => k_is
    case z_enumerate => k_is
    case z_int => k_is
    case z_isinstance => k_is
    case z_len => k_is
    case z_list => k_is
    case z_max => k_is
    case z_min => k_is
    case z_range => k_is
    case z_repr => k_is
    case z_sum => k_is
    case z_tuple => k_is
    case z_zip => k_is
    case v_MOST_ENTRIES => k_is
    case v_ENTRY_LIMIT => k_is
    case v_MOST_DEGREE => k_is
    case ga_BadCount => k_is
    case gb_BadCount => k_exc
    case gc_BadCount => k_is
    case gd_BadCount => k_is
    case ge_BadCount => k_is
    case ga_BadRow => k_is
    case gb_BadRow => k_exc
    case gc_BadRow => k_is
    case gd_BadRow => k_is
    case ge_BadRow => k_is
    case a_law_choices => k_is
    case l_law_choices => k_is
    case c_law_choices => k_is
    case k_law_choices => k_is
    case a_law_feed => k_is
    case l_law_feed => k_is
    case c_law_feed => k_is
    case k_law_feed => k_is
    case a_law_differences => k_is
    case l_law_differences => k_is
    case c_law_differences => k_is
    case k_law_differences => k_is
    case a_law_draw => k_is
    case l_law_draw => k_is
    case c_law_draw => k_is
    case k_law_draw => k_is
    case a_law_fits => k_is
    case l_law_fits => k_is
    case c_law_fits => k_is
    case k_law_fits => k_is
    case a_law_is => k_is
    case l_law_is => k_is
    case c_law_is => k_is
    case k_law_is => k_is
    case a_law_one => k_is
    case l_law_one => k_is
    case c_law_one => k_is
    case k_law_one => k_is
    case a_law_value => k_is
    case l_law_value => k_is
    case c_law_value => k_is
    case k_law_value => k_is
    case a_law_row => k_is
    case l_law_row => k_is
    case c_law_row => k_is
    case k_law_row => k_is
    case a_law_settled => k_is
    case l_law_settled => k_is
    case c_law_settled => k_is
    case k_law_settled => k_is
    case a_is_integer => k_is
    case l_is_integer => k_is
    case c_is_integer => k_is
    case k_is_integer => k_is
    case a_in_range => k_is
    case l_in_range => k_is
    case c_in_range => k_is
    case k_in_range => k_is
    case a_is_row => k_is
    case l_is_row => k_is
    case c_is_row => k_is
    case k_is_row => k_is
    case a_check_row => k_is
    case l_check_row => k_is
    case c_check_row => k_is
    case k_check_row => k_is
    case a_differences_at => k_is
    case l_differences_at => k_is
    case c_differences_at => k_is
    case k_differences_at => k_is
    case a_degree_in => k_is
    case l_degree_in => k_is
    case c_degree_in => k_is
    case k_degree_in => k_is
    case a_degree_of_row => k_is
    case l_degree_of_row => k_is
    case c_degree_of_row => k_is
    case k_degree_of_row => k_is
    case a_differences => k_is
    case l_differences => k_is
    case c_differences => k_is
    case k_differences => k_is
    case a_check_count => k_is
    case l_check_count => k_is
    case c_check_count => k_is
    case k_check_count => k_is
    case a_row_of => k_is
    case l_row_of => k_is
    case c_row_of => k_is
    case k_row_of => k_is
    case a_further => k_is
    case l_further => k_is
    case c_further => k_is
    case k_further => k_is
    case a_row_by => k_is
    case l_row_by => k_is
    case c_row_by => k_is
    case k_row_by => k_is
    case a_first_settled => k_is
    case l_first_settled => k_is
    case c_first_settled => k_is
    case k_first_settled => k_is
    case a_settled_from => k_is
    case l_settled_from => k_is
    case c_settled_from => k_is
    case k_settled_from => k_is
    case a_law_right => k_is
    case l_law_right => k_is
    case c_law_right => k_is
    case k_law_right => k_is
    case a_law => k_is
    case l_law => k_is
    case c_law => k_is
    case k_law => k_is

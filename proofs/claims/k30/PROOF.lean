import PyProof.Rows.All
import Wide.All
import OpenK.AllK
import Wide.FinOn
import HandS.ForMost
import HandS.Exc
import HandS.Flow
import HandS.Style
import HandS.IsInst
import HandS.TupAny
import HandS.Walk
import HandS.AnyAll
import HandS.GenList
import HandS.Zip
import HandS.Rev
import HandS.Defaults
import HandS.WordsExc
import HandS.HeadHook4
import HandS.HeadWalk
import HandS.Head0
import KE.KNestM
import HandS.Head1
import HandS.Head2
import HandS.HeadEnd
import KE.KStateDown
import Lean
import PySem.Challenge.RW_toldcost_k30_quotients
set_option Elab.async false
set_option linter.all false
set_option maxRecDepth 100000
set_option maxHeartbeats 4000000
/-! E1: data, objects, how the heap bears them; results; the judgements. -/
namespace EV
open PySem PySem.Spec PyProof.Rows L2

/-- a value: all but lists, dicts and instances is pure -/
inductive D where
  | non | bl (b : Bool) | int (i : Int) | str (x : Str) | tup (xs : List D) | obj (i : Nat)
/-- an object that may change (frz: a list that is only read) -/
inductive MO where
  | lst (xs : List D) | frz (xs : List D) | ins (C : Nat) (fs : List (Str × D)) | dct (kvs : List (D × D))
abbrev MH := List MO
/-- an exception: its class's number, its fields -/
structure Xc where
  cls : Nat
  fs : List (Str × D)
inductive Out (α : Type) where
  | ok (a : α) (η : MH) | exc (x : Xc) (η : MH) | bad
def Out.bind {α β : Type} (r : Out α) (k : α → MH → Out β) : Out β := match r with
  | .ok a η => k a η
  | .exc x η => .exc x η
  | .bad => .bad
@[simp] theorem Out.bind_ok {α β : Type} (a : α) (η : MH) (k : α → MH → Out β) : (Out.ok a η).bind k = k a η := .trans rfl rfl
@[simp] theorem Out.bind_exc {α β : Type} (x : Xc) (η : MH) (k : α → MH → Out β) : (Out.exc x η : Out α).bind k = .exc x η := .trans rfl rfl
@[simp] theorem Out.bind_bad {α β : Type} (k : α → MH → Out β) : (Out.bad : Out α).bind k = .bad := .trans rfl rfl

/-! ### how the heap bears them -/
mutual
def Rep (K : PySem.W.Frag) (H : Hp) (μ : List Addr) : D → V → Prop
  | .non, v => v = .non
  | .bl b, v => v = .bl b
  | .int i, v => v = .int i
  | .str s, v => v = .str s
  | .tup ds, v => ∃ a vs, v = .ref a ∧ SqT K H a vs ∧ RepL K H μ ds vs
  | .obj i, v => ∃ a, v = .ref a ∧ μ[i]? = some a
def RepL (K : PySem.W.Frag) (H : Hp) (μ : List Addr) : List D → List V → Prop
  | [], vs => vs = []
  | d :: ds, vs => ∃ v vr, vs = v :: vr ∧ Rep K H μ d v ∧ RepL K H μ ds vr
end
def RepF (K : PySem.W.Frag) (H : Hp) (μ : List Addr) : List (Str × D) → List (Str × V) → Prop
  | [], vs => vs = []
  | d :: ds, vs => ∃ v vr, vs = (d.1, v) :: vr ∧ Rep K H μ d.2 v ∧ RepF K H μ ds vr
/-- the classes' addresses by number; the tables of code objects -/
structure Clss where
  cls : List Addr
  tabs : List Addr
def RepO (K : PySem.W.Frag) (cl : Clss) (H : Hp) (μ : List Addr) (a : Addr) : MO → Prop
  | .lst xs => ∃ vs, H a = some (.lst vs) ∧ RepL K H μ xs vs
  | .frz xs => ∃ vs, SqL K H a vs ∧ RepL K H μ xs vs ∧ ((∃ ob, H a = some (.frz ob (.lst vs))) ∨ ∀ H', SqL K H' a vs)
  | .ins C fs => ∃ c dx vs, cl.cls[C]? = some c ∧ H a = some (.ins c dx vs) ∧ RepF K H μ fs vs
  | .dct kvs => False
def MO.isFrz : MO → Bool
  | .frz _ => true
  | _ => false
structure HRep (K : PySem.W.Frag) (cl : Clss) (H : Hp) (μ : List Addr) (η : MH) : Prop where
  len : μ.length = η.length
  obj : ∀ (i : Nat) (a : Addr) (o : MO), μ[i]? = some a → η[i]? = some o → RepO K cl H μ a o
  inj : ∀ (i j : Nat) (a : Addr) (o o' : MO), μ[i]? = some a → μ[j]? = some a → η[i]? = some o → η[j]? = some o' → o.isFrz = false → o'.isFrz = false → i = j
  tab : ∀ P ∈ cl.tabs, GxR.TabG H P
def Keep (K : PySem.W.Frag) (H H' : Hp) : Prop := ∀ a xs, SqT K H a xs → SqT K H' a xs
theorem Keep.refl {K : PySem.W.Frag} (H : Hp) : Keep K H H := fun _ _ h => h
theorem Keep.trans {K : PySem.W.Frag} {H H1 H2 : Hp} (a : Keep K H H1) (b : Keep K H1 H2) : Keep K H H2 := fun x y h => b x y (a x y h)
theorem pre_get {μ μ' : List Addr} (h : μ <+: μ') {i : Nat} {a : Addr} (e : μ[i]? = some a) : μ'[i]? = some a := by
  obtain ⟨r, rfl⟩ := h
  obtain ⟨hi, e'⟩ := List.getElem?_eq_some_iff.mp e
  rw [List.getElem?_append_left hi]
  exact e
section
variable {K : PySem.W.Frag} {H H' : Hp} {μ μ' : List Addr}
mutual
theorem Rep.mono (k : Keep K H H') (p : μ <+: μ') : ∀ {d : D} {v : V}, Rep K H μ d v → Rep K H' μ' d v
  | .non, _, h => h
  | .bl _, _, h => h
  | .int _, _, h => h
  | .str _, _, h => h
  | .tup ds, v, h => by
    unfold Rep at h ⊢
    obtain ⟨a, vs, e, s, r⟩ := h
    exact ⟨a, vs, e, k _ _ s, RepL.mono k p r⟩
  | .obj i, v, h => by
    unfold Rep at h ⊢
    obtain ⟨a, e, g⟩ := h
    exact ⟨a, e, pre_get p g⟩
theorem RepL.mono (k : Keep K H H') (p : μ <+: μ') : ∀ {ds : List D} {vs : List V}, RepL K H μ ds vs → RepL K H' μ' ds vs
  | [], _, h => h
  | d :: ds, vs, h => by
    unfold RepL at h ⊢
    obtain ⟨v, vr, e, r, rr⟩ := h
    exact ⟨v, vr, e, Rep.mono k p r, RepL.mono k p rr⟩
end
theorem RepF.mono (k : Keep K H H') (p : μ <+: μ') : ∀ {ds : List (Str × D)} {vs : List (Str × V)}, RepF K H μ ds vs → RepF K H' μ' ds vs
  | [], _, h => h
  | d :: ds, vs, h => by
    unfold RepF at h ⊢
    obtain ⟨v, vr, e, r, rr⟩ := h
    exact ⟨v, vr, e, Rep.mono k p r, RepF.mono k p rr⟩
theorem RepL.length : ∀ {ds : List D} {vs : List V}, RepL K H μ ds vs → vs.length = ds.length
  | [], _, h => by unfold RepL at h; subst h; rfl
  | d :: ds, vs, h => by
    unfold RepL at h
    obtain ⟨v, vr, rfl, r, rr⟩ := h
    simp [RepL.length rr]
theorem RepL.get : ∀ {ds : List D} {vs : List V} {i : Nat} {d : D}, RepL K H μ ds vs → ds[i]? = some d → ∃ v, vs[i]? = some v ∧ Rep K H μ d v
  | [], _, _, _, _, e => by simp at e
  | x :: ds, vs, 0, d, h, e => by
    unfold RepL at h
    obtain ⟨v, vr, rfl, r, rr⟩ := h
    simp at e
    subst e
    exact ⟨v, rfl, r⟩
  | x :: ds, vs, i + 1, d, h, e => by
    unfold RepL at h
    obtain ⟨v, vr, rfl, r, rr⟩ := h
    obtain ⟨w, e1, r1⟩ := RepL.get (i := i) rr (by simpa using e)
    exact ⟨w, by simpa using e1, r1⟩
theorem RepL.get' : ∀ {ds : List D} {vs : List V} {i : Nat} {v : V}, RepL K H μ ds vs → vs[i]? = some v → ∃ d, ds[i]? = some d ∧ Rep K H μ d v := fun {ds vs i v} h e => by
  have hl := h.length
  obtain ⟨hi, e'⟩ := List.getElem?_eq_some_iff.mp e
  have hi2 : i < ds.length := by omega
  obtain ⟨w, e1, r1⟩ := h.get (List.getElem?_eq_getElem hi2)
  rw [e] at e1
  cases e1
  exact ⟨_, List.getElem?_eq_getElem hi2, r1⟩
theorem RepL.nil : RepL K H μ [] [] := by unfold RepL; rfl
theorem RepL.cons {d : D} {v : V} {ds : List D} {vs : List V} (r : Rep K H μ d v) (rr : RepL K H μ ds vs) : RepL K H μ (d :: ds) (v :: vs) := by
  unfold RepL
  exact ⟨v, vs, rfl, r, rr⟩
theorem RepL.append : ∀ {ds es : List D} {vs us : List V}, RepL K H μ ds vs → RepL K H μ es us → RepL K H μ (ds ++ es) (vs ++ us)
  | [], _, _, _, h, g => by unfold RepL at h; subst h; exact g
  | d :: ds, es, vs, us, h, g => by
    unfold RepL at h
    obtain ⟨v, vr, rfl, r, rr⟩ := h
    exact RepL.cons r (RepL.append rr g)
theorem RepL.drop : ∀ {ds : List D} {vs : List V} (n : Nat), RepL K H μ ds vs → RepL K H μ (ds.drop n) (vs.drop n)
  | _, _, 0, h => h
  | [], _, n + 1, h => by unfold RepL at h; subst h; exact RepL.nil
  | d :: ds, vs, n + 1, h => by
    unfold RepL at h
    obtain ⟨v, vr, rfl, r, rr⟩ := h
    exact RepL.drop n rr
theorem RepL.take : ∀ {ds : List D} {vs : List V} (n : Nat), RepL K H μ ds vs → RepL K H μ (ds.take n) (vs.take n)
  | _, _, 0, h => RepL.nil
  | [], _, n + 1, h => by unfold RepL at h; subst h; exact RepL.nil
  | d :: ds, vs, n + 1, h => by
    unfold RepL at h
    obtain ⟨v, vr, rfl, r, rr⟩ := h
    exact RepL.cons r (RepL.take n rr)
theorem RepL.set : ∀ {ds : List D} {vs : List V} {d : D} {v : V} (n : Nat), RepL K H μ ds vs → Rep K H μ d v → RepL K H μ (ds.set n d) (vs.set n v)
  | [], _, _, _, _, h, _ => by unfold RepL at h; subst h; exact RepL.nil
  | d :: ds, vs, _, _, 0, h, r1 => by
    unfold RepL at h
    obtain ⟨v, vr, rfl, r, rr⟩ := h
    exact RepL.cons r1 rr
  | d :: ds, vs, _, _, n + 1, h, r1 => by
    unfold RepL at h
    obtain ⟨v, vr, rfl, r, rr⟩ := h
    exact RepL.cons r (RepL.set n rr r1)
theorem RepL.reverse {ds : List D} {vs : List V} (h : RepL K H μ ds vs) : RepL K H μ ds.reverse vs.reverse := by
  induction ds generalizing vs with
  | nil => unfold RepL at h; subst h; exact RepL.nil
  | cons d ds ih =>
    unfold RepL at h
    obtain ⟨v, vr, rfl, r, rr⟩ := h
    rw [List.reverse_cons, List.reverse_cons]
    exact (ih rr).append (RepL.cons r RepL.nil)
theorem RepL.dropLast {ds : List D} {vs : List V} (h : RepL K H μ ds vs) : RepL K H μ ds.dropLast vs.dropLast := by
  rw [List.dropLast_eq_take, List.dropLast_eq_take, h.length]
  exact h.take _

/-! ### what changes -/
/-- what may be written over -/
def Vol (o : Option HO) : Prop := (∀ xs, o ≠ some (.tup xs)) ∧ (∀ ob u, o ≠ some (.frz ob u)) ∧ ∀ ps, o ≠ some (.tbl ps)
theorem vol_none : Vol none := ⟨fun _ h => (by cases h), fun _ _ h => (by cases h), fun _ h => (by cases h)⟩
theorem vol_lst {xs : List V} : Vol (some (.lst xs)) := ⟨fun _ h => (by cases h), fun _ _ h => (by cases h), fun _ h => (by cases h)⟩
theorem vol_ins {c dx : Addr} {xs : List (Str × V)} : Vol (some (.ins c dx xs)) := ⟨fun _ h => (by cases h), fun _ _ h => (by cases h), fun _ h => (by cases h)⟩
theorem keep_upd {p : Addr} {o : HO} (v : Vol (H p)) : Keep K H (upd H p o) := fun a xs h => by
  rcases h with h | h
  · left
    have ne : a ≠ p := by
      rintro rfl
      rcases h with h | ⟨ob, h⟩
      · exact v.1 xs h
      · exact v.2.1 ob _ h
    rcases h with h | ⟨ob, h⟩
    · exact .inl (by rw [upd_ne ne]; exact h)
    · exact .inr ⟨ob, by rw [upd_ne ne]; exact h⟩
  · exact .inr h
/-- an object elsewhere stays -/
theorem RepO.upd {cl : Clss} {p a : Addr} {o : HO} {m : MO} (v : Vol (H p)) (ne : a ≠ p ∨ H p = none ∨ m.isFrz = true) (pr : μ <+: μ') (h : RepO K cl H μ a m) : RepO K cl (L2.upd H p o) μ' a m := by
  have kp : Keep K H (L2.upd H p o) := keep_upd v
  have up : ∀ u, H a = some u → m.isFrz = false → (L2.upd H p o) a = some u := fun u e f => by
    have ne' : a ≠ p := by
      rcases ne with n | n | n
      · exact n
      · rintro rfl; rw [n] at e; cases e
      · rw [f] at n; cases n
    rw [upd_ne ne']; exact e
  cases m with
  | lst xs => obtain ⟨vs, e, r⟩ := h; exact ⟨vs, up _ e rfl, r.mono kp pr⟩
  | frz xs =>
    obtain ⟨vs, e, r, z⟩ := h
    refine ⟨vs, ?_, r.mono kp pr, ?_⟩
    · rcases z with ⟨ob, z⟩ | z
      · have ne' : a ≠ p := by rintro rfl; exact v.2.1 _ _ z
        exact .inl (.inr ⟨ob, by rw [upd_ne ne']; exact z⟩)
      · exact z _
    · rcases z with ⟨ob, z⟩ | z
      · have ne' : a ≠ p := by rintro rfl; exact v.2.1 _ _ z
        exact .inl ⟨ob, by rw [upd_ne ne']; exact z⟩
      · exact .inr z
  | ins C fs => obtain ⟨c, dx, vs, e1, e, r⟩ := h; exact ⟨c, dx, vs, e1, up _ e rfl, r.mono kp pr⟩
  | dct kvs => exact h.elim
theorem RepO.some_of {cl : Clss} {a : Addr} {m : MO} (f : m.isFrz = false) (h : RepO K cl H μ a m) : ∃ u, H a = some u := by
  cases m with
  | lst xs => obtain ⟨vs, e, r⟩ := h; exact ⟨_, e⟩
  | frz xs => cases f
  | ins C fs => obtain ⟨c, dx, vs, e1, e, r⟩ := h; exact ⟨_, e⟩
  | dct kvs => exact h.elim
theorem RepO.mono {cl : Clss} {a : Addr} {m : MO} (pr : μ <+: μ') (h : RepO K cl H μ a m) : RepO K cl H μ' a m := by
  cases m with
  | lst xs => obtain ⟨vs, e, r⟩ := h; exact ⟨vs, e, r.mono (Keep.refl _) pr⟩
  | frz xs => obtain ⟨vs, e, r, z⟩ := h; exact ⟨vs, e, r.mono (Keep.refl _) pr, z⟩
  | ins C fs => obtain ⟨c, dx, vs, e1, e, r⟩ := h; exact ⟨c, dx, vs, e1, e, r.mono (Keep.refl _) pr⟩
  | dct kvs => exact h.elim
/-- a new tuple, or anything untracked by η: nothing of η changes -/
theorem HRep.upd_new {cl : Clss} {η : MH} (h : HRep K cl H μ η) {p : Addr} {o : HO} (hp : H p = none) : HRep K cl (L2.upd H p o) μ η :=
  ⟨h.len, fun i a m e1 e2 => (h.obj i a m e1 e2).upd (by rw [hp]; exact vol_none) (.inr (.inl hp)) (List.prefix_refl _), h.inj, fun P hP => by
    obtain ⟨ps, e, t⟩ := h.tab P hP
    exact ⟨ps, by rw [upd_ne (ne_of_none e hp)]; exact e, t⟩⟩
/-- a new object of η -/
theorem HRep.push {cl : Clss} {η : MH} (h : HRep K cl H μ η) {p : Addr} {o : HO} {m : MO} (hp : H p = none) (hm : RepO K cl (L2.upd H p o) (μ ++ [p]) p m) : HRep K cl (L2.upd H p o) (μ ++ [p]) (η ++ [m]) := by
  have pr : μ <+: μ ++ [p] := List.prefix_append _ _
  have old : ∀ {i : Nat} {a : Addr} {o : MO}, (μ ++ [p])[i]? = some a → (η ++ [m])[i]? = some o → (μ[i]? = some a ∧ η[i]? = some o) ∨ (i = μ.length ∧ a = p ∧ o = m) := fun {i a o} e1 e2 => by
    rw [List.getElem?_append] at e1 e2
    rw [← h.len] at e2
    by_cases hi : i < μ.length
    · rw [if_pos hi] at e1 e2
      exact .inl ⟨e1, e2⟩
    · rw [if_neg hi] at e1 e2
      have h1 := (List.getElem?_eq_some_iff.mp e1).1
      simp only [List.length_singleton] at h1
      have h2 : i = μ.length := by omega
      subst h2
      simp at e1 e2
      exact .inr ⟨rfl, e1.symm, e2.symm⟩
  refine ⟨by simp [h.len], fun i a o' e1 e2 => ?_, fun i j a o1 o2 e1 e2 e3 e4 f1 f2 => ?_, fun P hP => by
    obtain ⟨ps, e, t⟩ := h.tab P hP
    exact ⟨ps, by rw [upd_ne (ne_of_none e hp)]; exact e, t⟩⟩
  · rcases old e1 e2 with ⟨q1, q2⟩ | ⟨_, rfl, rfl⟩
    · exact (h.obj i a o' q1 q2).upd (by rw [hp]; exact vol_none) (.inr (.inl hp)) pr
    · exact hm
  · rcases old e1 e3 with ⟨q1, q2⟩ | ⟨z1, z2, z3⟩
    · rcases old e2 e4 with ⟨q3, q4⟩ | ⟨z4, z5, z6⟩
      · exact h.inj i j a o1 o2 q1 q3 q2 q4 f1 f2
      · obtain ⟨u, e⟩ := (h.obj i _ o1 q1 q2).some_of f1
        rw [z5, hp] at e; cases e
    · rcases old e2 e4 with ⟨q3, q4⟩ | ⟨z4, z5, z6⟩
      · obtain ⟨u, e⟩ := (h.obj j _ o2 q3 q4).some_of f2
        rw [z2, hp] at e; cases e
      · exact z1.trans z4.symm
/-- an object of η written over -/
theorem HRep.set {cl : Clss} {η : MH} (h : HRep K cl H μ η) {i : Nat} {p : Addr} {o : HO} {m m' : MO} (ei : μ[i]? = some p) (em : η[i]? = some m) (f : m.isFrz = false) (f' : m'.isFrz = false) (v : Vol (H p))
    (hm : RepO K cl (L2.upd H p o) μ p m') : HRep K cl (L2.upd H p o) μ (η.set i m') := by
  have hi : i < η.length := (List.getElem?_eq_some_iff.mp em).1
  have at_ : ∀ {j : Nat} {o' : MO}, (η.set i m')[j]? = some o' → (j = i ∧ o' = m') ∨ (j ≠ i ∧ η[j]? = some o') := fun {j o'} e => by
    by_cases hj : j = i
    · subst hj
      rw [List.getElem?_set_self hi] at e
      exact .inl ⟨rfl, (Option.some.inj e).symm⟩
    · rw [List.getElem?_set_ne (Ne.symm hj)] at e
      exact .inr ⟨hj, e⟩
  refine ⟨by simp [h.len], fun j a o' e1 e2 => ?_, fun j k a o1 o2 e1 e2 e3 e4 f1 f2 => ?_, fun P hP => by
    obtain ⟨ps, e, t⟩ := h.tab P hP
    exact ⟨ps, by rw [upd_ne (show P ≠ p from fun z => by rw [z] at e; exact v.2.2 ps e)]; exact e, t⟩⟩
  · rcases at_ e2 with ⟨rfl, rfl⟩ | ⟨hj, e2⟩
    · rw [ei] at e1; cases e1; exact hm
    · refine (h.obj j a o' e1 e2).upd v ?_ (List.prefix_refl _)
      cases fo : o'.isFrz with
      | true => exact .inr (.inr rfl)
      | false =>
        left
        rintro rfl
        exact hj (h.inj j i a o' m e1 ei e2 em fo f)
  · rcases at_ e3 with ⟨rfl, rfl⟩ | ⟨hj, e3'⟩
    · rcases at_ e4 with ⟨rfl, rfl⟩ | ⟨hk, e4⟩
      · rfl
      · exact h.inj j k a m o2 e1 e2 em e4 f f2
    · rcases at_ e4 with ⟨rfl, rfl⟩ | ⟨hk, e4'⟩
      · exact h.inj j k a o1 m e1 e2 e3' em f1 f
      · exact h.inj j k a o1 o2 e1 e2 e3' e4' f1 f2
/-- a table has grown -/
theorem tabbed_ne {P : Addr} {H2 : Hp} (hP : GxR.TabG H P) (t : GxR.Tabbed P H H2) {a : Addr} {u : HO} (e : H a = some u) (nu : ∀ ps, u ≠ .tbl ps) : H2 a = some u := by
  obtain ⟨ps, eP, _⟩ := hP
  rw [t.2 a (fun z => by rw [z, eP] at e; exact nu ps (Option.some.inj e).symm)]
  exact e
theorem HRep.tabbed {cl : Clss} {η : MH} (h : HRep K cl H μ η) {P : Addr} {H2 : Hp} (hP : P ∈ cl.tabs) (t : GxR.Tabbed P H H2) : HRep K cl H2 μ η ∧ Keep K H H2 := by
  have tP := h.tab P hP
  have kp : Keep K H H2 := fun a xs e => by
    rcases e with e | e
    · rcases e with e | ⟨ob, e⟩
      · exact .inl (.inl (tabbed_ne tP t e (fun _ z => by cases z)))
      · exact .inl (.inr ⟨ob, tabbed_ne tP t e (fun _ z => by cases z)⟩)
    · exact .inr e
  refine ⟨⟨h.len, fun i a m e1 e2 => ?_, h.inj, fun Q hQ => ?_⟩, kp⟩
  · have ho := h.obj i a m e1 e2
    cases m with
    | lst xs => obtain ⟨vs, e, r⟩ := ho; exact ⟨vs, tabbed_ne tP t e (fun _ z => by cases z), r.mono kp (List.prefix_refl _)⟩
    | frz xs =>
      obtain ⟨vs, e, r, z⟩ := ho
      refine ⟨vs, ?_, r.mono kp (List.prefix_refl _), ?_⟩
      · rcases z with ⟨ob, z⟩ | z
        · exact .inl (.inr ⟨ob, tabbed_ne tP t z (fun _ z => by cases z)⟩)
        · exact z _
      · rcases z with ⟨ob, z⟩ | z
        · exact .inl ⟨ob, tabbed_ne tP t z (fun _ z => by cases z)⟩
        · exact .inr z
    | ins C fs => obtain ⟨c, dx, vs, e1, e, r⟩ := ho; exact ⟨c, dx, vs, e1, tabbed_ne tP t e (fun _ z => by cases z), r.mono kp (List.prefix_refl _)⟩
    | dct kvs => exact ho.elim
  · by_cases hq : Q = P
    · rw [hq]; exact t.1
    · obtain ⟨ps, e, tr⟩ := h.tab Q hQ
      exact ⟨ps, by rw [t.2 Q hq]; exact e, tr⟩
end
end EV
/-! E2: judgements; how results go on. -/
namespace EV
open PySem PySem.Spec PyProof.Rows L2

/-- the classes by number: of instances, of exceptions -/
structure Sg where
  cl : Clss
  xcl : List Addr
def XRep (K : PySem.W.Frag) (S : Sg) (H : Hp) (μ : List Addr) (x : Xc) (cls : Value) (d : Option Addr) : Prop :=
  ∃ c dx vs, S.xcl[x.cls]? = some c ∧ cls = .ref c ∧ d = some dx ∧ H dx = some (.xd vs) ∧ RepF K H μ x.fs vs
abbrev RR (α β : Type) := Hp → List Addr → α → β → Prop
/-- what is wanted of a result -/
def Post {α β : Type} (K : PySem.W.Frag) (S : Sg) (E : XK) (R : RR α β) (r : Out α) (μ : List Addr) (H : Hp) (Q : β → Hp → Prop) : Prop :=
  match r with
  | .ok a η => ∀ b H' μ', Keep K H H' → μ <+: μ' → HRep K S.cl H' μ' η → R H' μ' a b → Q b H'
  | .exc x η => ∀ cls d H' μ', Keep K H H' → μ <+: μ' → HRep K S.cl H' μ' η → XRep K S H' μ' x cls d → E cls d H'
  | .bad => False
section
variable {α β γ δ' : Type} {K : PySem.W.Frag} {S : Sg} {E : XK} {R : RR α β} {R' : RR γ δ'} {H H1 : Hp} {μ μ1 : List Addr}
theorem Post.mono {r : Out α} {Q : β → Hp → Prop} (h : Post K S E R r μ H Q) (k : Keep K H H1) (p : μ <+: μ1) : Post K S E R r μ1 H1 Q := by
  cases r with
  | ok a η => exact fun b H' μ' k' p' => h b H' μ' (k.trans k') (p.trans p')
  | exc x η => exact fun c d H' μ' k' p' => h c d H' μ' (k.trans k') (p.trans p')
  | bad => exact h
theorem Post.imp {r : Out α} {Q Q' : β → Hp → Prop} (h : Post K S E R r μ H Q) (g : ∀ b H', Q b H' → Q' b H') : Post K S E R r μ H Q' := by
  cases r with
  | ok a η => exact fun b H' μ' k' p' hr r => g _ _ (h b H' μ' k' p' hr r)
  | exc x η => exact h
  | bad => exact h
/-- what stands behind the first part -/
def Mid (K : PySem.W.Frag) (S : Sg) (E : XK) (R : RR α β) (R' : RR γ δ') (k : α → MH → Out γ) (μ : List Addr) (H : Hp) (Q : δ' → Hp → Prop) : β → Hp → Prop := fun b H1 =>
  ∃ μ1 a η1, Keep K H H1 ∧ μ <+: μ1 ∧ HRep K S.cl H1 μ1 η1 ∧ R H1 μ1 a b ∧ Post K S E R' (k a η1) μ1 H1 Q
theorem Post.bind {r : Out α} {k : α → MH → Out γ} {Q : δ' → Hp → Prop} (h : Post K S E R' (r.bind k) μ H Q) : Post K S E R r μ H (Mid K S E R R' k μ H Q) := by
  cases r with
  | ok a η => exact fun b H' μ' k' p' hr r => ⟨μ', a, η, k', p', hr, r, Post.mono h k' p'⟩
  | exc x η => exact h
  | bad => exact h
theorem Post.ok {a : α} {b : β} {η : MH} {Q : β → Hp → Prop} (h : Post K S E R (.ok a η) μ H Q) (hr : HRep K S.cl H μ η) (r : R H μ a b) : Q b H :=
  h b H μ (Keep.refl _) (List.prefix_refl _) hr r
end

/-! ### environments -/
abbrev En := List (Option D)
def ERep (K : PySem.W.Frag) (H : Hp) (μ : List Addr) (δ : En) (σ : L2.St) : Prop := δ.length = σ.length ∧ ∀ (i : Nat) (d : D), δ[i]? = some (some d) → ∃ v, σ[i]? = some (some v) ∧ Rep K H μ d v
theorem ERep.mono {K : PySem.W.Frag} {H H' : Hp} {μ μ' : List Addr} {δ : En} {σ : L2.St} (h : ERep K H μ δ σ) (k : Keep K H H') (p : μ <+: μ') : ERep K H' μ' δ σ :=
  ⟨h.1, fun i d e => let ⟨v, e1, r⟩ := h.2 i d e; ⟨v, e1, r.mono k p⟩⟩
theorem ERep.set {K : PySem.W.Frag} {H : Hp} {μ : List Addr} {δ : En} {σ : L2.St} {i : Nat} {d : D} {v : V} (h : ERep K H μ δ σ) (r : Rep K H μ d v) : ERep K H μ (δ.set i (some d)) (σ.set i (some v)) := by
  refine ⟨by simp [h.1], fun j d' e => ?_⟩
  by_cases hj : i = j
  · subst hj
    have hi : i < δ.length := by
      have := (List.getElem?_eq_some_iff.mp e).1
      simpa using this
    rw [List.getElem?_set_self hi] at e
    cases e
    exact ⟨v, by rw [List.getElem?_set_self (by rw [← h.1]; exact hi)], r⟩
  · rw [List.getElem?_set_ne hj] at e ⊢
    exact h.2 j d' e
abbrev EM := En → MH → Out D
abbrev TM := En → MH → Out Bool
abbrev AM := En → MH → Out (List D)
abbrev RB : RR Bool Bool := fun _ _ a b => a = b
section
variable (K : PySem.W.Frag) (S : Sg) (E : XK)
def tE (f : EM) : TE := fun σ H Q => ∃ μ δ η, HRep K S.cl H μ η ∧ ERep K H μ δ σ ∧ Post K S E (Rep K) (f δ η) μ H Q
def tTs (f : TM) : TT := fun σ H Q => ∃ μ δ η, HRep K S.cl H μ η ∧ ERep K H μ δ σ ∧ Post K S E RB (f δ η) μ H Q
def tAs (f : AM) : TA := fun σ H Q => ∃ μ δ η, HRep K S.cl H μ η ∧ ERep K H μ δ σ ∧ Post K S E (RepL K) (f δ η) μ H Q
end
/-- the context, the signature, the wish about exceptions -/
structure Cn where
  X : Cx
  S : Sg
  E : XK
variable {C : Cn}
structure EV (C : Cn) (e : Expr) (f : EM) : Prop where
  pe : PE C.X e (tE C.X.K C.S C.E f)
structure TV (C : Cn) (e : Expr) (f : TM) : Prop where
  pt : PT C.X e (tTs C.X.K C.S C.E f)
structure WV (C : Cn) (e : Expr) (f : TM) : Prop where
  pw : PW C.X e (tTs C.X.K C.S C.E f)
structure AV (C : Cn) (es : List Expr) (f : AM) : Prop where
  pa : PA C.X es (tAs C.X.K C.S C.E f)
theorem pe_weak {X : Cx} {e : Expr} {t t' : TE} (h : PE X e t) (g : ∀ σ H Q, t' σ H Q → t σ H Q) : PE X e t' := ⟨fun pins s σ H Q I q => h.run pins s σ H Q I (g σ H Q q)⟩
theorem pt_weak {X : Cx} {e : Expr} {t t' : TT} (h : PT X e t) (g : ∀ σ H Q, t' σ H Q → t σ H Q) : PT X e t' := ⟨fun pins s σ H Q I q => h.run pins s σ H Q I (g σ H Q q)⟩
theorem pw_weak {X : Cx} {e : Expr} {t t' : TT} (h : PW X e t) (g : ∀ σ H Q, t' σ H Q → t σ H Q) : PW X e t' := ⟨fun wh pins s σ H Q I q => h.run wh pins s σ H Q I (g σ H Q q)⟩
theorem pa_weak {X : Cx} {e : List Expr} {t t' : TA} (h : PA X e t) (g : ∀ σ H Q, t' σ H Q → t σ H Q) : PA X e t' := ⟨fun pos pins s σ H Q I q => h.run pos pins s σ H Q I (g σ H Q q)⟩

/-! ### names and constants -/
def eVar (i : Nat) : EM := fun δ η => match δ[i]? with
  | some (some d) => .ok d η
  | _ => .bad
def eC (d : D) : EM := fun _ η => .ok d η
theorem ev_var {i : Nat} {x : Str} {pos : Pos} (h : PE C.X (.Name x pos) (tVar i)) : EV C (.Name x pos) (eVar i) := ⟨by
  refine pe_weak h fun σ H Q ⟨μ, δ, η, hr, er, q⟩ => ?_
  unfold eVar at q
  split at q
  · rename_i d e
    obtain ⟨v, ev, r⟩ := er.2 i d e
    exact ⟨v, ev, q.ok hr r⟩
  · exact q.elim⟩
theorem ev_c {e : Expr} {d : D} {v : V} (h : PE C.X e (tC v)) (r : ∀ H μ, Rep C.X.K H μ d v) : EV C e (eC d) := ⟨by
  refine pe_weak h fun σ H Q ⟨μ, δ, η, hr, er, q⟩ => ?_
  exact q.ok hr (r H μ)⟩
/-! ### one part, two parts, three -/
def e1 (g : D → MH → Out D) (a : EM) : EM := fun δ η => (a δ η).bind g
def e2 (g : D → D → MH → Out D) (a b : EM) : EM := fun δ η => (a δ η).bind fun x η => (b δ η).bind fun y η => g x y η
def Un1 (C : Cn) (r : V → Hp → VK → Prop) (g : D → MH → Out D) : Prop := ∀ x d H μ η Q, HRep C.X.K C.S.cl H μ η → Rep C.X.K H μ d x → Post C.X.K C.S C.E (Rep C.X.K) (g d η) μ H Q → r x H Q
def Op2 (C : Cn) (r : R2) (g : D → D → MH → Out D) : Prop := ∀ x y d e H μ η Q, HRep C.X.K C.S.cl H μ η → Rep C.X.K H μ d x → Rep C.X.K H μ e y → Post C.X.K C.S C.E (Rep C.X.K) (g d e η) μ H Q → r x y H Q
def Op2T (C : Cn) (r : V → V → Hp → (Bool → Hp → Prop) → Prop) (g : D → D → MH → Out Bool) : Prop := ∀ x y d e H μ η Q, HRep C.X.K C.S.cl H μ η → Rep C.X.K H μ d x → Rep C.X.K H μ e y → Post C.X.K C.S C.E RB (g d e η) μ H Q → r x y H Q
theorem ev_1 {r : V → Hp → VK → Prop} {g : D → MH → Out D} {e : Expr} {fa : EM} (h : PE C.X e (tUn r (tE C.X.K C.S C.E fa))) (hr : Un1 C r g) : EV C e (e1 g fa) := ⟨by
  refine pe_weak h fun σ H Q ⟨μ, δ, η, hp, er, q⟩ => ?_
  refine ⟨μ, δ, η, hp, er, (Post.bind (R := Rep C.X.K) q).imp fun x H1 ⟨μ1, d, η1, k, p, h1, r1, q1⟩ => ?_⟩
  exact hr x d H1 μ1 η1 Q h1 r1 q1⟩
theorem two {fa fb : EM} {γ δ' : Type} {R' : RR γ δ'} {g : D → D → MH → Out γ} {σ : L2.St} {H : Hp} {Q : δ' → Hp → Prop} {r : V → V → Hp → (δ' → Hp → Prop) → Prop}
    (hr : ∀ x y d e H μ η Q, HRep C.X.K C.S.cl H μ η → Rep C.X.K H μ d x → Rep C.X.K H μ e y → Post C.X.K C.S C.E R' (g d e η) μ H Q → r x y H Q)
    (h : ∃ μ δ η, HRep C.X.K C.S.cl H μ η ∧ ERep C.X.K H μ δ σ ∧ Post C.X.K C.S C.E R' ((fa δ η).bind fun x η => (fb δ η).bind fun y η => g x y η) μ H Q) :
    tE C.X.K C.S C.E fa σ H fun x H1 => tE C.X.K C.S C.E fb σ H1 fun y H2 => r x y H2 Q := by
  obtain ⟨μ, δ, η, hp, er, q⟩ := h
  refine ⟨μ, δ, η, hp, er, (Post.bind (R := Rep C.X.K) q).imp fun x H1 ⟨μ1, d, η1, k1, p1, h1, r1, q1⟩ => ?_⟩
  refine ⟨μ1, δ, η1, h1, er.mono k1 p1, (Post.bind (R := Rep C.X.K) q1).imp fun y H2 ⟨μ2, e, η2, k2, p2, h2, r2, q2⟩ => ?_⟩
  exact hr x y d e H2 μ2 η2 Q h2 (r1.mono k2 p2) r2 q2
theorem ev_2 {r : R2} {g : D → D → MH → Out D} {e : Expr} {fa fb : EM} (h : PE C.X e (tOp r (tE C.X.K C.S C.E fa) (tE C.X.K C.S C.E fb))) (hr : Op2 C r g) : EV C e (e2 g fa fb) := ⟨by
  refine pe_weak h fun σ H Q q => ?_
  exact two (R' := Rep C.X.K) hr q⟩
def t2 (g : D → D → MH → Out Bool) (a b : EM) : TM := fun δ η => (a δ η).bind fun x η => (b δ η).bind fun y η => g x y η
/-- a comparison: its answer as a value -/
def asV (r : Out Bool) : Out D := r.bind fun b η => .ok (.bl b) η
def eB (f : TM) : EM := fun δ η => (f δ η).bind fun b η => .ok (.bl b) η
theorem Post.asB {K : PySem.W.Frag} {S : Sg} {E : XK} {r : Out Bool} {μ : List Addr} {H : Hp} {Q : Bool → Hp → Prop} (h : Post K S E RB r μ H Q) : Post K S E (Rep K) (r.bind fun b η => .ok (.bl b) η) μ H fun x H' => ∃ k, x = .bl k ∧ Q k H' := by
  cases r with
  | ok a η => exact fun b H' μ' k' p' hr r => by unfold Rep at r; exact ⟨a, r, h a H' μ' k' p' hr rfl⟩
  | exc x η => exact h
  | bad => exact h
/-- a comparison operator by its truth -/
def Cmp2 (C : Cn) (r : R2) (g : D → D → MH → Out Bool) : Prop := ∀ x y d e H μ η Q, HRep C.X.K C.S.cl H μ η → Rep C.X.K H μ d x → Rep C.X.K H μ e y → Post C.X.K C.S C.E (Rep C.X.K) ((g d e η).bind fun b η => .ok (.bl b) η) μ H Q → r x y H Q
theorem Out.bind_assoc {α β γ : Type} (r : Out α) (f : α → MH → Out β) (g : β → MH → Out γ) : (r.bind f).bind g = r.bind fun a η => (f a η).bind g := by cases r <;> rfl
theorem ev_cmp {r : R2} {g : D → D → MH → Out Bool} {e : Expr} {fa fb : EM} (h : PE C.X e (tOp r (tE C.X.K C.S C.E fa) (tE C.X.K C.S C.E fb))) (hr : Cmp2 C r g) : EV C e (eB (t2 g fa fb)) := ⟨by
  refine pe_weak h fun σ H Q ⟨μ, δ, η, hp, er, q⟩ => ?_
  unfold eB t2 at q
  simp only [Out.bind_assoc] at q
  exact two (R' := Rep C.X.K) (g := fun d e η => (g d e η).bind fun b η => .ok (.bl b) η) hr ⟨μ, δ, η, hp, er, q⟩⟩
theorem tv_cmp {r : R2} {g : D → D → MH → Out Bool} {e : Expr} {fa fb : EM} (h : PT C.X e (tTest (tOp r (tE C.X.K C.S C.E fa) (tE C.X.K C.S C.E fb)))) (hr : Cmp2 C r g) : TV C e (t2 g fa fb) := ⟨by
  refine pt_weak h fun σ H Q q => ?_
  exact two (R' := RB) (Q := Q) (r := fun x y H2 Q => r x y H2 fun z H3 => ∃ k, z = .bl k ∧ Q k H3) (fun x y d e H μ η Q hp rx ry q => hr x y d e H μ η _ hp rx ry q.asB) q⟩
/-! ### truth, and, or, not, if -/
def e_if (c : TM) (a b : EM) : EM := fun δ η => (c δ η).bind fun k η => if k then a δ η else b δ η
theorem ev_if {c a b : Expr} {fc : TM} {fa fb : EM} {pos : Pos} (hc : TV C c fc) (ha : EV C a fa) (hb : EV C b fb) : EV C (.IfExp c a b pos) (e_if fc fa fb) := ⟨by
  refine pe_weak (pe_ifExp hc.pt ha.pe hb.pe) fun σ H Q ⟨μ, δ, η, hp, er, q⟩ => ?_
  refine ⟨μ, δ, η, hp, er, (Post.bind (R := RB) q).imp fun k H1 ⟨μ1, d, η1, k1, p1, h1, r1, q1⟩ => ?_⟩
  subst r1
  cases d with
  | true => exact ⟨μ1, δ, η1, h1, er.mono k1 p1, q1⟩
  | false => exact ⟨μ1, δ, η1, h1, er.mono k1 p1, q1⟩⟩
def tNotB (a : TM) : TM := fun δ η => (a δ η).bind fun b η => .ok (!b) η
def tAndB (a b : TM) : TM := fun δ η => (a δ η).bind fun k η => if k then b δ η else .ok false η
def tOrB (a b : TM) : TM := fun δ η => (a δ η).bind fun k η => if k then .ok true η else b δ η
theorem tv_not {a : Expr} {fa : TM} {pos : Pos} (ha : TV C a fa) : TV C (.UnaryOp .Not a pos) (tNotB fa) := ⟨by
  refine pt_weak (pt_not ha.pt) fun σ H Q ⟨μ, δ, η, hp, er, q⟩ => ?_
  refine ⟨μ, δ, η, hp, er, (Post.bind (R := RB) q).imp fun k H1 ⟨μ1, d, η1, k1, p1, h1, r1, q1⟩ => ?_⟩
  subst r1
  exact q1.ok h1 rfl⟩
theorem WV.tv {e : Expr} {f : TM} (h : WV C e f) : TV C e f := ⟨h.pw.pt⟩
theorem wv_and1 {a : Expr} {fa : TM} {pos : Pos} (ha : TV C a fa) : WV C (.BoolOp .And [a] pos) fa := ⟨pw_and1 ha.pt⟩
theorem wv_or1 {a : Expr} {fa : TM} {pos : Pos} (ha : TV C a fa) : WV C (.BoolOp .Or [a] pos) fa := ⟨pw_or1 ha.pt⟩
theorem wv_and {a b : Expr} {rest : List Expr} {fa fb : TM} {pos : Pos} (ha : TV C a fa) (hb : WV C (.BoolOp .And (b :: rest) pos) fb) : WV C (.BoolOp .And (a :: b :: rest) pos) (tAndB fa fb) := ⟨by
  refine pw_weak (pw_and ha.pt hb.pw) fun σ H Q ⟨μ, δ, η, hp, er, q⟩ => ?_
  refine ⟨μ, δ, η, hp, er, (Post.bind (R := RB) q).imp fun k H1 ⟨μ1, d, η1, k1, p1, h1, r1, q1⟩ => ?_⟩
  subst r1
  cases d with
  | true => exact ⟨μ1, δ, η1, h1, er.mono k1 p1, q1⟩
  | false => exact q1.ok h1 rfl⟩
theorem wv_or {a b : Expr} {rest : List Expr} {fa fb : TM} {pos : Pos} (ha : TV C a fa) (hb : WV C (.BoolOp .Or (b :: rest) pos) fb) : WV C (.BoolOp .Or (a :: b :: rest) pos) (tOrB fa fb) := ⟨by
  refine pw_weak (pw_or ha.pt hb.pw) fun σ H Q ⟨μ, δ, η, hp, er, q⟩ => ?_
  refine ⟨μ, δ, η, hp, er, (Post.bind (R := RB) q).imp fun k H1 ⟨μ1, d, η1, k1, p1, h1, r1, q1⟩ => ?_⟩
  subst r1
  cases d with
  | true => exact q1.ok h1 rfl
  | false => exact ⟨μ1, δ, η1, h1, er.mono k1 p1, q1⟩⟩
/-- truth of a value -/
def gTru (d : D) (η : MH) : Out Bool := match d with
  | .non => .ok false η
  | .bl b => .ok b η
  | .int i => .ok (i != 0) η
  | .str x => if x.length ≤ sizeLine then .ok (x.length != 0) η else .bad
  | .tup xs => .ok (!xs.isEmpty) η
  | .obj i => match η[i]? with
    | some (.lst xs) => .ok (!xs.isEmpty) η
    | some (.frz xs) => .ok (!xs.isEmpty) η
    | some (.dct kvs) => .ok (!kvs.isEmpty) η
    | _ => .bad
def tTru (a : EM) : TM := fun δ η => (a δ η).bind gTru
theorem RepL.isEmpty {K : PySem.W.Frag} {H : Hp} {μ : List Addr} {ds : List D} {vs : List V} (h : RepL K H μ ds vs) : vs.isEmpty = ds.isEmpty := by
  have := h.length
  cases ds <;> cases vs <;> simp_all
theorem HRep.at_ {K : PySem.W.Frag} {cl : Clss} {H : Hp} {μ : List Addr} {η : MH} (h : HRep K cl H μ η) {i : Nat} {a : Addr} {m : MO} (ea : μ[i]? = some a) (em : η[i]? = some m) : RepO K cl H μ a m := h.obj i a m ea em
theorem tru_of {K : PySem.W.Frag} {S : Sg} {E : XK} {x : V} {d : D} {H : Hp} {μ : List Addr} {η : MH} {Q : Bool → Hp → Prop} (hp : HRep K S.cl H μ η) (r : Rep K H μ d x) (q : Post K S E RB (gTru d η) μ H Q) : ∃ k, TruV K x H k ∧ Q k H := by
  cases d with
  | non => unfold Rep at r; subst r; exact ⟨false, rfl, q.ok hp rfl⟩
  | bl b => unfold Rep at r; subst r; exact ⟨b, rfl, q.ok hp rfl⟩
  | int i => unfold Rep at r; subst r; exact ⟨_, rfl, q.ok hp rfl⟩
  | str y =>
    unfold Rep at r; subst r
    unfold gTru at q
    simp only at q
    split at q
    · rename_i h
      refine ⟨_, ⟨h, rfl⟩, ?_⟩
      have e : ((y.length : Int) != 0) = (y.length != 0) := by
        cases hh : y.length with
        | zero => rfl
        | succ n =>
          have : ((n + 1 : Nat) : Int) ≠ 0 := by omega
          rw [bne_iff_ne.mpr this]
          rfl
      rw [e]
      exact q.ok hp rfl
    · exact q.elim
  | tup ds =>
    unfold Rep at r
    obtain ⟨a, vs, rfl, s, rl⟩ := r
    refine ⟨_, .inr (.inl ⟨vs, s, rfl⟩), ?_⟩
    rw [rl.isEmpty]
    exact q.ok hp rfl
  | obj i =>
    unfold Rep at r
    obtain ⟨a, rfl, ea⟩ := r
    unfold gTru at q
    simp only at q
    split at q
    · rename_i xs em
      obtain ⟨vs, e, rl⟩ := hp.at_ ea em
      refine ⟨_, .inl ⟨vs, .inl (.inl e), rfl⟩, ?_⟩
      rw [rl.isEmpty]
      exact q.ok hp rfl
    · rename_i xs em
      obtain ⟨vs, e, rl, _⟩ := hp.at_ ea em
      refine ⟨_, .inl ⟨vs, e, rfl⟩, ?_⟩
      rw [rl.isEmpty]
      exact q.ok hp rfl
    · rename_i xs em
      exact (hp.at_ ea em).elim
    · exact q.elim
theorem tv_tru {e : Expr} {f : EM} (h : EV C e f) (he : ∀ whole, isTrue e C.X.env whole = (do let v ← whole; standAt e.pos; holding [v] (truthy v))) : TV C e (tTru f) := ⟨by
  refine pt_weak (pt_truth h.pe he) fun σ H Q ⟨μ, δ, η, hp, er, q⟩ => ?_
  refine ⟨μ, δ, η, hp, er, (Post.bind (R := Rep C.X.K) q).imp fun x H1 ⟨μ1, d, η1, k1, p1, h1, r1, q1⟩ => ?_⟩
  exact tru_of h1 r1 q1⟩
/-! ### argument lists, displays -/
def aNil : AM := fun _ η => .ok [] η
def aCons (a : EM) (r : AM) : AM := fun δ η => (a δ η).bind fun x η => (r δ η).bind fun xs η => .ok (x :: xs) η
theorem av_nil : AV C [] aNil := ⟨by
  refine pa_weak pa_nil fun σ H Q ⟨μ, δ, η, hp, er, q⟩ => ?_
  exact q.ok hp RepL.nil⟩
theorem av_cons {e : Expr} {es : List Expr} {fe : EM} {fs : AM} (ha : EV C e fe) (hr : AV C es fs) (hs : starEach (e :: es) C.X.env = (false, eval e C.X.env) :: starEach es C.X.env := by rfl) : AV C (e :: es) (aCons fe fs) := ⟨by
  refine pa_weak (pa_cons ha.pe hr.pa hs) fun σ H Q ⟨μ, δ, η, hp, er, q⟩ => ?_
  refine ⟨μ, δ, η, hp, er, (Post.bind (R := Rep C.X.K) q).imp fun x H1 ⟨μ1, d, η1, k1, p1, h1, r1, q1⟩ => ?_⟩
  refine ⟨μ1, δ, η1, h1, er.mono k1 p1, (Post.bind (R := RepL C.X.K) q1).imp fun xs H2 ⟨μ2, ds, η2, k2, p2, h2, r2, q2⟩ => ?_⟩
  exact q2.ok h2 (RepL.cons (r1.mono k2 p2) r2)⟩
def gTup (xs : List D) (η : MH) : Out D := if xs.length ≤ sizeLine then .ok (.tup xs) η else .bad
def gLst (xs : List D) (η : MH) : Out D := if xs.length ≤ sizeLine then .ok (.obj η.length) (η ++ [.lst xs]) else .bad
def eTup (a : AM) : EM := fun δ η => (a δ η).bind gTup
def eLst (a : AM) : EM := fun δ η => (a δ η).bind gLst
/-- a new tuple -/
theorem Post.newTup {K : PySem.W.Frag} {S : Sg} {E : XK} {ds : List D} {vs : List V} {H : Hp} {μ : List Addr} {η : MH} {Q : VK} {p : Addr} (q : Post K S E (Rep K) (.ok (.tup ds) η) μ H Q) (hp : HRep K S.cl H μ η) (r : RepL K H μ ds vs) (np : H p = none) : Q (.ref p) (upd H p (.tup vs)) := by
  have kp : Keep K H (upd H p (.tup vs)) := keep_upd (by rw [np]; exact vol_none)
  refine q _ _ μ kp (List.prefix_refl _) (hp.upd_new np) ?_
  unfold Rep
  exact ⟨p, vs, rfl, .inl (.inl upd_same), r.mono kp (List.prefix_refl _)⟩
/-- a new list -/
theorem Post.newLst {K : PySem.W.Frag} {S : Sg} {E : XK} {ds : List D} {vs : List V} {H : Hp} {μ : List Addr} {η : MH} {Q : VK} {p : Addr} (q : Post K S E (Rep K) (.ok (.obj η.length) (η ++ [.lst ds])) μ H Q) (hp : HRep K S.cl H μ η) (r : RepL K H μ ds vs) (np : H p = none) : Q (.ref p) (upd H p (.lst vs)) := by
  have kp : Keep K H (upd H p (.lst vs)) := keep_upd (by rw [np]; exact vol_none)
  have pr : μ <+: μ ++ [p] := List.prefix_append _ _
  refine q _ _ (μ ++ [p]) kp pr (hp.push np ⟨vs, upd_same, r.mono kp pr⟩) ?_
  unfold Rep
  refine ⟨p, rfl, ?_⟩
  rw [← hp.len]
  simp
theorem ev_tup {es : List Expr} {x1 : Nat} {fs : AM} {pos : Pos} (h : AV C es fs) : EV C (.Tuple es x1 pos) (eTup fs) := ⟨by
  refine pe_weak (pe_tup h.pa) fun σ H Q ⟨μ, δ, η, hp, er, q⟩ => ?_
  refine ⟨μ, δ, η, hp, er, (Post.bind (R := RepL C.X.K) q).imp fun xs H1 ⟨μ1, ds, η1, k1, p1, h1, r1, q1⟩ => ?_⟩
  unfold gTup at q1
  split at q1
  · rename_i hl
    exact ⟨by rw [r1.length]; exact hl, fun p np => q1.newTup h1 r1 np⟩
  · exact q1.elim⟩
theorem ev_lst {es : List Expr} {fs : AM} {pos : Pos} (h : AV C es fs) : EV C (.List es pos) (eLst fs) := ⟨by
  refine pe_weak (pe_lst h.pa) fun σ H Q ⟨μ, δ, η, hp, er, q⟩ => ?_
  refine ⟨μ, δ, η, hp, er, (Post.bind (R := RepL C.X.K) q).imp fun xs H1 ⟨μ1, ds, η1, k1, p1, h1, r1, q1⟩ => ?_⟩
  unfold gLst at q1
  split at q1
  · rename_i hl
    exact ⟨by rw [r1.length]; exact hl, fun p np => q1.newLst h1 r1 np⟩
  · exact q1.elim⟩
end EV
/-! E3: operators, comparisons, subscripts, slices. -/
namespace EV
open PySem PySem.Spec PyProof.Rows L2
variable {C : Cn}

/-! ### operators -/
def gAdd (x y : D) (η : MH) : Out D := match x, y with
  | .int i, .int j => .ok (.int (i + j)) η
  | .str a, .str b => if a.length + b.length ≤ sizeLine then .ok (.str (a ++ b)) η else .bad
  | .tup xs, .tup ys => if xs.length + ys.length ≤ sizeLine then .ok (.tup (xs ++ ys)) η else .bad
  | .obj i, .obj j => match η[i]?, η[j]? with
    | some (.lst xs), some (.lst ys) => if xs.length + ys.length ≤ sizeLine then .ok (.obj η.length) (η ++ [.lst (xs ++ ys)]) else .bad
    | _, _ => .bad
  | _, _ => .bad
abbrev rAddS : R2 := fun x y H Q => ∃ i j, x = .str i ∧ y = .str j ∧ i.length + j.length ≤ sizeLine ∧ Q (.str (i ++ j)) H
abbrev rAddAll (K : PySem.W.Frag) : R2 := fun x y H Q => (rI0 (fun i j => .int (i + j)) x y H Q ∨ rAddS x y H Q) ∨ (rCatA K x y H Q ∨ rCat x y H Q)
theorem op_addAll {X : Cx} : OpR X (binaryOp .Add) (rAddAll X.K) := OpR.or (OpR.or op_add op_add_str) (OpR.or op_catA op_cat)
theorem add_ok : Op2 C (rAddAll C.X.K) gAdd := by
  intro x y d e H μ η Q hp rx ry q
  unfold gAdd at q
  split at q
  · unfold Rep at rx ry; subst rx ry
    exact .inl (.inl ⟨_, _, rfl, rfl, q.ok hp (by unfold Rep; rfl)⟩)
  · unfold Rep at rx ry; subst rx ry
    split at q
    · rename_i h
      exact .inl (.inr ⟨_, _, rfl, rfl, h, q.ok hp (by unfold Rep; rfl)⟩)
    · exact q.elim
  · rename_i xs ys
    unfold Rep at rx ry
    obtain ⟨a, vs, rfl, sa, ra⟩ := rx
    obtain ⟨b, us, rfl, sb, rb⟩ := ry
    split at q
    · rename_i h
      refine .inr (.inl ⟨a, b, vs, us, rfl, rfl, sa, sb, by rw [ra.length, rb.length]; exact h, fun z => ?_, fun z z2 => ?_, fun z z2 p np => ?_⟩)
      · have e1 : xs = [] := by
          have := ra.length
          rw [z] at this
          exact List.eq_nil_of_length_eq_zero this.symm
        subst e1
        refine q.ok hp ?_
        unfold Rep
        exact ⟨b, us, rfl, sb, rb⟩
      · have e1 : ys = [] := by
          have := rb.length
          rw [z2] at this
          exact List.eq_nil_of_length_eq_zero this.symm
        subst e1
        refine q.ok hp ?_
        unfold Rep
        exact ⟨a, vs, rfl, sa, by rw [List.append_nil]; exact ra⟩
      · exact q.newTup hp (ra.append rb) np
    · exact q.elim
  · rename_i i j
    unfold Rep at rx ry
    obtain ⟨a, rfl, ea⟩ := rx
    obtain ⟨b, rfl, eb⟩ := ry
    split at q
    · rename_i xs ys em en
      obtain ⟨vs, e1, ra⟩ := hp.at_ ea em
      obtain ⟨us, e2, rb⟩ := hp.at_ eb en
      split at q
      · rename_i h
        exact .inr (.inr ⟨a, b, vs, us, rfl, rfl, e1, e2, by rw [ra.length, rb.length]; exact h, fun p np => q.newLst hp (ra.append rb) np⟩)
      · exact q.elim
    · exact q.elim
  · exact q.elim
theorem ev_add {a b : Expr} {fa fb : EM} {pos : Pos} (ha : EV C a fa) (hb : EV C b fb) : EV C (.BinOp a .Add b pos) (e2 gAdd fa fb) := ev_2 (pe_op op_addAll ha.pe hb.pe) add_ok
def gSub (x y : D) (η : MH) : Out D := match x, y with
  | .int i, .int j => .ok (.int (i - j)) η
  | _, _ => .bad
theorem ev_sub {a b : Expr} {fa fb : EM} {pos : Pos} (ha : EV C a fa) (hb : EV C b fb) : EV C (.BinOp a .Sub b pos) (e2 gSub fa fb) := ev_2 (pe_op op_sub ha.pe hb.pe) (by
  intro x y d e H μ η Q hp rx ry q
  unfold gSub at q
  split at q
  · unfold Rep at rx ry; subst rx ry
    exact ⟨_, _, rfl, rfl, q.ok hp (by unfold Rep; rfl)⟩
  · exact q.elim)
instance (i j : Int) : Decidable (CMul i j) := by unfold CMul; infer_instance
def gMul (x y : D) (η : MH) : Out D := match x, y with
  | .int i, .int j => if CMul i j then .ok (.int (i * j)) η else .bad
  | _, _ => .bad
theorem ev_mul {a b : Expr} {fa fb : EM} {pos : Pos} (ha : EV C a fa) (hb : EV C b fb) : EV C (.BinOp a .Mult b pos) (e2 gMul fa fb) := ev_2 (pe_op op_mul ha.pe hb.pe) (by
  intro x y d e H μ η Q hp rx ry q
  unfold gMul at q
  split at q
  · unfold Rep at rx ry; subst rx ry
    split at q
    · rename_i h
      exact ⟨_, _, rfl, rfl, h, q.ok hp (by unfold Rep; rfl)⟩
    · exact q.elim
  · exact q.elim)
instance (i j : Int) : Decidable (CDivN i j) := by unfold CDivN; infer_instance
def gFdiv (x y : D) (η : MH) : Out D := match x, y with
  | .int i, .int j => if CDivN i j then .ok (.int (i.fdiv j)) η else .bad
  | _, _ => .bad
theorem ev_fdiv {a b : Expr} {fa fb : EM} {pos : Pos} (ha : EV C a fa) (hb : EV C b fb) : EV C (.BinOp a .FloorDiv b pos) (e2 gFdiv fa fb) := ev_2 (pe_op op_fdivN ha.pe hb.pe) (by
  intro x y d e H μ η Q hp rx ry q
  unfold gFdiv at q
  split at q
  · unfold Rep at rx ry; subst rx ry
    split at q
    · rename_i h
      exact ⟨_, _, rfl, rfl, h, q.ok hp (by unfold Rep; rfl)⟩
    · exact q.elim
  · exact q.elim)
def gMod (x y : D) (η : MH) : Out D := match x, y with
  | .int i, .int j => if j ≠ 0 then .ok (.int (i.fmod j)) η else .bad
  | _, _ => .bad
theorem ev_mod {a b : Expr} {fa fb : EM} {pos : Pos} (ha : EV C a fa) (hb : EV C b fb) : EV C (.BinOp a .Mod b pos) (e2 gMod fa fb) := ev_2 (pe_op op_modN ha.pe hb.pe) (by
  intro x y d e H μ η Q hp rx ry q
  unfold gMod at q
  split at q
  · unfold Rep at rx ry; subst rx ry
    split at q
    · rename_i h
      exact ⟨_, _, rfl, rfl, h, q.ok hp (by unfold Rep; rfl)⟩
    · exact q.elim
  · exact q.elim)
instance (i j : Int) : Decidable (CPow i j) := by unfold CPow; infer_instance
def gPow (x y : D) (η : MH) : Out D := match x, y with
  | .int i, .int j => if CPow i j then .ok (.int (i ^ j.toNat)) η else .bad
  | _, _ => .bad
theorem ev_pow {a b : Expr} {fa fb : EM} {pos : Pos} (ha : EV C a fa) (hb : EV C b fb) : EV C (.BinOp a .Pow b pos) (e2 gPow fa fb) := ev_2 (pe_op op_pow ha.pe hb.pe) (by
  intro x y d e H μ η Q hp rx ry q
  unfold gPow at q
  split at q
  · unfold Rep at rx ry; subst rx ry
    split at q
    · rename_i h
      exact ⟨_, _, rfl, rfl, h, q.ok hp (by unfold Rep; rfl)⟩
    · exact q.elim
  · exact q.elim)
def gNeg (x : D) (η : MH) : Out D := match x with
  | .int i => .ok (.int (-i)) η
  | _ => .bad
theorem ev_neg {a : Expr} {fa : EM} {pos : Pos} (ha : EV C a fa) : EV C (.UnaryOp .USub a pos) (e1 gNeg fa) := ev_1 (pe_un un_neg ha.pe) (by
  intro x d H μ η Q hp rx q
  unfold gNeg at q
  split at q
  · unfold Rep at rx; subst rx
    exact ⟨_, rfl, q.ok hp (by unfold Rep; rfl)⟩
  · exact q.elim)

/-! ### as data: == -/
mutual
def toP0 : D → Option PyData
  | .non => some .none
  | .bl b => some (.bool b)
  | .int i => some (.int i)
  | .str x => some (.str x)
  | .tup xs => (toP0L xs).map .tuple
  | .obj _ => none
def toP0L : List D → Option (List PyData)
  | [] => some []
  | d :: ds => match toP0 d, toP0L ds with
    | some p, some ps => some (p :: ps)
    | _, _ => none
end
def toP (η : MH) (d : D) : Option PyData := match d with
  | .obj i => match η[i]? with
    | some (.lst xs) => (toP0L xs).map .list
    | some (.frz xs) => (toP0L xs).map .list
    | _ => none
  | d => toP0 d
section
variable {K : PySem.W.Frag} {H : Hp} {μ : List Addr}
mutual
theorem dp_of0 : ∀ {d : D} {v : V} {p : PyData}, Rep K H μ d v → toP0 d = some p → Dp K H v p
  | .non, v, p, r, e => by unfold Rep at r; unfold toP0 at e; cases e; subst r; exact .non
  | .bl b, v, p, r, e => by unfold Rep at r; unfold toP0 at e; cases e; subst r; exact .bl b
  | .int i, v, p, r, e => by unfold Rep at r; unfold toP0 at e; cases e; subst r; exact .int i
  | .str x, v, p, r, e => by unfold Rep at r; unfold toP0 at e; cases e; subst r; exact .str x
  | .tup ds, v, p, r, e => by
    unfold Rep at r
    obtain ⟨a, vs, rfl, s, rl⟩ := r
    unfold toP0 at e
    obtain ⟨ps, e1, rfl⟩ := Option.map_eq_some_iff.mp e
    exact .tup s (dp_of0L rl e1)
  | .obj i, v, p, r, e => by unfold toP0 at e; cases e
theorem dp_of0L : ∀ {ds : List D} {vs : List V} {ps : List PyData}, RepL K H μ ds vs → toP0L ds = some ps → DpAll K H vs ps
  | [], vs, ps, r, e => by unfold RepL at r; unfold toP0L at e; cases e; subst r; exact .nil
  | d :: ds, vs, ps, r, e => by
    unfold RepL at r
    obtain ⟨v, vr, rfl, r1, rr⟩ := r
    unfold toP0L at e
    split at e
    · rename_i p ps' e1 e2
      cases e
      exact .cons (dp_of0 r1 e1) (dp_of0L rr e2)
    · cases e
end
theorem dp_of {cl : Clss} {η : MH} {d : D} {v : V} {p : PyData} (hp : HRep K cl H μ η) (r : Rep K H μ d v) (e : toP η d = some p) : Dp K H v p := by
  cases d with
  | obj i =>
    unfold Rep at r
    obtain ⟨a, rfl, ea⟩ := r
    unfold toP at e
    simp only at e
    split at e
    · rename_i xs em
      obtain ⟨vs, e1, rl⟩ := hp.at_ ea em
      obtain ⟨ps, e2, rfl⟩ := Option.map_eq_some_iff.mp e
      exact .lst (.inl (.inl e1)) (dp_of0L rl e2)
    · rename_i xs em
      obtain ⟨vs, e1, rl, _⟩ := hp.at_ ea em
      obtain ⟨ps, e2, rfl⟩ := Option.map_eq_some_iff.mp e
      exact .lst e1 (dp_of0L rl e2)
    · cases e
  | non => exact dp_of0 r e
  | bl b => exact dp_of0 r e
  | int i => exact dp_of0 r e
  | str x => exact dp_of0 r e
  | tup xs => exact dp_of0 r e
end
/-- == -/
def dEq (η : MH) (x y : D) : Option Bool := match toP η x, toP η y with
  | some p, some q => if SeqAt.shaped p = true ∧ SeqAt.shaped q = true then some (PyData.eqv p q) else none
  | _, _ => none
def gEq (x y : D) (η : MH) : Out Bool := match dEq η x y with
  | some b => .ok b η
  | none => .bad
def gNe (x y : D) (η : MH) : Out Bool := match dEq η x y with
  | some b => .ok (!b) η
  | none => .bad
theorem eq_ok : Cmp2 C (rEqD C.X.K) gEq := by
  intro x y d e H μ η Q hp rx ry q
  unfold gEq at q
  split at q
  · rename_i b hb
    unfold dEq at hb
    split at hb
    · rename_i p p2 h1 h2
      split at hb
      · rename_i hs
        cases hb
        exact ⟨p, p2, dp_of hp rx h1, dp_of hp ry h2, hs.1, hs.2, q.ok hp (by unfold Rep; rfl)⟩
      · cases hb
    · cases hb
  · exact q.elim
theorem ne_ok : Cmp2 C (rNeD C.X.K) gNe := by
  intro x y d e H μ η Q hp rx ry q
  unfold gNe at q
  split at q
  · rename_i b hb
    unfold dEq at hb
    split at hb
    · rename_i p p2 h1 h2
      split at hb
      · rename_i hs
        cases hb
        exact ⟨p, p2, dp_of hp rx h1, dp_of hp ry h2, hs.1, hs.2, q.ok hp (by unfold Rep; rfl)⟩
      · cases hb
    · cases hb
  · exact q.elim
section
variable {a b : Expr} {fa fb : EM} {pos : Pos}
theorem ev_eq (hu : C.X.A.units + 64 < cLine) (ha : EV C a fa) (hb : EV C b fb) : EV C (.Compare a [.Eq] [b] pos) (eB (t2 gEq fa fb)) := ev_cmp (pe_cmpR (op_eqD hu) ha.pe hb.pe (nomark _)) eq_ok
theorem tv_eq (hu : C.X.A.units + 64 < cLine) (ha : EV C a fa) (hb : EV C b fb) : TV C (.Compare a [.Eq] [b] pos) (t2 gEq fa fb) := tv_cmp (pt_cmpR (op_eqD hu) ha.pe hb.pe (nomark _)) eq_ok
theorem ev_ne (hu : C.X.A.units + 64 < cLine) (ha : EV C a fa) (hb : EV C b fb) : EV C (.Compare a [.NotEq] [b] pos) (eB (t2 gNe fa fb)) := ev_cmp (pe_cmpR (op_neD hu) ha.pe hb.pe (nomark _)) ne_ok
theorem tv_ne (hu : C.X.A.units + 64 < cLine) (ha : EV C a fa) (hb : EV C b fb) : TV C (.Compare a [.NotEq] [b] pos) (t2 gNe fa fb) := tv_cmp (pt_cmpR (op_neD hu) ha.pe hb.pe (nomark _)) ne_ok
/-- the order of ints -/
def gOrd (f : Int → Int → Bool) (x y : D) (η : MH) : Out Bool := match x, y with
  | .int i, .int j => .ok (f i j) η
  | _, _ => .bad
theorem ord_ok {f : Int → Int → Bool} : Cmp2 C (rI0 fun i j => .bl (f i j)) (gOrd f) := by
  intro x y d e H μ η Q hp rx ry q
  unfold gOrd at q
  split at q
  · unfold Rep at rx ry; subst rx ry
    exact ⟨_, _, rfl, rfl, q.ok hp (by unfold Rep; rfl)⟩
  · exact q.elim
abbrev gLt := gOrd fun i j => decide (i < j)
abbrev gLe := gOrd fun i j => decide (i ≤ j)
abbrev gGt := gOrd fun i j => decide (j < i)
abbrev gGe := gOrd fun i j => decide (j ≤ i)
theorem ev_lt (ha : EV C a fa) (hb : EV C b fb) : EV C (.Compare a [.Lt] [b] pos) (eB (t2 gLt fa fb)) := ev_cmp (pe_cmpR op_lt ha.pe hb.pe (nomark _)) ord_ok
theorem tv_lt (ha : EV C a fa) (hb : EV C b fb) : TV C (.Compare a [.Lt] [b] pos) (t2 gLt fa fb) := tv_cmp (pt_cmpR op_lt ha.pe hb.pe (nomark _)) ord_ok
theorem ev_le (ha : EV C a fa) (hb : EV C b fb) : EV C (.Compare a [.LtE] [b] pos) (eB (t2 gLe fa fb)) := ev_cmp (pe_cmpR op_le ha.pe hb.pe (nomark _)) ord_ok
theorem tv_le (ha : EV C a fa) (hb : EV C b fb) : TV C (.Compare a [.LtE] [b] pos) (t2 gLe fa fb) := tv_cmp (pt_cmpR op_le ha.pe hb.pe (nomark _)) ord_ok
theorem ev_gt (ha : EV C a fa) (hb : EV C b fb) : EV C (.Compare a [.Gt] [b] pos) (eB (t2 gGt fa fb)) := ev_cmp (pe_cmpR op_gt ha.pe hb.pe (nomark _)) ord_ok
theorem tv_gt (ha : EV C a fa) (hb : EV C b fb) : TV C (.Compare a [.Gt] [b] pos) (t2 gGt fa fb) := tv_cmp (pt_cmpR op_gt ha.pe hb.pe (nomark _)) ord_ok
theorem ev_ge (ha : EV C a fa) (hb : EV C b fb) : EV C (.Compare a [.GtE] [b] pos) (eB (t2 gGe fa fb)) := ev_cmp (pe_cmpR op_ge ha.pe hb.pe (nomark _)) ord_ok
theorem tv_ge (ha : EV C a fa) (hb : EV C b fb) : TV C (.Compare a [.GtE] [b] pos) (t2 gGe fa fb) := tv_cmp (pt_cmpR op_ge ha.pe hb.pe (nomark _)) ord_ok
/-- a op b op c -/
def tChn (g1 g2 : D → D → MH → Out Bool) (a b c : EM) : TM := fun δ η => (a δ η).bind fun x η => (b δ η).bind fun y η => (g1 x y η).bind fun k η => if k then (c δ η).bind fun z η => g2 y z η else .ok false η
theorem chn_of {K : PySem.W.Frag} {fa fb fc : EM} {g1 g2 : D → D → MH → Out Bool} {r1 r2 : R2} {σ : L2.St} {H : Hp} {Q : VK} (hr1 : Cmp2 C r1 g1) (hr2 : Cmp2 C r2 g2)
    (h : ∃ μ δ η, HRep C.X.K C.S.cl H μ η ∧ ERep C.X.K H μ δ σ ∧ Post C.X.K C.S C.E (Rep C.X.K) ((tChn g1 g2 fa fb fc δ η).bind fun b η => .ok (.bl b) η) μ H Q) :
    tChain r1 r2 (tE C.X.K C.S C.E fa) (tE C.X.K C.S C.E fb) (tE C.X.K C.S C.E fc) σ H Q := by
  obtain ⟨μ, δ, η, hp, er, q⟩ := h
  unfold tChn at q
  simp only [Out.bind_assoc] at q
  refine ⟨μ, δ, η, hp, er, (Post.bind (R := Rep C.X.K) q).imp fun x H1 ⟨μ1, d, η1, k1, p1, h1, rx, q1⟩ => ?_⟩
  refine ⟨μ1, δ, η1, h1, er.mono k1 p1, (Post.bind (R := Rep C.X.K) q1).imp fun y H2 ⟨μ2, e, η2, k2, p2, h2, ry, q2⟩ => ?_⟩
  refine hr1 x y d e H2 μ2 η2 _ h2 (rx.mono k2 p2) ry ?_
  refine ((Post.bind (R := RB) q2).asB).imp fun z H3 ⟨k, ez, m⟩ => ⟨k, ez, ?_⟩
  obtain ⟨μ3, k', η3, k3, p3, h3, rk, q3⟩ := m
  have rk' : k' = k := rk
  subst rk'
  cases k' with
  | true =>
    simp only [if_true, Out.bind_assoc] at q3 ⊢
    refine ⟨μ3, δ, η3, h3, ((er.mono k1 p1).mono k2 p2).mono k3 p3, (Post.bind (R := Rep C.X.K) q3).imp fun w H4 ⟨μ4, f, η4, k4, p4, h4, rw4, q4⟩ => ?_⟩
    exact hr2 y w e f H4 μ4 η4 Q h4 ((ry.mono k3 p3).mono k4 p4) rw4 q4
  | false =>
    simp only [Bool.false_eq_true, if_false] at q3 ⊢
    exact q3.ok h3 (by unfold Rep; rfl)
theorem ev_chn {c : Expr} {fc : EM} {o1 o2 : CmpOp} {r1 r2 : R2} {g1 g2 : D → D → MH → Out Bool} (ho : OpR C.X (compareOp o1) r1) (ho' : OpR C.X (compareOp o2) r2) (hr1 : Cmp2 C r1 g1) (hr2 : Cmp2 C r2 g2) (ha : EV C a fa) (hb : EV C b fb) (hc : EV C c fc)
    (hm : lastMarks [o1, o2] [b, c] = false := by with_unfolding_all rfl) : EV C (.Compare a [o1, o2] [b, c] pos) (eB (tChn g1 g2 fa fb fc)) := ⟨by
  refine pe_weak (pe_chain ho ho' ha.pe hb.pe hc.pe hm) fun σ H Q q => ?_
  exact chn_of (K := C.X.K) hr1 hr2 q⟩
theorem tv_chn {c : Expr} {fc : EM} {o1 o2 : CmpOp} {r1 r2 : R2} {g1 g2 : D → D → MH → Out Bool} (ho : OpR C.X (compareOp o1) r1) (ho' : OpR C.X (compareOp o2) r2) (hr1 : Cmp2 C r1 g1) (hr2 : Cmp2 C r2 g2) (ha : EV C a fa) (hb : EV C b fb) (hc : EV C c fc)
    (hm : lastMarks [o1, o2] [b, c] = false := by with_unfolding_all rfl) : TV C (.Compare a [o1, o2] [b, c] pos) (tChn g1 g2 fa fb fc) := ⟨by
  refine pt_weak (pt_chain ho ho' ha.pe hb.pe hc.pe hm) fun σ H Q ⟨μ, δ, η, hp, er, q⟩ => ?_
  exact chn_of (K := C.X.K) hr1 hr2 ⟨μ, δ, η, hp, er, q.asB⟩⟩
/-- is None, is True .. -/
def gIsN (x y : D) (η : MH) : Out Bool := match y, x with
  | .non, .non => .ok true η
  | .non, _ => .ok false η
  | .bl b, .bl c => .ok (decide (c = b)) η
  | _, _ => .bad
def gIsNot (x y : D) (η : MH) : Out Bool := match y, x with
  | .non, .non => .ok false η
  | .non, _ => .ok true η
  | .bl b, .bl c => .ok (!decide (c = b)) η
  | _, _ => .bad
abbrev rIsNN : R2 := fun x y H Q => y = .non ∧ Q (.bl (decide (x = .non))) H
abbrev rNotNN : R2 := fun x y H Q => y = .non ∧ Q (.bl (!decide (x = .non))) H
abbrev rIsAll : R2 := fun x y H Q => rIsNN x y H Q ∨ rIsB x y H Q
abbrev rNotAll : R2 := fun x y H Q => rNotNN x y H Q ∨ rNotB x y H Q
def D.isN : D → Bool
  | .non => true
  | _ => false
theorem Rep.non_iff {K : PySem.W.Frag} {H : Hp} {μ : List Addr} {d : D} {x : V} (r : Rep K H μ d x) : decide (x = .non) = d.isN := by
  cases d <;> unfold Rep at r
  · subst r; rfl
  · subst r; rfl
  · subst r; rfl
  · subst r; rfl
  · obtain ⟨a, vs, rfl, _⟩ := r; rfl
  · obtain ⟨a, rfl, _⟩ := r; rfl
theorem is_ok : Cmp2 C rIsAll gIsN := by
  intro x y d e H μ η Q hp rx ry q
  unfold gIsN at q
  split at q
  · unfold Rep at ry; subst ry
    refine .inl ⟨rfl, ?_⟩
    rw [rx.non_iff]
    exact q.ok hp (by unfold Rep; rfl)
  · rename_i hd
    unfold Rep at ry; subst ry
    refine .inl ⟨rfl, ?_⟩
    rw [rx.non_iff]
    have : d.isN = false := by
      cases d <;> first | rfl | exact (hd rfl).elim
    rw [this]
    exact q.ok hp (by unfold Rep; rfl)
  · unfold Rep at rx ry; subst rx ry
    exact .inr ⟨_, _, rfl, rfl, q.ok hp (by unfold Rep; rfl)⟩
  · exact q.elim
theorem isnot_ok : Cmp2 C rNotAll gIsNot := by
  intro x y d e H μ η Q hp rx ry q
  unfold gIsNot at q
  split at q
  · unfold Rep at ry; subst ry
    refine .inl ⟨rfl, ?_⟩
    rw [rx.non_iff]
    exact q.ok hp (by unfold Rep; rfl)
  · rename_i hd
    unfold Rep at ry; subst ry
    refine .inl ⟨rfl, ?_⟩
    rw [rx.non_iff]
    have : d.isN = false := by
      cases d <;> first | rfl | exact (hd rfl).elim
    rw [this]
    exact q.ok hp (by unfold Rep; rfl)
  · unfold Rep at rx ry; subst rx ry
    exact .inr ⟨_, _, rfl, rfl, q.ok hp (by unfold Rep; rfl)⟩
  · exact q.elim
theorem ev_is (ha : EV C a fa) (hb : EV C b fb) : EV C (.Compare a [.Is] [b] pos) (eB (t2 gIsN fa fb)) := ev_cmp (pe_cmpR (OpR.or op_isN op_isBl) ha.pe hb.pe (nomark _)) is_ok
theorem tv_is (ha : EV C a fa) (hb : EV C b fb) : TV C (.Compare a [.Is] [b] pos) (t2 gIsN fa fb) := tv_cmp (pt_cmpR (OpR.or op_isN op_isBl) ha.pe hb.pe (nomark _)) is_ok
theorem ev_isnot (ha : EV C a fa) (hb : EV C b fb) : EV C (.Compare a [.IsNot] [b] pos) (eB (t2 gIsNot fa fb)) := ev_cmp (pe_cmpR (OpR.or op_notN op_notBl) ha.pe hb.pe (nomark _)) isnot_ok
theorem tv_isnot (ha : EV C a fa) (hb : EV C b fb) : TV C (.Compare a [.IsNot] [b] pos) (t2 gIsNot fa fb) := tv_cmp (pt_cmpR (OpR.or op_notN op_notBl) ha.pe hb.pe (nomark _)) isnot_ok
end
/-! ### subscripts -/
def gIx (x i : D) (η : MH) : Out D := match x, i with
  | .tup xs, .int k => match atI xs k with
    | some d => .ok d η
    | none => .bad
  | .str z, .int k => if z.length ≤ sizeLine then (match atI z.cps.toList k with
    | some c => .ok (.str ⟨#[c]⟩) η
    | none => .bad) else .bad
  | .obj o, .int k => match η[o]? with
    | some (.lst xs) => (match atI xs k with
      | some d => .ok d η
      | none => .bad)
    | some (.frz xs) => (match atI xs k with
      | some d => .ok d η
      | none => .bad)
    | _ => .bad
  | _, _ => .bad
theorem RepL.atI {K : PySem.W.Frag} {H : Hp} {μ : List Addr} {ds : List D} {vs : List V} {k : Int} {d : D} (r : RepL K H μ ds vs) (e : L2.atI ds k = some d) : ∃ v, L2.atI vs k = some v ∧ Rep K H μ d v := by
  unfold L2.atI at e ⊢
  rw [r.length]
  cases h : ixN ds.length k with
  | none => rw [h] at e; cases e
  | some j =>
    rw [h] at e
    exact r.get e
theorem ix_ok : Op2 C (rIx C.X.K) gIx := by
  intro x y d e H μ η Q hp rx ry q
  unfold gIx at q
  split at q
  · rename_i xs k
    unfold Rep at rx ry
    subst ry
    obtain ⟨a, vs, rfl, s, rl⟩ := rx
    split at q
    · rename_i d' e1
      obtain ⟨v, e2, r⟩ := rl.atI e1
      exact .inr (.inl ⟨a, vs, k, v, rfl, rfl, s, e2, q.ok hp r⟩)
    · exact q.elim
  · rename_i z k
    unfold Rep at rx ry
    subst rx ry
    split at q
    · rename_i hz
      split at q
      · rename_i c e1
        exact .inr (.inr ⟨z, k, c, rfl, rfl, hz, e1, q.ok hp (by unfold Rep; rfl)⟩)
      · exact q.elim
    · exact q.elim
  · rename_i o k
    unfold Rep at rx ry
    subst ry
    obtain ⟨a, rfl, ea⟩ := rx
    split at q
    · rename_i xs em
      obtain ⟨vs, e0, rl⟩ := hp.at_ ea em
      split at q
      · rename_i d' e1
        obtain ⟨v, e2, r⟩ := rl.atI e1
        exact .inl ⟨a, vs, k, v, rfl, rfl, .inl (.inl e0), e2, q.ok hp r⟩
      · exact q.elim
    · rename_i xs em
      obtain ⟨vs, e0, rl, _⟩ := hp.at_ ea em
      split at q
      · rename_i d' e1
        obtain ⟨v, e2, r⟩ := rl.atI e1
        exact .inl ⟨a, vs, k, v, rfl, rfl, e0, e2, q.ok hp r⟩
      · exact q.elim
    · exact q.elim
  · exact q.elim
theorem ev_ix {a b : Expr} {fa fb : EM} {pos : Pos} (hs : PlainIx b) (ha : EV C a fa) (hb : EV C b fb) : EV C (.Subscript a b pos) (e2 gIx fa fb) := ev_2 (pe_ix ix_seq ha.pe hb.pe hs) ix_ok
end EV
/-! E4: slices, in, built-in calls, methods of lists and texts. -/
namespace EV
open PySem PySem.Spec PyProof.Rows L2
variable {C : Cn}

/-! ### slices -/
abbrev OM := En → MH → Out (Option Int)
abbrev RO : RR (Option Int) (Option Int) := fun _ _ a b => a = b
def tOs (K : PySem.W.Frag) (S : Sg) (E : XK) (f : OM) : TO := fun σ H Q => ∃ μ δ η, HRep K S.cl H μ η ∧ ERep K H μ δ σ ∧ Post K S E RO (f δ η) μ H Q
structure OV (C : Cn) (e : Option Expr) (f : OM) : Prop where
  po : PO C.X e (tOs C.X.K C.S C.E f)
theorem po_weak {X : Cx} {e : Option Expr} {t t' : TO} (h : PO X e t) (g : ∀ σ H Q, t' σ H Q → t σ H Q) : PO X e t' := ⟨fun pins s σ H Q I q => h.run pins s σ H Q I (g σ H Q q)⟩
def oNone : OM := fun _ η => .ok none η
def gPart (x : D) (η : MH) : Out (Option Int) := match x with
  | .int i => .ok (some i) η
  | _ => .bad
def oSome (a : EM) : OM := fun δ η => (a δ η).bind gPart
theorem ov_none : OV C none oNone := ⟨by
  refine po_weak po_none fun σ H Q ⟨μ, δ, η, hp, er, q⟩ => ?_
  exact q.ok hp rfl⟩
theorem ov_some {e : Expr} {f : EM} (h : EV C e f) : OV C (some e) (oSome f) := ⟨by
  refine po_weak (po_some h.pe) fun σ H Q ⟨μ, δ, η, hp, er, q⟩ => ?_
  refine ⟨μ, δ, η, hp, er, (Post.bind (R := Rep C.X.K) q).imp fun x H1 ⟨μ1, d, η1, k1, p1, h1, r1, q1⟩ => ?_⟩
  unfold gPart at q1
  split at q1
  · unfold Rep at r1
    exact ⟨_, r1, q1.ok h1 rfl⟩
  · exact q1.elim⟩
def cutL {α : Type} (xs : List α) (lo hi : Option Int) : List α := (xs.drop (HT.sIx xs.length 0 lo)).take (HT.sIx xs.length xs.length hi - HT.sIx xs.length 0 lo)
theorem cutL_length {α : Type} (xs : List α) (lo hi : Option Int) : (cutL xs lo hi).length ≤ xs.length := by
  unfold cutL
  rw [List.length_take, List.length_drop]
  omega
def gSl (x : D) (lo hi : Option Int) (η : MH) : Out D := match x with
  | .tup xs => .ok (.tup (cutL xs lo hi)) η
  | .str z => if z.length ≤ sizeLine then .ok (.str (cutS z lo hi)) η else .bad
  | .obj i => match η[i]? with
    | some (.lst xs) => .ok (.obj η.length) (η ++ [.lst (cutL xs lo hi)])
    | some (.frz xs) => .ok (.obj η.length) (η ++ [.lst (cutL xs lo hi)])
    | _ => .bad
  | _ => .bad
abbrev rSlAll (K : PySem.W.Frag) : V → Option Int → Option Int → Hp → VK → Prop := fun x lo hi H Q => rSlA K x lo hi H Q ∨ (rSlL K x lo hi H Q ∨ rSlS x lo hi H Q)
theorem sl_all {X : Cx} : SlR X (rSlAll X.K) := SlR.or sl_tupA (SlR.or sl_list sl_str)
theorem RepL.cut {K : PySem.W.Frag} {H : Hp} {μ : List Addr} {ds : List D} {vs : List V} {lo hi : Option Int} (r : RepL K H μ ds vs) : RepL K H μ (cutL ds lo hi) (cutV vs lo hi) := by
  unfold cutL cutV
  rw [r.length]
  exact (r.drop _).take _
theorem sl_ok {x : V} {d : D} {lo hi : Option Int} {H : Hp} {μ : List Addr} {η : MH} {Q : VK} (hp : HRep C.X.K C.S.cl H μ η) (rx : Rep C.X.K H μ d x) (q : Post C.X.K C.S C.E (Rep C.X.K) (gSl d lo hi η) μ H Q) : rSlAll C.X.K x lo hi H Q := by
  unfold gSl at q
  split at q
  · rename_i xs
    unfold Rep at rx
    obtain ⟨a, vs, rfl, s, rl⟩ := rx
    refine .inl ⟨a, vs, rfl, s, fun ⟨h1, h2⟩ => ?_, fun _ p np => q.newTup hp rl.cut np⟩
    refine q.ok hp ?_
    unfold Rep
    refine ⟨a, vs, rfl, s, ?_⟩
    have e : cutL xs lo hi = xs := by
      unfold cutL
      rw [← rl.length, h1, h2]
      simp
      rw [rl.length]
      exact List.take_length
    rw [e]
    exact rl
  · unfold Rep at rx
    subst rx
    split at q
    · rename_i hz
      exact .inr (.inr ⟨_, rfl, hz, q.ok hp (by unfold Rep; rfl)⟩)
    · exact q.elim
  · unfold Rep at rx
    obtain ⟨a, rfl, ea⟩ := rx
    split at q
    · rename_i xs em
      obtain ⟨vs, e0, rl⟩ := hp.at_ ea em
      exact .inr (.inl ⟨a, vs, rfl, .inl (.inl e0), fun p np => q.newLst hp rl.cut np⟩)
    · rename_i xs em
      obtain ⟨vs, e0, rl, _⟩ := hp.at_ ea em
      exact .inr (.inl ⟨a, vs, rfl, e0, fun p np => q.newLst hp rl.cut np⟩)
    · exact q.elim
  · exact q.elim
def eSl (a : EM) (l h : OM) : EM := fun δ η => (a δ η).bind fun x η => (l δ η).bind fun lo η => (h δ η).bind fun hi η => gSl x lo hi η
theorem ev_sl {e : Expr} {lo hi : Option Expr} {fe : EM} {fl fh : OM} {pos p2 : Pos} (he : EV C e fe) (hl : OV C lo fl) (hh : OV C hi fh) : EV C (.Subscript e (.Slice lo hi none p2) pos) (eSl fe fl fh) := ⟨by
  refine pe_weak (pe_slice sl_all he.pe hl.po hh.po) fun σ H Q ⟨μ, δ, η, hp, er, q⟩ => ?_
  refine ⟨μ, δ, η, hp, er, (Post.bind (R := Rep C.X.K) q).imp fun x H1 ⟨μ1, d, η1, k1, p1, h1, r1, q1⟩ => ?_⟩
  refine ⟨μ1, δ, η1, h1, er.mono k1 p1, (Post.bind (R := RO) q1).imp fun l H2 ⟨μ2, l', η2, k2, p2, h2, r2, q2⟩ => ?_⟩
  refine ⟨μ2, δ, η2, h2, (er.mono k1 p1).mono k2 p2, (Post.bind (R := RO) q2).imp fun u H3 ⟨μ3, u', η3, k3, p3, h3, r3, q3⟩ => ?_⟩
  subst r2
  subst r3
  exact sl_ok h3 ((r1.mono k2 p2).mono k3 p3) q3⟩

/-! ### in -/
def D.flat : D → Bool
  | .non => true
  | .bl _ => true
  | .int _ => true
  | .str _ => true
  | _ => false
def dEqF : D → D → Bool
  | .non, .non => true
  | .bl a, .bl b => a == b
  | .bl a, .int b => (if a then 1 else 0) == b
  | .int a, .bl b => a == (if b then 1 else 0)
  | .int a, .int b => a == b
  | .str a, .str b => a == b
  | _, _ => false
section
variable {K : PySem.W.Frag} {H : Hp} {μ : List Addr}
theorem Rep.flat {d : D} {v : V} (r : Rep K H μ d v) : flatV v = d.flat := by
  cases d <;> unfold Rep at r
  · subst r; rfl
  · subst r; rfl
  · subst r; rfl
  · subst r; rfl
  · obtain ⟨a, vs, rfl, _⟩ := r; rfl
  · obtain ⟨a, rfl, _⟩ := r; rfl
theorem RepL.flat : ∀ {ds : List D} {vs : List V}, RepL K H μ ds vs → vs.all flatV = ds.all D.flat
  | [], vs, r => by unfold RepL at r; subst r; rfl
  | d :: ds, vs, r => by
    unfold RepL at r
    obtain ⟨v, vr, rfl, r1, rr⟩ := r
    rw [List.all_cons, List.all_cons, r1.flat, rr.flat]
theorem eqV_flat {d e : D} {v u : V} (r : Rep K H μ d v) (r2 : Rep K H μ e u) (f : d.flat = true) (f2 : e.flat = true) : eqV v u = dEqF d e := by
  cases d <;> cases e <;> unfold Rep at r r2 <;> first | (cases f; done) | (cases f2; done) | (subst r r2; rfl)
theorem any_flat {e : D} {u : V} (r2 : Rep K H μ e u) (f2 : e.flat = true) : ∀ {ds : List D} {vs : List V}, RepL K H μ ds vs → ds.all D.flat = true → inV u vs = ds.any fun y => dEqF y e
  | [], vs, r, _ => by unfold RepL at r; subst r; rfl
  | d :: ds, vs, r, f => by
    unfold RepL at r
    obtain ⟨v, vr, rfl, r1, rr⟩ := r
    rw [List.all_cons, Bool.and_eq_true] at f
    show (eqV v u || inV u vr) = _
    rw [eqV_flat r1 r2 f.1 f2, any_flat r2 f2 rr f.2]
    rfl
end
def gInL (neg : Bool) (x : D) (ys : List D) (η : MH) : Out Bool := if x.flat = true ∧ ys.all D.flat = true then .ok (if neg then !(ys.any fun y => dEqF y x) else ys.any fun y => dEqF y x) η else .bad
def gIn (neg : Bool) (x y : D) (η : MH) : Out Bool := match x, y with
  | x, .tup ys => gInL neg x ys η
  | x, .obj i => match η[i]? with
    | some (.lst ys) => gInL neg x ys η
    | some (.frz ys) => gInL neg x ys η
    | _ => .bad
  | .str a, .str z => match a.cps.toList with
    | [c] => .ok (if neg then !decide (c ∈ z.cps.toList) else decide (c ∈ z.cps.toList)) η
    | _ => .bad
  | _, _ => .bad
abbrev rInSg : R2 := fun x y H Q => ∃ (c : Nat) (z : Str), x = .str ⟨#[c]⟩ ∧ y = .str z ∧ Q (.bl (decide (c ∈ z.cps.toList))) H
abbrev rNotInSg : R2 := fun x y H Q => ∃ (c : Nat) (z : Str), x = .str ⟨#[c]⟩ ∧ y = .str z ∧ Q (.bl (!decide (c ∈ z.cps.toList))) H
abbrev rInAll (K : PySem.W.Frag) : R2 := fun x y H Q => rIn K false x y H Q ∨ rInSg x y H Q
abbrev rNotInAll (K : PySem.W.Frag) : R2 := fun x y H Q => rIn K true x y H Q ∨ rNotInSg x y H Q
theorem inL_ok {neg : Bool} {x : V} {d : D} {ys : List D} {vs : List V} {p : Addr} {H : Hp} {μ : List Addr} {η : MH} {Q : VK} (hp : HRep C.X.K C.S.cl H μ η) (rx : Rep C.X.K H μ d x) (s : SqL C.X.K H p vs ∨ SqT C.X.K H p vs) (rl : RepL C.X.K H μ ys vs)
    (q : Post C.X.K C.S C.E (Rep C.X.K) ((gInL neg d ys η).bind fun b η => .ok (.bl b) η) μ H Q) : rIn C.X.K neg x (.ref p) H Q := by
  unfold gInL at q
  split at q
  · rename_i h
    refine ⟨p, vs, rfl, s, by rw [rx.flat]; exact h.1, by rw [rl.flat]; exact h.2, ?_⟩
    rw [any_flat rx h.1 rl h.2]
    exact q.ok hp (by unfold Rep; rfl)
  · exact q.elim
theorem str_one {a : Str} {c : Nat} (h : a.cps.toList = [c]) : a = ⟨#[c]⟩ := by
  obtain ⟨cs⟩ := a
  have : cs = #[c] := Array.toList_inj.mp (by simpa using h)
  rw [this]
theorem in_ok : Cmp2 C (rInAll C.X.K) (gIn false) := by
  intro x y d e H μ η Q hp rx ry q
  unfold gIn at q
  split at q
  · unfold Rep at ry
    obtain ⟨a, vs, rfl, s, rl⟩ := ry
    exact .inl (inL_ok hp rx (.inr s) rl q)
  · unfold Rep at ry
    obtain ⟨a, rfl, ea⟩ := ry
    split at q
    · rename_i ys em
      obtain ⟨vs, e0, rl⟩ := hp.at_ ea em
      exact .inl (inL_ok hp rx (.inl (.inl (.inl e0))) rl q)
    · rename_i ys em
      obtain ⟨vs, e0, rl, _⟩ := hp.at_ ea em
      exact .inl (inL_ok hp rx (.inl e0) rl q)
    · exact q.elim
  · unfold Rep at rx ry
    subst rx ry
    split at q
    · rename_i c hc
      rw [str_one hc]
      exact .inr ⟨c, _, rfl, rfl, q.ok hp (by unfold Rep; rfl)⟩
    · exact q.elim
  · exact q.elim
theorem notin_ok : Cmp2 C (rNotInAll C.X.K) (gIn true) := by
  intro x y d e H μ η Q hp rx ry q
  unfold gIn at q
  split at q
  · unfold Rep at ry
    obtain ⟨a, vs, rfl, s, rl⟩ := ry
    exact .inl (inL_ok hp rx (.inr s) rl q)
  · unfold Rep at ry
    obtain ⟨a, rfl, ea⟩ := ry
    split at q
    · rename_i ys em
      obtain ⟨vs, e0, rl⟩ := hp.at_ ea em
      exact .inl (inL_ok hp rx (.inl (.inl (.inl e0))) rl q)
    · rename_i ys em
      obtain ⟨vs, e0, rl, _⟩ := hp.at_ ea em
      exact .inl (inL_ok hp rx (.inl e0) rl q)
    · exact q.elim
  · unfold Rep at rx ry
    subst rx ry
    split at q
    · rename_i c hc
      rw [str_one hc]
      exact .inr ⟨c, _, rfl, rfl, q.ok hp (by unfold Rep; rfl)⟩
    · exact q.elim
  · exact q.elim
section
variable {a b : Expr} {fa fb : EM} {pos : Pos}
theorem ev_in (ha : EV C a fa) (hb : EV C b fb) (hm : behindInMarks .In b = false := by with_unfolding_all rfl) : EV C (.Compare a [.In] [b] pos) (eB (t2 (gIn false) fa fb)) := ev_cmp (pe_cmpR (OpR.or op_in_seq op_in_sign) ha.pe hb.pe hm) in_ok
theorem tv_in (ha : EV C a fa) (hb : EV C b fb) (hm : behindInMarks .In b = false := by with_unfolding_all rfl) : TV C (.Compare a [.In] [b] pos) (t2 (gIn false) fa fb) := tv_cmp (pt_cmpR (OpR.or op_in_seq op_in_sign) ha.pe hb.pe hm) in_ok
theorem ev_notin (ha : EV C a fa) (hb : EV C b fb) (hm : behindInMarks .NotIn b = false := by with_unfolding_all rfl) : EV C (.Compare a [.NotIn] [b] pos) (eB (t2 (gIn true) fa fb)) := ev_cmp (pe_cmpR (OpR.or op_notIn_seq op_notIn_sign) ha.pe hb.pe hm) notin_ok
theorem tv_notin (ha : EV C a fa) (hb : EV C b fb) (hm : behindInMarks .NotIn b = false := by with_unfolding_all rfl) : TV C (.Compare a [.NotIn] [b] pos) (t2 (gIn true) fa fb) := tv_cmp (pt_cmpR (OpR.or op_notIn_seq op_notIn_sign) ha.pe hb.pe hm) notin_ok
end

/-! ### built-in calls -/
def eCB (g : List D → MH → Out D) (fs : AM) : EM := fun δ η => (fs δ η).bind g
def CallD (C : Cn) (r : List V → Hp → VK → Prop) (g : List D → MH → Out D) : Prop := ∀ vs ds H μ η Q, HRep C.X.K C.S.cl H μ η → RepL C.X.K H μ ds vs → Post C.X.K C.S C.E (Rep C.X.K) (g ds η) μ H Q → r vs H Q
theorem ev_cb {e : Expr} {r : List V → Hp → VK → Prop} {g : List D → MH → Out D} {fs : AM} (h : PE C.X e (tCB r (tAs C.X.K C.S C.E fs))) (hr : CallD C r g) : EV C e (eCB g fs) := ⟨by
  refine pe_weak h fun σ H Q ⟨μ, δ, η, hp, er, q⟩ => ?_
  refine ⟨μ, δ, η, hp, er, (Post.bind (R := RepL C.X.K) q).imp fun vs H1 ⟨μ1, ds, η1, k1, p1, h1, r1, q1⟩ => ?_⟩
  exact hr vs ds H1 μ1 η1 Q h1 r1 q1⟩
theorem RepL.one {K : PySem.W.Frag} {H : Hp} {μ : List Addr} {d : D} {vs : List V} (r : RepL K H μ [d] vs) : ∃ v, vs = [v] ∧ Rep K H μ d v := by
  unfold RepL at r
  obtain ⟨v, vr, rfl, r1, rr⟩ := r
  unfold RepL at rr
  subst rr
  exact ⟨v, rfl, r1⟩
theorem RepL.two {K : PySem.W.Frag} {H : Hp} {μ : List Addr} {d e : D} {vs : List V} (r : RepL K H μ [d, e] vs) : ∃ v u, vs = [v, u] ∧ Rep K H μ d v ∧ Rep K H μ e u := by
  unfold RepL at r
  obtain ⟨v, vr, rfl, r1, rr⟩ := r
  obtain ⟨u, rfl, r2⟩ := rr.one
  exact ⟨v, u, rfl, r1, r2⟩
/-- len -/
def gLen (ds : List D) (η : MH) : Out D := match ds with
  | [.tup xs] => .ok (.int xs.length) η
  | [.str z] => if z.length ≤ sizeLine then .ok (.int z.length) η else .bad
  | [.obj i] => match η[i]? with
    | some (.lst xs) => .ok (.int xs.length) η
    | some (.frz xs) => .ok (.int xs.length) η
    | _ => .bad
  | _ => .bad
abbrev rLenAll (K : PySem.W.Frag) : List V → Hp → VK → Prop := fun xs H Q => (∃ p ys, xs = [.ref p] ∧ (SqL K H p ys ∨ SqT K H p ys) ∧ Q (.int ys.length) H) ∨ ∃ z, xs = [.str z] ∧ z.length ≤ sizeLine ∧ Q (.int z.length) H
theorem len_ok : CallD C (rLenAll C.X.K) gLen := by
  intro vs ds H μ η Q hp r q
  unfold gLen at q
  split at q
  · obtain ⟨v, rfl, r1⟩ := r.one
    unfold Rep at r1
    obtain ⟨a, us, rfl, s, rl⟩ := r1
    refine .inl ⟨a, us, rfl, .inr s, ?_⟩
    rw [rl.length]
    exact q.ok hp (by unfold Rep; rfl)
  · obtain ⟨v, rfl, r1⟩ := r.one
    unfold Rep at r1
    subst r1
    split at q
    · rename_i hz
      exact .inr ⟨_, rfl, hz, q.ok hp (by unfold Rep; rfl)⟩
    · exact q.elim
  · obtain ⟨v, rfl, r1⟩ := r.one
    unfold Rep at r1
    obtain ⟨a, rfl, ea⟩ := r1
    split at q
    · rename_i xs em
      obtain ⟨us, e0, rl⟩ := hp.at_ ea em
      refine .inl ⟨a, us, rfl, .inl (.inl (.inl e0)), ?_⟩
      rw [rl.length]
      exact q.ok hp (by unfold Rep; rfl)
    · rename_i xs em
      obtain ⟨us, e0, rl, _⟩ := hp.at_ ea em
      refine .inl ⟨a, us, rfl, .inl e0, ?_⟩
      rw [rl.length]
      exact q.ok hp (by unfold Rep; rfl)
    · exact q.elim
  · exact q.elim
theorem call_lenAll {X : Cx} : CallR X (.builtin "len") (rLenAll X.K) := CallR.or call_len_seq call_len_str
/-- abs -/
def gAbs (ds : List D) (η : MH) : Out D := match ds with
  | [.int i] => .ok (.int (if i < 0 then -i else i)) η
  | _ => .bad
theorem abs_ok : CallD C (fun xs H Q => ∃ i, xs = [.int i] ∧ Q (.int (if i < 0 then -i else i)) H) gAbs := by
  intro vs ds H μ η Q hp r q
  unfold gAbs at q
  split at q
  · obtain ⟨v, rfl, r1⟩ := r.one
    unfold Rep at r1
    subst r1
    exact ⟨_, rfl, q.ok hp (by unfold Rep; rfl)⟩
  · exact q.elim
/-- int -/
def gInt (ds : List D) (η : MH) : Out D := match ds with
  | [.int i] => .ok (.int i) η
  | [.bl b] => .ok (.int (if b then 1 else 0)) η
  | [.str a] => match PySem.intText? a with
    | some n => if a.length ≤ 640 then .ok (.int n) η else .bad
    | none => .bad
  | _ => .bad
abbrev rIntAll : List V → Hp → VK → Prop := fun xs H Q => ((∃ i, xs = [.int i] ∧ Q (.int i) H) ∨ ∃ k, xs = [.bl k] ∧ Q (.int (if k then 1 else 0)) H) ∨ ∃ a n, xs = [.str a] ∧ PySem.intText? a = some n ∧ a.length ≤ 640 ∧ Q (.int n) H
theorem call_intAll {X : Cx} : CallR X (.type "int") rIntAll := CallR.or call_int1 call_int_str
theorem int_ok : CallD C rIntAll gInt := by
  intro vs ds H μ η Q hp r q
  unfold gInt at q
  split at q
  · obtain ⟨v, rfl, r1⟩ := r.one
    unfold Rep at r1
    subst r1
    exact .inl (.inl ⟨_, rfl, q.ok hp (by unfold Rep; rfl)⟩)
  · obtain ⟨v, rfl, r1⟩ := r.one
    unfold Rep at r1
    subst r1
    exact .inl (.inr ⟨_, rfl, q.ok hp (by unfold Rep; rfl)⟩)
  · obtain ⟨v, rfl, r1⟩ := r.one
    unfold Rep at r1
    subst r1
    split at q
    · rename_i n hn
      split at q
      · rename_i hl
        exact .inr ⟨_, n, rfl, hn, hl, q.ok hp (by unfold Rep; rfl)⟩
      · exact q.elim
    · exact q.elim
  · exact q.elim
/-- str of an int -/
def gStr (ds : List D) (η : MH) : Out D := match ds with
  | [.int i] => if i.natAbs.log2 < 1920 then .ok (.str (Str.ofString (toString i))) η else .bad
  | _ => .bad
theorem str_ok : CallD C (fun xs H Q => ∃ i, xs = [.int i] ∧ i.natAbs.log2 < 1920 ∧ Q (.str (toString i)) H) gStr := by
  intro vs ds H μ η Q hp r q
  unfold gStr at q
  split at q
  · obtain ⟨v, rfl, r1⟩ := r.one
    unfold Rep at r1
    subst r1
    split at q
    · rename_i hl
      exact ⟨_, rfl, hl, q.ok hp (by unfold Rep; rfl)⟩
    · exact q.elim
  · exact q.elim
/-- tuple(..), list(..) -/
def gTuple (ds : List D) (η : MH) : Out D := match ds with
  | [.tup xs] => .ok (.tup xs) η
  | [.obj i] => match η[i]? with
    | some (.lst xs) => .ok (.tup xs) η
    | some (.frz xs) => .ok (.tup xs) η
    | _ => .bad
  | _ => .bad
abbrev rTupleAll (K : PySem.W.Frag) : List V → Hp → VK → Prop := fun xs H Q => ∃ p ys, xs = [.ref p] ∧ ((SqL K H p ys ∧ ∀ l, H l = none → Q (.ref l) (upd H l (.tup ys))) ∨ (SqT K H p ys ∧ Q (.ref p) H))
theorem tuple_ok : CallD C (rTupleAll C.X.K) gTuple := by
  intro vs ds H μ η Q hp r q
  unfold gTuple at q
  split at q
  · obtain ⟨v, rfl, r1⟩ := r.one
    have r2 := r1
    unfold Rep at r1
    obtain ⟨a, us, rfl, s, rl⟩ := r1
    exact ⟨a, us, rfl, .inr ⟨s, q.ok hp r2⟩⟩
  · obtain ⟨v, rfl, r1⟩ := r.one
    unfold Rep at r1
    obtain ⟨a, rfl, ea⟩ := r1
    split at q
    · rename_i xs em
      obtain ⟨us, e0, rl⟩ := hp.at_ ea em
      exact ⟨a, us, rfl, .inl ⟨.inl (.inl e0), fun l nl => q.newTup hp rl nl⟩⟩
    · rename_i xs em
      obtain ⟨us, e0, rl, _⟩ := hp.at_ ea em
      exact ⟨a, us, rfl, .inl ⟨e0, fun l nl => q.newTup hp rl nl⟩⟩
    · exact q.elim
  · exact q.elim
def gList (ds : List D) (η : MH) : Out D := match ds with
  | [.tup xs] => .ok (.obj η.length) (η ++ [.lst xs])
  | [.obj i] => match η[i]? with
    | some (.lst xs) => .ok (.obj η.length) (η ++ [.lst xs])
    | some (.frz xs) => .ok (.obj η.length) (η ++ [.lst xs])
    | _ => .bad
  | _ => .bad
abbrev rListAll (K : PySem.W.Frag) : List V → Hp → VK → Prop := fun xs H Q => ∃ p ys, xs = [.ref p] ∧ (SqL K H p ys ∨ SqT K H p ys) ∧ ∀ l, H l = none → Q (.ref l) (upd H l (.lst ys))
theorem list_ok : CallD C (rListAll C.X.K) gList := by
  intro vs ds H μ η Q hp r q
  unfold gList at q
  split at q
  · obtain ⟨v, rfl, r1⟩ := r.one
    unfold Rep at r1
    obtain ⟨a, us, rfl, s, rl⟩ := r1
    exact ⟨a, us, rfl, .inr s, fun l nl => q.newLst hp rl nl⟩
  · obtain ⟨v, rfl, r1⟩ := r.one
    unfold Rep at r1
    obtain ⟨a, rfl, ea⟩ := r1
    split at q
    · rename_i xs em
      obtain ⟨us, e0, rl⟩ := hp.at_ ea em
      exact ⟨a, us, rfl, .inl (.inl (.inl e0)), fun l nl => q.newLst hp rl nl⟩
    · rename_i xs em
      obtain ⟨us, e0, rl, _⟩ := hp.at_ ea em
      exact ⟨a, us, rfl, .inl e0, fun l nl => q.newLst hp rl nl⟩
    · exact q.elim
  · exact q.elim
section
variable {e : Expr} {es : List Expr} {fs : AM} {p pos : Pos}
theorem ev_len (hg : Gl C.X "len") (hm : C.X.mg "len" = none) (ha : AV C [e] fs) (he : starEach [e] C.X.env = (false, eval e C.X.env) :: starEach [] C.X.env := by rfl) : EV C (.Call (.Name "len" p) [e] [] pos) (eCB gLen fs) :=
  ev_cb (pe_callB call_lenAll hg hm boot_len ha.pa (he := he) (hpl := by rfl)) len_ok
theorem ev_abs (hg : Gl C.X "abs") (hm : C.X.mg "abs" = none) (ha : AV C [e] fs) (he : starEach [e] C.X.env = (false, eval e C.X.env) :: starEach [] C.X.env := by rfl) : EV C (.Call (.Name "abs" p) [e] [] pos) (eCB gAbs fs) :=
  ev_cb (pe_callB call_abs hg hm (by decide +kernel) ha.pa (he := he) (hpl := by rfl)) abs_ok
theorem ev_int (hg : Gl C.X "int") (hm : C.X.mg "int" = none) (ha : AV C [e] fs) (he : starEach [e] C.X.env = (false, eval e C.X.env) :: starEach [] C.X.env := by rfl) : EV C (.Call (.Name "int" p) [e] [] pos) (eCB gInt fs) :=
  ev_cb (pe_callTy call_intAll hg hm (by decide +kernel) ha.pa (he := he) (hpl := by rfl)) int_ok
theorem ev_str (hg : Gl C.X "str") (hm : C.X.mg "str" = none) (ha : AV C [e] fs) (he : starEach [e] C.X.env = (false, eval e C.X.env) :: starEach [] C.X.env := by rfl) : EV C (.Call (.Name "str" p) [e] [] pos) (eCB gStr fs) :=
  ev_cb (pe_callTy call_str_int hg hm (by decide +kernel) ha.pa (he := he) (hpl := by rfl)) str_ok
theorem ev_tuple (hg : Gl C.X "tuple") (hm : C.X.mg "tuple" = none) (ha : AV C [e] fs) (he : starEach [e] C.X.env = (false, eval e C.X.env) :: starEach [] C.X.env := by rfl) : EV C (.Call (.Name "tuple" p) [e] [] pos) (eCB gTuple fs) :=
  ev_cb (pe_callTy call_tuple_of hg hm (by decide +kernel) ha.pa (he := he) (hpl := by rfl)) tuple_ok
theorem ev_list (hg : Gl C.X "list") (hm : C.X.mg "list" = none) (ha : AV C [e] fs) (he : starEach [e] C.X.env = (false, eval e C.X.env) :: starEach [] C.X.env := by rfl) : EV C (.Call (.Name "list" p) [e] [] pos) (eCB gList fs) :=
  ev_cb (pe_callTy call_list_of hg hm (by decide +kernel) ha.pa (he := he) (hpl := by rfl)) list_ok
end
end EV
/-! E5: isinstance, methods of lists and texts. -/
namespace EV
open PySem PySem.Spec PyProof.Rows L2
variable {C : Cn}

/-! ### isinstance(x, T) -/
def dTy (η : MH) : D → Option String
  | .non => some "NoneType"
  | .bl _ => some "bool"
  | .int _ => some "int"
  | .str _ => some "str"
  | .tup _ => some "tuple"
  | .obj i => match η[i]? with
    | some (.lst _) => some "list"
    | some (.frz _) => some "list"
    | _ => none
def gIsi (T : String) (x : D) (η : MH) : Out Bool := match dTy η x with
  | some t => match kitB t T with
    | some b => .ok b η
    | none => .bad
  | none => .bad
theorem tyx_of {K : PySem.W.Frag} {cl : Clss} {H : Hp} {μ : List Addr} {η : MH} {d : D} {v : V} {t : String} (hp : HRep K cl H μ η) (r : Rep K H μ d v) (e : dTy η d = some t) : TyX K H v (.type t) := by
  cases d with
  | non => unfold Rep at r; unfold dTy at e; cases e; subst r; exact .base .non
  | bl b => unfold Rep at r; unfold dTy at e; cases e; subst r; exact .base (.bl b)
  | int i => unfold Rep at r; unfold dTy at e; cases e; subst r; exact .base (.int i)
  | str x => unfold Rep at r; unfold dTy at e; cases e; subst r; exact .base (.str x)
  | tup ds =>
    unfold Rep at r
    unfold dTy at e
    cases e
    obtain ⟨a, vs, rfl, s, _⟩ := r
    rcases s with s | ⟨o, its, n, hk, hc, _⟩
    · rcases s with s | ⟨ob, s⟩
      · exact .base (.tup s)
      · exact .fTuple s
    · exact .kTuple hk hc
  | obj i =>
    unfold Rep at r
    obtain ⟨a, rfl, ea⟩ := r
    unfold dTy at e
    simp only at e
    split at e
    · rename_i xs em
      cases e
      obtain ⟨vs, e0, rl⟩ := hp.at_ ea em
      exact .base (.lst e0)
    · rename_i xs em
      cases e
      obtain ⟨vs, e0, rl, _⟩ := hp.at_ ea em
      rcases e0 with s | ⟨o, its, n, hk, hc, _⟩
      · rcases s with s | ⟨ob, s⟩
        · exact .base (.lst s)
        · exact .base (.frz s)
      · exact .kList hk hc
    · cases e
def eIsi (T : String) (a : EM) : TM := fun δ η => (a δ η).bind (gIsi T)
theorem isi_t {e1 : Expr} {f1 : EM} {T : String} {σ : L2.St} {H : Hp} {Q : VK} (h : ∃ μ δ η, HRep C.X.K C.S.cl H μ η ∧ ERep C.X.K H μ δ σ ∧ Post C.X.K C.S C.E (Rep C.X.K) ((eIsi T f1 δ η).bind fun b η => .ok (.bl b) η) μ H Q) :
    tCB (rIsi C.X.K) (tCons (tE C.X.K C.S C.E f1) (tCons (tC (.ty T)) tNil)) σ H Q := by
  obtain ⟨μ, δ, η, hp, er, q⟩ := h
  unfold eIsi at q
  simp only [Out.bind_assoc] at q
  refine ⟨μ, δ, η, hp, er, (Post.bind (R := Rep C.X.K) q).imp fun x H1 ⟨μ1, d, η1, k1, p1, h1, r1, q1⟩ => ?_⟩
  unfold gIsi at q1
  dsimp only at q1
  split at q1
  · rename_i t et
    split at q1
    · rename_i b hb
      exact ⟨x, .ty T, .type t, .type T, b, rfl, .ty T, tyx_of h1 r1 et, kit_ty hb, q1.ok h1 (by unfold Rep; rfl)⟩
    · exact q1.elim
  · exact q1.elim
theorem ev_isi {e1 : Expr} {f1 : EM} {T : String} {ts : Str} {p p2 pos : Pos} (hg : Gl C.X "isinstance") (hm : C.X.mg "isinstance" = none) (hgT : Gl C.X ts) (hmT : C.X.mg ts = none) (hv : bootBuiltins ts = some (.type T)) (h1 : EV C e1 f1)
    (hn : ts ≠ "__name__" := by decide) (hd : (ts == ("__debug__" : Str)) = false := by decide) (hs : starEach [e1, .Name ts p2] C.X.env = (false, eval e1 C.X.env) :: starEach [.Name ts p2] C.X.env := by rfl) : EV C (.Call (.Name "isinstance" p) [e1, .Name ts p2] [] pos) (eB (eIsi T f1)) := ⟨by
  refine pe_weak (pe_callB call_isi hg hm (by decide +kernel) (pa_cons h1.pe (pa_cons (pe_bltn (v := .ty T) hgT hmT hv rfl hn hd) pa_nil (hs := by rfl)) hs) (he := hs) (hpl := by rfl)) fun σ H Q q => ?_
  exact isi_t (e1 := e1) q⟩
/-! ### what changes a list -/
theorem HRep.setLst {K : PySem.W.Frag} {cl : Clss} {H : Hp} {μ : List Addr} {η : MH} {i : Nat} {a : Addr} {xs ys : List D} {vs us : List V} (hp : HRep K cl H μ η) (ea : μ[i]? = some a) (em : η[i]? = some (.lst xs)) (e0 : H a = some (.lst vs)) (r : RepL K H μ ys us) :
    HRep K cl (upd H a (.lst us)) μ (η.set i (.lst ys)) ∧ Keep K H (upd H a (.lst us)) := by
  have v : Vol (H a) := by rw [e0]; exact vol_lst
  exact ⟨hp.set ea em rfl rfl v ⟨us, upd_same, r.mono (keep_upd v) (List.prefix_refl _)⟩, keep_upd v⟩
theorem Post.setLst {S : Sg} {E : XK} {K : PySem.W.Frag} {H : Hp} {μ : List Addr} {η : MH} {i : Nat} {a : Addr} {xs ys : List D} {vs us : List V} {d : D} {v : V} {Q : VK} (q : Post K S E (Rep K) (.ok d (η.set i (.lst ys))) μ H Q) (hp : HRep K S.cl H μ η) (ea : μ[i]? = some a) (em : η[i]? = some (.lst xs)) (e0 : H a = some (.lst vs)) (r : RepL K H μ ys us) (rd : Rep K H μ d v) :
    Q v (upd H a (.lst us)) := by
  obtain ⟨h1, k1⟩ := hp.setLst ea em e0 r
  exact q v _ μ k1 (List.prefix_refl _) h1 (rd.mono k1 (List.prefix_refl _))
def gAppend (x : D) (ds : List D) (η : MH) : Out D := match x, ds with
  | .obj i, [d] => match η[i]? with
    | some (.lst xs) => if xs.length < sizeLine then .ok .non (η.set i (.lst (xs ++ [d]))) else .bad
    | _ => .bad
  | _, _ => .bad
def gExtend (x : D) (ds : List D) (η : MH) : Out D := match x, ds with
  | .obj i, [.obj j] => match η[i]?, η[j]? with
    | some (.lst xs), some (.lst ys) => if xs.length + ys.length ≤ sizeLine then .ok .non (η.set i (.lst (xs ++ ys))) else .bad
    | _, _ => .bad
  | _, _ => .bad
def gPop (x : D) (ds : List D) (η : MH) : Out D := match x, ds with
  | .obj i, [] => match η[i]? with
    | some (.lst xs) => match xs[xs.length - 1]? with
      | some d => .ok d (η.set i (.lst xs.dropLast))
      | none => .bad
    | _ => .bad
  | _, _ => .bad
def eMt (g : D → List D → MH → Out D) (o : EM) (fs : AM) : EM := fun δ η => (o δ η).bind fun x η => (fs δ η).bind fun ds η => g x ds η
/-- the receiver is a list -/
def isLst (η : MH) : D → Bool
  | .obj i => match η[i]? with
    | some (.lst _) => true
    | _ => false
  | _ => false
theorem tyv_lst {K : PySem.W.Frag} {cl : Clss} {H : Hp} {μ : List Addr} {η : MH} {d : D} {v : V} (hp : HRep K cl H μ η) (r : Rep K H μ d v) (e : isLst η d = true) : tyV K "list" v H := by
  cases d with
  | obj i =>
    unfold Rep at r
    obtain ⟨a, rfl, ea⟩ := r
    unfold isLst at e
    simp only at e
    split at e
    · rename_i xs em
      obtain ⟨vs, e0, rl⟩ := hp.at_ ea em
      exact .inl ⟨rfl, vs, .inl (.inl e0)⟩
    · cases e
  | _ => cases e
def MtD (C : Cn) (r : V → List V → Hp → VK → Prop) (g : D → List D → MH → Out D) : Prop := ∀ x d vs ds H μ η Q, HRep C.X.K C.S.cl H μ η → Rep C.X.K H μ d x → RepL C.X.K H μ ds vs → Post C.X.K C.S C.E (Rep C.X.K) (g d ds η) μ H Q → r x vs H Q
/-- a method of a list: the receiver is looked at ahead of the arguments -/
def eMtL (g : D → List D → MH → Out D) (o : EM) (fs : AM) : EM := fun δ η => (o δ η).bind fun x η => if isLst η x then (fs δ η).bind fun ds η => g x ds η else .bad
theorem ev_mtL {e : Expr} {fo : EM} {fs : AM} {r : V → List V → Hp → VK → Prop} {g : D → List D → MH → Out D} (h : PE C.X e (tBM C.X.K "list" r (tE C.X.K C.S C.E fo) (tAs C.X.K C.S C.E fs))) (hr : MtD C r g) : EV C e (eMtL g fo fs) := ⟨by
  refine pe_weak h fun σ H Q ⟨μ, δ, η, hp, er, q⟩ => ?_
  refine ⟨μ, δ, η, hp, er, (Post.bind (R := Rep C.X.K) q).imp fun x H1 ⟨μ1, d, η1, k1, p1, h1, r1, q1⟩ => ?_⟩
  dsimp only at q1
  split at q1
  · rename_i hl
    refine ⟨tyv_lst h1 r1 hl, μ1, δ, η1, h1, er.mono k1 p1, (Post.bind (R := RepL C.X.K) q1).imp fun vs H2 ⟨μ2, ds, η2, k2, p2, h2, r2, q2⟩ => ?_⟩
    exact hr x d vs ds H2 μ2 η2 Q h2 (r1.mono k2 p2) r2 q2
  · exact q1.elim⟩
def eMtL0 (g : D → List D → MH → Out D) (o : EM) : EM := fun δ η => (o δ η).bind fun x η => if isLst η x then g x [] η else .bad
theorem ev_mtL0 {e : Expr} {fo : EM} {r : V → List V → Hp → VK → Prop} {g : D → List D → MH → Out D} (h : PE C.X e (tBM0 C.X.K "list" r (tE C.X.K C.S C.E fo))) (hr : MtD C r g) : EV C e (eMtL0 g fo) := ⟨by
  refine pe_weak h fun σ H Q ⟨μ, δ, η, hp, er, q⟩ => ?_
  refine ⟨μ, δ, η, hp, er, (Post.bind (R := Rep C.X.K) q).imp fun x H1 ⟨μ1, d, η1, k1, p1, h1, r1, q1⟩ => ?_⟩
  dsimp only at q1
  split at q1
  · rename_i hl
    exact ⟨tyv_lst h1 r1 hl, hr x d [] [] H1 μ1 η1 Q h1 r1 RepL.nil q1⟩
  · exact q1.elim⟩
theorem append_ok : MtD C rAppend gAppend := by
  intro x d vs ds H μ η Q hp r rs q
  unfold gAppend at q
  split at q
  · unfold Rep at r
    obtain ⟨a, rfl, ea⟩ := r
    obtain ⟨v, rfl, r1⟩ := rs.one
    split at q
    · rename_i xs em
      obtain ⟨us, e0, rl⟩ := hp.at_ ea em
      split at q
      · rename_i hl
        exact ⟨a, us, v, rfl, rfl, e0, by rw [rl.length]; exact hl, q.setLst hp ea em e0 (rl.append (RepL.cons r1 RepL.nil)) (by unfold Rep; rfl)⟩
      · exact q.elim
    · exact q.elim
  · exact q.elim
theorem extend_ok : MtD C rExtend gExtend := by
  intro x d vs ds H μ η Q hp r rs q
  unfold gExtend at q
  split at q
  · unfold Rep at r
    obtain ⟨a, rfl, ea⟩ := r
    obtain ⟨v, rfl, r1⟩ := rs.one
    unfold Rep at r1
    obtain ⟨b, rfl, eb⟩ := r1
    split at q
    · rename_i xs ys em en
      obtain ⟨us, e0, rl⟩ := hp.at_ ea em
      obtain ⟨ws, e1, rl2⟩ := hp.at_ eb en
      split at q
      · rename_i hl
        exact ⟨a, b, us, ws, rfl, rfl, e0, e1, by rw [rl.length, rl2.length]; exact hl, q.setLst hp ea em e0 (rl.append rl2) (by unfold Rep; rfl)⟩
      · exact q.elim
    · exact q.elim
  · exact q.elim
theorem pop_ok : MtD C rPop gPop := by
  intro x d vs ds H μ η Q hp r rs q
  unfold gPop at q
  split at q
  · unfold Rep at r
    obtain ⟨a, rfl, ea⟩ := r
    unfold RepL at rs
    subst rs
    split at q
    · rename_i xs em
      obtain ⟨us, e0, rl⟩ := hp.at_ ea em
      split at q
      · rename_i d' hd
        obtain ⟨y, ey, ry⟩ := rl.get hd
        exact ⟨a, us, y, rfl, rfl, e0, by rw [rl.length]; exact ey, q.setLst hp ea em e0 rl.dropLast ry⟩
      · exact q.elim
    · exact q.elim
  · exact q.elim
section
variable {o e : Expr} {fo fe : EM} {fs : AM} {apos cpos : Pos}
theorem ev_append (ho : EV C o fo) (ha : AV C [e] fs) (hbase : attributeBase o "append" C.X.env (eval o C.X.env) = eval o C.X.env := by rfl)
    (hfew : ((backTo cpos (starEach [e] C.X.env)).all (fun x => !x.1) && (backToKw cpos (keywordEach [] C.X.env)).all (fun x => x.1.isSome) && decide ([e].length + ([] : List Keyword).length + (if ([] : List Keyword).isEmpty then 0 else 1) < 30)) = true := by rfl)
    (hline : (apos.endLine == cpos.line) = true := by rfl) (hs : starEach [e] C.X.env = (false, eval e C.X.env) :: starEach [] C.X.env := by rfl) : EV C (.Call (.Attribute o "append" apos) [e] [] cpos) (eMtL gAppend fo fs) :=
  ev_mtL (pe_bm PySem.F.plainAttrs_list PySem.F.slot_list_append PySem.F.type_list_append mt_append ho.pe ha.pa hbase hfew hline hs (by rfl)) append_ok
theorem ev_extend (ho : EV C o fo) (ha : AV C [e] fs) (hbase : attributeBase o "extend" C.X.env (eval o C.X.env) = eval o C.X.env := by rfl)
    (hfew : ((backTo cpos (starEach [e] C.X.env)).all (fun x => !x.1) && (backToKw cpos (keywordEach [] C.X.env)).all (fun x => x.1.isSome) && decide ([e].length + ([] : List Keyword).length + (if ([] : List Keyword).isEmpty then 0 else 1) < 30)) = true := by rfl)
    (hline : (apos.endLine == cpos.line) = true := by rfl) (hs : starEach [e] C.X.env = (false, eval e C.X.env) :: starEach [] C.X.env := by rfl) : EV C (.Call (.Attribute o "extend" apos) [e] [] cpos) (eMtL gExtend fo fs) :=
  ev_mtL (pe_bm PySem.F.plainAttrs_list PySem.F.slot_list_extend PySem.F.type_list_extend mt_extend ho.pe ha.pa hbase hfew hline hs (by rfl)) extend_ok
theorem ev_pop (ho : EV C o fo) (hbase : attributeBase o "pop" C.X.env (eval o C.X.env) = eval o C.X.env := by rfl) (hline : (apos.endLine == cpos.line) = true := by rfl) : EV C (.Call (.Attribute o "pop" apos) [] [] cpos) (eMtL0 gPop fo) :=
  ev_mtL0 (pe_bm0 PySem.F.plainAttrs_list PySem.F.slot_list_pop PySem.F.type_list_pop mt_pop ho.pe hbase hline) pop_ok
/-- text.partition(sep) -/
def gPartition (x : D) (ds : List D) (η : MH) : Out D := match x, ds with
  | .str a, [.str b] => if (b.length == 0) = false ∧ a.length ≤ sizeLine then .ok (.tup [.str (Txt.partition a b).1, .str (Txt.partition a b).2.1, .str (Txt.partition a b).2.2]) η else .bad
  | _, _ => .bad
def gStrR (x : D) : Bool := match x with
  | .str _ => true
  | _ => false
def eMtS (g : D → List D → MH → Out D) (o : EM) (e : EM) : EM := fun δ η => (o δ η).bind fun x η => if gStrR x then (e δ η).bind fun d η => g x [d] η else .bad
theorem ev_mtS {x : Expr} {r : V → List V → Hp → VK → Prop} {g : D → List D → MH → Out D} (h : PE C.X x (tM1 r (tE C.X.K C.S C.E fo) (tE C.X.K C.S C.E fe))) (hr : MtD C r g) : EV C x (eMtS g fo fe) := ⟨by
  refine pe_weak h fun σ H Q ⟨μ, δ, η, hp, er, q⟩ => ?_
  refine ⟨μ, δ, η, hp, er, (Post.bind (R := Rep C.X.K) q).imp fun x H1 ⟨μ1, d, η1, k1, p1, h1, r1, q1⟩ => ?_⟩
  dsimp only at q1
  split at q1
  · rename_i hl
    refine ⟨?_, μ1, δ, η1, h1, er.mono k1 p1, (Post.bind (R := Rep C.X.K) q1).imp fun v H2 ⟨μ2, ds, η2, k2, p2, h2, r2, q2⟩ => ?_⟩
    · cases d with
      | str a => unfold Rep at r1; exact ⟨a, r1⟩
      | _ => cases hl
    · exact hr x d [v] [ds] H2 μ2 η2 Q h2 (r1.mono k2 p2) (RepL.cons r2 RepL.nil) q2
  · exact q1.elim⟩
theorem partition_ok : MtD C (fun x xs H Q => ∃ a b, x = .str a ∧ xs = [.str b] ∧ (b.length == 0) = false ∧ a.length ≤ sizeLine ∧
      ∀ p, H p = none → Q (.ref p) (upd H p (.tup [.str (Txt.partition a b).1, .str (Txt.partition a b).2.1, .str (Txt.partition a b).2.2]))) gPartition := by
  intro x d vs ds H μ η Q hp r rs q
  unfold gPartition at q
  split at q
  · unfold Rep at r
    subst r
    obtain ⟨v, rfl, r1⟩ := rs.one
    unfold Rep at r1
    subst r1
    split at q
    · rename_i h
      exact ⟨_, _, rfl, rfl, h.1, h.2, fun p np => q.newTup hp (RepL.cons (by unfold Rep; rfl) (RepL.cons (by unfold Rep; rfl) (RepL.cons (by unfold Rep; rfl) RepL.nil))) np⟩
    · exact q.elim
  · exact q.elim
theorem ev_partition (ho : EV C o fo) (he : EV C e fe) (hs : starEach [e] C.X.env = [(false, eval e C.X.env)] := by rfl) (hbase : attributeBase o "partition" C.X.env (eval o C.X.env) = eval o C.X.env := by rfl) (hline : (apos.endLine == cpos.line) = true := by rfl) :
    EV C (.Call (.Attribute o "partition" apos) [e] [] cpos) (eMtS gPartition fo fe) := ev_mtS (pe_partition ho.pe he.pe hs hbase hline) partition_ok
end
end EV
/-! E6: statements. -/
namespace EV
open PySem PySem.Spec PyProof.Rows L2

inductive Fl where
  | nx | brk | cnt | ret (d : D)
abbrev SM := En → MH → Out (Fl × En)
def flow (K : PySem.W.Frag) (fl : Fl) (σ : L2.St) (H : Hp) (μ : List Addr) (Dn : Ends) : Prop := match fl with
  | .nx => Dn.nx σ H
  | .brk => Dn.bk σ H
  | .cnt => Dn.ct σ H
  | .ret d => ∀ v, Rep K H μ d v → Dn.rt v H
def PostS (K : PySem.W.Frag) (S : Sg) (E : XK) (r : Out (Fl × En)) (μ : List Addr) (H : Hp) (Dn : Ends) : Prop := match r with
  | .ok a η => ∀ σ' H' μ', Keep K H H' → μ <+: μ' → HRep K S.cl H' μ' η → ERep K H' μ' a.2 σ' → flow K a.1 σ' H' μ' Dn
  | .exc x η => ∀ cls d H' μ', Keep K H H' → μ <+: μ' → HRep K S.cl H' μ' η → XRep K S H' μ' x cls d → E cls d H'
  | .bad => False
section
variable {K : PySem.W.Frag} {S : Sg} {E : XK} {H H1 : Hp} {μ μ1 : List Addr}
theorem PostS.mono {r : Out (Fl × En)} {Dn : Ends} (h : PostS K S E r μ H Dn) (k : Keep K H H1) (p : μ <+: μ1) : PostS K S E r μ1 H1 Dn := by
  cases r with
  | ok a η => exact fun b H' μ' k' p' => h b H' μ' (k.trans k') (p.trans p')
  | exc x η => exact fun c d H' μ' k' p' => h c d H' μ' (k.trans k') (p.trans p')
  | bad => exact h
theorem PostS.ok {a : Fl} {δ : En} {η : MH} {σ : L2.St} {Dn : Ends} (h : PostS K S E (.ok (a, δ) η) μ H Dn) (hr : HRep K S.cl H μ η) (er : ERep K H μ δ σ) : flow K a σ H μ Dn :=
  h σ H μ (Keep.refl _) (List.prefix_refl _) hr er
/-- an expression ahead of the rest -/
def MidS {α β : Type} (K : PySem.W.Frag) (S : Sg) (E : XK) (R : RR α β) (k : α → MH → Out (Fl × En)) (μ : List Addr) (H : Hp) (Dn : Ends) : β → Hp → Prop := fun b H1 =>
  ∃ μ1 a η1, Keep K H H1 ∧ μ <+: μ1 ∧ HRep K S.cl H1 μ1 η1 ∧ R H1 μ1 a b ∧ PostS K S E (k a η1) μ1 H1 Dn
theorem PostS.bind {α β : Type} {R : RR α β} {r : Out α} {k : α → MH → Out (Fl × En)} {Dn : Ends} (h : PostS K S E (r.bind k) μ H Dn) : Post K S E R r μ H (MidS K S E R k μ H Dn) := by
  cases r with
  | ok a η => exact fun b H' μ' k' p' hr r => ⟨μ', a, η, k', p', hr, r, PostS.mono h k' p'⟩
  | exc x η => exact h
  | bad => exact h
end
def tS (K : PySem.W.Frag) (S : Sg) (E : XK) (f : SM) : TS := fun Dn σ H => ∃ μ δ η, HRep K S.cl H μ η ∧ ERep K H μ δ σ ∧ PostS K S E (f δ η) μ H Dn
variable {C : Cn}
structure SV (C : Cn) (st : Stmt) (f : SM) : Prop where
  ps : PS C.X st (tS C.X.K C.S C.E f)
structure SSV (C : Cn) (st : List Stmt) (f : SM) : Prop where
  pss : PSs C.X st (tS C.X.K C.S C.E f)
theorem ps_weak {X : Cx} {e : Stmt} {t t' : TS} (h : PS X e t) (g : ∀ D σ H, t' D σ H → t D σ H) : PS X e t' := ⟨fun pins s σ H D I q => h.run pins s σ H D I (g D σ H q)⟩
theorem pss_weak {X : Cx} {e : List Stmt} {t t' : TS} (h : PSs X e t) (g : ∀ D σ H, t' D σ H → t D σ H) : PSs X e t' := ⟨fun pins s σ H D I q => h.run pins s σ H D I (g D σ H q)⟩
/-- behind a statement -/
def andThen (g : SM) : Fl × En → MH → Out (Fl × En) := fun a η => match a.1 with
  | .nx => g a.2 η
  | fl => .ok (fl, a.2) η
def sNext : SM := fun δ η => .ok (.nx, δ) η
def sSeq (f g : SM) : SM := fun δ η => (f δ η).bind (andThen g)
theorem PostS.seq {K : PySem.W.Frag} {S : Sg} {E : XK} {H : Hp} {μ : List Addr} {r : Out (Fl × En)} {g : SM} {Dn : Ends} (h : PostS K S E (r.bind (andThen g)) μ H Dn) : PostS K S E r μ H { Dn with nx := tS K S E g Dn } := by
  cases r with
  | ok a η =>
    intro σ' H' μ' k p hr er
    obtain ⟨fl, δ⟩ := a
    cases fl with
    | nx => exact ⟨μ', δ, η, hr, er, PostS.mono h k p⟩
    | brk => exact h σ' H' μ' k p hr er
    | cnt => exact h σ' H' μ' k p hr er
    | ret d => exact h σ' H' μ' k p hr er
  | exc x η => exact h
  | bad => exact h
theorem ssv_nil : SSV C [] sNext := ⟨by
  refine pss_weak pss_nil fun D σ H ⟨μ, δ, η, hp, er, q⟩ => ?_
  exact q.ok hp er⟩
theorem ssv_cons {st : Stmt} {rest : List Stmt} {f g : SM} (h1 : SV C st f) (h2 : SSV C rest g) : SSV C (st :: rest) (sSeq f g) := ⟨by
  refine pss_weak (pss_cons h1.ps h2.pss) fun D σ H ⟨μ, δ, η, hp, er, q⟩ => ?_
  exact ⟨μ, δ, η, hp, er, q.seq⟩⟩
theorem ssv_one {st : Stmt} {f : SM} (h1 : SV C st f) : SSV C [st] f := ⟨pss_one h1.ps⟩
def sBad : SM := fun _ _ => .bad
theorem ssv_bad {st : List Stmt} : SSV C st sBad := ⟨⟨fun _ _ _ _ _ _ h => (by obtain ⟨μ, δ, η, hp, er, q⟩ := h; exact q.elim)⟩⟩
theorem sv_bad {st : Stmt} : SV C st sBad := ⟨⟨fun _ _ _ _ _ _ h => (by obtain ⟨μ, δ, η, hp, er, q⟩ := h; exact q.elim)⟩⟩
def sBrk : SM := fun δ η => .ok (.brk, δ) η
def sCnt : SM := fun δ η => .ok (.cnt, δ) η
section
variable {pos : Pos} {e : Expr} {f : EM}
theorem sv_pass : SV C (.Pass pos) sNext := ⟨by
  refine ps_weak ps_pass fun D σ H ⟨μ, δ, η, hp, er, q⟩ => ?_
  exact q.ok hp er⟩
theorem sv_brk : SV C (.Break pos) sBrk := ⟨by
  refine ps_weak ps_break fun D σ H ⟨μ, δ, η, hp, er, q⟩ => ?_
  exact q.ok hp er⟩
theorem sv_cnt : SV C (.Continue pos) sCnt := ⟨by
  refine ps_weak ps_continue fun D σ H ⟨μ, δ, η, hp, er, q⟩ => ?_
  exact q.ok hp er⟩
theorem sv_doc {x : Str} {j : Nat} {pos' : Pos} : SV C (.Expr (.Constant (.str x) j pos) pos') sNext := ⟨by
  refine ps_weak ps_doc fun D σ H ⟨μ, δ, η, hp, er, q⟩ => ?_
  exact q.ok hp er⟩
def sDrop (f : EM) : SM := fun δ η => (f δ η).bind fun _ η => .ok (.nx, δ) η
theorem sv_expr (h : EV C e f) (hs : swapsWith e none pos.line C.X.env = pure false := by rfl) : SV C (.Expr e pos) (sDrop f) := ⟨by
  refine ps_weak (ps_expr h.pe hs) fun D σ H ⟨μ, δ, η, hp, er, q⟩ => ?_
  refine ⟨μ, δ, η, hp, er, (PostS.bind (R := Rep C.X.K) q).imp fun x H1 ⟨μ1, d, η1, k1, p1, h1, r1, q1⟩ => ?_⟩
  exact q1.ok h1 (er.mono k1 p1)⟩
def sRet (f : EM) : SM := fun δ η => (f δ η).bind fun d η => .ok (.ret d, δ) η
theorem sv_ret (h : EV C e f) : SV C (.Return (some e) pos) (sRet f) := ⟨by
  refine ps_weak (ps_ret h.pe) fun D σ H ⟨μ, δ, η, hp, er, q⟩ => ?_
  refine ⟨μ, δ, η, hp, er, (PostS.bind (R := Rep C.X.K) q).imp fun x H1 ⟨μ1, d, η1, k1, p1, h1, r1, q1⟩ => ?_⟩
  exact q1.ok h1 (er.mono k1 p1) x r1⟩
def sIf (c : TM) (a b : SM) : SM := fun δ η => (c δ η).bind fun k η => if k then a δ η else b δ η
theorem sv_if {c : Expr} {fc : TM} {a b : List Stmt} {fa fb : SM} (hc : TV C c fc) (ha : SSV C a fa) (hb : SSV C b fb) : SV C (.If c a b pos) (sIf fc fa fb) := ⟨by
  refine ps_weak (ps_if hc.pt ha.pss hb.pss) fun D σ H ⟨μ, δ, η, hp, er, q⟩ => ?_
  refine ⟨μ, δ, η, hp, er, (PostS.bind (R := RB) q).imp fun k H1 ⟨μ1, d, η1, k1, p1, h1, r1, q1⟩ => ?_⟩
  subst r1
  cases d with
  | true => exact ⟨μ1, δ, η1, h1, er.mono k1 p1, q1⟩
  | false => exact ⟨μ1, δ, η1, h1, er.mono k1 p1, q1⟩⟩
/-! ### targets -/
/-- a target takes a value -/
abbrev GM := D → En → MH → Out En
def toS (r : Out En) : Out (Fl × En) := r.bind fun δ η => .ok (.nx, δ) η
/-- what a target's reading asks -/
def PostG (K : PySem.W.Frag) (S : Sg) (E : XK) (r : Out En) (μ : List Addr) (H : Hp) (Q : L2.St → Hp → Prop) : Prop := match r with
  | .ok δ η => ∀ σ' H' μ', Keep K H H' → μ <+: μ' → HRep K S.cl H' μ' η → ERep K H' μ' δ σ' → Q σ' H'
  | .exc x η => ∀ cls d H' μ', Keep K H H' → μ <+: μ' → HRep K S.cl H' μ' η → XRep K S H' μ' x cls d → E cls d H'
  | .bad => False
theorem PostG.mono {K : PySem.W.Frag} {S : Sg} {E : XK} {H H1 : Hp} {μ μ1 : List Addr} {r : Out En} {Q : L2.St → Hp → Prop} (h : PostG K S E r μ H Q) (k : Keep K H H1) (p : μ <+: μ1) : PostG K S E r μ1 H1 Q := by
  cases r with
  | ok a η => exact fun b H' μ' k' p' => h b H' μ' (k.trans k') (p.trans p')
  | exc x η => exact fun c d H' μ' k' p' => h c d H' μ' (k.trans k') (p.trans p')
  | bad => exact h
structure GV (C : Cn) (tg : Expr) (g : GM) : Prop where
  pg : PG C.X tg (fun v σ H Q => ∃ μ d δ η, HRep C.X.K C.S.cl H μ η ∧ ERep C.X.K H μ δ σ ∧ Rep C.X.K H μ d v ∧ PostG C.X.K C.S C.E (g d δ η) μ H Q)
structure GsV (C : Cn) (tg : List Expr) (g : List D → En → MH → Out En) : Prop where
  pgs : PGs C.X tg (fun vs σ H Q => ∃ μ ds δ η, HRep C.X.K C.S.cl H μ η ∧ ERep C.X.K H μ δ σ ∧ RepL C.X.K H μ ds vs ∧ PostG C.X.K C.S C.E (g ds δ η) μ H Q)
theorem pg_weak {X : Cx} {e : Expr} {t t' : TG} (h : PG X e t) (g : ∀ v σ H Q, t' v σ H Q → t v σ H Q) : PG X e t' := ⟨fun pins s σ H v u Q I r q => h.run pins s σ H v u Q I r (g v σ H Q q)⟩
theorem pgs_weak {X : Cx} {e : List Expr} {t t' : TGs} (h : PGs X e t) (g : ∀ v σ H Q, t' v σ H Q → t v σ H Q) : PGs X e t' := ⟨fun pins s σ H v u Q I r q => h.run pins s σ H v u Q I r (g v σ H Q q)⟩
def gtName (i : Nat) : GM := fun d δ η => .ok (δ.set i (some d)) η
theorem gv_name {i : Nat} {x : Str} (h : PG C.X (.Name x pos) (gName i)) : GV C (.Name x pos) (gtName i) := ⟨by
  refine pg_weak h fun v σ H Q ⟨μ, d, δ, η, hp, er, r, q⟩ => ?_
  exact q _ H μ (Keep.refl _) (List.prefix_refl _) hp (er.set r)⟩
def gtNil : List D → En → MH → Out En := fun ds δ η => match ds with
  | [] => .ok δ η
  | _ => .bad
def gtCons (g : GM) (h : List D → En → MH → Out En) : List D → En → MH → Out En := fun ds δ η => match ds with
  | [] => .bad
  | d :: ds => (g d δ η).bind fun δ η => h ds δ η
theorem gsv_nil : GsV C [] gtNil := ⟨by
  refine pgs_weak pgs_nil fun vs σ H Q ⟨μ, ds, δ, η, hp, er, r, q⟩ => ?_
  unfold gtNil at q
  split at q
  · unfold RepL at r
    exact ⟨r, q σ H μ (Keep.refl _) (List.prefix_refl _) hp er⟩
  · exact q.elim⟩
theorem gsv_cons {t : Expr} {ts : List Expr} {g : GM} {gs : List D → En → MH → Out En} (h1 : GV C t g) (h2 : GsV C ts gs) (hs : (assignEach (t :: ts) C.X.env).map (·.2) = assign t C.X.env :: (assignEach ts C.X.env).map (·.2) := by rfl) : GsV C (t :: ts) (gtCons g gs) := ⟨by
  refine pgs_weak (pgs_cons h1.pg h2.pgs hs) fun vs σ H Q ⟨μ, ds, δ, η, hp, er, r, q⟩ => ?_
  unfold gtCons at q
  split at q
  · exact q.elim
  · rename_i d ds
    unfold RepL at r
    obtain ⟨v, vr, rfl, r1, rr⟩ := r
    refine ⟨v, vr, rfl, μ, d, δ, η, hp, er, r1, ?_⟩
    cases hg : g d δ η with
    | ok δ1 η1 =>
      rw [hg] at q
      intro σ' H' μ' k p hr er'
      exact ⟨μ', ds, δ1, η1, hr, er', rr.mono k p, PostG.mono q k p⟩
    | exc x η1 => rw [hg] at q; exact q
    | bad => rw [hg] at q; exact q.elim⟩
/-- a, b = .. : of a tuple, or a list -/
def gtTup (n : Nat) (g : List D → En → MH → Out En) : GM := fun d δ η => match d with
  | .tup ds => if ds.length = n then g ds δ η else .bad
  | _ => .bad
theorem gv_tup {es : List Expr} {k n : Nat} {g : List D → En → MH → Out En} (hc : C.X.calm = true) (h : GsV C es g) (hn : (assignEach es C.X.env).length = n := by rfl) (hst : (assignEach es C.X.env).findIdx? (·.1) = none := by rfl) : GV C (.Tuple es k pos) (gtTup n g) := ⟨by
  refine pg_weak (pg_tup hc h.pgs hn hst) fun v σ H Q ⟨μ, d, δ, η, hp, er, r, q⟩ => ?_
  unfold gtTup at q
  split at q
  · unfold Rep at r
    obtain ⟨a, vs, rfl, s, rl⟩ := r
    split at q
    · rename_i hl
      exact ⟨a, vs, rfl, s, by rw [rl.length]; exact hl, μ, _, δ, η, hp, er, rl, q⟩
    · exact q.elim
  · exact q.elim⟩
/-- o[i] = .., of a list -/
def gSet (o i d : D) (η : MH) : Out Unit := match o, i with
  | .obj o, .int k => match η[o]? with
    | some (.lst xs) => match ixN xs.length k with
      | some j => .ok () (η.set o (.lst (xs.set j d)))
      | none => .bad
    | _ => .bad
  | _, _ => .bad
def gtSub (o i : EM) : GM := fun d δ η => (o δ η).bind fun x η => (i δ η).bind fun y η => (gSet x y d η).bind fun _ η => .ok δ η
theorem PostG.bindE {α β : Type} {K : PySem.W.Frag} {S : Sg} {E : XK} {R : RR α β} {r : Out α} {k : α → MH → Out En} {μ : List Addr} {H : Hp} {Q : L2.St → Hp → Prop} (h : PostG K S E (r.bind k) μ H Q) :
    Post K S E R r μ H fun b H1 => ∃ μ1 a η1, Keep K H H1 ∧ μ <+: μ1 ∧ HRep K S.cl H1 μ1 η1 ∧ R H1 μ1 a b ∧ PostG K S E (k a η1) μ1 H1 Q := by
  cases r with
  | ok a η => exact fun b H' μ' k' p' hr r => ⟨μ', a, η, k', p', hr, r, PostG.mono h k' p'⟩
  | exc x η => exact h
  | bad => exact h
theorem gv_sub {o i : Expr} {fo fi : EM} (ho : EV C o fo) (hi : EV C i fi) (ha : ∀ v, assign (.Subscript o i pos) C.X.env v = (do
      let ov ← holding [v] (eval o C.X.env)
      let iv ← holding [v, ov] (eval i C.X.env)
      standAt pos
      holding [v, ov, iv] (setItem ov iv v)
      release [v, ov, iv] []) := by intro _; rfl) : GV C (.Subscript o i pos) (gtSub fo fi) := ⟨by
  refine pg_weak (pg_sub ho.pe hi.pe set_list ha) fun v σ H Q ⟨μ, d, δ, η, hp, er, r, q⟩ => ?_
  refine ⟨μ, δ, η, hp, er, (PostG.bindE (R := Rep C.X.K) q).imp fun x H1 ⟨μ1, dx, η1, k1, p1, h1, r1, q1⟩ => ?_⟩
  refine ⟨μ1, δ, η1, h1, er.mono k1 p1, (PostG.bindE (R := Rep C.X.K) q1).imp fun y H2 ⟨μ2, dy, η2, k2, p2, h2, r2, q2⟩ => ?_⟩
  have rx := r1.mono k2 p2
  have rv := (r.mono k1 p1).mono k2 p2
  unfold gSet at q2
  split at q2
  · unfold Rep at rx r2
    subst r2
    obtain ⟨a, rfl, ea⟩ := rx
    split at q2
    · rename_i xs em
      obtain ⟨vs, e0, rl⟩ := h2.at_ ea em
      split at q2
      · rename_i j hj
        refine ⟨a, vs, _, j, rfl, rfl, e0, by rw [rl.length]; exact hj, ?_⟩
        obtain ⟨h3, k3⟩ := h2.setLst ea em e0 (rl.set j rv)
        exact q2 σ _ μ2 k3 (List.prefix_refl _) h3 (((er.mono k1 p1).mono k2 p2).mono k3 (List.prefix_refl _))
      · exact q2.elim
    · exact q2.elim
  · exact q2.elim⟩
def sAsg (f : EM) (g : GM) : SM := fun δ η => (f δ η).bind fun d η => toS (g d δ η)
theorem PostS.ofG {K : PySem.W.Frag} {S : Sg} {E : XK} {H : Hp} {μ : List Addr} {r : Out En} {Dn : Ends} (h : PostS K S E (toS r) μ H Dn) : PostG K S E r μ H Dn.nx := by
  cases r with
  | ok a η => exact fun σ' H' μ' k p hr er => h σ' H' μ' k p hr er
  | exc x η => exact h
  | bad => exact h
theorem sv_asg {tg : Expr} {g : GM} (he : EV C e f) (hg : GV C tg g) (hs : swapsWithSole [tg] e pos.line C.X.env = pure false := by rfl) (hw : swappedStores [tg] e C.X.env = pure none := by rfl) (h1 : (assignEach [tg] C.X.env).map (·.2) = [assign tg C.X.env] := by rfl) : SV C (.Assign [tg] e pos) (sAsg f g) := ⟨by
  refine ps_weak (ps_asg he.pe hg.pg hs hw h1) fun D σ H ⟨μ, δ, η, hp, er, q⟩ => ?_
  refine ⟨μ, δ, η, hp, er, (PostS.bind (R := Rep C.X.K) q).imp fun x H1 ⟨μ1, d, η1, k1, p1, h1, r1, q1⟩ => ?_⟩
  exact ⟨μ1, d, δ, η1, h1, er.mono k1 p1, r1, q1.ofG⟩⟩
def sSet (i : Nat) (f : EM) : SM := fun δ η => (f δ η).bind fun d η => .ok (.nx, δ.set i (some d)) η
theorem sv_set {i : Nat} {x : Str} {pos' : Pos} {t : TE} (h : ∀ t, PE C.X e t → PS C.X (.Assign [.Name x pos'] e pos) (tAsg t (gName i))) (he : EV C e f) : SV C (.Assign [.Name x pos'] e pos) (sSet i f) := ⟨by
  refine ps_weak (h _ he.pe) fun D σ H ⟨μ, δ, η, hp, er, q⟩ => ?_
  refine ⟨μ, δ, η, hp, er, (PostS.bind (R := Rep C.X.K) q).imp fun x H1 ⟨μ1, d, η1, k1, p1, h1, r1, q1⟩ => ?_⟩
  exact q1.ok h1 ((er.mono k1 p1).set r1)⟩
/-- a, b = x, y with plain local names -/
def sPar (i j : Nat) (fs : AM) : SM := fun δ η => (fs δ η).bind fun ds η => match ds with
  | [d, e] => .ok (.nx, (δ.set i (some d)).set j (some e)) η
  | _ => .bad
theorem sv_par {i j : Nat} {st : Stmt} {es : List Expr} {fs : AM} (h : ∀ t, PA C.X es t → PS C.X st (tPar i j t)) (ha : AV C es fs) : SV C st (sPar i j fs) := ⟨by
  refine ps_weak (h _ ha.pa) fun D σ H ⟨μ, δ, η, hp, er, q⟩ => ?_
  refine ⟨μ, δ, η, hp, er, (PostS.bind (R := RepL C.X.K) q).imp fun vs H1 ⟨μ1, ds, η1, k1, p1, h1, r1, q1⟩ => ?_⟩
  dsimp only at q1
  split at q1
  · obtain ⟨v, w, rfl, r2, r3⟩ := r1.two
    exact ⟨v, w, rfl, q1.ok h1 (((er.mono k1 p1).set r2).set r3)⟩
  · exact q1.elim⟩
/-- name op= e -/
def gAug (op : Operator) (x y : D) (η : MH) : Out D := match op, x, y with
  | .Add, .int i, .int j => .ok (.int (i + j)) η
  | .Sub, .int i, .int j => .ok (.int (i - j)) η
  | .Add, .str a, .str b => if a.length + b.length ≤ sizeLine then .ok (.str (a ++ b)) η else .bad
  | _, _, _ => .bad
def sAug (i : Nat) (op : Operator) (f : EM) : SM := fun δ η => match δ[i]? with
  | some (some x) => (f δ η).bind fun y η => (gAug op x y η).bind fun z η => .ok (.nx, δ.set i (some z)) η
  | _ => .bad
theorem sv_aug {i : Nat} {x : Str} {pos' : Pos} {op : Operator} {ti : TIp} (h : ∀ t, PE C.X e t → PS C.X (.AugAssign (.Name x pos') op e pos) (tAug i t ti))
    (ho : ∀ x y d e' H μ η Q, HRep C.X.K C.S.cl H μ η → Rep C.X.K H μ d x → Rep C.X.K H μ e' y → Post C.X.K C.S C.E (Rep C.X.K) (gAug op d e' η) μ H Q → ti x y H Q) (he : EV C e f) : SV C (.AugAssign (.Name x pos') op e pos) (sAug i op f) := ⟨by
  refine ps_weak (h _ he.pe) fun D σ H ⟨μ, δ, η, hp, er, q⟩ => ?_
  unfold sAug at q
  split at q
  · rename_i d ed
    obtain ⟨v, ev, rv⟩ := er.2 i d ed
    refine ⟨v, ev, μ, δ, η, hp, er, (PostS.bind (R := Rep C.X.K) q).imp fun y H1 ⟨μ1, e', η1, k1, p1, h1, r1, q1⟩ => ?_⟩
    refine ho v y d e' H1 μ1 η1 _ h1 (rv.mono k1 p1) r1 ((PostS.bind (R := Rep C.X.K) q1).imp fun z H2 ⟨μ2, dz, η2, k2, p2, h2, r2, q2⟩ => ?_)
    exact q2.ok h2 (((er.mono k1 p1).mono k2 p2).set r2)
  · exact q.elim⟩
theorem aug_addI : ∀ (x y : V) (d e' : D) H μ η Q, HRep C.X.K C.S.cl H μ η → Rep C.X.K H μ d x → Rep C.X.K H μ e' y → Post C.X.K C.S C.E (Rep C.X.K) (gAug .Add d e' η) μ H Q → (fun x y H Q => ipI (fun i j => i + j) x y H Q ∨ rAddS x y H Q : TIp) x y H Q := by
  intro x y d e' H μ η Q hp rx ry q
  unfold gAug at q
  split at q
  · unfold Rep at rx ry; subst rx ry
    exact .inl ⟨_, _, rfl, rfl, q.ok hp (by unfold Rep; rfl)⟩
  · rename_i h; cases h
  · unfold Rep at rx ry; subst rx ry
    split at q
    · rename_i h
      exact .inr ⟨_, _, rfl, rfl, h, q.ok hp (by unfold Rep; rfl)⟩
    · exact q.elim
  · exact q.elim
/-! ### while -/
def sWhile (c : TM) (b : SM) : Nat → SM
  | 0 => fun _ _ => .bad
  | n + 1 => fun δ η => (c δ η).bind fun k η => if k then (b δ η).bind fun a η => match a.1 with
      | .nx => sWhile c b n a.2 η
      | .cnt => sWhile c b n a.2 η
      | .brk => .ok (.nx, a.2) η
      | .ret d => .ok (.ret d, a.2) η
    else .ok (.nx, δ) η
theorem PostS.loop {K : PySem.W.Frag} {S : Sg} {E : XK} {H : Hp} {μ : List Addr} {r : Out (Fl × En)} {g : SM} {Dn : Ends} (h : PostS K S E (r.bind fun a η => match a.1 with
      | .nx => g a.2 η
      | .cnt => g a.2 η
      | .brk => .ok (.nx, a.2) η
      | .ret d => .ok (.ret d, a.2) η) μ H Dn) : PostS K S E r μ H { Dn with nx := tS K S E g Dn, ct := tS K S E g Dn, bk := Dn.nx } := by
  cases r with
  | ok a η =>
    intro σ' H' μ' k p hr er
    obtain ⟨fl, δ⟩ := a
    cases fl with
    | nx => exact ⟨μ', δ, η, hr, er, PostS.mono h k p⟩
    | brk => exact h σ' H' μ' k p hr er
    | cnt => exact ⟨μ', δ, η, hr, er, PostS.mono h k p⟩
    | ret d => exact h σ' H' μ' k p hr er
  | exc x η => exact h
  | bad => exact h
theorem sv_while {c : Expr} {body : List Stmt} {fc : TM} {fb : SM} {n : Nat} (hp : PassesOwn (model C.X.prog C.X.w) C.X.A C.X.env C.X.xe) (hc : TV C c fc) (hb : SSV C body fb) : SV C (.While c body [] pos) (sWhile fc fb n) := ⟨by
  refine ps_weak (ps_while hp hc.pt hb.pss) fun D σ H ⟨μ, δ, η, hp, er, q⟩ => ?_
  refine ⟨fun m σ H => tS C.X.K C.S C.E (sWhile fc fb m) D σ H, ⟨n, μ, δ, η, hp, er, q⟩, ?_⟩
  rintro m σ H ⟨μ, δ, η, hp, er, q⟩
  cases m with
  | zero => exact q.elim
  | succ m =>
    unfold sWhile at q
    refine ⟨μ, δ, η, hp, er, (PostS.bind (R := RB) q).imp fun k H1 ⟨μ1, d, η1, k1, p1, h1, r1, q1⟩ => ?_⟩
    subst r1
    cases d with
    | true => exact ⟨tS C.X.K C.S C.E (sWhile fc fb m) D, fun σ' H' h => ⟨m, Nat.lt_succ_self _, h⟩, μ1, δ, η1, h1, er.mono k1 p1, q1.loop⟩
    | false => exact q1.ok h1 (er.mono k1 p1)⟩
end
end EV
/-! E7: what is walked, for. -/
namespace EV
open PySem PySem.Spec PyProof.Rows L2

/-- what is walked: items known ahead; a list as it stands at each turn -/
inductive Src where
  | snap (ds : List D) | live (o : Nat) (f : Nat → D → D)
/-- the list that stands at o -/
def lstAt (η : MH) (o : Nat) : Option (List D) := match η[o]? with
  | some (.lst xs) => some xs
  | some (.frz xs) => some xs
  | _ => none
theorem lstAt_of {K : PySem.W.Frag} {cl : Clss} {H : Hp} {μ : List Addr} {η : MH} {o : Nat} {a : Addr} {xs : List D} (hp : HRep K cl H μ η) (ea : μ[o]? = some a) (e : lstAt η o = some xs) : ∃ vs, SqL K H a vs ∧ RepL K H μ xs vs := by
  unfold lstAt at e
  split at e
  · rename_i ys em
    cases e
    obtain ⟨vs, e0, rl⟩ := hp.at_ ea em
    exact ⟨vs, .inl (.inl e0), rl⟩
  · rename_i ys em
    cases e
    obtain ⟨vs, e0, rl, _⟩ := hp.at_ ea em
    exact ⟨vs, e0, rl⟩
  · cases e
def RJ (K : PySem.W.Frag) (cl : Clss) : RR Src It := fun H μ s J => match s with
  | .snap ds => ∀ H' μ', Keep K H H' → μ <+: μ' → (∀ (i : Nat) (d : D), ds[i]? = some d → J.go i H' ∧ ∀ x H'', J.yld i H' x H'' → ∀ η', HRep K cl H' μ' η' → Keep K H' H'' ∧ HRep K cl H'' μ' η' ∧ Rep K H'' μ' d x) ∧ ∀ i, ds.length ≤ i → J.stop i H'
  | .live o f => ∀ H' μ' η' xs, Keep K H H' → μ <+: μ' → HRep K cl H' μ' η' → lstAt η' o = some xs → (∀ (i : Nat) (d : D), xs[i]? = some d → J.go i H' ∧ ∀ x H'', J.yld i H' x H'' → Keep K H' H'' ∧ HRep K cl H'' μ' η' ∧ Rep K H'' μ' (f i d) x) ∧ ∀ i, xs.length ≤ i → J.stop i H'
abbrev IM := En → MH → Out Src
def tI (K : PySem.W.Frag) (S : Sg) (E : XK) (f : IM) : TI := fun σ H R => ∃ μ δ η, HRep K S.cl H μ η ∧ ERep K H μ δ σ ∧ Post K S E (RJ K S.cl) (f δ η) μ H R
variable {C : Cn}
structure IV (C : Cn) (tg e : Expr) (f : IM) : Prop where
  pi : PI C.X tg e (tI C.X.K C.S C.E f)
theorem pi_weak {X : Cx} {tg e : Expr} {t t' : TI} (h : PI X tg e t) (g : ∀ σ H R, t' σ H R → t σ H R) : PI X tg e t' := ⟨fun pins s σ H R I q => h.run pins s σ H R I (g σ H R q)⟩

/-! ### a value that is walked -/
def iVal (K : PySem.W.Frag) (tl : TE) : TI := fun σ H R => tl σ H fun x H1 => (∃ a, x = .ref a ∧ (∃ xs, SqL K H1 a xs) ∧ R (Itl K a) H1) ∨ (∃ a, x = .ref a ∧ (∃ xs, SqT K H1 a xs) ∧ R (Itt K a) H1) ∨ ∃ z, x = .str z ∧ R (Its z) H1
theorem pi_val {X : Cx} {tg l : Expr} {tl : TE} (hl : PE X l tl) : PI X tg l (iVal X.K tl) := by
  refine ⟨fun pins s σ H R I h => ?_⟩
  refine thn (hl.run pins s σ H _ I h) fun v s1 ⟨x, H1, I1, r1, q1⟩ => ?_
  rcases q1 with ⟨a, e, ⟨xs, hq⟩, q⟩ | ⟨a, e, ⟨xs, hq⟩, q⟩ | ⟨z, e, q⟩
  · subst e
    cases r1
    obtain ⟨its, rv, p, hz⟩ := I1.list hq
    refine wpAny_pyIter_list p.isList ?_
    refine ⟨s1.heap.objs.size, [s1.heap.objs.size], _, _, H1, rfl, I1.kept (t' := s1.toks) fun b o e => Heap.get?_push_of_some _ e, turn_list a _, ⟨_, Heap.get?_push_size _ rfl, rfl, rfl⟩, fun b hb => ?_, q⟩
    have e : b = s1.heap.objs.size := by simpa using hb
    subst e
    exact I1.fpOk (Nat.le_refl _) (I1.hok.fresh (Nat.le_refl _))
  · subst e
    cases r1
    obtain ⟨its, rv, p, hz⟩ := I1.tuple hq
    refine wpAny_pyIter_tuple (show s1.heap.IsTuple a its.toArray from p) ?_
    refine ⟨s1.heap.objs.size, [s1.heap.objs.size], _, _, H1, rfl, I1.kept (t' := s1.toks) fun b o e => Heap.get?_push_of_some _ e, turn_tuple a _, ⟨_, Heap.get?_push_size _ rfl, rfl, rfl⟩, fun b hb => ?_, q⟩
    have e : b = s1.heap.objs.size := by simpa using hb
    subst e
    exact I1.fpOk (Nat.le_refl _) (I1.hok.fresh (Nat.le_refl _))
  · subst e
    obtain ⟨t, rfl⟩ := r1
    cases ha : z.cps.all (· < 128)
    · exact wpAny_pyIter_wide ha (pi_one (tk := s1.toks) I1 _ (turn_str _ z t "str_iterator" (.inr rfl)) ⟨_, Heap.get?_push_size _ rfl, rfl, rfl⟩ q)
    · exact wpAny_pyIter_ascii ha (pi_one (tk := s1.toks) I1 _ (turn_str _ z t "str_ascii_iterator" (.inl rfl)) ⟨_, Heap.get?_push_size _ rfl, rfl, rfl⟩ q)
def strD (z : Str) : List D := z.cps.toList.map fun c => .str ⟨#[c]⟩
def gSrc (d : D) (η : MH) : Out Src := match d with
  | .tup ds => .ok (.snap ds) η
  | .str z => .ok (.snap (strD z)) η
  | .obj o => match lstAt η o with
    | some _ => .ok (.live o fun _ d => d) η
    | none => .bad
  | _ => .bad
def iE (f : EM) : IM := fun δ η => (f δ η).bind gSrc
theorem iv_val {tg e : Expr} {f : EM} (h : EV C e f) : IV C tg e (iE f) := ⟨by
  refine pi_weak (pi_val h.pe) fun σ H R ⟨μ, δ, η, hp, er, q⟩ => ?_
  refine ⟨μ, δ, η, hp, er, (Post.bind (R := Rep C.X.K) q).imp fun x H1 ⟨μ1, d, η1, k1, p1, h1, r1, q1⟩ => ?_⟩
  unfold gSrc at q1
  split at q1
  · rename_i ds
    unfold Rep at r1
    obtain ⟨a, vs, rfl, s, rl⟩ := r1
    refine .inr (.inl ⟨a, rfl, ⟨vs, s⟩, q1.ok h1 ?_⟩)
    intro H' μ' k p
    refine ⟨fun i d ed => ?_, fun i hi => ⟨vs, k _ _ s, by rw [rl.length]; exact hi⟩⟩
    obtain ⟨v, ev, rv⟩ := (rl.mono k p).get ed
    refine ⟨⟨vs, v, k _ _ s, ev⟩, ?_⟩
    rintro x H'' ⟨rfl, y⟩ η' hr
    have e2 := y vs (k _ _ s)
    rw [ev] at e2
    cases e2
    exact ⟨Keep.refl _, hr, rv⟩
  · rename_i z
    unfold Rep at r1
    subst r1
    refine .inr (.inr ⟨z, rfl, q1.ok h1 ?_⟩)
    intro H' μ' k p
    refine ⟨fun i d ed => ?_, fun i hi => ?_⟩
    · unfold strD at ed
      rw [List.getElem?_map] at ed
      obtain ⟨c, ec, rfl⟩ := Option.map_eq_some_iff.mp ed
      have hlt := (List.getElem?_eq_some_iff.mp ec).1
      refine ⟨show i < z.cps.size by simpa using hlt, ?_⟩
      rintro x H'' ⟨rfl, c2, e2, rfl⟩ η' hr
      have e3 : z.cps.toList[i]? = some c2 := by rw [Array.getElem?_toList]; exact e2
      rw [ec] at e3
      cases e3
      exact ⟨Keep.refl _, hr, by unfold Rep; rfl⟩
    · unfold strD at hi
      show z.cps.size ≤ i
      simpa using hi
  · rename_i o
    unfold Rep at r1
    obtain ⟨a, rfl, ea⟩ := r1
    split at q1
    · rename_i xs ex
      obtain ⟨vs, s, rl⟩ := lstAt_of h1 ea ex
      refine .inl ⟨a, rfl, ⟨vs, s⟩, q1.ok h1 ?_⟩
      intro H' μ' η' ys k p hr ey
      obtain ⟨us, s2, rl2⟩ := lstAt_of hr (pre_get p ea) ey
      refine ⟨fun i d ed => ?_, fun i hi => ⟨us, s2, by rw [rl2.length]; exact hi⟩⟩
      obtain ⟨v, ev, rv⟩ := rl2.get ed
      refine ⟨⟨us, v, s2, ev⟩, ?_⟩
      rintro x H'' ⟨rfl, y⟩
      have e2 := y us s2
      rw [ev] at e2
      cases e2
      exact ⟨Keep.refl _, hr, rv⟩
    · exact q1.elim
  · exact q1.elim⟩
/-- range -/
def rngD (lo : Int) (n : Nat) : List D := (List.range n).map fun (k : Nat) => .int (lo + k)
def gRng1 (ds : List D) (η : MH) : Out Src := match ds with
  | [.int j] => if -(2 ^ 62) ≤ j ∧ j < 2 ^ 62 then .ok (.snap (rngD 0 j.toNat)) η else .bad
  | _ => .bad
def gRng2 (ds : List D) (η : MH) : Out Src := match ds with
  | [.int i, .int j] => if -(2 ^ 62) ≤ i ∧ i < 2 ^ 62 ∧ -(2 ^ 62) ≤ j ∧ j < 2 ^ 62 then .ok (.snap (rngD i (j - i).toNat)) η else .bad
  | _ => .bad
def iA (g : List D → MH → Out Src) (fs : AM) : IM := fun δ η => (fs δ η).bind g
theorem rj_rng {K : PySem.W.Frag} {cl : Clss} {H : Hp} {μ : List Addr} {lo : Int} {n : Nat} : RJ K cl H μ (.snap (rngD lo n)) (Itr lo n) := by
  intro H' μ' k p
  refine ⟨fun i d ed => ?_, fun i hi => ?_⟩
  · unfold rngD at ed
    rw [List.getElem?_map] at ed
    obtain ⟨c, ec, rfl⟩ := Option.map_eq_some_iff.mp ed
    obtain ⟨h1, h2⟩ := List.getElem?_eq_some_iff.mp ec
    rw [List.getElem_range] at h2
    subst h2
    refine ⟨show i < n by simpa using h1, ?_⟩
    rintro x H'' ⟨rfl, rfl⟩ η' hr
    exact ⟨Keep.refl _, hr, by unfold Rep; rfl⟩
  · unfold rngD at hi
    show n ≤ i
    simpa using hi
theorem iv_range1 {tg a : Expr} {fs : AM} {p pos : Pos} (hg : Gl C.X "range") (hm : C.X.mg "range" = none) (ha : AV C [a] fs) (hs : starEach [a] C.X.env = [(false, eval a C.X.env)] := by rfl) : IV C tg (.Call (.Name "range" p) [a] [] pos) (iA gRng1 fs) := ⟨by
  refine pi_weak (pi_range1 hg hm ha.pa hs) fun σ H R ⟨μ, δ, η, hp, er, q⟩ => ?_
  refine ⟨μ, δ, η, hp, er, (Post.bind (R := RepL C.X.K) q).imp fun vs H1 ⟨μ1, ds, η1, k1, p1, h1, r1, q1⟩ => ?_⟩
  unfold gRng1 at q1
  split at q1
  · obtain ⟨v, rfl, r2⟩ := r1.one
    unfold Rep at r2
    subst r2
    split at q1
    · rename_i h
      exact ⟨_, rfl, h.1, h.2, q1.ok h1 rj_rng⟩
    · exact q1.elim
  · exact q1.elim⟩
theorem iv_range2 {tg a b : Expr} {fs : AM} {p pos : Pos} (hg : Gl C.X "range") (hm : C.X.mg "range" = none) (ha : AV C [a, b] fs) (hs : starEach [a, b] C.X.env = [(false, eval a C.X.env), (false, eval b C.X.env)] := by rfl) (hs2 : starEach [b] C.X.env = [(false, eval b C.X.env)] := by rfl) : IV C tg (.Call (.Name "range" p) [a, b] [] pos) (iA gRng2 fs) := ⟨by
  refine pi_weak (pi_range2 hg hm ha.pa hs hs2) fun σ H R ⟨μ, δ, η, hp, er, q⟩ => ?_
  refine ⟨μ, δ, η, hp, er, (Post.bind (R := RepL C.X.K) q).imp fun vs H1 ⟨μ1, ds, η1, k1, p1, h1, r1, q1⟩ => ?_⟩
  unfold gRng2 at q1
  split at q1
  · obtain ⟨v, w, rfl, r2, r3⟩ := r1.two
    unfold Rep at r2 r3
    subst r2 r3
    split at q1
    · rename_i h
      exact ⟨_, _, rfl, h, q1.ok h1 rj_rng⟩
    · exact q1.elim
  · exact q1.elim⟩
/-! ### for -/
/-- behind a turn -/
def nextTurn (g : SM) : Fl × En → MH → Out (Fl × En) := fun a η => match a.1 with
  | .nx => g a.2 η
  | .cnt => g a.2 η
  | .brk => .ok (.nx, a.2) η
  | .ret d => .ok (.ret d, a.2) η
def turnOf (g : GM) (b : SM) (d : D) : SM := fun δ η => (g d δ η).bind b
def loopL (g : GM) (b : SM) : List D → SM
  | [] => fun δ η => .ok (.nx, δ) η
  | d :: ds => fun δ η => (turnOf g b d δ η).bind (nextTurn (loopL g b ds))
def loopO (g : GM) (b : SM) (o : Nat) (f : Nat → D → D) : Nat → Nat → SM
  | 0, _ => fun _ _ => .bad
  | n + 1, i => fun δ η => match lstAt η o with
    | some xs => match xs[i]? with
      | some d => (turnOf g b (f i d) δ η).bind (nextTurn (loopO g b o f n (i + 1)))
      | none => .ok (.nx, δ) η
    | none => .bad
def sFor (it : IM) (g : GM) (b : SM) (n : Nat) : SM := fun δ η => (it δ η).bind fun s η => match s with
  | .snap ds => loopL g b ds δ η
  | .live o f => loopO g b o f n 0 δ η
/-- the rest of a loop, later than H0 -/
def tK (K : PySem.W.Frag) (S : Sg) (E : XK) (g : SM) (Dn : Ends) (H0 : Hp) (μ0 : List Addr) : L2.St → Hp → Prop := fun σ H => Keep K H0 H ∧ ∃ μ, μ0 <+: μ ∧ ∃ δ η, HRep K S.cl H μ η ∧ ERep K H μ δ σ ∧ PostS K S E (g δ η) μ H Dn
theorem PostS.impE {K : PySem.W.Frag} {S : Sg} {E : XK} {H : Hp} {μ : List Addr} {r : Out (Fl × En)} {D1 D2 : Ends} (h : PostS K S E r μ H D1) (h1 : ∀ σ H, D1.nx σ H → D2.nx σ H) (h2 : ∀ v H, D1.rt v H → D2.rt v H) (h3 : ∀ σ H, D1.bk σ H → D2.bk σ H) (h4 : ∀ σ H, D1.ct σ H → D2.ct σ H) : PostS K S E r μ H D2 := by
  cases r with
  | ok a η =>
    intro σ' H' μ' k p hr er
    have := h σ' H' μ' k p hr er
    obtain ⟨fl, δ⟩ := a
    cases fl with
    | nx => exact h1 _ _ this
    | brk => exact h3 _ _ this
    | cnt => exact h4 _ _ this
    | ret d => exact fun v rv => h2 _ _ (this v rv)
  | exc x η => exact h
  | bad => exact h
theorem PostS.turn {K : PySem.W.Frag} {S : Sg} {E : XK} {H : Hp} {μ : List Addr} {r : Out (Fl × En)} {g : SM} {Dn : Ends} (h : PostS K S E (r.bind (nextTurn g)) μ H Dn) : PostS K S E r μ H { Dn with nx := tK K S E g Dn H μ, ct := tK K S E g Dn H μ, bk := Dn.nx } := by
  cases r with
  | ok a η =>
    intro σ' H' μ' k p hr er
    obtain ⟨fl, δ⟩ := a
    cases fl with
    | nx => exact ⟨k, μ', p, δ, η, hr, er, PostS.mono h k p⟩
    | brk => exact h σ' H' μ' k p hr er
    | cnt => exact ⟨k, μ', p, δ, η, hr, er, PostS.mono h k p⟩
    | ret d => exact h σ' H' μ' k p hr er
  | exc x η => exact h
  | bad => exact h
theorem PostS.turnK {K : PySem.W.Frag} {S : Sg} {E : XK} {H H0 : Hp} {μ μ0 : List Addr} {r : Out (Fl × En)} {g : SM} {Dn : Ends} (h : PostS K S E (r.bind (nextTurn g)) μ H Dn) (k : Keep K H0 H) (p : μ0 <+: μ) : PostS K S E r μ H { Dn with nx := tK K S E g Dn H0 μ0, ct := tK K S E g Dn H0 μ0, bk := Dn.nx } :=
  h.turn.impE (fun σ H' ⟨k', μ', p', z⟩ => ⟨k.trans k', μ', p.trans p', z⟩) (fun _ _ z => z) (fun _ _ z => z) fun σ H' ⟨k', μ', p', z⟩ => ⟨k.trans k', μ', p.trans p', z⟩
theorem PostS.ofTurn {K : PySem.W.Frag} {S : Sg} {E : XK} {H : Hp} {μ : List Addr} {g : GM} {b : SM} {d : D} {δ : En} {η : MH} {Dn : Ends} (h : PostS K S E (turnOf g b d δ η) μ H Dn) : PostG K S E (g d δ η) μ H (tS K S E b Dn) := by
  unfold turnOf at h
  cases hg : g d δ η with
  | ok δ1 η1 =>
    rw [hg] at h
    exact fun σ' H' μ' k p hr er => ⟨μ', δ1, η1, hr, er, PostS.mono h k p⟩
  | exc x η1 => rw [hg] at h; exact h
  | bad => rw [hg] at h; exact h
theorem sv_for {tg iter : Expr} {body : List Stmt} {fi : IM} {g : GM} {fb : SM} {n : Nat} {pos : Pos} (hpo : PassesOwn (model C.X.prog C.X.w) C.X.A C.X.env C.X.xe) (hc : C.X.calm = true) (hi : IV C tg iter fi) (hg : GV C tg g) (hb : SSV C body fb)
    (hs : ∀ x, foldedSetIterable iter C.X.env x = pure x := by intro _; rfl) : SV C (.For tg iter body [] pos) (sFor fi g fb n) := ⟨by
  refine ps_weak (ps_for hpo hc hi.pi hg.pg hb.pss hs) fun Dn σ H ⟨μ, δ, η, hp, er, q⟩ => ?_
  refine ⟨μ, δ, η, hp, er, (PostS.bind (R := RJ C.X.K C.S.cl) q).imp fun J H1 ⟨μ1, s, η1, k1, p1, h1, r1, q1⟩ => ?_⟩
  cases s with
  | snap ds =>
    refine ⟨fun i m σ H => m = ds.length - i ∧ tK C.X.K C.S C.E (loopL g fb (ds.drop i)) Dn H1 μ1 σ H, ⟨_, rfl, Keep.refl _, μ1, List.prefix_refl _, δ, η1, h1, er.mono k1 p1, q1⟩, ?_⟩
    rintro i m σ H ⟨rfl, k, μ, p, δ, η, hp, er, q⟩
    obtain ⟨w1, w2⟩ := r1 H μ k p
    by_cases hi : i < ds.length
    · obtain ⟨go, yl⟩ := w1 i ds[i] (List.getElem?_eq_getElem hi)
      rw [List.drop_eq_getElem_cons hi] at q
      unfold loopL at q
      refine .inr ⟨go, tK C.X.K C.S C.E (loopL g fb (ds.drop (i + 1))) Dn H1 μ1, fun σ' H' z => ⟨ds.length - (i + 1), by omega, rfl, z⟩, fun x H' y => ?_⟩
      obtain ⟨k2, h2, r2⟩ := yl x H' y η hp
      exact ⟨μ, ds[i], δ, η, h2, er.mono k2 (List.prefix_refl _), r2, PostS.ofTurn ((PostS.turnK q k p).mono k2 (List.prefix_refl _))⟩
    · refine .inl ⟨w2 i (by omega), ?_⟩
      rw [List.drop_eq_nil_of_le (by omega)] at q
      exact q.ok hp er
  | live o f =>
    refine ⟨fun i m σ H => tK C.X.K C.S C.E (loopO g fb o f m i) Dn H1 μ1 σ H, ⟨n, Keep.refl _, μ1, List.prefix_refl _, δ, η1, h1, er.mono k1 p1, q1⟩, ?_⟩
    rintro i m σ H ⟨k, μ, p, δ, η, hp, er, q⟩
    cases m with
    | zero => exact q.elim
    | succ m =>
      unfold loopO at q
      split at q
      · rename_i xs ex
        obtain ⟨w1, w2⟩ := r1 H μ η xs k p hp ex
        split at q
        · rename_i d ed
          obtain ⟨go, yl⟩ := w1 i d ed
          refine .inr ⟨go, tK C.X.K C.S C.E (loopO g fb o f m (i + 1)) Dn H1 μ1, fun σ' H' z => ⟨m, Nat.lt_succ_self _, z⟩, fun x H' y => ?_⟩
          obtain ⟨k2, h2, r2⟩ := yl x H' y
          exact ⟨μ, f i d, δ, η, h2, er.mono k2 (List.prefix_refl _), r2, PostS.ofTurn ((PostS.turnK q k p).mono k2 (List.prefix_refl _))⟩
        · rename_i en
          exact .inl ⟨w2 i (List.getElem?_eq_none_iff.mp en), q.ok hp er⟩
      · exact q.elim⟩
end EV
/-! E8: defs and their calls. -/
namespace EV
open PySem PySem.Spec PyProof.Rows L2

abbrev FM := List D → MH → Out D
/-- a def's promise -/
def spM (K : PySem.W.Frag) (S : Sg) (m : FM) : Sp := fun vs H Q E => ∃ μ ds η, HRep K S.cl H μ η ∧ RepL K H μ ds vs ∧ Post K S E (Rep K) (m ds η) μ H Q
/-- a def by its body: np parameters, nn names in all -/
def bodyM (np nn : Nat) (f : SM) : FM := fun ds η => if ds.length = np then (f (ds.map some ++ List.replicate (nn - np) none) η).bind fun a η => match a.1 with
    | .ret d => .ok d η
    | .nx => .ok .non η
    | _ => .bad
  else .bad
theorem erep_start {K : PySem.W.Frag} {H : Hp} {μ : List Addr} {ds : List D} {vs : List V} {N : List Str} (r : RepL K H μ ds vs) : ERep K H μ (ds.map some ++ List.replicate (N.length - ds.length) none) (L2.start N vs) := by
  unfold L2.start
  refine ⟨by simp [r.length], fun i d e => ?_⟩
  rw [List.getElem?_append] at e
  split at e
  · rename_i hi
    rw [List.getElem?_map] at e
    cases h : ds[i]? with
    | none => rw [h] at e; cases e
    | some d' =>
      rw [h] at e
      cases e
      obtain ⟨v, ev, rv⟩ := r.get h
      refine ⟨v, ?_, rv⟩
      rw [List.getElem?_append_left (by simpa [r.length] using hi), List.getElem?_map, ev]
      rfl
  · rw [List.getElem?_replicate] at e
    split at e <;> cases e
theorem postS_of {K : PySem.W.Frag} {S : Sg} {E : XK} {H : Hp} {μ : List Addr} {r : Out (Fl × En)} {Q : VK} (h : Post K S E (Rep K) (r.bind fun a η => match a.1 with
    | .ret d => .ok d η
    | .nx => .ok .non η
    | _ => .bad) μ H Q) : PostS K S E r μ H { nx := fun _ H' => Q .non H', rt := Q } := by
  cases r with
  | ok a η =>
    obtain ⟨fl, δ⟩ := a
    intro σ' H' μ' k p hr er
    cases fl with
    | nx => exact h .non H' μ' k p hr (by unfold Rep; rfl)
    | brk => exact h.elim
    | cnt => exact h.elim
    | ret d => exact fun v rv => h v H' μ' k p hr rv
  | exc x η => exact h
  | bad => exact h
section
variable {P : Program} {w : World} {K : PySem.W.Frag} {mg : Str → Option Value} {base : Heap} {x qual : Str} {params : Arguments} {body : List Stmt} {scope : Scope} {dvs : List V} {kws : List (Str × V)} {f : Addr} {fd : FuncData} {S : Sg}
/-- the context of a def's body -/
abbrev cnOf (P : Program) (w : World) (K : PySem.W.Frag) (mg : Str → Option Value) (base : Heap) (N : List Str) (qual : Str) (scope : Scope) (f : Addr) (cd : Value) (A : Around) (outer : List Env) (s : Shared) (H : Hp) (E : XK) (S : Sg) : Cn :=
  ⟨cxOf (CX P w) P w K mg base N qual scope f cd A outer s H E, S, E⟩
theorem fn_ok {N ps : List Str} {k : Nat} {m : SM} (F : FunD K x qual params body scope dvs kws f fd) (Sc : FnScope N ps scope)
    (hb : ∀ (cdv : Value) (A : Around) (outer : List Env) (s : Shared) (H : Hp) (E : XK), Room k (A.deeper (envOfC qual scope s.heap.objs.size f cdv)) → SSV (cnOf P w K mg base N qual scope f cdv A outer s H E S) body m) :
    FnOk P w K mg base (CX P w) (k + 1) f fd ps (spM K S (bodyM ps.length N.length m)) := by
  have len : ∀ vs H Q E, spM K S (bodyM ps.length N.length m) vs H Q E → vs.length = ps.length := fun vs H Q E ⟨μ, ds, η, hp, r, q⟩ => by
    unfold bodyM at q
    split at q
    · rename_i hl
      rw [r.length, hl]
    · exact q.elim
  refine F.ok Sc len fun cdv A outer s H vs Q E hr h => ⟨_, (hb cdv A outer s H E hr).pss, ?_⟩
  have hl := len vs H Q E h
  obtain ⟨μ, ds, η, hp, r, q⟩ := h
  have hl2 : ds.length = ps.length := by rw [← r.length]; exact hl
  unfold bodyM at q
  rw [if_pos hl2] at q
  refine ⟨μ, ds.map some ++ List.replicate (N.length - ds.length) none, η, hp, erep_start r, ?_⟩
  rw [hl2]
  exact postS_of q
theorem fn_bad {k : Nat} {ps : List Str} {m : FM} (h : ∀ ds η, m ds η = .bad) : FnOk P w K mg base (CX P w) k f fd ps (spM K S m) :=
  ⟨fun vs H Q E ⟨μ, ds, η, hp, r, q⟩ => by rw [h] at q; exact q.elim, fun A outer s H args us vs Q E hr e0 hb r ⟨μ, ds, η, hp, _, q⟩ => by rw [h] at q; exact q.elim⟩
end
theorem calm_cn {P : Program} {w : World} {K : PySem.W.Frag} {mg : Str → Option Value} {base : Heap} {N : List Str} {qual : Str} {scope : Scope} {f : Addr} {cd : Value} {A : Around} {outer : List Env} {s : Shared} {H : Hp} {E : XK} {S : Sg} :
    (cnOf P w K mg base N qual scope f cd A outer s H E S).X.calm = true := rfl
theorem own_cn {P : Program} {w : World} {K : PySem.W.Frag} {mg : Str → Option Value} {base : Heap} {N : List Str} {qual : Str} {scope : Scope} {f : Addr} {cd : Value} {A : Around} {outer : List Env} {s : Shared} {H : Hp} {E : XK} {S : Sg} :
    PassesOwn (model P w) (cnOf P w K mg base N qual scope f cd A outer s H E S).X.A (cnOf P w K mg base N qual scope f cd A outer s H E S).X.env (cnOf P w K mg base N qual scope f cd A outer s H E S).X.xe :=
  passes_of (X := (cnOf P w K mg base N qual scope f cd A outer s H E S).X) rfl
theorem takes_cn {P : Program} {w : World} {K : PySem.W.Frag} {mg : Str → Option Value} {base : Heap} {N : List Str} {qual : Str} {scope : Scope} {f : Addr} {cd : Value} {A : Around} {outer : List Env} {s : Shared} {H : Hp} {E : XK} {S : Sg} :
    Takes (cnOf P w K mg base N qual scope f cd A outer s H E S).X (fun cls d _ H' => E cls d H') := takes_of rfl rfl rfl rfl
theorem pass_cn {P : Program} {w : World} {K : PySem.W.Frag} {mg : Str → Option Value} {base : Heap} {N : List Str} {qual : Str} {scope : Scope} {f : Addr} {cd : Value} {A : Around} {outer : List Env} {s : Shared} {H : Hp} {E : XK} {S : Sg} :
    Passes (CX P w) (cnOf P w K mg base N qual scope f cd A outer s H E S).X E := passes_call takes_cn fun _ _ _ _ h => h
section
variable {C : Cn} {x : Str} {f : Addr} {fd : FuncData} {ps : List Str} {m : FM} {k j : Nat} {p pos : Pos} {e : Expr} {es : List Expr} {fs : AM}
theorem ev_call (F : FnOk C.X.prog C.X.w C.X.K C.X.mg C.X.base (CX C.X.prog C.X.w) k f fd ps (spM C.X.K C.S m)) (hr : Room k C.X.A) (hg : Gl C.X x) (hm : C.X.mg x = some (.ref f)) (hk : PySem.W.keepIn C.X.K (.ref f) = true) (hb : Binds C.X.K fd ps []) (hx : Passes (CX C.X.prog C.X.w) C.X C.E)
    (ha : AV C (e :: es) fs) (hdb : (x == ("__debug__" : Str)) = false := by decide) (he : starEach (e :: es) C.X.env = (false, eval e C.X.env) :: starEach es C.X.env := by rfl) (hpl : (backTo pos (starEach es C.X.env)).any (·.1) = false := by rfl) : EV C (.Call (.Name x p) (e :: es) [] pos) (eCB m fs) := ⟨by
  refine pe_weak (pe_call F hr hg hm hk hb .nil hx ha.pa hdb he hpl) fun σ H Q ⟨μ, δ, η, hp, er, q⟩ => ?_
  refine ⟨μ, δ, η, hp, er, (Post.bind (R := RepL C.X.K) q).imp fun vs H1 ⟨μ1, ds, η1, k1, p1, h1, r1, q1⟩ => ?_⟩
  rw [List.append_nil]
  exact ⟨μ1, ds, η1, h1, r1, q1⟩⟩
theorem ev_call0 (F : FnOk C.X.prog C.X.w C.X.K C.X.mg C.X.base (CX C.X.prog C.X.w) k f fd ps (spM C.X.K C.S m)) (hr : Room k C.X.A) (hg : Gl C.X x) (hm : C.X.mg x = some (.ref f)) (hk : PySem.W.keepIn C.X.K (.ref f) = true) (hb : Binds C.X.K fd ps []) (hx : Passes (CX C.X.prog C.X.w) C.X C.E)
    (hdb : (x == ("__debug__" : Str)) = false := by decide) : EV C (.Call (.Name x p) [] [] pos) (fun _ η => m [] η) := ⟨by
  refine pe_weak (pe_call0 F hr hg hm hk hb .nil hx hdb) fun σ H Q ⟨μ, δ, η, hp, er, q⟩ => ?_
  exact ⟨μ, [], η, hp, RepL.nil, q⟩⟩
end
end EV
/-! G1: a generator expression of one clause over anything that PI serves; its turns. -/
namespace GX
open PySem PySem.Spec PyProof.Rows L2 GenW

/-- a generator expression's names: its own (with their places in N), or captured -/
structure GenOk (N : List Str) (sc scope : Scope) (own : List (Str × Nat)) : Prop where
  blk : BlkOk N sc scope own
  co : scope.isCoroutine = false
  nocell : ∀ y ∈ scope.names, y.2 ≠ .cell
  dot : scope.names.lookup (".0" : Str) = some NameKind.local
/-- the context of the generator's frame -/
abbrev cxG (X : Cx) (A : Around) (s : Shared) (H : Hp) (env : Env) (fp : List Addr) (go : List (Addr × Obj)) : Cx :=
  { X with A := A, s_0 := s, H_0 := H, env := env, outer := X.stack, stack := env :: X.stack, ex := fp, fn := fun _ => false, pn := go, xe := fun _ _ => False }
section
variable {X : Cx} {pins : List (Addr × Obj)} {σ : L2.St} {H : Hp} {s : Shared}
/-- the frame is laid, and what is pinned -/
theorem gen_start {scope : Scope} {own : List (Str × Nat)} {fp : List Addr} {A : Around} {code : Value} {bi : Addr} {itv : Value} {s1 : Shared} (I : Inv X pins σ H s) (ok : GenOk X.N X.env.scope scope own) (hN : X.N.Nodup) (hfp : ∀ b ∈ fp, FpOk X pins H b ∧ b < s.heap.objs.size)
    (hA : A.handled = none) (hfr : A.frames = some (genEnv scope (cloFrom X.env.cells scope.names []) s.heap.objs.size code bi X.env :: X.stack)) (hbi : bi = builtinsNs) (hc : X.calm = true)
    (os : s1.os = s.os) (bare : AllBare s1.gens) (kp : ∀ b o, s.heap.get? b = some o → s1.heap.get? b = some o) (ns : s1.heap.Ns s.heap.objs.size (fun y => if y = ".0" then some itv else none)) (hl : s.heap.objs.size < s1.heap.objs.size) :
    Inv (cxG X A s H (genEnv scope (cloFrom X.env.cells scope.names []) s.heap.objs.size code bi X.env) fp []) [] (wipe σ (own.map Prod.snd)) H s1 := by
  have hfree : ∀ y ∈ scope.names, y.2 = .free → ∃ c, X.env.cells.lookup y.1 = some c := fun y hy e => by
    rcases ok.blk.free y hy e with k | k
    · exact I.ok.has _ (.inl k)
    · exact I.ok.has _ (.inr k)
  generalize hcenv : genEnv scope (cloFrom X.env.cells scope.names []) s.heap.objs.size code bi X.env = cenv at hfr ⊢
  have hL : cenv.locals = s.heap.objs.size := by rw [← hcenv]; rfl
  have hcl : cenv.cells = cloFrom X.env.cells scope.names [] := by rw [← hcenv]; rfl
  have hsc : cenv.scope = scope := by rw [← hcenv]; rfl
  have hFr : cenv.frame = some cenv.locals := by rw [← hcenv]; rfl
  have cm : ∀ {y c}, (y, c) ∈ cloFrom X.env.cells scope.names [] → X.env.cells.lookup y = some c ∧ c < s.heap.objs.size := fun {y c} hm => by
    rcases cloFrom_mem hm with hm | ⟨h1, rfl⟩
    · cases hm
    · obtain ⟨c, hc⟩ := hfree _ h1 rfl
      rw [hc]
      obtain ⟨w, z⟩ := I.cell _ _ hc
      exact ⟨rfl, z.lt⟩
  have mem : ∀ {y c}, cenv.cells.lookup y = some c → X.env.cells.lookup y = some c ∧ c < s.heap.objs.size := fun {y c} e => by
    rw [hcl] at e
    exact cm (PySem.mem_of_lookup e)
  have look : ∀ {y}, scope.names.lookup y = some .free → ∃ c, cenv.cells.lookup y = some c ∧ X.env.cells.lookup y = some c := fun {y} hl => by
    have hy : (y, NameKind.free) ∈ scope.names := PySem.mem_of_lookup hl
    obtain ⟨c', e'⟩ := mem_lookup (cloFrom_has (cells := X.env.cells) (acc := []) hy)
    rw [← hcl] at e'
    exact ⟨c', e', (mem e').1⟩
  have okB : (cxG X A s H cenv fp []).Ok := by
    refine ⟨I.ok.mod, by show cenv.scope.kind = _; rw [hsc]; exact ok.blk.kind, by show cenv.globals = _; rw [← hcenv]; exact I.ok.glob, by show cenv.builtins = _; rw [← hcenv]; exact hbi, by show s.heap.objs.size ≤ cenv.locals; rw [hL]; exact Nat.le_refl _,
      fun y z c e1 e2 => I.ok.inj y z c (mem e1).1 (mem e2).1, fun y hy => ?_, fun y c z e => ?_, fun _ => hA, hfr, .inr ⟨rfl, hFr⟩, fun b hb => ⟨?_, fun y c e z => ?_⟩, I.bs, Nat.le_trans I.ok.bsz I.sz, fun b o e hb => ?_, fun b hb z => ?_, I.stack, I.stkFree⟩
    · show ∃ c, cenv.cells.lookup y = some c
      have key : ∀ k, cenv.kindOf y = some k → (k = .cell ∨ k = .free) → ∃ c, cenv.cells.lookup y = some c := fun k hk hk' => by
        unfold Env.kindOf at hk
        rw [hsc] at hk
        rcases hk' with rfl | rfl
        · exact absurd rfl (ok.nocell _ (PySem.mem_of_lookup hk))
        · obtain ⟨c, h1, _⟩ := look hk
          exact ⟨c, h1⟩
      rcases hy with hy | hy
      · exact key _ hy (.inl rfl)
      · exact key _ hy (.inr rfl)
    · exact absurd (show false = true from z) Bool.false_ne_true
    · show b ≠ cenv.locals
      rw [hL]; exact Nat.ne_of_lt (hfp b hb).2
    · exact (hfp b hb).1.2.2.2.2.1 y c (mem e).1 z
    · rcases (hfp b hb).1.2.2.2.1 with z | z
      · exact I.ok.noex b o e z
      · exact absurd (Nat.lt_of_lt_of_le (Heap.lt_size e) (Nat.le_trans I.ok.bsz z)) (Nat.lt_irrefl _)
    · rcases List.mem_cons.mp (I.stkSub b z) with z | z
      · exact (hfp b hb).1.2.1 z
      · exact (hfp b hb).1.2.2.1 z
  refine ⟨okB, os, bare, Un.kept kp, ⟨_, by show Heap.Ns _ cenv.locals _; rw [hL]; exact ns, fun i y av e1 e2 e3 => ?_⟩, fun y c e => ?_, ?_, fun y c e => ?_, fun p hp => ?_, I.hok.kept kp, by rw [wipe_length]; exact I.len⟩
  · obtain ⟨e2, hne⟩ := wipe_some e2
    have hfr : scope.names.lookup y = some .free := by
      have no : ∀ k, scope.names.lookup y = some k → ¬ (k = .local ∨ k = .cell) := fun k e hh => by
        rcases ok.blk.own _ (PySem.mem_of_lookup e) hh with e' | e'
        · obtain ⟨p, hp, hpy⟩ := List.mem_map.mp e'
          have e3 := ok.blk.ix p hp
          have : p.1 = y := hpy
          rw [this] at e3
          exact hne (List.mem_map.mpr ⟨p, hp, nodup_ix hN e3 e1⟩)
        · exact e' (List.mem_of_getElem? e1)
      have e3 : Vis cenv.scope y := e3
      rw [hsc] at e3
      rcases e3 with e3 | e3 | e3
      · exact absurd (.inl rfl) (no _ e3)
      · exact absurd (.inr rfl) (no _ e3)
      · exact e3
    obtain ⟨m, hn, hl⟩ := I.loc
    have hvis : Vis X.env.scope y := (ok.blk.free _ (PySem.mem_of_lookup hfr) rfl).elim (fun k => .inr (.inl k)) (fun k => .inr (.inr k))
    obtain ⟨w, r, q⟩ := hl i y av e1 e2 hvis
    have hk : cenv.kindOf y = some .free := by unfold Env.kindOf; rw [hsc]; exact hfr
    refine ⟨w, r, .inr ⟨.inr hk, ?_⟩⟩
    obtain ⟨c, h1, h2⟩ := look hfr
    rcases q with ⟨k, _⟩ | ⟨_, c', e', z⟩
    · have k : X.env.scope.names.lookup y = some .local := k
      rcases ok.blk.free _ (PySem.mem_of_lookup hfr) rfl with k' | k' <;> rw [show X.env.scope.names.lookup y = _ from k'] at k <;> cases k
    · rw [h2] at e'; cases e'
      exact ⟨c, h1, z.keeps kp⟩
  · obtain ⟨h1, _⟩ := mem (show cenv.cells.lookup y = some c from e)
    obtain ⟨w, z⟩ := I.cell y c h1
    exact ⟨w, z.keeps kp⟩
  · show H cenv.locals = none
    rw [hL]; exact I.hok.fresh (Nat.le_refl _)
  · exact I.freeC y c (mem (show cenv.cells.lookup y = some c from e)).1
  · exact absurd (show p ∈ ([] : List (Addr × Obj)) ++ [] from hp) (by simp)

/-! ### the consumer -/
/-- running: without a list of the consumer's, or with one at S -/
def GI0 (X : Cx) (So : Option Addr) (ip : List (Addr × Obj)) (ys : List V) (σ : L2.St) (H : Hp) (s : Shared) : Prop := match So with
  | none => Inv X ip σ H s
  | some S => GI X S ip ys σ H s
/-- while the generator sleeps -/
structure Still (s s' : Shared) : Prop where
  os : s'.os = s.os
  bare : AllBare s'.gens
  keep : ∀ b o, s.heap.get? b = some o → s'.heap.get? b = some o
def SL (So : Option Addr) (v : Value) (s s' : Shared) : Prop := match So with
  | none => Still s s'
  | some S => Slept S v s s'
theorem GI0.inv {X : Cx} {So : Option Addr} {ip : List (Addr × Obj)} {ys : List V} {σ : L2.St} {H : Hp} {s : Shared} (h : GI0 X So ip ys σ H s) :
    ∃ pl, (∀ p ∈ pl, So = some p.1) ∧ Inv X (pl ++ ip) σ H s ∧ ∀ {ip' σ' H' s'}, Inv X (pl ++ ip') σ' H' s' → GI0 X So ip' ys σ' H' s' := by
  cases So with
  | none => exact ⟨[], fun p hp => (by simp at hp), h, fun J => J⟩
  | some S =>
    obtain ⟨acc, c, r, I⟩ := h
    exact ⟨[(S, lstObj acc c)], fun p hp => (by rw [List.mem_singleton.mp hp]), I, fun J => ⟨acc, c, r, J⟩⟩
theorem inv_still {X : Cx} {ip : List (Addr × Obj)} {σ : L2.St} {H : Hp} {s s' : Shared} (I : Inv X ip σ H s) (z : Still s s') : Inv X ip σ H s' :=
  I.call' (ch := []) z.os (Un.kept z.keep) (I.hok.kept z.keep) z.bare fun b hb => by simp at hb
/-- what the consumer's list must be to the generator -/
def ApartO (X : Cx) (So : Option Addr) : Prop := match So with
  | none => True
  | some S => Apart X S ∧ ∀ p ∈ X.pn, p.1 ≠ S
theorem GI0.woken {X : Cx} {So : Option Addr} {ip : List (Addr × Obj)} {ys : List V} {x : V} {v : Value} {σ : L2.St} {H : Hp} {s s' : Shared} (hA : ApartO X So) (hip : ∀ S, So = some S → ∀ p ∈ ip, p.1 ≠ S) (h : GI0 X So ip ys σ H s) (rv : RelV x v) (z : SL So v s s') : GI0 X So ip (ys ++ [x]) σ H s' := by
  cases So with
  | none => exact inv_still h z
  | some S => exact GI.woken hA.2 (hip S rfl) hA.1 h rv z
theorem GI0.weak {X : Cx} {So : Option Addr} {ip : List (Addr × Obj)} {ys : List V} {σ σ' : L2.St} {H : Hp} {s : Shared} (h : GI0 X So ip ys σ H s) (hl : σ'.length = σ.length) (w : ∀ (i : Nat) v, σ'[i]? = some (some v) → σ[i]? = some (some v)) : GI0 X So ip ys σ' H s := by
  obtain ⟨pl, _, J, back⟩ := h.inv
  exact back (J.weak hl w)
end
end GX
/-! G2: the turns of a generator expression. -/
namespace GX
open PySem PySem.Spec PyProof.Rows L2 GenW

/-- what the turns ask: W by the turn, a measure, what is out, the heap; Yw: what the consumer wants of an item (its going on is the last), Fin: of the end -/
def Turns (J : It) (g : TG) (tt : TT) (te : TE) (vs : List Nat) (σ : L2.St) (Yw : V → List V → Hp → Prop → Prop) (Fin : List V → Hp → Prop) (W : Nat → Nat → List V → Hp → Prop) : Prop :=
  ∀ i m ys H, W i m ys H → (J.stop i H ∧ Fin ys H) ∨ (J.go i H ∧ ∀ x H', J.yld i H x H' → g x (wipe σ vs) H' fun σ2 H2 => wipe σ2 vs = wipe σ vs ∧ tt σ2 H2 fun b H3 =>
    if b = true then te σ2 H3 fun y H4 => ys.length < sizeLine ∧ Yw y ys H4 (∃ m', m' < m ∧ W (i + 1) m' (ys ++ [y]) H4) else ∃ m', m' < m ∧ W (i + 1) m' ys H3)
theorem compTurn_genT (elt target iter : Expr) (ifs : List Expr) (scope : Scope) (pos : Pos) (it acc : Value) (env : Env) :
    compTurn (.GeneratorExp elt [⟨target, iter, ifs, 0⟩] scope pos) 0 it acc env = (do
      standAt iter.pos
      match ← pyNext it with
      | none => pure (.done .next)
      | some v =>
        letOwnedTupleGo target it v
        assign target env v
        let ok ← forIn ifs true fun c r => if r = true then do let ok ← isTrue c env (eval c env); pure (ForInStep.yield ok) else pure (ForInStep.yield r)
        if ok then
          (do let v ← eval elt env; standAt elt.pos; let _ ← yieldOut env v)
        again (.compLoop (.GeneratorExp elt [⟨target, iter, ifs, 0⟩] scope pos) 0 it acc env)) := by rfl
theorem wpF {α : Type} {t : Sem α} {Q Q' : α → Shared → Prop} {M : Model} {A : Around} {E : Value → Shared → Prop} {s : Shared} (h : wpAny M A t Q (fun _ _ => False) s) (hQ : ∀ a s, Q a s → Q' a s) : wpAny M A t Q' E s := wpAny_mono h hQ fun _ _ z => z.elim
section
variable {X : Cx} {A : Around} {So : Option Addr} {R : GenEnd} {Y : Protocol} {elt tg iter : Expr} {ifs : List Expr} {scope : Scope} {gpos : Pos} {g : TG} {tt : TT} {te : TE} {vs : List Nat} {σ : L2.St} {it : Addr} {fp : List Addr} {tn : Nat → Heap → Prop} {J : It}
  {Yw : V → List V → Hp → Prop → Prop} {Fin : List V → Hp → Prop} {W : Nat → Nat → List V → Hp → Prop}
/-- X: the generator's own context -/
theorem seg_gx (hx : X.xe = fun _ _ => False) (hc : X.calm = true) (hco : X.env.scope.isCoroutine = false) (hA : A.over (.compLoop (.GeneratorExp elt [⟨tg, iter, ifs, 0⟩] scope gpos) 0 (.ref it) .none X.env) [] = X.A)
    (hap : ApartO X So) (hfS : ∀ S, So = some S → S ∉ fp) (hex : ∀ b ∈ fp, b ∈ X.ex) (hpn : ∀ p ∈ X.pn, p.1 ∉ fp)
    (T : Turn X.prog X.w X.K tg J fp it tn) (pg : PG X tg g) (pt : PTs X ifs tt) (pe : PE X elt te) (hW : Turns J g tt te vs σ Yw Fin W)
    (mono : ∀ y ys H C C', (C → C') → Yw y ys H C → Yw y ys H C')
    (hY : ∀ n ys x v ip σ H s₀ s (kap : Resume → Shared → Prop), n + 1 + ys.length = sizeLine → RelV x v → GI0 X So ip ys σ H s → Yw x ys H (∀ s', SL So v s s' → kap (.send .none) s') → Y n s₀ v s kap)
    (hR : ∀ n ys ip σ H s₀ s, n + ys.length = sizeLine → GI0 X So ip ys σ H s → Fin ys H → R n s₀ (.ok .next) s) :
    ∀ m n i ys s₀ s H, n + ys.length = sizeLine → GI0 X So [] ys (wipe σ vs) H s → tn i s.heap → (∀ b ∈ fp, H b = none) → W i m ys H →
      Seg (model X.prog X.w) A R Y n s₀ (.compLoop (.GeneratorExp elt [⟨tg, iter, ifs, 0⟩] scope gpos) 0 (.ref it) .none X.env)
        ((model X.prog X.w).den (.compLoop (.GeneratorExp elt [⟨tg, iter, ifs, 0⟩] scope gpos) 0 (.ref it) .none X.env)) [] s := by
  intro m
  induction m using Nat.strongRecOn with
  | ind m ih =>
  intro n i ys s₀ s H hn hG st hfn w
  have stat : ∀ {σ' : L2.St} {H' : Hp} {s' : Shared} {pl : List (Addr × Obj)}, (∀ p ∈ pl, p.1 ∉ fp) → Inv X pl σ' H' s' → (∀ b ∈ fp, H' b = none) → ∀ b ∈ fp, FpOk X pl H' b := fun {σ' H' s' pl} hpl I' hn b hb =>
    ⟨hn b hb, (I'.ok.exf b (hex b hb)).1, I'.ok.exfs b (hex b hb), .inl (hex b hb), fun x c e => (I'.ok.exf b (hex b hb)).2 x c e, fun p hp z => by
      rcases List.mem_append.mp hp with hp | hp
      · exact hpn p hp (z ▸ hb)
      · exact hpl p hp (z ▸ hb)⟩
  show Seg _ A _ _ _ s₀ _ ((compTurn (.GeneratorExp elt [⟨tg, iter, ifs, 0⟩] scope gpos) 0 (.ref it) .none X.env).onRaise (leaving X.env)) [] s
  rw [compTurn_genT, Sem.onRaise_eq_wrap]
  refine seg_bind_wrap (wpAny_standAt ?_)
  obtain ⟨pl, hpl, I, back⟩ := hG.inv
  rw [List.append_nil] at I
  have plf : ∀ p ∈ pl, p.1 ∉ fp := fun p hp => hfS p.1 (hpl p hp)
  rcases hW i m ys H w with ⟨stop, fin⟩ | ⟨go, step⟩
  · refine seg_bind_wrap ?_
    rw [hA]
    refine wpF (T.done X rfl rfl rfl hc i pl s _ H (fun _ _ => False) I (stat plf I hfn) st stop) fun r s1 ⟨hr, I1⟩ => ?_
    subst hr
    exact seg_end (.ok .next) (hR n ys [] _ H s₀ s1 hn (back (by rw [List.append_nil]; exact I1)) fin)
  · refine seg_bind_wrap ?_
    rw [hA]
    refine wpF (T.item X rfl rfl rfl hc i pl s _ H (fun _ _ => False) I (stat plf I hfn) st go) fun r s1 ⟨u, hr, h1⟩ => ?_
    subst hr
    refine seg_bind_wrap ?_
    rw [hA]
    refine wpF h1 fun _ s2 ⟨x, H2, I2, r2, y2, st2, n2⟩ => ?_
    have I2' := I2.pinned (stat plf I2 n2) (T.obj _ _ st2)
    refine seg_bind_wrap ?_
    rw [hA]
    have a1 := pg.run _ s2 _ H2 x u _ I2' r2 (step x H2 y2)
    rw [hx] at a1
    refine wpF a1 fun _ s3 ⟨σ3, H3, I3, hw3, q3⟩ => ?_
    refine seg_bind_wrap ?_
    rw [hA]
    have a2 := pt.run _ s3 σ3 H3 _ I3 q3
    rw [hx] at a2
    refine wpF a2 fun b s4 ⟨H4, I4, q4⟩ => ?_
    -- what stays of the iterator's objects
    have pin' : ∀ {σ' : L2.St} {H' : Hp} {s' : Shared}, Inv X (pl ++ pinsAt fp s2.heap) σ' H' s' → ∀ b ∈ fp, ∀ o, s2.heap.get? b = some o → s'.heap.get? b = some o ∧ H' b = none := fun {σ' H' s'} I' b hb o e =>
      let z := I'.pin (b, o) (List.mem_append_right _ (List.mem_append_right _ (mem_pinsAt hb e)))
      ⟨z.1, z.2.1⟩
    have hl : (wipe σ vs).length = σ3.length := by rw [← hw3, wipe_length]
    have wk : ∀ (j : Nat) v, (wipe σ vs)[j]? = some (some v) → σ3[j]? = some (some v) := fun j v e => by
      rw [← hw3] at e
      exact (wipe_some e).1
    cases b with
    | false =>
      simp only [Bool.false_eq_true, if_false] at q4 ⊢
      obtain ⟨m', hm, w'⟩ := q4
      refine seg_again rfl (ih m' hm n (i + 1) ys s₀ s4 H4 hn (back (by rw [List.append_nil]; exact (I4.unpinned (pins := pl)).weak hl wk)) (T.keep _ _ _ st2 fun b hb o e => (pin' I4 b hb o e).1) (fun b hb => ?_) w')
      obtain ⟨o, e, _⟩ := T.obj _ _ st2 b hb
      exact (pin' I4 b hb o e).2
    | true =>
      simp only [if_true] at q4 ⊢
      have hy : ∀ v, yieldOut X.env v = yieldValue v := fun v => by simp only [yieldOut, hco, Bool.false_eq_true, if_false]
      simp only [hy]
      rw [Sem.bind_eq_wrap', Sem.bind_eq_wrap', Sem.wrap_wrap, Sem.wrap_wrap]
      refine seg_wrap ?_
      rw [hA]
      have a3 := pe.run _ s4 σ3 H4 _ I4 q4
      rw [hx] at a3
      refine wpF a3 fun yv s5 ⟨yy, H5, I5, r5, hlt, yw⟩ => ?_
      obtain ⟨n', rfl⟩ : ∃ n', n = n' + 1 := ⟨n - 1, by omega⟩
      have G5 : GI0 X So (pinsAt fp s2.heap) ys (wipe σ vs) H5 s5 := back (I5.weak hl wk)
      refine seg_at (seg_yield rfl rfl rfl (hY n' ys yy yv (pinsAt fp s2.heap) (wipe σ vs) H5 s₀ s5 _ (by omega) r5 G5 (mono _ _ _ _ _ (fun ⟨m', hm, w'⟩ s' z => ?_) yw)))
      have nS : ∀ S, So = some S → ∀ p ∈ pinsAt fp s2.heap, p.1 ≠ S := fun S e p hp z => hfS S e (z ▸ (of_pinsAt hp).1)
      have G6 := G5.woken hap nS r5 z
      obtain ⟨pl6, hpl6, I6, back6⟩ := G6.inv
      have pin6 : ∀ b ∈ fp, ∀ o, s2.heap.get? b = some o → s'.heap.get? b = some o ∧ H5 b = none := fun b hb o e =>
        let z := I6.pin (b, o) (List.mem_append_right _ (List.mem_append_right _ (mem_pinsAt hb e)))
        ⟨z.1, z.2.1⟩
      refine seg_again rfl (ih m' hm n' (i + 1) (ys ++ [yy]) s' s' H5 (by rw [List.length_append, List.length_singleton]; omega) (back6 (by rw [List.append_nil]; exact I6.unpinned (pins := pl6))) (T.keep _ _ _ st2 fun b hb o e => (pin6 b hb o e).1) (fun b hb => ?_) w')
      obtain ⟨o, e, _⟩ := T.obj _ _ st2 b hb
      exact (pin6 b hb o e).2
end
end GX
/-! G3: a generator expression is made; woken it takes its turns. -/
namespace GX
open PySem PySem.Spec PyProof.Rows L2 GenW GxR

/-- what stands outside while the generator runs or sleeps -/
def OutF (X : Cx) (So : Option Addr) (H2 : Hp) (sc : Shared) (fp : List Addr) (a : Addr) (gn : Nat) (ys : List V) (H' : Hp) (s' : Shared) : Prop :=
  s'.os = sc.os ∧ AllBare s'.gens ∧ s'.heap.NoLimit ∧ s'.heap.IsGen a gn ∧ Un (frs X.stack) fp H2 H' sc.heap s'.heap ∧ HOk X.prog X.w H' s'.heap ∧
    match So with
    | none => True
    | some S => H' S = none ∧ ∃ acc c, s'.heap.get? S = some (lstObj acc c) ∧ Vals ys acc.toList
/-- a generator that has not begun -/
def GMk (X : Cx) (k : Nat) (pins : List (Addr × Obj)) (σ : L2.St) (J : It) (g : TG) (tt : TT) (te : TE) (vs : List Nat) (H2 : Hp) (u : Value) (s' : Shared) : Prop :=
  ∃ (a : Addr) (gn : Nat) (c : Code) (sc : Shared) (fp : List Addr), u = .ref a ∧ Inv X pins σ H2 sc ∧ ExOk X pins fp ∧ sc.heap.objs.size ≤ a ∧ a < s'.heap.objs.size ∧ s'.heap.IsGen a gn ∧ s'.gens[gn]? = some (.fresh c) ∧ s'.os = sc.os ∧ AllBare s'.gens ∧ s'.heap.NoLimit ∧
    (∀ b o, sc.heap.get? b = some o → s'.heap.get? b = some o) ∧
    ∀ (A : Around) (So : Option Addr) (s2 : Shared) (R : GenEnd) (Y : Protocol) (Yw : V → List V → Hp → Prop → Prop) (Fin : List V → Hp → Prop) (W : Nat → Nat → List V → Hp → Prop) (m0 : Nat),
      Room (k + 1) A → A.frames = some X.stack → (∀ S, So = some S → s'.heap.objs.size ≤ S ∧ ∃ c, s2.heap.get? S = some (lstObj #[] c)) → (∀ b o, s'.heap.get? b = some o → s2.heap.get? b = some o) → s2.os = s'.os → AllBare s2.gens →
      Turns J g tt te vs σ Yw Fin W → W 0 m0 [] H2 → (∀ y ys H C C', (C → C') → Yw y ys H C → Yw y ys H C') →
      (∀ n ys x v H' s₀ s' (kap : Resume → Shared → Prop), n + 1 + ys.length = sizeLine → RelV x v → OutF X So H2 sc fp a gn ys H' s' → Yw x ys H' (∀ s'', SL So v s' s'' → kap (.send .none) s'') → Y n s₀ v s' kap) →
      (∀ n ys H' s₀ s', n + ys.length = sizeLine → OutF X So H2 sc fp a gn ys H' s' → Fin ys H' → R n s₀ (.ok .next) s') →
      Seg (model X.prog X.w) A R Y sizeLine s2 c ((model X.prog X.w).den c) [] s2

theorem over_gx {A : Around} {e : Expr} {elt : Expr} {gs : List Comprehension} {scope : Scope} {pos : Pos} {it acc : Value} {env : Env} :
    A.over (.compLoop (.GeneratorExp elt gs scope pos) 0 it acc env) [] = A.deeper env := by
  first
    | rfl
    | (obtain ⟨hd, d, fr, gs', u⟩ := A; simp [Around.over, Around.deeper, marksOver, frameCount, unitsOf, envsOf, guardsOf, pushEnvs, pushGuards, Code.envs, Code.env?, Code.isFrame, Code.guards, Code.isGuard, Code.weight, Code.frames, Code.isCreation, Code.isCaller, Code.cUnits])
section
variable {X : Cx} {pins : List (Addr × Obj)} {σ : L2.St} {H : Hp} {s : Shared}
theorem gen_make {c P : Addr} {elt tg iter : Expr} {ifs : List Expr} {scope : Scope} {own : List (Str × Nat)} {gpos : Pos} {g : TG} {tt : TT} {te : TE} {wi : TI} {k : Nat} {Q' : Value → Shared → Prop} {Rj : It → Hp → Prop}
    (hr : Room (k + 1) X.A) (hc : X.calm = true) (TB : TabB X.base X.mg c P) (hcode : X.env.code = .ref c) (ok : GenOk X.N X.env.scope scope own) (hN : X.N.Nodup) (hi : PI X tg iter wi)
    (hg : ∀ (A : Around) (s : Shared) (H : Hp) (C : Addr) (cl : List (Str × Addr)) (code : Value) (bi : Addr) (fp : List Addr) (go : List (Addr × Obj)), Room k A → PG (cxG X A s H (genEnv scope cl C code bi X.env) fp go) tg g)
    (ht : ∀ (A : Around) (s : Shared) (H : Hp) (C : Addr) (cl : List (Str × Addr)) (code : Value) (bi : Addr) (fp : List Addr) (go : List (Addr × Obj)), Room k A → PTs (cxG X A s H (genEnv scope cl C code bi X.env) fp go) ifs tt)
    (he : ∀ (A : Around) (s : Shared) (H : Hp) (C : Addr) (cl : List (Str × Addr)) (code : Value) (bi : Addr) (fp : List Addr) (go : List (Addr × Obj)), Room k A → PE (cxG X A s H (genEnv scope cl C code bi X.env) fp go) elt te)
    (hs : ∀ v, genFold iter X.env v = pure v) (I : Inv X pins σ H s) (h : wi σ H fun J H1 => TabG H1 P ∧ ∀ H2, Tabbed P H1 H2 → Rj J H2)
    (hQ : ∀ J H2 u s5, Rj J H2 → GMk X k pins σ J g tt te (own.map Prod.snd) H2 u s5 → Q' u s5) :
    wpAny (model X.prog X.w) X.A (eval (.GeneratorExp elt [⟨tg, iter, ifs, 0⟩] scope gpos) X.env) Q' X.xe s := by
  have hfree : ∀ y ∈ scope.names, y.2 = .free → ∃ c, X.env.cells.lookup y.1 = some c := fun y hy e => by
    rcases ok.blk.free y hy e with k | k
    · exact I.ok.has _ (.inl k)
    · exact I.ok.has _ (.inr k)
  refine wpAny_GeneratorExp_make ok.co (closure_ok hfree) ok.nocell ok.dot ok.blk.kind hr.depth ?_ hs
  refine thn (hi.run pins s σ H _ I h) fun xv s1 hx => thn hx fun itv s2 h2 => ?_
  obtain ⟨it, fp, tn, J, H1, e, I1, T, st1, f1, ⟨ps, hP, htr⟩, q1⟩ := h2
  subst e
  have hPs : s2.heap.get? P = some { cls := .none, data := .fields ps } := I1.hok P _ hP
  have cd : PySem.W.CodeHd s2.heap c P := TB.code.keeps fun b u e => I1.bk b u e
  refine ⟨I1.nolimit, ?_⟩
  have cont : ∀ (code : Value) (h3 : Heap) (tk : Nat) (ps' : Array Value), Heap.ExtBut P s2.heap h3 → s2.heap.objs.size ≤ h3.objs.size → h3.get? P = some { cls := .none, data := .fields ps' } → (∃ more, ps' = ps ++ more) → TriplesOk ps'.toList →
      wpAny (model X.prog X.w) X.A (builtinsFor X.env.globals X.env.builtins) (fun bi s₄ => ∀ h', h'.Ns s₄.heap.objs.size (fun y => if y = ".0" then some (.ref it) else none) → Heap.SameBut s₄.heap.objs.size (s₄.heap.push { cls := .type "frame", data := .dict #[] }) h' →
          Q' (.ref h'.objs.size) { s₄ with
            gens := s₄.gens.push (.fresh (.compStart (.GeneratorExp elt [⟨tg, iter, ifs, 0⟩] scope gpos) 0 (.ref it) .none (genEnv scope (cloFrom X.env.cells scope.names []) s₄.heap.objs.size code bi X.env))),
            toks := s₄.toks + 1 + 1 + 1,
            heap := h'.push { cls := .type "generator", data := .fields #[.int s₄.gens.size 0, .str "<genexpr>" (s₄.toks + 1), .str (X.env.qual ++ "<genexpr>") (s₄.toks + 1 + 1)] } }) X.xe { s2 with heap := h3, toks := tk } := by
    intro code h3 tk ps' hx hsz hP3 hmore ht3
    obtain ⟨more, em⟩ := hmore
    obtain ⟨bm, ob, e1, e2, e3, e4, e5, e6, e7, e8⟩ := TB.bm
    have keep3 : ∀ b u, b ≠ P → s2.heap.get? b = some u → h3.get? b = some u := fun b u hb e => hx b u hb e
    refine wpAny_builtinsFor (m := X.mg) (by rw [I1.ok.glob]; exact (I1.mod.glob.keeps I1.bk).extBut hx TB.gP) e1 e2 (keep3 _ _ e4 (I1.bk _ _ e5)) e6 e7 e8 ?_
    -- the table has grown
    have I3 : Inv X pins σ (upd H1 P (.tbl (ps ++ more))) { s2 with heap := h3, toks := tk } :=
      inv_tab (more := more) (h' := h3) (g' := s2.gens) (d' := s2.drawn) (t' := tk) I1 hP keep3 (by rw [← em]; exact hP3) I1.bare
    have hh4 : ({ s2 with heap := h3, toks := tk } : Shared).heap = h3 := rfl
    generalize hs4 : ({ s2 with heap := h3, toks := tk } : Shared) = s4 at I3 hh4 ⊢
    intro h' hn' hs'
    have hn : ∀ b ∈ fp, (upd H1 P (.tbl (ps ++ more))) b = none := fun b hb => by
      rw [upd_ne (fun z => by rw [z] at hb; have := (f1 P hb).1; rw [hP] at this; cases this)]
      exact (f1 b hb).1
    have nPf : ∀ b ∈ fp, b ≠ P := fun b hb z => by
      have := (f1 b hb).1
      rw [z, hP] at this; cases this
    have st4 : tn 0 s4.heap := T.keep _ _ _ st1 fun b hb o e => by rw [hh4]; exact keep3 b o (nPf b hb) e
    have f4 : ∀ b ∈ fp, FpOk X pins (upd H1 P (.tbl (ps ++ more))) b ∧ b < s4.heap.objs.size := fun b hb => by
      obtain ⟨o, e, _⟩ := T.obj _ _ st4 b hb
      exact ⟨⟨hn b hb, (f1 b hb).2⟩, Heap.lt_size e⟩
    -- sizes and what is kept
    have hsz' : h'.objs.size = s4.heap.objs.size + 1 := by rw [hs'.1, Heap.size_push]
    have keep' : ∀ b o, s4.heap.get? b = some o → h'.get? b = some o := fun b o e => hs'.extBut b o (Nat.ne_of_lt (Heap.lt_size e)) (Heap.get?_push_of_some _ e)
    generalize hgo : ({ cls := .type "generator", data := .fields #[.int s4.gens.size 0, .str "<genexpr>" (s4.toks + 1), .str (X.env.qual ++ "<genexpr>") (s4.toks + 1 + 1)] } : Obj) = go
    have hgc : go.cls = .type "generator" := by rw [← hgo]
    have hgd0 : go.data = .fields #[.int s4.gens.size 0, .str "<genexpr>" (s4.toks + 1), .str (X.env.qual ++ "<genexpr>") (s4.toks + 1 + 1)] := by rw [← hgo]
    have hgs : go.slots = #[] := by rw [← hgo]
    have hgp : ∀ h : Heap, (h.push go).get? h.objs.size = some go := fun h => by rw [← hgo]; exact Heap.get?_push_size _ rfl
    have hgen : ∀ h : Heap, h.get? h'.objs.size = some go → h.IsGen h'.objs.size s4.gens.size := fun h e => ⟨go, _, _, e, hgc, hgd0, hgs⟩
    have keep5 : ∀ b o, s4.heap.get? b = some o → (h'.push go).get? b = some o := fun b o e => Heap.get?_push_of_some _ (keep' b o e)
    refine hQ J (upd H1 P (.tbl (ps ++ more))) _ _ (q1 _ ⟨⟨_, upd_same, by rw [← em]; exact ht3⟩, fun b hb => upd_ne hb⟩) ?_
    refine ⟨h'.objs.size, s4.gens.size, .compStart (.GeneratorExp elt [⟨tg, iter, ifs, 0⟩] scope gpos) 0 (.ref it) .none (genEnv scope (cloFrom X.env.cells scope.names []) s4.heap.objs.size code builtinsNs X.env), s4, fp, rfl, I3, fun b hb => ⟨(f4 b hb).1.2.2.2.1, (f4 b hb).1.2.1, (f4 b hb).1.2.2.2.2.1, (f4 b hb).1.2.2.2.2.2⟩, by omega, ?_, hgen _ (hgp h'), Array.getElem?_push_size .., rfl, AllBare.push I3.bare rfl, I3.nolimit.keeps keep5, keep5, ?_⟩
    · show _ < (h'.push go).objs.size
      rw [Heap.size_push]; exact Nat.lt_succ_self _
    intro A So s7 R Y Yw Fin W m0 hrA hfrA hSo hk7 hos hba hW w0 mono hY hR
    generalize hcenv : genEnv scope (cloFrom X.env.cells scope.names []) s4.heap.objs.size code builtinsNs X.env = cenv
    have hL : cenv.locals = s4.heap.objs.size := by rw [← hcenv]; rfl
    have kp7 : ∀ b o, s4.heap.get? b = some o → s7.heap.get? b = some o := fun b o e => hk7 b o (keep5 b o e)
    have hCl : s4.heap.objs.size < s7.heap.objs.size := by
      obtain ⟨o, _, _, ho, _⟩ := id hn'
      exact Heap.lt_size (hk7 _ _ (Heap.get?_push_of_some _ ho))
    have I0 : Inv (cxG X (A.deeper cenv) s4 (upd H1 P (.tbl (ps ++ more))) cenv fp []) [] (wipe σ (own.map Prod.snd)) (upd H1 P (.tbl (ps ++ more))) s7 := by
      rw [← hcenv]
      exact gen_start (itv := .ref it) I3 ok hN f4 (by rw [hcenv]; exact hrA.hd) (by rw [hcenv]; exact Around.frames_deeper hfrA) rfl hc hos hba kp7 ((hn'.push go).keeps hk7) hCl
    have ea : s7.heap.get? h'.objs.size = some go := hk7 _ _ (hgp h')
    have hSlt : ∀ S, So = some S → h'.objs.size < S := fun S e => by
      have h1 : (h'.push go).objs.size ≤ S := (hSo S e).1
      rw [Heap.size_push] at h1
      exact h1
    have young : ∀ b, s4.heap.objs.size < b → (upd H1 P (.tbl (ps ++ more))) b = none ∧ b ≠ cenv.locals ∧ b ∉ frs X.stack ∧ (∀ y c, cenv.cells.lookup y = some c → c ≠ b) ∧ b ∉ fp := fun b hb => by
      refine ⟨I3.hok.fresh (Nat.le_of_lt hb), by rw [hL]; exact Nat.ne_of_gt hb, fun hm => ?_, fun y c e z => ?_, fun hm => ?_⟩
      · have := I3.nofs (Nat.le_of_lt hb)
        rcases List.mem_cons.mp (I3.stkSub b hm) with z | z
        · have h9 := I3.lt
          rw [z] at hb
          exact absurd (Nat.lt_trans hb h9) (Nat.lt_irrefl _)
        · exact this z
      · have e' : (cloFrom X.env.cells scope.names []).lookup y = some c := by rw [← hcenv] at e; exact e
        rcases cloFrom_mem (PySem.mem_of_lookup e') with hm | ⟨h1, rfl⟩
        · cases hm
        · obtain ⟨c2, hc2⟩ := hfree _ h1 rfl
          rw [hc2] at z
          obtain ⟨w2, z2⟩ := I3.cell _ _ hc2
          have h3 := z2.lt
          have z3 : c2 = b := z
          rw [z3] at h3
          exact absurd (Nat.lt_trans hb h3) (Nat.lt_irrefl _)
      · exact absurd (Nat.lt_trans hb (f4 b hm).2) (Nat.lt_irrefl _)
    have hgd : ∀ v, go.data ≠ .cell v := fun v q => by rw [hgd0] at q; cases q
    have pinOk : ∀ pins', (∀ p ∈ pins', ∃ S c, So = some S ∧ p = (S, lstObj #[] c) ∧ s7.heap.get? S = some (lstObj #[] c)) → ∀ p ∈ [(h'.objs.size, go)] ++ pins', s7.heap.get? p.1 = some p.2 ∧ (upd H1 P (.tbl (ps ++ more))) p.1 = none ∧ p.1 ≠ cenv.locals ∧ p.1 ∉ frs X.stack ∧ ∀ v, p.2.data ≠ .cell v := fun pins' hp' p hp => by
      rcases List.mem_append.mp hp with hp | hp
      · rw [List.mem_singleton.mp hp]
        obtain ⟨y1, y2, y3, _⟩ := young h'.objs.size (by omega)
        exact ⟨ea, y1, y2, y3, hgd⟩
      · obtain ⟨S, cc, e, rfl, e2⟩ := hp' p hp
        obtain ⟨y1, y2, y3, _⟩ := young S (by have := hSlt S e; omega)
        exact ⟨e2, y1, y2, y3, fun v q => by cases q⟩
    have mkI : ∀ pins', (∀ p ∈ pins', ∃ S c, So = some S ∧ p = (S, lstObj #[] c) ∧ s7.heap.get? S = some (lstObj #[] c)) → Inv (cxG X (A.deeper cenv) s4 (upd H1 P (.tbl (ps ++ more))) cenv fp [(h'.objs.size, go)]) pins' (wipe σ (own.map Prod.snd)) (upd H1 P (.tbl (ps ++ more))) s7 := fun pins' hp' =>
      ⟨⟨I0.ok.mod, I0.ok.kind, I0.ok.glob, I0.ok.blt, I0.ok.above, I0.ok.inj, I0.ok.has, I0.ok.cab, I0.ok.hd, I0.ok.frames, I0.ok.stk, I0.ok.exf, I0.ok.bs, I0.ok.bsz, I0.ok.noex, I0.ok.exfs, I0.ok.funs, I0.ok.frf⟩, I0.os, I0.bare, I0.base, I0.loc, I0.cell, I0.free, I0.freeC, pinOk pins' hp', I0.hok, I0.len⟩
    generalize hXg : cxG X (A.deeper cenv) s4 (upd H1 P (.tbl (ps ++ more))) cenv fp [(h'.objs.size, go)] = Xg at mkI
    have hG0 : GI0 Xg So [] [] (wipe σ (own.map Prod.snd)) (upd H1 P (.tbl (ps ++ more))) s7 := by
      cases So with
      | none => exact mkI [] fun p hp => by simp at hp
      | some S =>
        obtain ⟨_, cc, e2⟩ := hSo S rfl
        exact ⟨#[], cc, .nil, mkI [(S, lstObj #[] cc)] fun p hp => by rw [List.mem_singleton.mp hp]; exact ⟨S, cc, rfl, rfl, e2⟩⟩
    have hRm : Room k (A.deeper cenv) := hrA.deeper cenv
    have outF : ∀ {ip ys σ' H' s'}, GI0 Xg So ip ys σ' H' s' → OutF X So (upd H1 P (.tbl (ps ++ more))) s4 fp h'.objs.size s4.gens.size ys H' s' := fun {ip ys σ' H' s'} G => by
      have G' := G
      obtain ⟨pl, _, J', _⟩ := G.inv
      subst hXg
      refine ⟨J'.os, J'.bare, J'.nolimit, hgen _ (J'.pin (h'.objs.size, go) (List.mem_append_left _ (List.mem_singleton.mpr rfl))).1, J'.base, J'.hok, ?_⟩
      cases So with
      | none => trivial
      | some S =>
        obtain ⟨a1, _, _, acc, cc, ra, ea⟩ := GI.at G'
        exact ⟨a1, acc, cc, ea, ra⟩
    have loop : Seg (model X.prog X.w) A R Y sizeLine s7 (.compLoop (.GeneratorExp elt [⟨tg, iter, ifs, 0⟩] scope gpos) 0 (.ref it) .none cenv) ((model X.prog X.w).den (.compLoop (.GeneratorExp elt [⟨tg, iter, ifs, 0⟩] scope gpos) 0 (.ref it) .none cenv)) [] s7 := by
      have pg := hg (A.deeper cenv) s4 (upd H1 P (.tbl (ps ++ more))) s4.heap.objs.size (cloFrom X.env.cells scope.names []) code builtinsNs fp [(h'.objs.size, go)] hRm
      have pt := ht (A.deeper cenv) s4 (upd H1 P (.tbl (ps ++ more))) s4.heap.objs.size (cloFrom X.env.cells scope.names []) code builtinsNs fp [(h'.objs.size, go)] hRm
      have pe := he (A.deeper cenv) s4 (upd H1 P (.tbl (ps ++ more))) s4.heap.objs.size (cloFrom X.env.cells scope.names []) code builtinsNs fp [(h'.objs.size, go)] hRm
      rw [hcenv, hXg] at pg pt pe
      have hXe : Xg.env = cenv := by rw [← hXg]
      have q := seg_gx (X := Xg) (A := A) (So := So) (R := R) (Y := Y) (elt := elt) (iter := iter) (scope := scope) (gpos := gpos) (it := it) (by rw [← hXg]) (by rw [← hXg]; exact hc) (by rw [hXe, ← hcenv]; exact ok.co) (by rw [hXe, ← hXg]; exact over_gx (e := elt))
        (by
          subst hXg
          cases So with
          | none => trivial
          | some S =>
            have h1 := hSlt S rfl
            obtain ⟨_, y2, _, y4, _⟩ := young S (by omega)
            exact ⟨⟨by show s4.heap.objs.size ≤ S; omega, y2, y4⟩, fun p hp => by rw [List.mem_singleton.mp hp]; exact Nat.ne_of_lt h1⟩)
        (fun S e => (young S (by have := hSlt S e; omega)).2.2.2.2) (fun b hb => by rw [← hXg]; exact hb) (fun p hp => by
          have hp : p ∈ [(h'.objs.size, go)] := by rw [← hXg] at hp; exact hp
          rw [List.mem_singleton.mp hp]
          exact (young h'.objs.size (by omega)).2.2.2.2) (by rw [← hXg]; exact T) pg pt pe hW mono
        (fun n ys x v ip σ' H' s₀ s' kap hn rx G yw => hY n ys x v H' s₀ s' kap hn rx (outF G) yw) (fun n ys ip σ' H' s₀ s' hn G fin => hR n ys H' s₀ s' hn (outF G) fin)
        m0 sizeLine 0 [] s7 s7 _ rfl hG0 (T.keep _ _ _ st4 fun b hb o e => kp7 b o e) hn w0
      rw [hXe] at q
      have hXp : Xg.prog = X.prog := by rw [← hXg]
      have hXw : Xg.w = X.w := by rw [← hXg]
      rw [hXp, hXw] at q
      exact q
    show Seg _ A _ _ _ s7 _ ((compStart (.GeneratorExp elt [⟨tg, iter, ifs, 0⟩] scope gpos) 0 (.ref it) .none cenv).onRaise (leaving cenv)) [] s7
    unfold compStart
    rw [Sem.onRaise_eq_wrap]
    show Seg _ A _ _ _ s7 _ ((ask >>= _).wrap _ _ _ _) [] s7
    refine seg_bind_wrap (wpAny_askSetting ?_)
    split
    · exact seg_again rfl loop
    · refine seg_bind_wrap (wpAny_rule ?_)
      show Seg _ A _ _ _ s7 _ ((standAt iter.pos >>= _).wrap _ _ _ _) [] s7
      exact seg_bind_wrap (wpAny_standAt (seg_bind_wrap (T.self _ 0 s7 _ _ (T.keep _ _ _ st4 fun b hb o e => kp7 b o e) (seg_again rfl loop))))
  cases hf : codeAmong gpos ps.toList with
  | none =>
    refine wpAny_genexprCodeX hcode (cd.code hPs htr) (cd.tab hPs) hf fun c' h' tk hx hge hlt hco' _ htab' _ => ?_
    obtain ⟨o1, vs, f1, tf, fl, tg, inF, tx, tt, op, _, _, _, _, _, _, _, _, _, htr', _⟩ := hco'
    exact cont _ h' tk _ hx (Nat.le_trans hge (Nat.le_of_lt hlt)) htab'.2 ⟨_, rfl⟩ htr'
  | some cv =>
    refine wpAny_genexprCode_hit hcode (cd.code hPs htr) hf ?_
    exact cont cv s2.heap s2.toks ps (Heap.ExtBut.refl _ _) (Nat.le_refl _) hPs ⟨#[], by simp⟩ htr
end
end GX
/-! G4: all, any of a generator expression. -/
namespace GX
open PySem PySem.Spec PyProof.Rows L2 GenW GxR

/-- the call may end so -/
def DoneA (X : Cx) (sc : Shared) (H2 : Hp) (fp : List Addr) (Q : V → Hp → Prop) (b : Bool) (s' : Shared) : Prop :=
  ∃ H', s'.os = sc.os ∧ AllBare s'.gens ∧ Un (frs X.stack) fp H2 H' sc.heap s'.heap ∧ HOk X.prog X.w H' s'.heap ∧ Q (.bl b) H'
theorem DoneA.setGen {X : Cx} {sc : Shared} {H2 : Hp} {fp : List Addr} {Q : V → Hp → Prop} {b : Bool} {s' : Shared} {g : Nat} {x : GenState} (h : DoneA X sc H2 fp Q b s') (hx : x.bare = true) : DoneA X sc H2 fp Q b (s'.setGen g x) := by
  obtain ⟨H', h1, h2, h3, h4, h5⟩ := h
  exact ⟨H', h1, allBare_setGen h2 hx, h3, h4, h5⟩
theorem DoneA.kept {X : Cx} {sc : Shared} {H2 : Hp} {fp : List Addr} {Q : V → Hp → Prop} {b : Bool} {s' : Shared} {h' : Heap} (h : DoneA X sc H2 fp Q b s') (k : ∀ b o, s'.heap.get? b = some o → h'.get? b = some o) : DoneA X sc H2 fp Q b { s' with heap := h' } := by
  obtain ⟨H', h1, h2, h3, h4, h5⟩ := h
  exact ⟨H', h1, h2, h3.trans (Un.kept k), h4.kept k, h5⟩
/-- an item: a truth value; at the stopping one the call ends -/
def YA (X : Cx) (sc : Shared) (H2 : Hp) (fp : List Addr) (a : Addr) (gn : Nat) (Q : V → Hp → Prop) (stop : Bool) : Protocol := fun _ _ v s kap =>
  s.os = sc.os ∧ AllBare s.gens ∧ s.heap.NoLimit ∧ s.heap.IsGen a gn ∧ ∃ k, v = .bool k ∧ (k = stop → DoneA X sc H2 fp Q stop s) ∧ (k = !stop → ∀ s'', Still s s'' → kap (.send .none) s'')
def FA (X : Cx) (sc : Shared) (H2 : Hp) (fp : List Addr) (Q : V → Hp → Prop) (stop : Bool) : Nat → Shared → Shared → Prop := fun _ _ s => DoneA X sc H2 fp Q (!stop) s
abbrev EA (X : Cx) (sc : Shared) (H2 : Hp) (fp : List Addr) (Q : V → Hp → Prop) (stop : Bool) : GenEnd := fun n s₀ r s => ((r = .ok (.ret .none) ∨ r = .ok .next) ∧ FA X sc H2 fp Q stop n s₀ s) ∨ ∃ e, r = .error e ∧ False
theorem Still.setGen {s s' : Shared} {g : Nat} {x : GenState} (h : Still s s') (hx : x.bare = true) : Still s (s'.setGen g x) := ⟨h.os, allBare_setGen h.bare hx, h.keep⟩
theorem Still.refl {s : Shared} (h : AllBare s.gens) : Still s s := ⟨rfl, h, fun _ _ e => e⟩
section
variable {X : Cx} {A : Around} {sc : Shared} {H2 : Hp} {fp : List Addr} {Q : V → Hp → Prop} {a : Addr} {gn : Nat}
theorem loop_all (hh : A.handled = none) (hd : A.depth < recursionLimit) : ∀ (m : Nat) (s : Shared), s.heap.IsGen a gn → s.heap.NoLimit →
    (∃ gs, s.gens[gn]? = some gs ∧ gs.Goes (model X.prog X.w) A.in1.in1 (EA X sc H2 fp Q false) (YA X sc H2 fp a gn Q false) m (.send .none) (s.setGen gn .running)) →
    codeAny (model X.prog X.w) A (.builtin "all.loop" ⟨[.ref a], []⟩) (fun r s' => ∃ b, r = .ok (.ret (.bool b)) ∧ DoneA X sc H2 fp Q b s') s := by
  intro m
  induction m with
  | zero =>
    intro s hg hl ⟨gs, hgs, hgo⟩
    refine codeAny_builtin F.entry_all_loop ?_
    rw [Around.under_plainId F.plain_all_loop _]
    show wpAny _ A.in1 (pyNext (.ref a) >>= _) _ _ s
    refine wpAny_bind (next_genG (A := A.in1) (F := FA X sc H2 fp Q false) (Er := fun _ _ => False) hh hl hd hg hgs hgo (fun v s₁ gs' hbare hv => ?_) (fun s₁ hp h' hk => ?_) fun e s₁ he => he.elim)
    · obtain ⟨h1, h2, h3, h4, k, rfl, ks, kn⟩ := hv
      cases k with
      | true => exact (kn rfl _ (Still.refl h2)).elim
      | false =>
        refine wpAny_bind (wpAny_holding (wpAny_truthy_bool ?_))
        refine wpAny_bind (wpAny_letGo ?_)
        simp only [Bool.false_eq_true, if_false]
        exact wpAny_bind (wpAny_rule (wpAny_pure ⟨_, rfl, (ks rfl).setGen hbare⟩))
    · exact wpAny_bind (wpAny_rule (wpAny_pure ⟨_, rfl, ((DoneA.setGen hp rfl).kept hk)⟩))
  | succ m ih =>
    intro s hg hl ⟨gs, hgs, hgo⟩
    have hgl : gn < s.gens.size := (Array.getElem?_eq_some_iff.mp hgs).1
    refine codeAny_builtin F.entry_all_loop ?_
    rw [Around.under_plainId F.plain_all_loop _]
    show wpAny _ A.in1 (pyNext (.ref a) >>= _) _ _ s
    refine wpAny_bind (wpAny_gsz (n := gn + 1) hgl (next_genG (A := A.in1) (F := FA X sc H2 fp Q false) (Er := fun _ _ => False) hh hl hd hg hgs hgo (fun v s₁ gs' hbare hv => ?_) (fun s₁ hp h' hk => ?_) fun e s₁ he => he.elim))
    · intro hsz
      obtain ⟨h1, h2, h3, h4, k, rfl, ks, kn⟩ := hv
      refine wpAny_bind (wpAny_holding (wpAny_truthy_bool ?_))
      refine wpAny_bind (wpAny_letGo ?_)
      have hsz1 : gn < s₁.gens.size := by
        have q : (s₁.setGen gn gs').gens.size = s₁.gens.size := setGen_size _ _ _
        have hsz' : gn + 1 ≤ (s₁.setGen gn gs').gens.size := hsz
        omega
      cases k with
      | true =>
        simp only [if_true]
        refine wpAny_pure ⟨plainId_quiet F.plain_all_loop _, ih _ h4 h3 ⟨gs', setGen_at hsz1, kn rfl _ ?_⟩⟩
        exact (Still.refl h2).setGen hbare |>.setGen rfl
      | false =>
        simp only [Bool.false_eq_true, if_false]
        exact wpAny_bind (wpAny_rule (wpAny_pure ⟨_, rfl, (ks rfl).setGen hbare⟩))
    · intro hsz
      exact wpAny_bind (wpAny_rule (wpAny_pure ⟨_, rfl, ((DoneA.setGen hp rfl).kept hk)⟩))
theorem loop_any (hh : A.handled = none) (hd : A.depth < recursionLimit) : ∀ (m : Nat) (s : Shared), s.heap.IsGen a gn → s.heap.NoLimit →
    (∃ gs, s.gens[gn]? = some gs ∧ gs.Goes (model X.prog X.w) A.in1.in1 (EA X sc H2 fp Q true) (YA X sc H2 fp a gn Q true) m (.send .none) (s.setGen gn .running)) →
    codeAny (model X.prog X.w) A (.builtin "any.loop" ⟨[.ref a], []⟩) (fun r s' => ∃ b, r = .ok (.ret (.bool b)) ∧ DoneA X sc H2 fp Q b s') s := by
  intro m
  induction m with
  | zero =>
    intro s hg hl ⟨gs, hgs, hgo⟩
    refine codeAny_builtin F.entry_any_loop ?_
    rw [Around.under_plainId F.plain_any_loop _]
    show wpAny _ A.in1 (pyNext (.ref a) >>= _) _ _ s
    refine wpAny_bind (next_genG (A := A.in1) (F := FA X sc H2 fp Q true) (Er := fun _ _ => False) hh hl hd hg hgs hgo (fun v s₁ gs' hbare hv => ?_) (fun s₁ hp h' hk => ?_) fun e s₁ he => he.elim)
    · obtain ⟨h1, h2, h3, h4, k, rfl, ks, kn⟩ := hv
      cases k with
      | false => exact (kn rfl _ (Still.refl h2)).elim
      | true =>
        refine wpAny_bind (wpAny_holding (wpAny_truthy_bool ?_))
        refine wpAny_bind (wpAny_letGo ?_)
        simp only [if_true]
        exact wpAny_bind (wpAny_rule (wpAny_pure ⟨_, rfl, (ks rfl).setGen hbare⟩))
    · exact wpAny_bind (wpAny_rule (wpAny_pure ⟨_, rfl, ((DoneA.setGen hp rfl).kept hk)⟩))
  | succ m ih =>
    intro s hg hl ⟨gs, hgs, hgo⟩
    have hgl : gn < s.gens.size := (Array.getElem?_eq_some_iff.mp hgs).1
    refine codeAny_builtin F.entry_any_loop ?_
    rw [Around.under_plainId F.plain_any_loop _]
    show wpAny _ A.in1 (pyNext (.ref a) >>= _) _ _ s
    refine wpAny_bind (wpAny_gsz (n := gn + 1) hgl (next_genG (A := A.in1) (F := FA X sc H2 fp Q true) (Er := fun _ _ => False) hh hl hd hg hgs hgo (fun v s₁ gs' hbare hv => ?_) (fun s₁ hp h' hk => ?_) fun e s₁ he => he.elim))
    · intro hsz
      obtain ⟨h1, h2, h3, h4, k, rfl, ks, kn⟩ := hv
      refine wpAny_bind (wpAny_holding (wpAny_truthy_bool ?_))
      refine wpAny_bind (wpAny_letGo ?_)
      have hsz1 : gn < s₁.gens.size := by
        have q : (s₁.setGen gn gs').gens.size = s₁.gens.size := setGen_size _ _ _
        have hsz' : gn + 1 ≤ (s₁.setGen gn gs').gens.size := hsz
        omega
      cases k with
      | false =>
        simp only [Bool.false_eq_true, if_false]
        refine wpAny_pure ⟨plainId_quiet F.plain_any_loop _, ih _ h4 h3 ⟨gs', setGen_at hsz1, kn rfl _ ?_⟩⟩
        exact (Still.refl h2).setGen hbare |>.setGen rfl
      | true =>
        simp only [if_true]
        exact wpAny_bind (wpAny_rule (wpAny_pure ⟨_, rfl, (ks rfl).setGen hbare⟩))
    · intro hsz
      exact wpAny_bind (wpAny_rule (wpAny_pure ⟨_, rfl, ((DoneA.setGen hp rfl).kept hk)⟩))
end
/-- what all (stop = false), any (stop = true) ask -/
def tAA (stop : Bool) (P : Addr) (wi : TI) (g : TG) (tt : TT) (te : TE) (vs : List Nat) : TE := fun σ H Q => wi σ H fun J H1 => TabG H1 P ∧ ∀ H2, Tabbed P H1 H2 → ∃ W m0, W 0 m0 [] H2 ∧
  Turns J g tt te vs σ (fun y ys H C => ∃ k, y = .bl k ∧ (k = stop → Q (.bl stop) H) ∧ (k = !stop → C)) (fun ys H => Q (.bl (!stop)) H) W
section
variable {X : Cx}
theorem goes_AA {pins : List (Addr × Obj)} {σ : L2.St} {H2 : Hp} {Q : V → Hp → Prop} {J : It} {g : TG} {tt : TT} {te : TE} {vs : List Nat} {W : Nat → Nat → List V → Hp → Prop} {m0 k : Nat} {u : Value} {s5 : Shared} {stop : Bool}
    (hr : Room (k + 3) X.A) (hf : X.A.frames = some X.stack) (w0 : W 0 m0 [] H2) (hW : Turns J g tt te vs σ (fun y ys H C => ∃ k, y = .bl k ∧ (k = stop → Q (.bl stop) H) ∧ (k = !stop → C)) (fun ys H => Q (.bl (!stop)) H) W)
    (G : GMk X k pins σ J g tt te vs H2 u s5) : ∃ a gn sc fp, u = .ref a ∧ Inv X pins σ H2 sc ∧ ExOk X pins fp ∧ s5.heap.IsGen a gn ∧ s5.heap.NoLimit ∧
      ∃ gs, s5.gens[gn]? = some gs ∧ gs.Goes (model X.prog X.w) X.A.in1.in1 (EA X sc H2 fp Q stop) (YA X sc H2 fp a gn Q stop) sizeLine (.send .none) (s5.setGen gn .running) := by
  obtain ⟨a, gn, c, sc, fp, rfl, I, hex, h1, h2, hg, hgs, os, bare, lim, kp, wake⟩ := G
  refine ⟨a, gn, sc, fp, rfl, I, hex, hg, lim, _, hgs, rfl, ?_⟩
  refine wake _ none _ _ _ _ _ _ m0 ⟨hr.hd, ?_, ?_⟩ hf (fun S e => by cases e) (fun b o e => e) rfl (allBare_setGen bare rfl) hW w0 (fun y ys H C C' f ⟨k, e, q1, q2⟩ => ⟨k, e, q1, fun z => f (q2 z)⟩) (fun n ys x v H' s₀ s' kap hn rv of yw => ?_) (fun n ys H' s₀ s' hn of fin => ?_)
  · have := hr.dp
    show X.A.depth + 3 * (k + 1) + 5 < _
    omega
  · have := hr.un
    show X.A.units + 1 + 1 + 16 * (k + 1) + 200 < _
    omega
  · obtain ⟨o1, o2, o3, o4, o5, o6, _⟩ := of
    obtain ⟨kk, rfl, q1, q2⟩ := yw
    have e : v = Value.bool kk := rv
    exact ⟨o1, o2, o3, o4, kk, e, fun z => ⟨H', o1, o2, o5, o6, q1 z⟩, fun z s'' st => q2 z s'' st⟩
  · obtain ⟨o1, o2, o3, o4, o5, o6, _⟩ := of
    exact .inl ⟨.inr rfl, H', o1, o2, o5, o6, fin⟩
theorem done_EP {pins : List (Addr × Obj)} {σ : L2.St} {H2 : Hp} {Q : V → Hp → Prop} {sc s' : Shared} {fp : List Addr} {b : Bool} (I : Inv X pins σ H2 sc) (hex : ExOk X pins fp) (h : DoneA X sc H2 fp Q b s') : EP X pins σ Q (.bool b) s' := by
  obtain ⟨H', h1, h2, h3, h4, h5⟩ := h
  exact ⟨.bl b, H', I.call' (ch := fp) h1 h3 h4 h2 hex, rfl, h5⟩
theorem call_all_gx {pins : List (Addr × Obj)} {σ : L2.St} {H2 : Hp} {Q : V → Hp → Prop} {J : It} {g : TG} {tt : TT} {te : TE} {vs : List Nat} {W : Nat → Nat → List V → Hp → Prop} {m0 k : Nat} {u : Value} {s5 : Shared} {E : Value → Shared → Prop}
    (hr : Room (k + 3) X.A) (hf : X.A.frames = some X.stack) (w0 : W 0 m0 [] H2) (hW : Turns J g tt te vs σ (fun y ys H C => ∃ k, y = .bl k ∧ (k = false → Q (.bl false) H) ∧ (k = !false → C)) (fun ys H => Q (.bl (!false)) H) W)
    (G : GMk X k pins σ J g tt te vs H2 u s5) : wpAny (model X.prog X.w) X.A (call (.builtin "all") [u]) (EP X pins σ Q) E s5 := by
  obtain ⟨a, gn, sc, fp, rfl, I, hex, hg, lim, gs, hgs, hgo⟩ := goes_AA hr hf w0 hW G
  refine call_function_tree F.kind_all F.plain_all F.entry_all (F.args_all1 _) ?_
  unfold Builtin.«all»
  refine wpAny_bind (m := oneArg "all" _) (wpAny_pure ?_)
  refine wpAny_bind (wpAny_pyIter_gen hg ?_)
  refine wpAny_pure ⟨plainId_quiet F.plain_all_loop _, codeAny_mono (loop_all (X := X) hr.hd hr.depth sizeLine s5 hg lim ⟨gs, hgs, hgo⟩) fun r s' ⟨b, e, d⟩ => ?_⟩
  subst e
  exact done_EP I hex d
theorem call_any_gx {pins : List (Addr × Obj)} {σ : L2.St} {H2 : Hp} {Q : V → Hp → Prop} {J : It} {g : TG} {tt : TT} {te : TE} {vs : List Nat} {W : Nat → Nat → List V → Hp → Prop} {m0 k : Nat} {u : Value} {s5 : Shared} {E : Value → Shared → Prop}
    (hr : Room (k + 3) X.A) (hf : X.A.frames = some X.stack) (w0 : W 0 m0 [] H2) (hW : Turns J g tt te vs σ (fun y ys H C => ∃ k, y = .bl k ∧ (k = true → Q (.bl true) H) ∧ (k = !true → C)) (fun ys H => Q (.bl (!true)) H) W)
    (G : GMk X k pins σ J g tt te vs H2 u s5) : wpAny (model X.prog X.w) X.A (call (.builtin "any") [u]) (EP X pins σ Q) E s5 := by
  obtain ⟨a, gn, sc, fp, rfl, I, hex, hg, lim, gs, hgs, hgo⟩ := goes_AA hr hf w0 hW G
  refine call_function_tree F.kind_any F.plain_any F.entry_any (F.args_any1 _) ?_
  unfold Builtin.«any»
  refine wpAny_bind (m := oneArg "any" _) (wpAny_pure ?_)
  refine wpAny_bind (wpAny_pyIter_gen hg ?_)
  refine wpAny_pure ⟨plainId_quiet F.plain_any_loop _, codeAny_mono (loop_any (X := X) hr.hd hr.depth sizeLine s5 hg lim ⟨gs, hgs, hgo⟩) fun r s' ⟨b, e, d⟩ => ?_⟩
  subst e
  exact done_EP I hex d
variable {c P : Addr} {elt tg iter : Expr} {ifs : List Expr} {scope : Scope} {own : List (Str × Nat)} {gpos p pos : Pos} {g : TG} {tt : TT} {te : TE} {wi : TI} {k : Nat}
theorem pe_allG (hr : Room (k + 3) X.A) (hc : X.calm = true) (hgl : Gl X "all") (hm : X.mg "all" = none) (TB : TabB X.base X.mg c P) (hcode : X.env.code = .ref c) (ok : GenOk X.N X.env.scope scope own) (hN : X.N.Nodup) (hi : PI X tg iter wi)
    (hg : ∀ (A : Around) (s : Shared) (H : Hp) (C : Addr) (cl : List (Str × Addr)) (code : Value) (bi : Addr) (fp : List Addr) (go : List (Addr × Obj)), Room k A → PG (cxG X A s H (genEnv scope cl C code bi X.env) fp go) tg g)
    (ht : ∀ (A : Around) (s : Shared) (H : Hp) (C : Addr) (cl : List (Str × Addr)) (code : Value) (bi : Addr) (fp : List Addr) (go : List (Addr × Obj)), Room k A → PTs (cxG X A s H (genEnv scope cl C code bi X.env) fp go) ifs tt)
    (he : ∀ (A : Around) (s : Shared) (H : Hp) (C : Addr) (cl : List (Str × Addr)) (code : Value) (bi : Addr) (fp : List Addr) (go : List (Addr × Obj)), Room k A → PE (cxG X A s H (genEnv scope cl C code bi X.env) fp go) elt te)
    (hs : ∀ v, genFold iter X.env v = pure v := by intro _; rfl) (hb : bootBuiltins "all" = some (.builtin "all") := by decide +kernel)
    (hst : starEach [.GeneratorExp elt [⟨tg, iter, ifs, 0⟩] scope gpos] X.env = (false, eval (.GeneratorExp elt [⟨tg, iter, ifs, 0⟩] scope gpos) X.env) :: starEach [] X.env := by rfl) :
    PE X (.Call (.Name "all" p) [.GeneratorExp elt [⟨tg, iter, ifs, 0⟩] scope gpos] [] pos) (tAA false P wi g tt te (own.map Prod.snd)) := by
  refine ⟨fun pins s σ H Q I h => ?_⟩
  refine wpAny_Call_Name_kw (ld_blt I hgl hm hb ?_)
  refine PyProof.Rows.callWith_builtin1 ?_ hst (by rfl)
  rw [hst]
  show wpAny _ _ (spliced ((false, eval (.GeneratorExp elt [⟨tg, iter, ifs, 0⟩] scope gpos) X.env) :: backTo pos (starEach [] X.env))) _ _ s
  refine Calls.spliced_cons (gen_make (Rj := fun J H2 => ∃ (W : Nat → Nat → List V → Hp → Prop) (m0 : Nat), W 0 m0 [] H2 ∧ Turns J g tt te (own.map Prod.snd) σ (fun y ys H C => ∃ k, y = .bl k ∧ (k = false → Q (.bl false) H) ∧ (k = !false → C)) (fun ys H => Q (.bl (!false)) H) W) (hr.mono (by omega)) hc TB hcode ok hN hi hg ht he hs I h fun J H2 u s5 q G => ?_)
  obtain ⟨W, m0, w0, hW⟩ := q
  exact Calls.spliced_nil (call_all_gx hr I.ok.frames w0 hW G)
theorem pe_anyG (hr : Room (k + 3) X.A) (hc : X.calm = true) (hgl : Gl X "any") (hm : X.mg "any" = none) (TB : TabB X.base X.mg c P) (hcode : X.env.code = .ref c) (ok : GenOk X.N X.env.scope scope own) (hN : X.N.Nodup) (hi : PI X tg iter wi)
    (hg : ∀ (A : Around) (s : Shared) (H : Hp) (C : Addr) (cl : List (Str × Addr)) (code : Value) (bi : Addr) (fp : List Addr) (go : List (Addr × Obj)), Room k A → PG (cxG X A s H (genEnv scope cl C code bi X.env) fp go) tg g)
    (ht : ∀ (A : Around) (s : Shared) (H : Hp) (C : Addr) (cl : List (Str × Addr)) (code : Value) (bi : Addr) (fp : List Addr) (go : List (Addr × Obj)), Room k A → PTs (cxG X A s H (genEnv scope cl C code bi X.env) fp go) ifs tt)
    (he : ∀ (A : Around) (s : Shared) (H : Hp) (C : Addr) (cl : List (Str × Addr)) (code : Value) (bi : Addr) (fp : List Addr) (go : List (Addr × Obj)), Room k A → PE (cxG X A s H (genEnv scope cl C code bi X.env) fp go) elt te)
    (hs : ∀ v, genFold iter X.env v = pure v := by intro _; rfl) (hb : bootBuiltins "any" = some (.builtin "any") := by decide +kernel)
    (hst : starEach [.GeneratorExp elt [⟨tg, iter, ifs, 0⟩] scope gpos] X.env = (false, eval (.GeneratorExp elt [⟨tg, iter, ifs, 0⟩] scope gpos) X.env) :: starEach [] X.env := by rfl) :
    PE X (.Call (.Name "any" p) [.GeneratorExp elt [⟨tg, iter, ifs, 0⟩] scope gpos] [] pos) (tAA true P wi g tt te (own.map Prod.snd)) := by
  refine ⟨fun pins s σ H Q I h => ?_⟩
  refine wpAny_Call_Name_kw (ld_blt I hgl hm hb ?_)
  refine PyProof.Rows.callWith_builtin1 ?_ hst (by rfl)
  rw [hst]
  show wpAny _ _ (spliced ((false, eval (.GeneratorExp elt [⟨tg, iter, ifs, 0⟩] scope gpos) X.env) :: backTo pos (starEach [] X.env))) _ _ s
  refine Calls.spliced_cons (gen_make (Rj := fun J H2 => ∃ (W : Nat → Nat → List V → Hp → Prop) (m0 : Nat), W 0 m0 [] H2 ∧ Turns J g tt te (own.map Prod.snd) σ (fun y ys H C => ∃ k, y = .bl k ∧ (k = true → Q (.bl true) H) ∧ (k = !true → C)) (fun ys H => Q (.bl (!true)) H) W) (hr.mono (by omega)) hc TB hcode ok hN hi hg ht he hs I h fun J H2 u s5 q G => ?_)
  obtain ⟨W, m0, w0, hW⟩ := q
  exact Calls.spliced_nil (call_any_gx hr I.ok.frames w0 hW G)
end
end GX
/-! E9: comprehensions of one clause; all, any. -/
namespace EV
open PySem PySem.Spec PyProof.Rows L2

/-- no exception may come -/
def nox {α : Type} (r : Out α) : Out α := match r with
  | .ok a η => .ok a η
  | .exc _ _ => .bad
  | .bad => .bad
def E0 : XK := fun _ _ _ => False
theorem Post.nox {α β : Type} {K : PySem.W.Frag} {S : Sg} {E E' : XK} {R : RR α β} {r : Out α} {μ : List Addr} {H : Hp} {Q : β → Hp → Prop} (h : Post K S E R (nox r) μ H Q) : Post K S E' R r μ H Q := by
  cases r with
  | ok a η => exact h
  | exc x η => exact h.elim
  | bad => exact h
def wipeD (δ : En) : List Nat → En
  | [] => δ
  | v :: vs => (wipeD δ vs).set v none
theorem ERep.wipe {K : PySem.W.Frag} {H : Hp} {μ : List Addr} {δ : En} {σ : L2.St} (h : ERep K H μ δ σ) : ∀ vs : List Nat, ERep K H μ (wipeD δ vs) (wipe σ vs)
  | [] => h
  | v :: vs => by
    have ih := h.wipe vs
    unfold wipeD L2.wipe
    refine ⟨by simp [ih.1], fun j d e => ?_⟩
    by_cases hj : v = j
    · subst hj
      have hi : v < (wipeD δ vs).length := by
        have := (List.getElem?_eq_some_iff.mp e).1
        simpa using this
      rw [List.getElem?_set_self hi] at e
      cases e
    · rw [List.getElem?_set_ne hj] at e ⊢
      exact ih.2 j d e
theorem wipe_set {σ : L2.St} {i : Nat} {o : Option V} : ∀ {vs : List Nat}, i ∈ vs → wipe (σ.set i o) vs = wipe σ vs
  | [], h => by simp at h
  | v :: vs, h => by
    unfold L2.wipe
    by_cases hm : i ∈ vs
    · rw [wipe_set hm]
    · rcases List.mem_cons.mp h with rfl | h
      · have key : ∀ (us : List Nat), i ∉ us → wipe (σ.set i o) us = (wipe σ us).set i o := fun us => by
          induction us with
          | nil => intro _; rfl
          | cons u us ih =>
            intro hn
            have h1 : i ≠ u := fun z => hn (z ▸ List.mem_cons_self)
            unfold L2.wipe
            rw [ih (fun z => hn (List.mem_cons_of_mem _ z)), List.set_comm _ _ h1]
        rw [key vs hm, List.set_set]
      · exact absurd h hm
theorem wipe_get (σ : L2.St) (j : Nat) : ∀ vs : List Nat, (wipe σ vs)[j]? = if j ∈ vs then (σ[j]?).map (fun _ => none) else σ[j]?
  | [] => by simp [L2.wipe]
  | v :: vs => by
    unfold L2.wipe
    rw [List.getElem?_set, wipe_length]
    by_cases hv : v = j
    · subst hv
      rw [if_pos rfl, if_pos List.mem_cons_self]
      by_cases hl : v < σ.length
      · rw [if_pos hl, List.getElem?_eq_getElem hl]; rfl
      · rw [if_neg hl, List.getElem?_eq_none_iff.mpr (Nat.le_of_not_lt hl)]; rfl
    · rw [if_neg hv, wipe_get σ j vs]
      by_cases hm : j ∈ vs
      · rw [if_pos hm, if_pos (List.mem_cons_of_mem _ hm)]
      · rw [if_neg hm, if_neg (fun z => (List.mem_cons.mp z).elim (fun z => hv z.symm) hm)]
theorem wipe_wipe {σ : L2.St} {vs : List Nat} : wipe (wipe σ vs) vs = wipe σ vs := by
  refine List.ext_getElem? fun j => ?_
  rw [wipe_get, wipe_get]
  by_cases hm : j ∈ vs
  · rw [if_pos hm, if_pos hm, Option.map_map]; rfl
  · rw [if_neg hm, if_neg hm]
/-- a target of a comprehension: it stores into the comprehension's own slots alone -/
structure GW (C : Cn) (vs : List Nat) (tg : Expr) (g : GM) : Prop where
  pg : PG C.X tg (fun v σ H Q => ∃ μ d δ η, HRep C.X.K C.S.cl H μ η ∧ ERep C.X.K H μ δ σ ∧ Rep C.X.K H μ d v ∧ PostG C.X.K C.S C.E (g d δ η) μ H fun σ' H' => wipe σ' vs = wipe σ vs → Q σ' H')
structure GsW (C : Cn) (vs : List Nat) (tg : List Expr) (g : List D → En → MH → Out En) : Prop where
  pgs : PGs C.X tg (fun us σ H Q => ∃ μ ds δ η, HRep C.X.K C.S.cl H μ η ∧ ERep C.X.K H μ δ σ ∧ RepL C.X.K H μ ds us ∧ PostG C.X.K C.S C.E (g ds δ η) μ H fun σ' H' => wipe σ' vs = wipe σ vs → Q σ' H')
section
variable {C : Cn} {vs : List Nat} {pos : Pos}
theorem gw_name {i : Nat} {x : Str} (h : PG C.X (.Name x pos) (gName i)) (hi : i ∈ vs := by decide) : GW C vs (.Name x pos) (gtName i) := ⟨by
  refine pg_weak h fun v σ H Q ⟨μ, d, δ, η, hp, er, r, q⟩ => ?_
  exact q _ H μ (Keep.refl _) (List.prefix_refl _) hp (er.set r) (wipe_set hi)⟩
theorem gsw_nil : GsW C vs [] gtNil := ⟨by
  refine pgs_weak pgs_nil fun vs σ H Q ⟨μ, ds, δ, η, hp, er, r, q⟩ => ?_
  unfold gtNil at q
  split at q
  · unfold RepL at r
    exact ⟨r, q σ H μ (Keep.refl _) (List.prefix_refl _) hp er rfl⟩
  · exact q.elim⟩
theorem gsw_cons {t : Expr} {ts : List Expr} {g : GM} {gs : List D → En → MH → Out En} (h1 : GW C vs t g) (h2 : GsW C vs ts gs) (hs : (assignEach (t :: ts) C.X.env).map (·.2) = assign t C.X.env :: (assignEach ts C.X.env).map (·.2) := by rfl) : GsW C vs (t :: ts) (gtCons g gs) := ⟨by
  refine pgs_weak (pgs_cons h1.pg h2.pgs hs) fun us σ H Q ⟨μ, ds, δ, η, hp, er, r, q⟩ => ?_
  unfold gtCons at q
  split at q
  · exact q.elim
  · rename_i d ds
    unfold RepL at r
    obtain ⟨v, vr, rfl, r1, rr⟩ := r
    refine ⟨v, vr, rfl, μ, d, δ, η, hp, er, r1, ?_⟩
    cases hg : g d δ η with
    | ok δ1 η1 =>
      rw [hg] at q
      intro σ' H' μ' k p hr er' hw
      refine ⟨μ', ds, δ1, η1, hr, er', rr.mono k p, ?_⟩
      have q2 := PostG.mono q k p
      revert q2
      show PostG _ _ _ (gs ds δ1 η1) _ _ _ → PostG _ _ _ (gs ds δ1 η1) _ _ _
      intro q2
      cases hg2 : gs ds δ1 η1 with
      | ok δ2 η2 => rw [hg2] at q2; exact fun σ2 H2 μ2 k2 p2 h2 e2 w2 => q2 σ2 H2 μ2 k2 p2 h2 e2 (w2.trans hw)
      | exc x η2 => rw [hg2] at q2; exact q2
      | bad => rw [hg2] at q2; exact q2
    | exc x η1 => rw [hg] at q; exact q
    | bad => rw [hg] at q; exact q.elim⟩
theorem gw_tup {es : List Expr} {k n : Nat} {g : List D → En → MH → Out En} (hc : C.X.calm = true) (h : GsW C vs es g) (hn : (assignEach es C.X.env).length = n := by rfl) (hst : (assignEach es C.X.env).findIdx? (·.1) = none := by rfl) : GW C vs (.Tuple es k pos) (gtTup n g) := ⟨by
  refine pg_weak (pg_tup hc h.pgs hn hst) fun v σ H Q ⟨μ, d, δ, η, hp, er, r, q⟩ => ?_
  unfold gtTup at q
  split at q
  · unfold Rep at r
    obtain ⟨a, us, rfl, s, rl⟩ := r
    split at q
    · rename_i hl
      exact ⟨a, us, rfl, s, by rw [rl.length]; exact hl, μ, _, δ, η, hp, er, rl, q⟩
    · exact q.elim
  · exact q.elim⟩
end
/-- a clause's tests -/
structure TsV (C : Cn) (ifs : List Expr) (f : TM) : Prop where
  pts : PTs C.X ifs (tTs C.X.K C.S C.E f)
def tYesB : TM := fun _ η => .ok true η
theorem tsv_nil {C : Cn} : TsV C [] tYesB := ⟨⟨fun pins s σ H Q I ⟨μ, δ, η, hp, er, q⟩ => pts_nil.run pins s σ H Q I (q.ok hp rfl)⟩⟩
theorem tsv_one {C : Cn} {c : Expr} {f : TM} (h : TV C c f) : TsV C [c] f := ⟨pts_one h.pt⟩
/-- what is walked at turn i: none: nothing is known, some none: the end -/
def Src.at (s : Src) (η : MH) (i : Nat) : Option (Option D) := match s with
  | .snap ds => some ds[i]?
  | .live o f => (lstAt η o).map fun xs => xs[i]?.map (f i)
theorem RJ.at0 {K : PySem.W.Frag} {cl : Clss} {H H' : Hp} {μ μ' : List Addr} {η' : MH} {s : Src} {J : It} {i : Nat} (h : RJ K cl H μ s J) (k : Keep K H H') (p : μ <+: μ') (hr : HRep K cl H' μ' η') (e : s.at η' i = some none) : J.stop i H' := by
  cases s with
  | snap ds => exact (h H' μ' k p).2 i (List.getElem?_eq_none_iff.mp (Option.some.inj e))
  | live o f =>
    obtain ⟨xs, ex, e⟩ := Option.map_eq_some_iff.mp (show (lstAt η' o).map (fun xs => xs[i]?.map (f i)) = some none from e)
    exact (h H' μ' η' xs k p hr ex).2 i (List.getElem?_eq_none_iff.mp (Option.map_eq_none_iff.mp e))
theorem RJ.at1 {K : PySem.W.Frag} {cl : Clss} {H H' : Hp} {μ μ' : List Addr} {η' : MH} {s : Src} {J : It} {i : Nat} {d : D} (h : RJ K cl H μ s J) (k : Keep K H H') (p : μ <+: μ') (hr : HRep K cl H' μ' η') (e : s.at η' i = some (some d)) :
    J.go i H' ∧ ∀ x H'', J.yld i H' x H'' → Keep K H' H'' ∧ HRep K cl H'' μ' η' ∧ Rep K H'' μ' d x := by
  cases s with
  | snap ds =>
    obtain ⟨go, y⟩ := (h H' μ' k p).1 i d (Option.some.inj e)
    exact ⟨go, fun x H'' z => y x H'' z η' hr⟩
  | live o f =>
    obtain ⟨xs, ex, e⟩ := Option.map_eq_some_iff.mp (show (lstAt η' o).map (fun xs => xs[i]?.map (f i)) = some (some d) from e)
    obtain ⟨d', ed, rfl⟩ := Option.map_eq_some_iff.mp e
    exact (h H' μ' η' xs k p hr ex).1 i d' ed
/-- one item: none: its tests say no -/
def itemG (g : GM) (t : TM) (e : EM) (d : D) (δ : En) : MH → Out (Option D) := fun η =>
  (nox (g d δ η)).bind fun δ1 η => (nox (t δ1 η)).bind fun b η => if b then (nox (e δ1 η)).bind fun x η => .ok (some x) η else .ok none η
theorem item_turn {K : PySem.W.Frag} {S : Sg} {E : XK} {g : GM} {t : TM} {e : EM} {d : D} {δ : En} {η : MH} {H : Hp} {μ : List Addr} {γ δ' : Type} {R' : RR γ δ'} {k : Option D → MH → Out γ} {Q : δ' → Hp → Prop}
    (q : Post K S E R' ((itemG g t e d δ η).bind k) μ H Q) :
    PostG K S E0 (g d δ η) μ H fun σ2 H2 => tTs K S E0 t σ2 H2 fun b H3 => if b = true then tE K S E0 e σ2 H3 fun y H4 => ∃ μ4 dy η4, Keep K H H4 ∧ μ <+: μ4 ∧ HRep K S.cl H4 μ4 η4 ∧ Rep K H4 μ4 dy y ∧ Post K S E R' (k (some dy) η4) μ4 H4 Q
      else ∃ μ3 η3, Keep K H H3 ∧ μ <+: μ3 ∧ HRep K S.cl H3 μ3 η3 ∧ Post K S E R' (k none η3) μ3 H3 Q := by
  unfold itemG at q
  cases hg : g d δ η with
  | exc x η1 => rw [hg] at q; exact q.elim
  | bad => rw [hg] at q; exact q.elim
  | ok δ1 η1 =>
    rw [hg] at q
    have q : Post K S E R' (((nox (t δ1 η1)).bind fun b η => if b then (nox (e δ1 η)).bind fun x η => .ok (some x) η else .ok none η).bind k) μ H Q := q
    intro σ2 H2 μ2 k2 p2 h2 e2
    refine ⟨μ2, δ1, η1, h2, e2, ?_⟩
    cases ht : t δ1 η1 with
    | exc x η1 => rw [ht] at q; exact q.elim
    | bad => rw [ht] at q; exact q.elim
    | ok b η2 =>
      rw [ht] at q
      intro b' H3 μ3 k3 p3 h3 e3
      have e3 : b = b' := e3
      subst e3
      cases b with
      | false => exact ⟨μ3, η2, k2.trans k3, p2.trans p3, h3, Post.mono q (k2.trans k3) (p2.trans p3)⟩
      | true =>
        have q : Post K S E R' (((nox (e δ1 η2)).bind fun x η => .ok (some x) η).bind k) μ H Q := q
        refine ⟨μ3, δ1, η2, h3, e2.mono k3 p3, ?_⟩
        cases he : e δ1 η2 with
        | exc x η1 => rw [he] at q; exact q.elim
        | bad => rw [he] at q; exact q.elim
        | ok y η4 =>
          rw [he] at q
          intro v H4 μ4 k4 p4 h4 r4
          exact ⟨μ4, y, η4, (k2.trans k3).trans k4, (p2.trans p3).trans p4, h4, r4, Post.mono q ((k2.trans k3).trans k4) ((p2.trans p3).trans p4)⟩
theorem PostG.impG {K : PySem.W.Frag} {S : Sg} {E : XK} {H : Hp} {μ : List Addr} {r : Out En} {Q Q' : L2.St → Hp → Prop} (h : PostG K S E r μ H Q) (g : ∀ σ H', Q σ H' → Q' σ H') : PostG K S E r μ H Q' := by
  cases r with
  | ok a η => exact fun b H' μ' k' p' hr er => g _ _ (h b H' μ' k' p' hr er)
  | exc x η => exact h
  | bad => exact h
/-- fuel of a walk -/
def FU : Nat := 100000
theorem fu_small : FU ≤ sizeLine := by unfold FU sizeLine; decide
/-! ### all, any -/
def qS (stop : Bool) (it : D → MH → Out (Option D)) (s : Src) : Nat → Nat → MH → Out Bool
  | 0, _, _ => .bad
  | n + 1, i, η => match s.at η i with
    | none => .bad
    | some none => .ok (!stop) η
    | some (some d) => (it d η).bind fun r η => match r with
      | none => qS stop it s n (i + 1) η
      | some (.bl b) => if b = stop then .ok stop η else qS stop it s n (i + 1) η
      | some _ => .bad
def tQ (stop : Bool) (iM : IM) (g : GM) (t : TM) (e : EM) (vs : List Nat) : TM := fun δ η => (iM δ η).bind fun s η => qS stop (fun d => itemG g t e d (wipeD δ vs)) s FU 0 η
def Gens (C : Cn) (scope : Scope) (k : Nat) (T : Cn → Prop) : Prop :=
  ∀ (A : Around) (s : Shared) (H : Hp) (Cc : Addr) (cl : List (Str × Addr)) (code : Value) (bi : Addr) (fp : List Addr) (go : List (Addr × Obj)), Room k A → T ⟨GX.cxG C.X A s H (genEnv scope cl Cc code bi C.X.env) fp go, C.S, E0⟩
theorem aa_weak {C : Cn} {stop : Bool} {P : Addr} {iM : IM} {g : GM} {t : TM} {e : EM} {vs : List Nat} (hP : P ∈ C.S.cl.tabs) (σ : L2.St) (H : Hp) (Q : VK) (h : tE C.X.K C.S C.E (eB (tQ stop iM g t e vs)) σ H Q) :
    GX.tAA stop P (tI C.X.K C.S C.E iM) (fun v σ H Q => ∃ μ d δ η, HRep C.X.K C.S.cl H μ η ∧ ERep C.X.K H μ δ σ ∧ Rep C.X.K H μ d v ∧ PostG C.X.K C.S E0 (g d δ η) μ H fun σ' H' => wipe σ' vs = wipe σ vs → Q σ' H')
      (tTs C.X.K C.S E0 t) (tE C.X.K C.S E0 e) vs σ H Q := by
  obtain ⟨μ, δ, η, hp, er, q⟩ := h
  unfold eB tQ at q
  rw [Out.bind_assoc] at q
  refine ⟨μ, δ, η, hp, er, (Post.bind (R := RJ C.X.K C.S.cl) q).imp fun J H1 ⟨μ1, s, η1, k1, p1, h1, r1, q1⟩ => ?_⟩
  refine ⟨h1.tab P hP, fun H2 tb => ?_⟩
  obtain ⟨h2, kt⟩ := h1.tabbed hP tb
  refine ⟨fun i m ys H' => ys.length ≤ i ∧ i + m = FU ∧ ∃ μ' η', Keep C.X.K H1 H' ∧ μ1 <+: μ' ∧ HRep C.X.K C.S.cl H' μ' η' ∧ Post C.X.K C.S C.E (Rep C.X.K) ((qS stop (fun d => itemG g t e d (wipeD δ vs)) s m i η').bind fun b η => .ok (.bl b) η) μ' H' Q,
    FU, ⟨Nat.le_refl _, Nat.zero_add _, μ1, η1, kt, List.prefix_refl _, h2, Post.mono q1 kt (List.prefix_refl _)⟩, ?_⟩
  rintro i m ys H' ⟨hi, hm, μ', η', k', p', h', q'⟩
  cases m with
  | zero => exact q'.elim
  | succ m =>
    unfold qS at q'
    split at q'
    · exact q'.elim
    · rename_i ea
      refine .inl ⟨r1.at0 k' p' h' ea, ?_⟩
      exact q'.ok h' (by unfold Rep; rfl)
    · rename_i d ea
      obtain ⟨go, yl⟩ := r1.at1 k' p' h' ea
      refine .inr ⟨go, fun x H'' y => ?_⟩
      obtain ⟨k2, h2', r2⟩ := yl x H'' y
      rw [Out.bind_assoc] at q'
      refine ⟨μ', d, wipeD δ vs, η', h2', (er.mono ((k1.trans k').trans k2) (p1.trans p')).wipe vs, r2, ?_⟩
      refine (item_turn (Post.mono q' k2 (List.prefix_refl _))).impG fun σ2 H2 tt hw => ⟨hw.trans wipe_wipe, ?_⟩
      obtain ⟨μ3, δ3, η3, h3, er3, q3⟩ := tt
      refine ⟨μ3, δ3, η3, h3, er3, q3.imp fun b H3 q4 => ?_⟩
      cases b with
      | false =>
        obtain ⟨μ4, η4, k4, p4, h4, q5⟩ := q4
        exact ⟨m, Nat.lt_succ_self _, Nat.le_succ_of_le hi, by omega, μ4, η4, (k'.trans k2).trans k4, p'.trans p4, h4, q5⟩
      | true =>
        obtain ⟨μ4, δ4, η4, h4, er4, q4⟩ := q4
        refine ⟨μ4, δ4, η4, h4, er4, q4.imp fun y H4 ⟨μ5, dy, η5, k5, p5, h5, r5, q5⟩ => ?_⟩
        refine ⟨by have := fu_small; omega, ?_⟩
        have q5 : Post C.X.K C.S C.E (Rep C.X.K) (((match some dy with
          | none => qS stop (fun d => itemG g t e d (wipeD δ vs)) s m (i + 1) η5
          | some (.bl b) => if b = stop then .ok stop η5 else qS stop (fun d => itemG g t e d (wipeD δ vs)) s m (i + 1) η5
          | some _ => .bad) : Out Bool).bind fun b η => .ok (.bl b) η) μ5 H4 Q := q5
        split at q5
        · rename_i z; cases z
        · rename_i b z
          cases z
          unfold Rep at r5
          refine ⟨b, r5, fun z => ?_, fun z => ?_⟩
          · subst z
            have q5 : Post C.X.K C.S C.E (Rep C.X.K) ((if b = b then Out.ok b η5 else qS b (fun d => itemG g t e d (wipeD δ vs)) s m (i + 1) η5).bind fun b η => .ok (.bl b) η) μ5 H4 Q := q5
            rw [if_pos rfl] at q5
            exact q5.ok h5 (by unfold Rep; rfl)
          · have q5 : Post C.X.K C.S C.E (Rep C.X.K) ((if b = stop then Out.ok stop η5 else qS stop (fun d => itemG g t e d (wipeD δ vs)) s m (i + 1) η5).bind fun b η => .ok (.bl b) η) μ5 H4 Q := q5
            rw [if_neg (by subst z; cases stop <;> decide)] at q5
            exact ⟨m, Nat.lt_succ_self _, by simp; omega, by omega, μ5, η5, (k'.trans k2).trans k5, p'.trans p5, h5, q5⟩
        · exact q5.elim
section
variable {C : Cn} {c P : Addr} {elt tg iter : Expr} {ifs : List Expr} {scope : Scope} {own : List (Str × Nat)} {gpos p pos : Pos} {iM : IM} {g : GM} {t : TM} {e : EM} {k : Nat}
theorem ev_all (hr : Room (k + 3) C.X.A) (hc : C.X.calm = true) (hgl : Gl C.X "all") (hm : C.X.mg "all" = none) (TB : GxR.TabB C.X.base C.X.mg c P) (hP : P ∈ C.S.cl.tabs) (hcode : C.X.env.code = .ref c) (ok : GX.GenOk C.X.N C.X.env.scope scope own) (hN : C.X.N.Nodup) (hi : IV C tg iter iM)
    (hg : Gens C scope k fun C => GW C (own.map Prod.snd) tg g) (ht : Gens C scope k fun C => TsV C ifs t) (he : Gens C scope k fun C => EV C elt e)
    (hs : ∀ v, genFold iter C.X.env v = pure v := by intro _; rfl) (hb : bootBuiltins "all" = some (.builtin "all") := by decide +kernel)
    (hst : starEach [.GeneratorExp elt [⟨tg, iter, ifs, 0⟩] scope gpos] C.X.env = (false, eval (.GeneratorExp elt [⟨tg, iter, ifs, 0⟩] scope gpos) C.X.env) :: starEach [] C.X.env := by rfl) :
    EV C (.Call (.Name "all" p) [.GeneratorExp elt [⟨tg, iter, ifs, 0⟩] scope gpos] [] pos) (eB (tQ false iM g t e (own.map Prod.snd))) :=
  ⟨pe_weak (GX.pe_allG hr hc hgl hm TB hcode ok hN hi.pi (fun A s H Cc cl code bi fp go r => (hg A s H Cc cl code bi fp go r).pg) (fun A s H Cc cl code bi fp go r => (ht A s H Cc cl code bi fp go r).pts) (fun A s H Cc cl code bi fp go r => (he A s H Cc cl code bi fp go r).pe) hs hb hst) fun σ H Q h => aa_weak hP σ H Q h⟩
theorem ev_any (hr : Room (k + 3) C.X.A) (hc : C.X.calm = true) (hgl : Gl C.X "any") (hm : C.X.mg "any" = none) (TB : GxR.TabB C.X.base C.X.mg c P) (hP : P ∈ C.S.cl.tabs) (hcode : C.X.env.code = .ref c) (ok : GX.GenOk C.X.N C.X.env.scope scope own) (hN : C.X.N.Nodup) (hi : IV C tg iter iM)
    (hg : Gens C scope k fun C => GW C (own.map Prod.snd) tg g) (ht : Gens C scope k fun C => TsV C ifs t) (he : Gens C scope k fun C => EV C elt e)
    (hs : ∀ v, genFold iter C.X.env v = pure v := by intro _; rfl) (hb : bootBuiltins "any" = some (.builtin "any") := by decide +kernel)
    (hst : starEach [.GeneratorExp elt [⟨tg, iter, ifs, 0⟩] scope gpos] C.X.env = (false, eval (.GeneratorExp elt [⟨tg, iter, ifs, 0⟩] scope gpos) C.X.env) :: starEach [] C.X.env := by rfl) :
    EV C (.Call (.Name "any" p) [.GeneratorExp elt [⟨tg, iter, ifs, 0⟩] scope gpos] [] pos) (eB (tQ true iM g t e (own.map Prod.snd))) :=
  ⟨pe_weak (GX.pe_anyG hr hc hgl hm TB hcode ok hN hi.pi (fun A s H Cc cl code bi fp go r => (hg A s H Cc cl code bi fp go r).pg) (fun A s H Cc cl code bi fp go r => (ht A s H Cc cl code bi fp go r).pts) (fun A s H Cc cl code bi fp go r => (he A s H Cc cl code bi fp go r).pe) hs hb hst) fun σ H Q h => aa_weak hP σ H Q h⟩
end
/-! ### list comprehensions -/
def cS (it : D → MH → Out (Option D)) (s : Src) (o : Nat) : Nat → Nat → MH → Out D
  | 0, _, _ => .bad
  | n + 1, i, η => match s.at η i with
    | none => .bad
    | some none => .ok (.obj o) η
    | some (some d) => (it d η).bind fun r η => match r with
      | none => cS it s o n (i + 1) η
      | some y => match η[o]? with
        | some (.lst xs) => if xs.length < sizeLine then cS it s o n (i + 1) (η.set o (.lst (xs ++ [y]))) else .bad
        | _ => .bad
def eLc (iM : IM) (g : GM) (t : TM) (e : EM) (vs : List Nat) : EM := fun δ η => (iM δ η).bind fun s η => cS (fun d => itemG g t e d (wipeD δ vs)) s η.length FU 0 (η ++ [.lst []])
def Blks (C : Cn) (scope : Scope) (T : Cn → Prop) : Prop :=
  ∀ (s : Shared) (H : Hp) (Cc : Addr) (cl : List (Str × Addr)) (fp : List Addr), T ⟨C.X.blk s H scope (compEnvC scope cl Cc C.X.env) fp, C.S, E0⟩
theorem RJ.monoJ {K : PySem.W.Frag} {cl : Clss} {H H' : Hp} {μ μ' : List Addr} {s : Src} {J : It} (h : RJ K cl H μ s J) (k : Keep K H H') (p : μ <+: μ') : RJ K cl H' μ' s J := by
  cases s with
  | snap ds => exact fun H2 μ2 k2 p2 => h H2 μ2 (k.trans k2) (p.trans p2)
  | live o f => exact fun H2 μ2 η2 xs k2 p2 => h H2 μ2 η2 xs (k.trans k2) (p.trans p2)
theorem lc_weak {C : Cn} {iM : IM} {g : GM} {t : TM} {e : EM} {vs : List Nat} (σ : L2.St) (H : Hp) (Q : VK) (h : tE C.X.K C.S C.E (eLc iM g t e vs) σ H Q) :
    tLc (tI C.X.K C.S C.E iM) (fun v σ H Q => ∃ μ d δ η, HRep C.X.K C.S.cl H μ η ∧ ERep C.X.K H μ δ σ ∧ Rep C.X.K H μ d v ∧ PostG C.X.K C.S E0 (g d δ η) μ H fun σ' H' => wipe σ' vs = wipe σ vs → Q σ' H')
      (tTs C.X.K C.S E0 t) (tE C.X.K C.S E0 e) vs σ H Q := by
  obtain ⟨μ, δ, η, hp, er, q⟩ := h
  unfold eLc at q
  refine ⟨μ, δ, η, hp, er, (Post.bind (R := RJ C.X.K C.S.cl) q).imp fun J H1 ⟨μ1, s, η1, k1, p1, h1, r1, q1⟩ => ?_⟩
  intro L hL
  have kp : Keep C.X.K H1 (upd H1 L (.lst [])) := keep_upd (by rw [hL]; exact vol_none)
  have pr : μ1 <+: μ1 ++ [L] := List.prefix_append _ _
  have h2 : HRep C.X.K C.S.cl (upd H1 L (.lst [])) (μ1 ++ [L]) (η1 ++ [.lst []]) := h1.push hL ⟨[], upd_same, RepL.nil⟩
  have eL : (μ1 ++ [L])[η1.length]? = some L := by rw [← h1.len]; simp
  have q1 : Post C.X.K C.S C.E (Rep C.X.K) (cS (fun d => itemG g t e d (wipeD δ vs)) s η1.length FU 0 (η1 ++ [MO.lst []])) μ1 H1 Q := q1
  generalize hO : η1.length = o at eL q1
  have r2 := r1.monoJ kp pr
  refine ⟨fun i m H' => ∃ μ' η', Keep C.X.K (upd H1 L (.lst [])) H' ∧ (μ1 ++ [L]) <+: μ' ∧ HRep C.X.K C.S.cl H' μ' η' ∧ Post C.X.K C.S C.E (Rep C.X.K) (cS (fun d => itemG g t e d (wipeD δ vs)) s o m i η') μ' H' Q,
    ⟨FU, _, _, Keep.refl _, List.prefix_refl _, h2, Post.mono q1 kp pr⟩, ?_⟩
  rintro i m H' ⟨μ', η', k', p', h', q'⟩
  cases m with
  | zero => exact q'.elim
  | succ m =>
    unfold cS at q'
    split at q'
    · exact q'.elim
    · rename_i ea
      refine .inl ⟨r2.at0 k' p' h' ea, q'.ok h' ?_⟩
      unfold Rep
      exact ⟨L, rfl, pre_get p' eL⟩
    · rename_i d ea
      obtain ⟨go, yl⟩ := r2.at1 k' p' h' ea
      refine .inr ⟨go, fun H'' => ∃ μ' η', Keep C.X.K (upd H1 L (.lst [])) H'' ∧ (μ1 ++ [L]) <+: μ' ∧ HRep C.X.K C.S.cl H'' μ' η' ∧ Post C.X.K C.S C.E (Rep C.X.K) (cS (fun d => itemG g t e d (wipeD δ vs)) s o m (i + 1) η') μ' H'' Q, fun H'' z => ⟨m, Nat.lt_succ_self _, z⟩, fun x H'' y => ?_⟩
      obtain ⟨k2, h2', rx⟩ := yl x H'' y
      refine ⟨μ', d, wipeD δ vs, η', h2', (er.mono (((k1.trans kp).trans k').trans k2) ((p1.trans pr).trans p')).wipe vs, rx, ?_⟩
      refine (item_turn (Post.mono q' k2 (List.prefix_refl _))).impG fun σ2 H2 tt hw => ⟨hw.trans wipe_wipe, ?_⟩
      obtain ⟨μ3, δ3, η3, h3, er3, q3⟩ := tt
      refine ⟨μ3, δ3, η3, h3, er3, q3.imp fun b H3 q4 => ?_⟩
      cases b with
      | false =>
        obtain ⟨μ4, η4, k4, p4, h4, q5⟩ := q4
        exact ⟨μ4, η4, (k'.trans k2).trans k4, p'.trans p4, h4, q5⟩
      | true =>
        obtain ⟨μ4, δ4, η4, h4, er4, q4⟩ := q4
        refine ⟨μ4, δ4, η4, h4, er4, q4.imp fun y H4 ⟨μ5, dy, η5, k5, p5, h5, r5, q5⟩ => ?_⟩
        have q5 : Post C.X.K C.S C.E (Rep C.X.K) ((match η5[o]? with
          | some (.lst xs) => if xs.length < sizeLine then cS (fun d => itemG g t e d (wipeD δ vs)) s o m (i + 1) (η5.set o (.lst (xs ++ [dy]))) else .bad
          | _ => .bad) : Out D) μ5 H4 Q := q5
        split at q5
        · rename_i xs em
          split at q5
          · rename_i hl
            have eL5 := pre_get (p'.trans p5) eL
            obtain ⟨us, e0, rl⟩ := h5.at_ eL5 em
            refine ⟨us, e0, by rw [rl.length]; exact hl, ?_⟩
            obtain ⟨h6, k6⟩ := h5.setLst eL5 em e0 (rl.append (RepL.cons r5 RepL.nil))
            exact ⟨μ5, _, ((k'.trans k2).trans k5).trans k6, p'.trans p5, h6, Post.mono q5 k6 (List.prefix_refl _)⟩
          · exact q5.elim
        · exact q5.elim
section
variable {C : Cn} {elt tg iter : Expr} {ifs : List Expr} {scope : Scope} {own : List (Str × Nat)} {pos : Pos} {iM : IM} {g : GM} {t : TM} {e : EM}
theorem ev_lc (hc : C.X.calm = true) (ok : BlkOk C.X.N C.X.env.scope scope own) (hN : C.X.N.Nodup) (hi : IV C tg iter iM)
    (hg : Blks C scope fun C => GW C (own.map (·.2)) tg g) (ht : Blks C scope fun C => TsV C ifs t) (he : Blks C scope fun C => EV C elt e)
    (hs : ∀ x, foldedSetIterable iter C.X.env x = pure x := by intro _; rfl) :
    EV C (.ListComp elt [⟨tg, iter, ifs, 0⟩] scope pos) (eLc iM g t e (own.map (·.2))) :=
  ⟨pe_weak (pe_lc (g := fun v σ H Q => ∃ μ d δ η, HRep C.X.K C.S.cl H μ η ∧ ERep C.X.K H μ δ σ ∧ Rep C.X.K H μ d v ∧ PostG C.X.K C.S E0 (g d δ η) μ H fun σ' H' => wipe σ' (own.map (·.2)) = wipe σ (own.map (·.2)) → Q σ' H') (tt := tTs C.X.K C.S E0 t) (te := tE C.X.K C.S E0 e) hc hN hi.pi ok (fun s H Cc cl fp => (hg s H Cc cl fp).pg) (fun s H Cc cl fp => (ht s H Cc cl fp).pts) (fun s H Cc cl fp => (he s H Cc cl fp).pe) hs) fun σ H Q h => lc_weak σ H Q h⟩
/-- name = [..] on one line -/
theorem sv_setLc {i : Nat} {y : Str} {py spos : Pos} (hc : C.X.calm = true) (ok : BlkOk C.X.N C.X.env.scope scope own) (hN : C.X.N.Nodup) (hi : IV C tg iter iM)
    (hg : Blks C scope fun C => GW C (own.map (·.2)) tg g) (ht : Blks C scope fun C => TsV C ifs t) (he : Blks C scope fun C => EV C elt e)
    (hsw : swapsWith (.ListComp elt [⟨tg, iter, ifs, 0⟩] scope pos) (some (.Name y py)) spos.line C.X.env = pure true) (hy : C.X.N[i]? = some y := by rfl) (hyl : C.X.env.scope.names.lookup y = some .local := by rfl)
    (hs : ∀ x, foldedSetIterable iter C.X.env x = pure x := by intro _; rfl) :
    SV C (.Assign [.Name y py] (.ListComp elt [⟨tg, iter, ifs, 0⟩] scope pos) spos) (sSet i (eLc iM g t e (own.map (·.2)))) := ⟨by
  refine ps_weak (ps_setLc (g := fun v σ H Q => ∃ μ d δ η, HRep C.X.K C.S.cl H μ η ∧ ERep C.X.K H μ δ σ ∧ Rep C.X.K H μ d v ∧ PostG C.X.K C.S E0 (g d δ η) μ H fun σ' H' => wipe σ' (own.map (·.2)) = wipe σ (own.map (·.2)) → Q σ' H') (tt := tTs C.X.K C.S E0 t) (te := tE C.X.K C.S E0 e) hc hN hy hyl hsw hi.pi ok (fun s H Cc cl fp => (hg s H Cc cl fp).pg) (fun s H Cc cl fp => (ht s H Cc cl fp).pts) (fun s H Cc cl fp => (he s H Cc cl fp).pe) hs) fun D σ H ⟨μ, δ, η, hp, er, q⟩ => ?_
  refine lc_weak σ H _ ⟨μ, δ, η, hp, er, (PostS.bind (R := Rep C.X.K) q).imp fun x H1 ⟨μ1, d, η1, k1, p1, h1, r1, q1⟩ => ?_⟩
  exact q1.ok h1 ((er.mono k1 p1).set r1)⟩
end
/-- inner contexts: no exception leaves -/
theorem pass_gen {X : Cx} {A : Around} {s : Shared} {H : Hp} {env : Env} {fp : List Addr} {go : List (Addr × Obj)} {CXx : CXT} (h : ∀ o H s u s', ¬ CXx o H s E0 u s') : Passes CXx (GX.cxG X A s H env fp go) E0 := fun _ _ _ _ _ _ _ z => (h _ _ _ _ _ z).elim
theorem pass_blk {X : Cx} {s : Shared} {H : Hp} {scope : Scope} {env : Env} {fp : List Addr} {CXx : CXT} (h : ∀ o H s u s', ¬ CXx o H s E0 u s') : Passes CXx (X.blk s H scope env fp) E0 := fun _ _ _ _ _ _ _ z => (h _ _ _ _ _ z).elim
theorem cx_no {P : Program} {w : World} : ∀ o H s e s', ¬ CX P w o H s E0 e s' := fun o H s e s' ⟨a, B, H', cls, d, h1, h2, h3, h4, h5, h6, h7, z⟩ => z
end EV
/-! E10: helpers of the printed texts; the law's end. -/
namespace EV
open PySem PySem.Spec PyProof.Rows L2
section
variable {C : Cn}
theorem ec_str {x : Str} {j : Nat} {pos : Pos} : EV C (.Constant (.str x) j pos) (eC (.str x)) := ev_c pe_str fun _ _ => by unfold Rep; rfl
theorem ec_int {i : Int} {j : Nat} {pos : Pos} : EV C (.Constant (.int i) j pos) (eC (.int i)) := ev_c pe_int fun _ _ => by unfold Rep; rfl
theorem ec_bl {b : Bool} {j : Nat} {pos : Pos} : EV C (.Constant (.bool b) j pos) (eC (.bl b)) := ev_c pe_bl fun _ _ => by unfold Rep; rfl
theorem ec_non {j : Nat} {pos : Pos} : EV C (.Constant .none j pos) (eC .non) := ev_c pe_non fun _ _ => by unfold Rep; rfl
theorem evn (i : Nat) {x : Str} {pos : Pos} (hN : C.X.N[i]? = some x := by rfl) (hv : Vis C.X.env.scope x := by first | exact Or.inl rfl | exact Or.inr (Or.inl rfl) | exact Or.inr (Or.inr rfl)) (hd : (x == ("__debug__" : Str)) = false := by decide)
    (hcd : (x == ("__classdict__" : Str)) = false := by decide) : EV C (.Name x pos) (eVar i) := ev_var (pv i hN hv hd hcd)
theorem svn (i : Nat) {x : Str} {pos pos' : Pos} {e : Expr} {f : EM} (nd : C.X.N.Nodup) (he : EV C e f) (hN : C.X.N[i]? = some x := by rfl) (hx : Loc C.X.env.scope x := by first | exact Or.inl rfl | exact Or.inr rfl)
    (hs : swapsWith e (some (.Name x pos')) pos.line C.X.env = pure false := by rfl) (hf : C.X.fn x = true ∨ C.X.env.scope.names.lookup x = some .local := by first | exact .inl rfl | exact .inr rfl) : SV C (.Assign [.Name x pos'] e pos) (sSet i f) :=
  sv_set (t := tC .non) (fun _ h => ps_set nd hN hx h hs hf) he
theorem gvn (i : Nat) {x : Str} {pos : Pos} (nd : C.X.N.Nodup) (hN : C.X.N[i]? = some x := by rfl) (hx : Loc C.X.env.scope x := by first | exact Or.inl rfl | exact Or.inr rfl) (hf : C.X.fn x = true ∨ C.X.env.scope.names.lookup x = some .local := by first | exact .inl rfl | exact .inr rfl) :
    GV C (.Name x pos) (gtName i) := gv_name (pg_name nd hN hx hf)
theorem gwn (i : Nat) {vs : List Nat} {x : Str} {pos : Pos} (nd : C.X.N.Nodup) (hi : i ∈ vs := by decide) (hN : C.X.N[i]? = some x := by rfl) (hx : Loc C.X.env.scope x := by first | exact Or.inl rfl | exact Or.inr rfl) (hf : C.X.fn x = true ∨ C.X.env.scope.names.lookup x = some .local := by first | exact .inl rfl | exact .inr rfl) :
    GW C vs (.Name x pos) (gtName i) := gw_name (pg_name nd hN hx hf) hi
theorem sv_par2 {i j : Nat} {x y : Str} {a b : Expr} {fs : AM} {px py pt pos : Pos} {kt k2 : Nat} {pt2 : Pos} (hc : C.X.calm = true) (nd : C.X.N.Nodup) (ha : AV C [a, b] fs) (hij : i ≠ j := by decide) (hi : C.X.N[i]? = some x := by rfl) (hj : C.X.N[j]? = some y := by rfl)
    (hx : C.X.env.scope.names.lookup x = some .local := by rfl) (hy : C.X.env.scope.names.lookup y = some .local := by rfl)
    (hw : swappedStores [.Tuple [.Name x px, .Name y py] kt pt] (.Tuple [a, b] k2 pt2) C.X.env = pure (some [x, y]) := by rfl)
    (hs : swapsWithSole [.Tuple [.Name x px, .Name y py] kt pt] (.Tuple [a, b] k2 pt2) pos.line C.X.env = pure false := by rfl) :
    SV C (.Assign [.Tuple [.Name x px, .Name y py] kt pt] (.Tuple [a, b] k2 pt2) pos) (sPar i j fs) := sv_par (fun _ h => ps_par hc nd hi hj hij hx hy h hw hs) ha
end
section
variable {P : Program} {w : World} {K : PySem.W.Frag} {mg : Str → Option Value} {base : Heap} {x qual : Str} {params : Arguments} {body : List Stmt} {scope : Scope} {dvs : List V} {kws : List (Str × V)} {fd : FuncData} {S : Sg}
/-- the same with the def's own code object known -/
theorem fn_okC {N ps : List Str} {k : Nat} {m : SM} (p : He.Defn) (F : FunD K x qual params body scope dvs kws (He.fAd K p) fd) (Sc : FnScope N ps scope)
    (hb : ∀ (A : Around) (outer : List Env) (s : Shared) (H : Hp) (E : XK), Room k (A.deeper (envOfC qual scope s.heap.objs.size (He.fAd K p) (.ref (He.codeOf K p)))) → SSV (cnOf P w K mg base N qual scope (He.fAd K p) (.ref (He.codeOf K p)) A outer s H E S) body m) :
    FnOk P w K mg base (CX P w) (k + 1) (He.fAd K p) fd ps (spM K S (bodyM ps.length N.length m)) := by
  have len : ∀ vs H Q E, spM K S (bodyM ps.length N.length m) vs H Q E → vs.length = ps.length := fun vs H Q E ⟨μ, ds, η, hp, r, q⟩ => by
    unfold bodyM at q
    split at q
    · rename_i hl
      rw [r.length, hl]
    · exact q.elim
  obtain ⟨oc, od, dV, kV, doc, pm, an, cdv, ct, osl, rfl, lk, hcd, _, _⟩ := F.ex
  obtain ⟨c, rfl⟩ := He.codeIn_ref hcd
  have ec : He.codeOf K p = c := He.codeOf_eq lk rfl
  subst ec
  refine fn_of lk hcd Sc len fun A outer s H vs Q E hr h => ⟨_, (hb A outer s H E hr).pss, ?_⟩
  have hl := len vs H Q E h
  obtain ⟨μ, ds, η, hp, r, q⟩ := h
  have hl2 : ds.length = ps.length := by rw [← r.length]; exact hl
  unfold bodyM at q
  rw [if_pos hl2] at q
  refine ⟨μ, ds.map some ++ List.replicate (N.length - ds.length) none, η, hp, erep_start r, ?_⟩
  rw [hl2]
  exact postS_of q
end
theorem repL_ints {K : PySem.W.Frag} {H : Hp} {μ : List Addr} : ∀ ns : List Int, RepL K H μ (ns.map D.int) (ns.map V.int)
  | [] => RepL.nil
  | n :: ns => RepL.cons (by unfold Rep; rfl) (repL_ints ns)
/-- what the pure part has to say -/
def PureOk (m : FM) (n : Nat) : Prop := ∀ (ns : List Int) (mo : MO), ns.length ≤ n → (∀ z ∈ ns, Builtin.Int.intBits z ≤ 1048576) → lstAt [mo] 0 = some (ns.map D.int) → ∃ η, m [.obj 0] [mo] = .ok (.bl true) η
theorem sp_law {K : PySem.W.Frag} {S : Sg} {m : FM} {n : Nat} (hp : PureOk m n) {H : Hp} {a : Addr} {ns : List Int} {E : XK} (hl : ns.length ≤ n) (hb : ∀ z ∈ ns, Builtin.Int.intBits z ≤ 1048576) (hT : ∀ P ∈ S.cl.tabs, H P = some (.tbl #[])) (hS : SqL K H a (ns.map V.int)) :
    spM K S m [.ref a] H (fun v _ => v = .bl true) E := by
  have key : ∀ mo : MO, lstAt [mo] 0 = some (ns.map D.int) → RepO K S.cl H [a] a mo → spM K S m [.ref a] H (fun v _ => v = .bl true) E := fun mo e ro => by
    obtain ⟨η, em⟩ := hp ns mo hl hb e
    refine ⟨[a], [.obj 0], [mo], ⟨rfl, fun i b o e1 e2 => ?_, fun i j b o1 o2 e1 e2 _ _ _ _ => ?_, fun P hP => ⟨#[], hT P hP, ?_⟩⟩, ?_, ?_⟩
    · cases i with
      | zero => cases e1; cases e2; exact ro
      | succ i => simp at e1
    · cases i with
      | succ i => simp at e1
      | zero => cases j with
        | succ j => simp at e2
        | zero => rfl
    · trivial
    · exact RepL.cons (by unfold Rep; exact ⟨a, rfl, rfl⟩) RepL.nil
    · rw [em]
      intro v H' μ' _ _ _ r
      unfold Rep at r
      exact r
  have rl : RepL K H [a] (ns.map D.int) (ns.map V.int) := repL_ints ns
  rcases hS with hS | hS
  · rcases hS with hS | ⟨ob, hS⟩
    · exact key (.lst (ns.map D.int)) rfl ⟨_, hS, rl⟩
    · exact key (.frz (ns.map D.int)) rfl ⟨_, .inl (.inr ⟨ob, hS⟩), rl, .inl ⟨ob, hS⟩⟩
  · exact key (.frz (ns.map D.int)) rfl ⟨_, .inr hS, rl, .inr fun _ => .inr hS⟩
end EV
/-! E11: and, or, not as values; op=. -/
namespace EV
open PySem PySem.Spec PyProof.Rows L2
def eAndV (a b : EM) : EM := fun δ η => (a δ η).bind fun x η => (gTru x η).bind fun k η => if k then b δ η else .ok x η
def eOrV (a b : EM) : EM := fun δ η => (a δ η).bind fun x η => (gTru x η).bind fun k η => if k then .ok x η else b δ η
/-- a chain of and, or -/
structure VV (C : Cn) (e : Expr) (f : EM) : Prop where
  pe : PE C.X e (tE C.X.K C.S C.E f)
section
variable {C : Cn} {a b : Expr} {rest : List Expr} {fa fb : EM} {pos : Pos}
theorem VV.ev {e : Expr} (h : VV C e fa) : EV C e fa := ⟨h.pe⟩
theorem vv_and1 (h : EV C a fa) : VV C (.BoolOp .And [a] pos) fa := ⟨pe_one h.pe⟩
theorem vv_or1 (h : EV C a fa) : VV C (.BoolOp .Or [a] pos) fa := ⟨pe_one h.pe⟩
theorem vv_and (ha : EV C a fa) (hb : VV C (.BoolOp .And (b :: rest) pos) fb) : VV C (.BoolOp .And (a :: b :: rest) pos) (eAndV fa fb) := ⟨by
  refine pe_weak (pe_andT ha.pe hb.pe) fun σ H Q ⟨μ, δ, η, hp, er, q⟩ => ?_
  refine ⟨μ, δ, η, hp, er, (Post.bind (R := Rep C.X.K) q).imp fun x H1 ⟨μ1, d, η1, k1, p1, h1, r1, q1⟩ => ?_⟩
  obtain ⟨k, tv, μ2, c, η2, k2, p2, h2, r2, q2⟩ := tru_of h1 r1 (Post.bind (R := RB) q1)
  refine ⟨k, tv, ?_⟩
  subst r2
  cases c with
  | true => exact ⟨μ2, δ, η2, h2, (er.mono k1 p1).mono k2 p2, q2⟩
  | false => exact q2.ok h2 (r1.mono k2 p2)⟩
theorem vv_or (ha : EV C a fa) (hb : VV C (.BoolOp .Or (b :: rest) pos) fb) : VV C (.BoolOp .Or (a :: b :: rest) pos) (eOrV fa fb) := ⟨by
  refine pe_weak (pe_orT ha.pe hb.pe) fun σ H Q ⟨μ, δ, η, hp, er, q⟩ => ?_
  refine ⟨μ, δ, η, hp, er, (Post.bind (R := Rep C.X.K) q).imp fun x H1 ⟨μ1, d, η1, k1, p1, h1, r1, q1⟩ => ?_⟩
  obtain ⟨k, tv, μ2, c, η2, k2, p2, h2, r2, q2⟩ := tru_of h1 r1 (Post.bind (R := RB) q1)
  refine ⟨k, tv, ?_⟩
  subst r2
  cases c with
  | false => exact ⟨μ2, δ, η2, h2, (er.mono k1 p1).mono k2 p2, q2⟩
  | true => exact q2.ok h2 (r1.mono k2 p2)⟩
theorem ev_notv (ha : EV C a fa) : EV C (.UnaryOp .Not a pos) (eB (tNotB (tTru fa))) := ⟨by
  refine pe_weak (pe_notT ha.pe) fun σ H Q ⟨μ, δ, η, hp, er, q⟩ => ?_
  unfold eB tNotB tTru at q
  simp only [Out.bind_assoc] at q
  refine ⟨μ, δ, η, hp, er, (Post.bind (R := Rep C.X.K) q).imp fun x H1 ⟨μ1, d, η1, k1, p1, h1, r1, q1⟩ => ?_⟩
  obtain ⟨k, tv, μ2, c, η2, k2, p2, h2, r2, q2⟩ := tru_of h1 r1 (Post.bind (R := RB) q1)
  refine ⟨k, tv, ?_⟩
  subst r2
  have q2 : Post C.X.K C.S C.E (Rep C.X.K) (.ok (.bl (!c)) η2) μ2 H1 Q := q2
  exact q2.ok h2 (by unfold Rep; rfl)⟩
end
end EV
/-! E12: running mirrors; what all laws share. -/
namespace EV
open PySem PySem.Spec PyProof.Rows L2
section
variable {α β : Type}
@[simp] theorem bind_ok (a : α) (η : MH) (k : α → MH → Out β) : (Out.ok a η).bind k = k a η := .trans rfl rfl
@[simp] theorem bind_bad (k : α → MH → Out β) : (Out.bad : Out α).bind k = .bad := .trans rfl rfl
end
section
variable (δ : En) (η : MH) (i : Nat) (d x y : D) (f g : EM) (p q : TM) (u v : SM) (fs : AM)
theorem r_var (h : δ[i]? = some (some d)) : eVar i δ η = .ok d η := by unfold eVar; rw [h]
@[simp] theorem r_var0 : eVar 0 (some d :: δ) η = .ok d η := .trans rfl rfl
@[simp] theorem r_varS (o : Option D) : eVar (i + 1) (o :: δ) η = eVar i δ η := .trans rfl rfl
@[simp] theorem r_c : eC d δ η = .ok d η := .trans rfl rfl
@[simp] theorem r_e1 (g : D → MH → Out D) : e1 g f δ η = (f δ η).bind g := .trans rfl rfl
@[simp] theorem r_e2 (h : D → D → MH → Out D) : e2 h f g δ η = (f δ η).bind fun x η => (g δ η).bind fun y η => h x y η := .trans rfl rfl
@[simp] theorem r_t2 (h : D → D → MH → Out Bool) : t2 h f g δ η = (f δ η).bind fun x η => (g δ η).bind fun y η => h x y η := .trans rfl rfl
@[simp] theorem r_eB : eB p δ η = (p δ η).bind fun b η => .ok (.bl b) η := .trans rfl rfl
@[simp] theorem r_if : e_if p f g δ η = (p δ η).bind fun k η => if k then f δ η else g δ η := .trans rfl rfl
@[simp] theorem r_not : tNotB p δ η = (p δ η).bind fun b η => .ok (!b) η := .trans rfl rfl
@[simp] theorem r_and : tAndB p q δ η = (p δ η).bind fun k η => if k then q δ η else .ok false η := .trans rfl rfl
@[simp] theorem r_or : tOrB p q δ η = (p δ η).bind fun k η => if k then .ok true η else q δ η := .trans rfl rfl
@[simp] theorem r_andV : eAndV f g δ η = (f δ η).bind fun x η => (gTru x η).bind fun k η => if k then g δ η else .ok x η := .trans rfl rfl
@[simp] theorem r_orV : eOrV f g δ η = (f δ η).bind fun x η => (gTru x η).bind fun k η => if k then .ok x η else g δ η := .trans rfl rfl
@[simp] theorem r_tru : tTru f δ η = (f δ η).bind gTru := .trans rfl rfl
@[simp] theorem r_truB (b : Bool) : gTru (.bl b) η = .ok b η := .trans rfl rfl
@[simp] theorem r_truI (i : Int) : gTru (.int i) η = .ok (i != 0) η := .trans rfl rfl
@[simp] theorem r_truN : gTru .non η = .ok false η := .trans rfl rfl
@[simp] theorem r_anil : aNil δ η = .ok [] η := .trans rfl rfl
@[simp] theorem r_acons : aCons f fs δ η = (f δ η).bind fun x η => (fs δ η).bind fun xs η => .ok (x :: xs) η := .trans rfl rfl
@[simp] theorem r_tup : eTup fs δ η = (fs δ η).bind gTup := .trans rfl rfl
@[simp] theorem r_lst : eLst fs δ η = (fs δ η).bind gLst := .trans rfl rfl
@[simp] theorem r_gtup (ds : List D) (h : ds.length ≤ sizeLine) : gTup ds η = .ok (.tup ds) η := if_pos h
@[simp] theorem r_glst (ds : List D) (h : ds.length ≤ sizeLine) : gLst ds η = .ok (.obj η.length) (η ++ [.lst ds]) := if_pos h
@[simp] theorem r_cb (g : List D → MH → Out D) : eCB g fs δ η = (fs δ η).bind g := .trans rfl rfl
@[simp] theorem r_isi (T : String) : eIsi T f δ η = (f δ η).bind (gIsi T) := .trans rfl rfl
@[simp] theorem r_seq : sSeq u v δ η = (u δ η).bind (andThen v) := .trans rfl rfl
@[simp] theorem r_nx (δ' : En) : andThen v (.nx, δ') η = v δ' η := .trans rfl rfl
@[simp] theorem r_ret' (δ' : En) : andThen v (.ret d, δ') η = .ok (.ret d, δ') η := .trans rfl rfl
@[simp] theorem r_brk' (δ' : En) : andThen v (.brk, δ') η = .ok (.brk, δ') η := .trans rfl rfl
@[simp] theorem r_cnt' (δ' : En) : andThen v (.cnt, δ') η = .ok (.cnt, δ') η := .trans rfl rfl
@[simp] theorem r_next : sNext δ η = .ok (.nx, δ) η := .trans rfl rfl
@[simp] theorem r_brk : sBrk δ η = .ok (.brk, δ) η := .trans rfl rfl
@[simp] theorem r_cnt : sCnt δ η = .ok (.cnt, δ) η := .trans rfl rfl
@[simp] theorem r_drop : sDrop f δ η = (f δ η).bind fun _ η => .ok (.nx, δ) η := .trans rfl rfl
@[simp] theorem r_ret : sRet f δ η = (f δ η).bind fun d η => .ok (.ret d, δ) η := .trans rfl rfl
@[simp] theorem r_sif : sIf p u v δ η = (p δ η).bind fun k η => if k then u δ η else v δ η := .trans rfl rfl
@[simp] theorem r_set : sSet i f δ η = (f δ η).bind fun d η => .ok (.nx, δ.set i (some d)) η := .trans rfl rfl
@[simp] theorem r_asg (g : GM) : sAsg f g δ η = (f δ η).bind fun d η => toS (g d δ η) := .trans rfl rfl
@[simp] theorem r_toS (δ' : En) : toS (.ok δ' η) = .ok (.nx, δ') η := .trans rfl rfl
@[simp] theorem r_gtn : gtName i d δ η = .ok (δ.set i (some d)) η := .trans rfl rfl
@[simp] theorem r_par (j : Nat) : sPar i j (aCons f (aCons g aNil)) δ η = (f δ η).bind fun d η => (g δ η).bind fun e η => .ok (.nx, (δ.set i (some d)).set j (some e)) η := by
  unfold sPar
  rw [r_acons, Out.bind_assoc]
  congr 1
  funext x η
  rw [r_acons, Out.bind_assoc, Out.bind_assoc]
  rfl
@[simp] theorem r_gtup' (n : Nat) (h : List D → En → MH → Out En) (ds : List D) : gtTup n h (.tup ds) δ η = if ds.length = n then h ds δ η else .bad := .trans rfl rfl
@[simp] theorem r_gtcons (g : GM) (h : List D → En → MH → Out En) (ds : List D) : gtCons g h (d :: ds) δ η = (g d δ η).bind fun δ η => h ds δ η := .trans rfl rfl
@[simp] theorem r_gtnil : gtNil [] δ η = .ok δ η := .trans rfl rfl
@[simp] theorem r_gtsub (o k : EM) : gtSub o k d δ η = (o δ η).bind fun x η => (k δ η).bind fun y η => (gSet x y d η).bind fun _ η => .ok δ η := .trans rfl rfl
theorem for_snap {it : IM} {g : GM} {b : SM} {n : Nat} {δ : En} {η η' : MH} {ds : List D} (h : it δ η = .ok (.snap ds) η') : sFor it g b n δ η = loopL g b ds δ η' := by unfold sFor; rw [h]; rfl
theorem for_live {it : IM} {g : GM} {b : SM} {n o : Nat} {w : Nat → D → D} {δ : En} {η η' : MH} (h : it δ η = .ok (.live o w) η') : sFor it g b n δ η = loopO g b o w n 0 δ η' := by unfold sFor; rw [h]; rfl
@[simp] theorem r_iA (g : List D → MH → Out Src) : iA g fs δ η = (fs δ η).bind g := .trans rfl rfl
@[simp] theorem r_iE : iE f δ η = (f δ η).bind gSrc := .trans rfl rfl
@[simp] theorem r_mtL (g : D → List D → MH → Out D) : eMtL g f fs δ η = (f δ η).bind fun x η => if isLst η x then (fs δ η).bind fun ds η => g x ds η else .bad := .trans rfl rfl
@[simp] theorem r_mtS (h : D → List D → MH → Out D) : eMtS h f g δ η = (f δ η).bind fun x η => if gStrR x then (g δ η).bind fun d η => h x [d] η else .bad := .trans rfl rfl
@[simp] theorem r_sl (l h : OM) : eSl f l h δ η = (f δ η).bind fun x η => (l δ η).bind fun lo η => (h δ η).bind fun hi η => gSl x lo hi η := .trans rfl rfl
@[simp] theorem r_ono : oNone δ η = .ok none η := .trans rfl rfl
@[simp] theorem r_oso : oSome f δ η = (f δ η).bind gPart := .trans rfl rfl
@[simp] theorem r_part (i : Int) : gPart (.int i) η = .ok (some i) η := .trans rfl rfl
@[simp] theorem r_tQ (stop : Bool) (iM : IM) (g : GM) (t : TM) (e : EM) (vs : List Nat) : tQ stop iM g t e vs δ η = (iM δ η).bind fun s η => qS stop (fun d => itemG g t e d (wipeD δ vs)) s FU 0 η := .trans rfl rfl
@[simp] theorem r_chn (g1 g2 : D → D → MH → Out Bool) (a b c : EM) : tChn g1 g2 a b c δ η = (a δ η).bind fun x η => (b δ η).bind fun y η => (g1 x y η).bind fun k η => if k then (c δ η).bind fun z η => g2 y z η else .ok false η := .trans rfl rfl
@[simp] theorem r_addI (i j : Int) : gAdd (.int i) (.int j) η = .ok (.int (i + j)) η := .trans rfl rfl
@[simp] theorem r_subI (i j : Int) : gSub (.int i) (.int j) η = .ok (.int (i - j)) η := .trans rfl rfl
@[simp] theorem r_negI (i : Int) : gNeg (.int i) η = .ok (.int (-i)) η := .trans rfl rfl
@[simp] theorem r_mulI (i j : Int) (h : CMul i j) : gMul (.int i) (.int j) η = .ok (.int (i * j)) η := if_pos h
@[simp] theorem r_fdivI (i j : Int) (h : CDivN i j) : gFdiv (.int i) (.int j) η = .ok (.int (i.fdiv j)) η := if_pos h
@[simp] theorem r_modI (i j : Int) (h : j ≠ 0) : gMod (.int i) (.int j) η = .ok (.int (i.fmod j)) η := if_pos h
@[simp] theorem r_ordI (f : Int → Int → Bool) (i j : Int) : gOrd f (.int i) (.int j) η = .ok (f i j) η := .trans rfl rfl
@[simp] theorem r_absI (i : Int) : gAbs [.int i] η = .ok (.int (if i < 0 then -i else i)) η := .trans rfl rfl
@[simp] theorem r_intI (i : Int) : gInt [.int i] η = .ok (.int i) η := .trans rfl rfl
@[simp] theorem r_intB (b : Bool) : gInt [.bl b] η = .ok (.int (if b then 1 else 0)) η := .trans rfl rfl
@[simp] theorem r_lenT (ds : List D) : gLen [.tup ds] η = .ok (.int ds.length) η := .trans rfl rfl
@[simp] theorem r_lenL (ds : List D) (h : lstAt η i = some ds) : gLen [.obj i] η = .ok (.int ds.length) η := by
  unfold lstAt at h; unfold gLen
  split at h <;> simp_all
@[simp] theorem r_ixT (ds : List D) (k : Int) (h : atI ds k = some d) : gIx (.tup ds) (.int k) η = .ok d η := by unfold gIx; simp only [h]
@[simp] theorem r_ixL (ds : List D) (k : Int) (h : lstAt η i = some ds) (h2 : atI ds k = some d) : gIx (.obj i) (.int k) η = .ok d η := by
  unfold lstAt at h; unfold gIx
  split at h <;> simp_all
@[simp] theorem r_isLst (ds : List D) (h : η[i]? = some (.lst ds)) : isLst η (.obj i) = true := by unfold isLst; simp only [h]
@[simp] theorem r_app (ds : List D) (h : η[i]? = some (.lst ds)) (hl : ds.length < sizeLine) : gAppend (.obj i) [d] η = .ok .non (η.set i (.lst (ds ++ [d]))) := by unfold gAppend; simp only [h, if_pos hl]
@[simp] theorem r_gset (ds : List D) (k : Int) (j : Nat) (h : η[i]? = some (.lst ds)) (hj : ixN ds.length k = some j) : gSet (.obj i) (.int k) d η = .ok () (η.set i (.lst (ds.set j d))) := by unfold gSet; simp only [h, hj]
@[simp] theorem r_eqI (i j : Int) : gEq (.int i) (.int j) η = .ok (i == j) η := .trans rfl rfl
@[simp] theorem r_neI (i j : Int) : gNe (.int i) (.int j) η = .ok (!(i == j)) η := .trans rfl rfl
@[simp] theorem r_turn (g : GM) (b : SM) : turnOf g b d δ η = (g d δ η).bind b := .trans rfl rfl
@[simp] theorem r_ntnx (δ' : En) (w : SM) : nextTurn w (.nx, δ') η = w δ' η := .trans rfl rfl
@[simp] theorem r_ntct (δ' : En) (w : SM) : nextTurn w (.cnt, δ') η = w δ' η := .trans rfl rfl
@[simp] theorem r_ntbk (δ' : En) (w : SM) : nextTurn w (.brk, δ') η = .ok (.nx, δ') η := .trans rfl rfl
@[simp] theorem r_ntrt (δ' : En) (w : SM) : nextTurn w (.ret d, δ') η = .ok (.ret d, δ') η := .trans rfl rfl
end
theorem lstAt_lst {η : MH} {i : Nat} {xs : List D} (h : η[i]? = some (.lst xs)) : lstAt η i = some xs := by unfold lstAt; rw [h]
theorem body_ret {np nn : Nat} {f : SM} {ds : List D} {η η' : MH} {d : D} {δ : En} (hl : ds.length = np) (h : f (ds.map some ++ List.replicate (nn - np) none) η = .ok (.ret d, δ) η') : bodyM np nn f ds η = .ok d η' := by
  unfold bodyM; rw [if_pos hl, h]; rfl
/-- a loop with an invariant by the turn, each turn going on -/
theorem loopL_inv {g : GM} {b : SM} (I : Nat → En → MH → Prop) : ∀ (ds : List D) (k : Nat) (δ : En) (η : MH), (∀ i d δ η, ds[i]? = some d → I (k + i) δ η → ∃ δ' η', turnOf g b d δ η = .ok (.nx, δ') η' ∧ I (k + i + 1) δ' η') → I k δ η →
    ∃ δ' η', loopL g b ds δ η = .ok (.nx, δ') η' ∧ I (k + ds.length) δ' η'
  | [], k, δ, η, _, h => ⟨δ, η, rfl, h⟩
  | d :: ds, k, δ, η, st, h => by
    obtain ⟨δ1, η1, e1, h1⟩ := st 0 d δ η rfl h
    obtain ⟨δ2, η2, e2, h2⟩ := loopL_inv I ds (k + 1) δ1 η1 (fun i d δ η e hi => by
      have := st (i + 1) d δ η e (by rw [show k + (i + 1) = k + 1 + i by omega]; exact hi)
      rw [show k + (i + 1) + 1 = k + 1 + i + 1 by omega] at this
      exact this) h1
    refine ⟨δ2, η2, ?_, by rw [List.length_cons, show k + (ds.length + 1) = k + 1 + ds.length by omega]; exact h2⟩
    unfold loopL
    rw [e1]
    exact e2
theorem rng_get {lo : Int} {n i : Nat} {d : D} (h : (rngD lo n)[i]? = some d) : i < n ∧ d = .int (lo + i) := by
  unfold rngD at h
  rw [List.getElem?_map] at h
  obtain ⟨k, e, rfl⟩ := Option.map_eq_some_iff.mp h
  obtain ⟨h1, h2⟩ := List.getElem?_eq_some_iff.mp e
  rw [List.getElem_range] at h2
  subst h2
  exact ⟨by simpa using h1, rfl⟩
theorem rng_len {lo : Int} {n : Nat} : (rngD lo n).length = n := by unfold rngD; simp
/-! ### the digits, the box, the draws -/
def bCell : SM := (sSeq (sIf (t2 gLt (eVar 1) (eCB gLen (aCons (eVar 0) aNil))) (sRet (e2 gIx (eVar 0) (eVar 1))) sNext)
    (sRet (eC (.int 0))))
theorem cell_ok {η : MH} {s : Nat} {ns : List Int} {k : Int} (hs : lstAt η s = some (ns.map D.int)) (hk : 0 ≤ k) : ∃ z : Int, bodyM 2 2 bCell [.obj s, .int k] η = .ok (.int z) η := by
  by_cases h : k < (ns.length : Int)
  · have hn : k.toNat < ns.length := by omega
    refine ⟨ns[k.toNat], body_ret rfl (δ := [some (.obj s), some (.int k)]) ?_⟩
    have e : atI (ns.map D.int) k = some (.int ns[k.toNat]) := by
      unfold atI ixN
      rw [List.length_map, if_pos hk, if_pos h]
      show (ns.map D.int)[k.toNat]? = _
      rw [List.getElem?_map, List.getElem?_eq_getElem hn]
      rfl
    simp [bCell, hs, e, h]
  · refine ⟨0, body_ret rfl (δ := [some (.obj s), some (.int k)]) ?_⟩
    simp [bCell, hs, h]
/-- a box of digits, drawn from at `at`: the list at b, its digits at j -/
structure Box (η : MH) (b j : Nat) (ds : List Int) (a : Nat) : Prop where
  box : η[b]? = some (.lst [.obj j, .int a])
  dig : η[j]? = some (.lst (ds.map D.int))
  ne : j ≠ b
theorem Box.app {η : MH} {b j a : Nat} {ds : List Int} (h : Box η b j ds a) (ms : MH) : Box (η ++ ms) b j ds a := by
  have h1 := (List.getElem?_eq_some_iff.mp h.box).1
  have h2 := (List.getElem?_eq_some_iff.mp h.dig).1
  exact ⟨by rw [List.getElem?_append_left h1]; exact h.box, by rw [List.getElem?_append_left h2]; exact h.dig, h.ne⟩
def bDraw : SM := (sSeq (sSet 2 (e2 gIx (eVar 0) (eC (.int 1))))
    (sSeq (sAsg (e2 gAdd (eVar 2) (eC (.int 1))) (gtSub (eVar 0) (eC (.int 1))))
    (sSeq (sIf (t2 gLt (eVar 2) (eCB gLen (aCons (e2 gIx (eVar 0) (eC (.int 0))) aNil))) (sRet (e2 gMod (eCB gInt (aCons (e2 gIx (e2 gIx (eVar 0) (eC (.int 0))) (eVar 2)) aNil)) (eVar 1))) sNext)
    (sRet (eC (.int 0))))))
/-- the box behind a draw -/
def boxed (η : MH) (b j a : Nat) : MH := η.set b (.lst [.obj j, .int ((a + 1 : Nat) : Int)])
theorem Box.drawn {η : MH} {b j a : Nat} {ds : List Int} (h : Box η b j ds a) : Box (boxed η b j a) b j ds (a + 1) := by
  have h1 := (List.getElem?_eq_some_iff.mp h.box).1
  exact ⟨by unfold boxed; rw [List.getElem?_set_self h1], by unfold boxed; rw [List.getElem?_set_ne (Ne.symm h.ne)]; exact h.dig, h.ne⟩
theorem draw_ok {η : MH} {b j a : Nat} {ds : List Int} {m : Int} (h : Box η b j ds a) (hm : 0 < m) : ∃ r : Int, 0 ≤ r ∧ r < m ∧ bodyM 2 3 bDraw [.obj b, .int m] η = .ok (.int r) (boxed η b j a) := by
  have e1 : atI [D.obj j, .int (a : Int)] 1 = some (.int a) := rfl
  have l1 := lstAt_lst h.box
  have h2 := h.drawn
  have l2 := lstAt_lst h2.box
  have l3 := lstAt_lst h2.dig
  have e0 : atI [D.obj j, .int ((a + 1 : Nat) : Int)] 0 = some (.obj j) := rfl
  have hs : gSet (.obj b) (.int 1) (.int ((a : Int) + 1)) η = .ok () (boxed η b j a) := by
    rw [r_gset η b _ _ _ 1 h.box rfl]; rfl
  by_cases hl : (a : Int) < (ds.length : Int)
  · have hn : a < ds.length := by omega
    have ea : atI (ds.map D.int) (a : Int) = some (.int ds[a]) := by
      unfold atI ixN
      rw [List.length_map, if_pos (by omega), if_pos hl]
      show (ds.map D.int)[(a : Int).toNat]? = _
      rw [List.getElem?_map, show (a : Int).toNat = a by omega, List.getElem?_eq_getElem hn]
      rfl
    refine ⟨ds[a].fmod m, ?_, ?_, body_ret rfl (δ := [some (.obj b), some (.int m), some (.int a)]) ?_⟩
    · exact Int.fmod_nonneg_of_pos _ hm
    · exact Int.fmod_lt_of_pos _ hm
    · have hm' : m ≠ 0 := by omega
      simp [bDraw, r_ixL η b _ _ _ l1 e1, hs, r_ixL _ b _ _ _ l2 e0, r_lenL _ j _ l3, hl, r_ixL _ j _ _ _ l3 ea, hm']
  · refine ⟨0, by omega, hm, body_ret rfl (δ := [some (.obj b), some (.int m), some (.int a)]) ?_⟩
    simp [bDraw, r_ixL η b _ _ _ l1 e1, hs, r_ixL _ b _ _ _ l2 e0, r_lenL _ j _ l3, hl]
def bDigits (ic : Nat) (c : Nat → FM) : SM := (sSeq (sSet 3 (eLst aNil))
    (sSeq (sFor (iA gRng2 (aCons (eVar 1) (aCons (eVar 2) aNil))) (gtName 4) (sSeq (sSet 5 (eCB (c ic) (aCons (eVar 0) (aCons (eVar 4) aNil))))
    (sSeq (sIf (t2 gLt (eVar 5) (eC (.int 0))) (sSet 5 (e2 gSub (eC (.int 1)) (e2 gMul (eC (.int 2)) (eVar 5)))) sNext)
    (sIf (t2 gGe (eVar 5) (e2 gPow (eC (.int 10)) (eC (.int 18)))) (sFor (iA gRng1 (aCons (eC (.int 60)) aNil)) (gtName 6) (sIf (t2 gGt (eVar 5) (eC (.int 0))) (sSeq (sDrop (eMtL gAppend (eVar 3) (aCons (e2 gMod (eCB gInt (aCons (eVar 5) aNil)) (eC (.int 1000))) aNil)))
    (sSet 5 (e2 gFdiv (eVar 5) (eC (.int 1000))))) sNext) FU) (sSeq (sSet 7 (e2 gMod (eCB gInt (aCons (e2 gAdd (e2 gAdd (e2 gMul (eVar 5) (eC (.int 48271))) (e2 gMul (eVar 4) (eC (.int 69621)))) (eC (.int 11))) aNil)) (eC (.int 2147483647))))
    (sFor (iA gRng1 (aCons (eC (.int 12)) aNil)) (gtName 6) (sSeq (sSet 7 (e2 gMod (eCB gInt (aCons (e2 gAdd (e2 gAdd (e2 gMul (eVar 7) (eC (.int 16807))) (e2 gMul (eC (.int 7)) (eVar 6))) (eC (.int 1))) aNil)) (eC (.int 2147483647))))
    (sDrop (eMtL gAppend (eVar 3) (aCons (e2 gMod (eCB gInt (aCons (e2 gFdiv (eVar 7) (eC (.int 997))) aNil)) (eC (.int 1000))) aNil)))) FU))))) FU)
    (sRet (eVar 3))))
theorem r_rng1 {η : MH} {j : Int} (h : -(2 ^ 62) ≤ j ∧ j < 2 ^ 62) : gRng1 [.int j] η = .ok (.snap (rngD 0 j.toNat)) η := if_pos h
theorem r_rng2 {η : MH} {i j : Int} (h : -(2 ^ 62) ≤ i ∧ i < 2 ^ 62 ∧ -(2 ^ 62) ≤ j ∧ j < 2 ^ 62) : gRng2 [.int i, .int j] η = .ok (.snap (rngD i (j - i).toNat)) η := if_pos h
theorem cmul_l {i j : Int} (h1 : -(2 ^ 64) < i) (h2 : i < 2 ^ 64) : CMul i j := .inl ⟨h1, h2⟩
theorem cmul_r {i j : Int} (h1 : -(2 ^ 64) < j) (h2 : j < 2 ^ 64) : CMul i j := .inr ⟨h1, h2⟩
/-- the list at o under way: the first objects as they were -/
structure Dig (η0 η : MH) (most : Nat) : Prop where
  at_ : ∃ ds : List Int, η = η0 ++ [.lst (ds.map D.int)] ∧ ds.length ≤ most
theorem Dig.add {η0 η : MH} {m : Nat} (h : Dig η0 η m) (hm : m < sizeLine) (z : Int) : ∃ η', gAppend (.obj η0.length) [.int z] η = .ok .non η' ∧ Dig η0 η' (m + 1) := by
  obtain ⟨ds, rfl, hl⟩ := h.at_
  refine ⟨η0 ++ [.lst ((ds ++ [z]).map D.int)], ?_, ⟨ds ++ [z], rfl, by simp; omega⟩⟩
  rw [r_app _ _ _ (ds.map D.int) (by simp) (by simp; omega)]
  simp
theorem Dig.isL {η0 η : MH} {m : Nat} (h : Dig η0 η m) : isLst η (.obj η0.length) = true := by
  obtain ⟨ds, rfl, hl⟩ := h.at_
  exact r_isLst _ _ (ds.map D.int) (by simp)
theorem Dig.mono {η0 η : MH} {m m' : Nat} (h : Dig η0 η m) (hm : m ≤ m') : Dig η0 η m' := by
  obtain ⟨ds, e, hl⟩ := h.at_
  exact ⟨ds, e, by omega⟩
theorem dig_big {η0 η : MH} {s i : Nat} {kk : Int} (hi : i < 62) (hd : Dig η0 η (i * 60)) (z : Int) (x6 x7 : Option D) : ∃ δ' η', loopL (gtName 6) (sIf (t2 gGt (eVar 5) (eC (.int 0))) (sSeq (sDrop (eMtL gAppend (eVar 3) (aCons (e2 gMod (eCB gInt (aCons (eVar 5) aNil)) (eC (.int 1000))) aNil)))
        (sSet 5 (e2 gFdiv (eVar 5) (eC (.int 1000))))) sNext) (rngD 0 60) [some (.obj s), some (.int 0), some (.int 62), some (.obj η0.length), some (.int kk), some (.int z), x6, x7] η = .ok (.nx, δ') η' ∧
    (∃ x5 x6 x7, δ' = [some (.obj s), some (.int 0), some (.int 62), some (.obj η0.length), some (.int kk), x5, x6, x7]) ∧ Dig η0 η' ((i + 1) * 60) := by
  have hh := loopL_inv (g := gtName 6) (b := (sIf (t2 gGt (eVar 5) (eC (.int 0))) (sSeq (sDrop (eMtL gAppend (eVar 3) (aCons (e2 gMod (eCB gInt (aCons (eVar 5) aNil)) (eC (.int 1000))) aNil)))
        (sSet 5 (e2 gFdiv (eVar 5) (eC (.int 1000))))) sNext)) (fun k δ η => (∃ (z : Int) (x6 x7 : Option D), δ = [some (.obj s), some (.int 0), some (.int 62), some (.obj η0.length), some (.int kk), some (.int z), x6, x7]) ∧ Dig η0 η (i * 60 + k)) (rngD 0 60) 0 [some (.obj s), some (.int 0), some (.int 62), some (.obj η0.length), some (.int kk), some (.int z), x6, x7] η (by
    intro i' d δ η e h
    obtain ⟨hi', rfl⟩ := rng_get e
    obtain ⟨⟨z, x6, x7, rfl⟩, hd⟩ := h
    by_cases hz : 0 < z
    · obtain ⟨η1, ea, hd1⟩ := hd.add (by unfold sizeLine; omega) (z.fmod 1000)
      refine ⟨_, η1, ?_, ⟨⟨z.fdiv 1000, some (.int (0 + (i' : Int))), x7, rfl⟩, hd1⟩⟩
      have cd : CDivN z 1000 := by unfold CDivN; decide
      simp [hz, hd.isL, ea, cd]
      try rfl
    · refine ⟨_, η, ?_, ⟨⟨z, some (.int (0 + (i' : Int))), x7, rfl⟩, hd.mono (by omega)⟩⟩
      simp [hz]
      try rfl) ⟨⟨z, x6, x7, rfl⟩, hd⟩
  obtain ⟨δ', η', e1, ⟨z', x6', x7', rfl⟩, e3⟩ := hh
  exact ⟨_, _, e1, ⟨some (.int z'), x6', x7', rfl⟩, e3.mono (by rw [rng_len]; omega)⟩
theorem dig_small {η0 η : MH} {s i : Nat} {kk : Int} (hi : i < 62) (hd : Dig η0 η (i * 60)) (z sd : Int) (x6 : Option D) (h1 : 0 ≤ sd) (h2 : sd < 2147483647) : ∃ δ' η', loopL (gtName 6) (sSeq (sSet 7 (e2 gMod (eCB gInt (aCons (e2 gAdd (e2 gAdd (e2 gMul (eVar 7) (eC (.int 16807))) (e2 gMul (eC (.int 7)) (eVar 6))) (eC (.int 1))) aNil)) (eC (.int 2147483647))))
        (sDrop (eMtL gAppend (eVar 3) (aCons (e2 gMod (eCB gInt (aCons (e2 gFdiv (eVar 7) (eC (.int 997))) aNil)) (eC (.int 1000))) aNil)))) (rngD 0 12) [some (.obj s), some (.int 0), some (.int 62), some (.obj η0.length), some (.int kk), some (.int z), x6, some (.int sd)] η = .ok (.nx, δ') η' ∧
    (∃ x5 x6 x7, δ' = [some (.obj s), some (.int 0), some (.int 62), some (.obj η0.length), some (.int kk), x5, x6, x7]) ∧ Dig η0 η' ((i + 1) * 60) := by
  have hh := loopL_inv (g := gtName 6) (b := (sSeq (sSet 7 (e2 gMod (eCB gInt (aCons (e2 gAdd (e2 gAdd (e2 gMul (eVar 7) (eC (.int 16807))) (e2 gMul (eC (.int 7)) (eVar 6))) (eC (.int 1))) aNil)) (eC (.int 2147483647))))
        (sDrop (eMtL gAppend (eVar 3) (aCons (e2 gMod (eCB gInt (aCons (e2 gFdiv (eVar 7) (eC (.int 997))) aNil)) (eC (.int 1000))) aNil))))) (fun k δ η => (∃ (sd : Int) (x6 : Option D), δ = [some (.obj s), some (.int 0), some (.int 62), some (.obj η0.length), some (.int kk), some (.int z), x6, some (.int sd)] ∧ 0 ≤ sd ∧ sd < 2147483647) ∧ Dig η0 η (i * 60 + k)) (rngD 0 12) 0 [some (.obj s), some (.int 0), some (.int 62), some (.obj η0.length), some (.int kk), some (.int z), x6, some (.int sd)] η (by
    intro i' d δ η e h
    obtain ⟨hi', rfl⟩ := rng_get e
    obtain ⟨⟨sd, x6, rfl, h1, h2⟩, hd⟩ := h
    have n1 : 0 ≤ (sd * 16807 + 7 * (i' : Int) + 1).fmod 2147483647 := Int.fmod_nonneg_of_pos _ (by decide)
    have n2 : (sd * 16807 + 7 * (i' : Int) + 1).fmod 2147483647 < 2147483647 := Int.fmod_lt_of_pos _ (by decide)
    generalize hsd : (sd * 16807 + 7 * (i' : Int) + 1).fmod 2147483647 = sd2 at n1 n2
    obtain ⟨η1, ea, hd1⟩ := hd.add (by unfold sizeLine; omega) ((sd2.fdiv 997).fmod 1000)
    refine ⟨_, η1, ?_, ⟨⟨sd2, some (.int (0 + (i' : Int))), rfl, n1, n2⟩, hd1⟩⟩
    have cd : CDivN sd2 997 := by unfold CDivN; decide
    have c1 : CMul sd 16807 := cmul_r (by decide) (by decide)
    have c2' : CMul 7 (i' : Int) := cmul_l (by decide) (by decide)
    simp [hd.isL, ea, cd, c1, c2', hsd]
    try rfl) ⟨⟨sd, x6, rfl, h1, h2⟩, hd⟩
  obtain ⟨δ', η', e1, ⟨sd', x6', ⟨rfl, _, _⟩⟩, e3⟩ := hh
  exact ⟨_, _, e1, ⟨some (.int z), x6', some (.int sd'), rfl⟩, e3.mono (by rw [rng_len]; omega)⟩
def bRest : SM := (sIf (t2 gGe (eVar 5) (e2 gPow (eC (.int 10)) (eC (.int 18)))) (sFor (iA gRng1 (aCons (eC (.int 60)) aNil)) (gtName 6) (sIf (t2 gGt (eVar 5) (eC (.int 0))) (sSeq (sDrop (eMtL gAppend (eVar 3) (aCons (e2 gMod (eCB gInt (aCons (eVar 5) aNil)) (eC (.int 1000))) aNil)))
    (sSet 5 (e2 gFdiv (eVar 5) (eC (.int 1000))))) sNext) FU) (sSeq (sSet 7 (e2 gMod (eCB gInt (aCons (e2 gAdd (e2 gAdd (e2 gMul (eVar 5) (eC (.int 48271))) (e2 gMul (eVar 4) (eC (.int 69621)))) (eC (.int 11))) aNil)) (eC (.int 2147483647))))
    (sFor (iA gRng1 (aCons (eC (.int 12)) aNil)) (gtName 6) (sSeq (sSet 7 (e2 gMod (eCB gInt (aCons (e2 gAdd (e2 gAdd (e2 gMul (eVar 7) (eC (.int 16807))) (e2 gMul (eC (.int 7)) (eVar 6))) (eC (.int 1))) aNil)) (eC (.int 2147483647))))
    (sDrop (eMtL gAppend (eVar 3) (aCons (e2 gMod (eCB gInt (aCons (e2 gFdiv (eVar 7) (eC (.int 997))) aNil)) (eC (.int 1000))) aNil)))) FU)))
theorem dig_rest {η0 η : MH} {s i : Nat} {kk : Int} (hi : i < 62) (hd : Dig η0 η (i * 60)) (z : Int) (x6 x7 : Option D) : ∃ δ' η', bRest [some (.obj s), some (.int 0), some (.int 62), some (.obj η0.length), some (.int kk), some (.int z), x6, x7] η = .ok (.nx, δ') η' ∧
    (∃ x5 x6 x7, δ' = [some (.obj s), some (.int 0), some (.int 62), some (.obj η0.length), some (.int kk), x5, x6, x7]) ∧ Dig η0 η' ((i + 1) * 60) := by
  have pw : gPow (.int 10) (.int 18) η = .ok (.int 1000000000000000000) η := by
    unfold gPow
    simp only
    rw [if_pos (by unfold CPow; decide)]
    simp
  have r60 := r_rng1 (η := η) (j := 60) (by decide)
  have r12 := r_rng1 (η := η) (j := 12) (by decide)
  unfold bRest
  by_cases hb : (1000000000000000000 : Int) ≤ z
  · obtain ⟨δ', η', e1, h⟩ := dig_big (s := s) (kk := kk) hi hd z x6 x7
    refine ⟨δ', η', ?_, h⟩
    have hit : iA gRng1 (aCons (eC (.int 60)) aNil) [some (.obj s), some (.int 0), some (.int 62), some (.obj η0.length), some (.int kk), some (.int z), x6, x7] η = .ok (.snap (rngD 0 60)) η := by simp [r60]
    simp [pw, hb, for_snap hit]
    exact e1
  · have sd1 : 0 ≤ (z * 48271 + kk * 69621 + 11).fmod 2147483647 := Int.fmod_nonneg_of_pos _ (by decide)
    have sd2 : (z * 48271 + kk * 69621 + 11).fmod 2147483647 < 2147483647 := Int.fmod_lt_of_pos _ (by decide)
    obtain ⟨δ', η', e1, h⟩ := dig_small (s := s) (kk := kk) hi hd z _ x6 sd1 sd2
    refine ⟨δ', η', ?_, h⟩
    have c4 : CMul z 48271 := cmul_r (by decide) (by decide)
    have c5 : CMul kk 69621 := cmul_r (by decide) (by decide)
    have hit : iA gRng1 (aCons (eC (.int 12)) aNil) [some (.obj s), some (.int 0), some (.int 62), some (.obj η0.length), some (.int kk), some (.int z), x6, some (.int ((z * 48271 + kk * 69621 + 11).fmod 2147483647))] η = .ok (.snap (rngD 0 12)) η := by simp [r12]
    simp [pw, hb, for_snap hit, c4, c5]
    exact e1
theorem digits_ok {c : Nat → FM} {ic : Nat} {η0 : MH} {s : Nat} {ns : List Int} (hc : c ic = bodyM 2 2 bCell) (hs : lstAt η0 s = some (ns.map D.int)) :
    ∃ ds : List Int, bodyM 3 8 (bDigits ic c) [.obj s, .int 0, .int 62] η0 = .ok (.obj η0.length) (η0 ++ [.lst (ds.map D.int)]) := by
  have hsl : s < η0.length := by
    unfold lstAt at hs
    cases h : η0[s]? with
    | none => rw [h] at hs; cases hs
    | some m => exact (List.getElem?_eq_some_iff.mp h).1
  have hs' : ∀ η m, Dig η0 η m → lstAt η s = some (ns.map D.int) := fun η m h => by
    obtain ⟨ds, rfl, _⟩ := h.at_
    unfold lstAt
    rw [List.getElem?_append_left hsl]
    exact hs
  have main : ∃ δ' η', loopL (gtName 4) (sSeq (sSet 5 (eCB (c ic) (aCons (eVar 0) (aCons (eVar 4) aNil))))
    (sSeq (sIf (t2 gLt (eVar 5) (eC (.int 0))) (sSet 5 (e2 gSub (eC (.int 1)) (e2 gMul (eC (.int 2)) (eVar 5)))) sNext)
    (sIf (t2 gGe (eVar 5) (e2 gPow (eC (.int 10)) (eC (.int 18)))) (sFor (iA gRng1 (aCons (eC (.int 60)) aNil)) (gtName 6) (sIf (t2 gGt (eVar 5) (eC (.int 0))) (sSeq (sDrop (eMtL gAppend (eVar 3) (aCons (e2 gMod (eCB gInt (aCons (eVar 5) aNil)) (eC (.int 1000))) aNil)))
    (sSet 5 (e2 gFdiv (eVar 5) (eC (.int 1000))))) sNext) FU) (sSeq (sSet 7 (e2 gMod (eCB gInt (aCons (e2 gAdd (e2 gAdd (e2 gMul (eVar 5) (eC (.int 48271))) (e2 gMul (eVar 4) (eC (.int 69621)))) (eC (.int 11))) aNil)) (eC (.int 2147483647))))
    (sFor (iA gRng1 (aCons (eC (.int 12)) aNil)) (gtName 6) (sSeq (sSet 7 (e2 gMod (eCB gInt (aCons (e2 gAdd (e2 gAdd (e2 gMul (eVar 7) (eC (.int 16807))) (e2 gMul (eC (.int 7)) (eVar 6))) (eC (.int 1))) aNil)) (eC (.int 2147483647))))
    (sDrop (eMtL gAppend (eVar 3) (aCons (e2 gMod (eCB gInt (aCons (e2 gFdiv (eVar 7) (eC (.int 997))) aNil)) (eC (.int 1000))) aNil)))) FU))))) (rngD 0 62) [some (.obj s), some (.int 0), some (.int 62), some (.obj η0.length), none, none, none, none] (η0 ++ [.lst []]) = .ok (.nx, δ') η' ∧
      ((∃ x4 x5 x6 x7, δ' = [some (.obj s), some (.int 0), some (.int 62), some (.obj η0.length), x4, x5, x6, x7]) ∧ Dig η0 η' ((0 + (rngD 0 62).length) * 60)) := by
    refine loopL_inv (fun k δ η => (∃ x4 x5 x6 x7, δ = [some (.obj s), some (.int 0), some (.int 62), some (.obj η0.length), x4, x5, x6, x7]) ∧ Dig η0 η (k * 60)) _ 0 _ _ (fun i d δ η e h => ?_) ⟨⟨_, _, _, _, rfl⟩, ⟨[], rfl, Nat.zero_le _⟩⟩
    obtain ⟨hi, rfl⟩ := rng_get e
    obtain ⟨⟨x4, x5, x6, x7, rfl⟩, hd⟩ := h
    obtain ⟨z0, ez⟩ := cell_ok (k := 0 + (i : Int)) (hs' η _ hd) (by omega)
    generalize hk : (0 + (i : Int)) = kk at ez ⊢
    have kk0 : 0 ≤ kk ∧ kk < 62 := by omega
    rw [Nat.zero_add] at hd ⊢
    -- the cell made no less than 0
    have cellz : ∃ z : Int, 0 ≤ z ∧ ((if z0 < 0 then 1 - 2 * z0 else z0) = z) := ⟨_, by split <;> omega, rfl⟩
    obtain ⟨z, hz0, hz⟩ := cellz
    have c3 : CMul 2 z0 := cmul_l (by decide) (by decide)
    have first : (sIf (t2 gLt (eVar 5) (eC (.int 0))) (sSet 5 (e2 gSub (eC (.int 1)) (e2 gMul (eC (.int 2)) (eVar 5)))) sNext) [some (.obj s), some (.int 0), some (.int 62), some (.obj η0.length), some (.int kk), some (.int z0), x6, x7] η = .ok (.nx, [some (.obj s), some (.int 0), some (.int 62), some (.obj η0.length), some (.int kk), some (.int z), x6, x7]) η := by
      by_cases h : z0 < 0
      · rw [if_pos h] at hz
        simp [h, c3, hz]
      · rw [if_neg h] at hz
        subst hz
        simp [h]
        try (intro hh; exact absurd hh h)
    obtain ⟨δ', η', e1, ⟨y5, y6, y7, rfl⟩, e3⟩ := dig_rest (s := s) (kk := kk) hi hd z x6 x7
    refine ⟨_, η', ?_, ⟨⟨some (.int kk), y5, y6, y7, rfl⟩, e3⟩⟩
    have c1 : (sSet 5 (eCB (c ic) (aCons (eVar 0) (aCons (eVar 4) aNil)))) [some (.obj s), some (.int 0), some (.int 62), some (.obj η0.length), some (.int kk), x5, x6, x7] η = .ok (.nx, [some (.obj s), some (.int 0), some (.int 62), some (.obj η0.length), some (.int kk), some (.int z0), x6, x7]) η := by
      simp [hc, ez]
    rw [r_turn, r_gtn, bind_ok, r_seq]
    simp only [List.set_cons_succ, List.set_cons_zero]
    rw [c1, bind_ok, r_nx, r_seq, first, bind_ok, r_nx]
    exact e1
  obtain ⟨δ', η', e1, ⟨x4, x5, x6, x7, rfl⟩, hd⟩ := main
  obtain ⟨ds, rfl, _⟩ := hd.at_
  refine ⟨ds, body_ret rfl (δ := [some (.obj s), some (.int 0), some (.int 62), some (.obj η0.length), x4, x5, x6, x7]) ?_⟩
  have r62 := r_rng2 (η := η0 ++ [MO.lst []]) (i := 0) (j := 62) (by decide)
  show bDigits ic c [some (.obj s), some (.int 0), some (.int 62), none, none, none, none, none] η0 = _
  unfold bDigits
  rw [r_seq]
  simp only [r_set, r_lst, r_anil, bind_ok]
  rw [r_glst _ _ (by decide)]
  simp only [bind_ok, r_nx]
  rw [r_seq]
  rw [show ((62 : Int) - 0).toNat = 62 by decide] at r62
  simp only [List.set_cons_succ, List.set_cons_zero]
  have it : iA gRng2 (aCons (eVar 1) (aCons (eVar 2) aNil)) [some (.obj s), some (.int 0), some (.int 62), some (.obj η0.length), none, none, none, none] (η0 ++ [MO.lst []]) = .ok (.snap (rngD 0 62)) (η0 ++ [MO.lst []]) := by
    simp [r62]
  rw [for_snap it, e1]
  rfl
def bBox (idg : Nat) (c : Nat → FM) : SM := sRet (eLst (aCons (eCB (c idg) (aCons (eVar 0) (aCons (eVar 1) (aCons (eVar 2) aNil)))) (aCons (eC (.int 0)) aNil)))
theorem box_ok {c c' : Nat → FM} {ic idg : Nat} {η0 : MH} {s : Nat} {ns : List Int} (hc' : c' ic = bodyM 2 2 bCell) (hc : c idg = bodyM 3 8 (bDigits ic c')) (hs : lstAt η0 s = some (ns.map D.int)) :
    ∃ (ds : List Int) (η : MH), bodyM 3 3 (bBox idg c) [.obj s, .int 0, .int 62] η0 = .ok (.obj (η0.length + 1)) η ∧ η = η0 ++ [.lst (ds.map D.int), .lst [.obj η0.length, .int 0]] ∧ Box η (η0.length + 1) η0.length ds 0 := by
  obtain ⟨ds, e⟩ := digits_ok hc' hs
  refine ⟨ds, _, body_ret rfl (δ := [some (.obj s), some (.int 0), some (.int 62)]) ?_, rfl, ⟨by simp, by simp, by omega⟩⟩
  have hl := r_glst (η0 ++ [MO.lst (ds.map D.int)]) [.obj η0.length, .int 0] (show 2 ≤ sizeLine from by unfold sizeLine; omega)
  simp [bBox, hc, e, hl]
end EV
/-! E13: the law's own comparison. -/
namespace EV
open PySem PySem.Spec PyProof.Rows L2
section
variable {η : MH}
theorem kit_tt : kitB "tuple" "tuple" = some true := by decide +kernel
theorem kit_it : kitB "int" "tuple" = some false := by decide +kernel
theorem kit_bt : kitB "bool" "tuple" = some false := by decide +kernel
theorem kit_st : kitB "str" "tuple" = some false := by decide +kernel
theorem kit_nt : kitB "NoneType" "tuple" = some false := by decide +kernel
theorem kit_lt : kitB "list" "tuple" = some false := by decide +kernel
theorem kit_ib : kitB "int" "bool" = some false := by decide +kernel
theorem kit_bb : kitB "bool" "bool" = some true := by decide +kernel
theorem kit_sb : kitB "str" "bool" = some false := by decide +kernel
theorem kit_ii : kitB "int" "int" = some true := by decide +kernel
theorem kit_bi : kitB "bool" "int" = some true := by decide +kernel
theorem kit_si : kitB "str" "int" = some false := by decide +kernel
theorem kit_ss : kitB "str" "str" = some true := by decide +kernel
theorem isi_of {T t : String} {x : D} {b : Bool} (h : dTy η x = some t) (k : kitB t T = some b) : gIsi T x η = .ok b η := by
  unfold gIsi
  simp only [h, k]
@[simp] theorem isi_tt (xs : List D) : gIsi "tuple" (.tup xs) η = .ok true η := isi_of rfl kit_tt
@[simp] theorem isi_it (i : Int) : gIsi "tuple" (.int i) η = .ok false η := isi_of rfl kit_it
@[simp] theorem isi_bt (b : Bool) : gIsi "tuple" (.bl b) η = .ok false η := isi_of rfl kit_bt
@[simp] theorem isi_st (x : Str) : gIsi "tuple" (.str x) η = .ok false η := isi_of rfl kit_st
@[simp] theorem isi_nt : gIsi "tuple" .non η = .ok false η := isi_of rfl kit_nt
@[simp] theorem isi_ib (i : Int) : gIsi "bool" (.int i) η = .ok false η := isi_of rfl kit_ib
@[simp] theorem isi_bb (b : Bool) : gIsi "bool" (.bl b) η = .ok true η := isi_of rfl kit_bb
@[simp] theorem isi_sb (x : Str) : gIsi "bool" (.str x) η = .ok false η := isi_of rfl kit_sb
@[simp] theorem isi_ii (i : Int) : gIsi "int" (.int i) η = .ok true η := isi_of rfl kit_ii
@[simp] theorem isi_bi (b : Bool) : gIsi "int" (.bl b) η = .ok true η := isi_of rfl kit_bi
@[simp] theorem isi_si (x : Str) : gIsi "int" (.str x) η = .ok false η := isi_of rfl kit_si
@[simp] theorem isi_ss (x : Str) : gIsi "str" (.str x) η = .ok true η := isi_of rfl kit_ss
@[simp] theorem is_nn : gIsN .non .non η = .ok true η := rfl
@[simp] theorem is_in (i : Int) : gIsN (.int i) .non η = .ok false η := rfl
@[simp] theorem is_bn (b : Bool) : gIsN (.bl b) .non η = .ok false η := rfl
@[simp] theorem is_sn (x : Str) : gIsN (.str x) .non η = .ok false η := rfl
@[simp] theorem is_tn (xs : List D) : gIsN (.tup xs) .non η = .ok false η := rfl
@[simp] theorem isn_bb (b c : Bool) : gIsNot (.bl b) (.bl c) η = .ok (!decide (b = c)) η := rfl
@[simp] theorem is_bb (b c : Bool) : gIsN (.bl b) (.bl c) η = .ok (decide (b = c)) η := rfl
@[simp] theorem eq_bb (b c : Bool) : gEq (.bl b) (.bl c) η = .ok (b == c) η := rfl
theorem eq_ss {x y : Str} (hx : SeqAt.shaped (.str x) = true) (hy : SeqAt.shaped (.str y) = true) : gEq (.str x) (.str y) η = .ok (x == y) η := by
  unfold gEq dEq toP toP0
  simp only [hx, hy, and_self, if_true]
  rfl
end
def bSame (i : Nat) (c : Nat → FM) : SM :=
  (sSeq (sIf (tTru (eB (eIsi "tuple" (eVar 1)))) (sSeq (sIf (tOrB (tNotB (tTru (eB (eIsi "tuple" (eVar 0))))) (t2 gNe (eCB gLen (aCons (eVar 0) aNil)) (eCB gLen (aCons (eVar 1) aNil)))) (sRet (eC (.bl false))) sNext)
    (sSeq (sFor (iA gRng1 (aCons (eCB gLen (aCons (eVar 1) aNil)) aNil)) (gtName 2) (sIf (tNotB (tTru (eCB (c i) (aCons (e2 gIx (eVar 0) (eVar 2)) (aCons (e2 gIx (eVar 1) (eVar 2)) aNil))))) (sRet (eC (.bl false))) sNext) FU)
    (sRet (eC (.bl true))))) sNext)
    (sSeq (sIf (t2 gIsN (eVar 1) (eC .non)) (sRet (eB (t2 gIsN (eVar 0) (eC .non)))) sNext)
    (sSeq (sIf (tTru (eB (eIsi "bool" (eVar 1)))) (sRet (eAndV (eB (eIsi "bool" (eVar 0))) (eB (t2 gEq (eVar 0) (eVar 1))))) sNext)
    (sSeq (sIf (tTru (eB (eIsi "int" (eVar 1)))) (sRet (eAndV (eB (eIsi "int" (eVar 0))) (eAndV (eB (tNotB (tTru (eB (eIsi "bool" (eVar 0)))))) (eB (t2 gEq (eVar 0) (eVar 1)))))) sNext)
    (sRet (eAndV (eB (eIsi "str" (eVar 0))) (eB (t2 gEq (eVar 0) (eVar 1)))))))))
/-- data without objects, no deeper than n, its texts short -/
def plainN : Nat → D → Bool
  | _, .non => true
  | _, .bl _ => true
  | _, .int _ => true
  | _, .str x => SeqAt.shaped (.str x)
  | n + 1, .tup xs => decide (xs.length < 2 ^ 62) && xs.all (plainN n)
  | _, _ => false
theorem atI_nat {α : Type} {xs : List α} {k : Nat} (h : k < xs.length) : atI xs (k : Int) = some xs[k] := by
  unfold atI ixN
  rw [if_pos (by omega), if_pos (by omega)]
  show xs[(k : Int).toNat]? = _
  rw [show (k : Int).toNat = k by omega, List.getElem?_eq_getElem h]
/-- the comparison of equal data -/
theorem same_refl {f : Nat → Nat → FM} {i : Nat} (hf : ∀ n, f (n + 1) i = bodyM 2 3 (bSame i (f n))) : ∀ (n : Nat) (d : D) (m : Nat) (η : MH), plainN n d = true → n ≤ m → f (m + 1) i [d, d] η = .ok (.bl true) η := by
  have leaf : ∀ (d : D) (m : Nat) (η : MH), (∃ n, plainN n d = true) → (∀ xs, d ≠ .tup xs) → f (m + 1) i [d, d] η = .ok (.bl true) η := by
    intro d m η ⟨n, h⟩ hn
    rw [hf]
    cases d with
    | non => refine body_ret rfl (δ := [some .non, some .non, none]) ?_; simp [bSame]
    | bl b => refine body_ret rfl (δ := [some (.bl b), some (.bl b), none]) ?_; simp [bSame]
    | int z => refine body_ret rfl (δ := [some (.int z), some (.int z), none]) ?_; simp [bSame]
    | str x =>
      have hx : SeqAt.shaped (.str x) = true := by cases n <;> exact h
      refine body_ret rfl (δ := [some (.str x), some (.str x), none]) ?_
      simp [bSame, eq_ss hx hx]
    | tup xs => exact absurd rfl (hn xs)
    | obj o => cases n <;> cases h
  intro n
  induction n with
  | zero =>
    intro d m η h _
    refine leaf d m η ⟨0, h⟩ fun xs z => ?_
    subst z
    cases h
  | succ n ih =>
    intro d m η h hm
    cases hd : d with
    | tup xs =>
      subst hd
      obtain ⟨m, rfl⟩ : ∃ m', m = m' + 1 := ⟨m - 1, by omega⟩
      unfold plainN at h
      rw [Bool.and_eq_true] at h
      have hl := of_decide_eq_true h.1
      have ha := List.all_eq_true.mp h.2
      rw [hf]
      have loop := loopL_inv (g := gtName 2) (b := sIf (tNotB (tTru (eCB (f (m + 1) i) (aCons (e2 gIx (eVar 0) (eVar 2)) (aCons (e2 gIx (eVar 1) (eVar 2)) aNil))))) (sRet (eC (.bl false))) sNext) (fun _ δ η' => η' = η ∧ ∃ x, δ = [some (.tup xs), some (.tup xs), x]) (rngD 0 xs.length) 0 [some (.tup xs), some (.tup xs), none] η (by
        intro k d δ η' e h
        obtain ⟨hk, rfl⟩ := rng_get e
        obtain ⟨rfl, x, rfl⟩ := h
        refine ⟨[some (.tup xs), some (.tup xs), some (.int (k : Int))], η', ?_, rfl, _, rfl⟩
        have := ih xs[k] m η' (ha _ (List.getElem_mem hk)) (by omega)
        simp [atI_nat hk, this]) ⟨rfl, _, rfl⟩
      obtain ⟨δ', η', e1, rfl, x, rfl⟩ := loop
      refine body_ret rfl (δ := [some (.tup xs), some (.tup xs), x]) ?_
      have rg := r_rng1 (η := η') (j := (xs.length : Int)) ⟨by omega, by omega⟩
      rw [show ((xs.length : Int)).toNat = xs.length by omega] at rg
      simp only [List.map_cons, List.map_nil, List.replicate]
      have hit : iA gRng1 (aCons (eCB gLen (aCons (eVar 1) aNil)) aNil) [some (.tup xs), some (.tup xs), none] η' = .ok (.snap (rngD 0 xs.length)) η' := by simp [rg]
      simp [bSame, for_snap hit, e1]
    | _ => exact leaf _ _ _ ⟨n + 1, by rw [hd] at h; exact h⟩ (fun xs z => by cases z)
end EV
namespace T30
open PySem PySem.Spec PyProof.Rows L2 EV
abbrev prog : Program := PySem.Challenge.pw_toldcost_k30_quotients
def top (i : Nat) : Stmt := prog.main.body.getD i (.Pass ⟨0, 0, 0, 0⟩)
abbrev nm0 : List Str := ["value"]
abbrev nm1 : List Str := ["one", "two"]
abbrev nm2 : List Str := ["top", "bottom", "divisor"]
abbrev nm3 : List Str := ["value", "own"]
abbrev nm4 : List Str := ["one", "two"]
abbrev nm5 : List Str := ["one", "two"]
abbrev nm6 : List Str := ["one", "two"]
abbrev nm7 : List Str := ["one", "two"]
abbrev nm8 : List Str := ["own"]
abbrev nm9 : List Str := ["text", "top", "bar", "bottom", "own"]
abbrev nm10 : List Str := ["text", "figures", "sign"]
abbrev nm11 : List Str := ["script", "first", "last"]
abbrev nm12 : List Str := ["script", "first", "last", "digits", "k", "cell", "turn", "seed"]
abbrev nm13 : List Str := ["script", "k"]
abbrev nm14 : List Str := ["box", "many", "at"]
abbrev nm15 : List Str := ["actual", "expected", "k"]
abbrev nm16 : List Str := ["top", "bottom", "k", "turn"]
abbrev nm17 : List Str := ["script", "box", "turn", "one", "two", "sign", "many", "bottom", "text", "wrong", "bad"]
/-! mirrors -/
/-- is_whole(value): 0 value -/
def b0 (c : Nat → FM) : SM :=
  (sRet (eAndV (eB (eIsi "int" (eVar 0))) (eB (tNotB (tTru (eB (eIsi "bool" (eVar 0))))))))
def m0 (c : Nat → FM) : FM := bodyM 1 1 (b0 c)
/-- common_divisor(one, two): 0 one 1 two -/
def b1 (c : Nat → FM) : SM :=
  (sSeq (sPar 0 1 (aCons (eCB gAbs (aCons (eVar 0) aNil)) (aCons (eCB gAbs (aCons (eVar 1) aNil)) aNil)))
    (sSeq (sWhile (tTru (eVar 1)) (sPar 0 1 (aCons (eVar 1) (aCons (e2 gMod (eVar 0) (eVar 1)) aNil))) FU)
    (sRet (eVar 0))))
def m1 (c : Nat → FM) : FM := bodyM 2 2 (b1 c)
/-- quotient(top, bottom): 0 top 1 bottom 2 divisor -/
def b2 (c : Nat → FM) : SM :=
  (sSeq (sSet 2 (eCB (c 1) (aCons (eVar 0) (aCons (eVar 1) aNil))))
    (sRet (e_if (t2 gLt (eVar 1) (eC (.int 0))) (eTup (aCons (e2 gFdiv (e1 gNeg (eVar 0)) (eVar 2)) (aCons (e2 gFdiv (e1 gNeg (eVar 1)) (eVar 2)) aNil))) (eTup (aCons (e2 gFdiv (eVar 0) (eVar 2)) (aCons (e2 gFdiv (eVar 1) (eVar 2)) aNil))))))
def m2 (c : Nat → FM) : FM := bodyM 2 3 (b2 c)
/-- is_quotient(value): 0 value 1 own -/
def b3 (c : Nat → FM) : SM :=
  (sSeq (sIf (tOrB (tNotB (tTru (eB (eIsi "tuple" (eVar 0))))) (tOrB (t2 gNe (eCB gLen (aCons (eVar 0) aNil)) (eC (.int 2))) (tNotB (tTru (eB (tQ false (iE (eVar 0)) (gtName 1) tYesB (eCB (c 0) (aCons (eVar 1) aNil)) [1])))))) (sRet (eC (.bl false))) sNext)
    (sRet (eAndV (eB (t2 gGt (e2 gIx (eVar 0) (eC (.int 1))) (eC (.int 0)))) (eB (t2 gEq (eCB (c 2) (aCons (e2 gIx (eVar 0) (eC (.int 0))) (aCons (e2 gIx (eVar 0) (eC (.int 1))) aNil))) (eVar 0))))))
def m3 (c : Nat → FM) : FM := bodyM 1 2 (b3 c)
/-- plus(one, two): 0 one 1 two -/
def b4 (c : Nat → FM) : SM :=
  (sRet (eCB (c 2) (aCons (e2 gAdd (e2 gMul (e2 gIx (eVar 0) (eC (.int 0))) (e2 gIx (eVar 1) (eC (.int 1)))) (e2 gMul (e2 gIx (eVar 1) (eC (.int 0))) (e2 gIx (eVar 0) (eC (.int 1))))) (aCons (e2 gMul (e2 gIx (eVar 0) (eC (.int 1))) (e2 gIx (eVar 1) (eC (.int 1)))) aNil))))
def m4 (c : Nat → FM) : FM := bodyM 2 2 (b4 c)
/-- minus(one, two): 0 one 1 two -/
def b5 (c : Nat → FM) : SM :=
  (sRet (eCB (c 2) (aCons (e2 gSub (e2 gMul (e2 gIx (eVar 0) (eC (.int 0))) (e2 gIx (eVar 1) (eC (.int 1)))) (e2 gMul (e2 gIx (eVar 1) (eC (.int 0))) (e2 gIx (eVar 0) (eC (.int 1))))) (aCons (e2 gMul (e2 gIx (eVar 0) (eC (.int 1))) (e2 gIx (eVar 1) (eC (.int 1)))) aNil))))
def m5 (c : Nat → FM) : FM := bodyM 2 2 (b5 c)
/-- times(one, two): 0 one 1 two -/
def b6 (c : Nat → FM) : SM :=
  (sRet (eCB (c 2) (aCons (e2 gMul (e2 gIx (eVar 0) (eC (.int 0))) (e2 gIx (eVar 1) (eC (.int 0)))) (aCons (e2 gMul (e2 gIx (eVar 0) (eC (.int 1))) (e2 gIx (eVar 1) (eC (.int 1)))) aNil))))
def m6 (c : Nat → FM) : FM := bodyM 2 2 (b6 c)
/-- is_less(one, two): 0 one 1 two -/
def b7 (c : Nat → FM) : SM :=
  (sRet (eB (t2 gLt (e2 gMul (e2 gIx (eVar 0) (eC (.int 0))) (e2 gIx (eVar 1) (eC (.int 1)))) (e2 gMul (e2 gIx (eVar 1) (eC (.int 0))) (e2 gIx (eVar 0) (eC (.int 1)))))))
def m7 (c : Nat → FM) : FM := bodyM 2 2 (b7 c)
/-- write_quotient(own): 0 own -/
def b8 (c : Nat → FM) : SM :=
  (sRet (e_if (t2 gEq (e2 gIx (eVar 0) (eC (.int 1))) (eC (.int 1))) (eCB gStr (aCons (e2 gIx (eVar 0) (eC (.int 0))) aNil)) (e2 gAdd (e2 gAdd (eCB gStr (aCons (e2 gIx (eVar 0) (eC (.int 0))) aNil)) (eC (.str "/"))) (eCB gStr (aCons (e2 gIx (eVar 0) (eC (.int 1))) aNil)))))
def m8 (c : Nat → FM) : FM := bodyM 1 1 (b8 c)
/-- read_quotient(text): 0 text 1 top 2 bar 3 bottom 4 own -/
def b9 (c : Nat → FM) : SM :=
  (sSeq (sAsg (eMtS gPartition (eVar 0) (eC (.str "/"))) (gtTup 3 (gtCons (gtName 1) (gtCons (gtName 2) (gtCons (gtName 3) gtNil)))))
    (sSeq (sIf (tOrB (tNotB (tTru (eCB (c 10) (aCons (eVar 1) aNil)))) (tAndB (t2 gEq (eVar 2) (eC (.str "/"))) (tNotB (tTru (eCB (c 10) (aCons (eVar 3) aNil)))))) (sRet (eC .non)) sNext)
    (sSeq (sSet 4 (eTup (aCons (eCB gInt (aCons (eVar 1) aNil)) (aCons (e_if (t2 gEq (eVar 2) (eC (.str "/"))) (eCB gInt (aCons (eVar 3) aNil)) (eC (.int 1))) aNil))))
    (sRet (e_if (tAndB (tTru (eCB (c 3) (aCons (eVar 4) aNil))) (t2 gEq (eCB (c 8) (aCons (eVar 4) aNil)) (eVar 0))) (eVar 4) (eC .non))))))
def m9 (c : Nat → FM) : FM := bodyM 1 5 (b9 c)
/-- is_number_text(text): 0 text 1 figures 2 sign -/
def b10 (c : Nat → FM) : SM :=
  (sSeq (sSet 1 (e_if (t2 gEq (eSl (eVar 0) oNone (oSome (eC (.int 1)))) (eC (.str "-"))) (eSl (eVar 0) (oSome (eC (.int 1))) oNone) (eVar 0)))
    (sRet (eAndV (eB (tChn gLe gLe (eC (.int 1)) (eCB gLen (aCons (eVar 1) aNil)) (eC (.int 12)))) (eB (tQ false (iE (eVar 1)) (gtName 2) tYesB (eB (t2 (gIn false) (eVar 2) (eC (.str "0123456789")))) [2])))))
def m10 (c : Nat → FM) : FM := bodyM 1 3 (b10 c)
/-- _law_box(script, first, last): 0 script 1 first 2 last -/
def b11 (c : Nat → FM) : SM :=
  (sRet (eLst (aCons (eCB (c 12) (aCons (eVar 0) (aCons (eVar 1) (aCons (eVar 2) aNil)))) (aCons (eC (.int 0)) aNil))))
def m11 (c : Nat → FM) : FM := bodyM 3 3 (b11 c)
/-- _law_digits(script, first, last): 0 script 1 first 2 last 3 digits 4 k 5 cell 6 turn 7 seed -/
def b12 (c : Nat → FM) : SM :=
  (sSeq (sSet 3 (eLst aNil))
    (sSeq (sFor (iA gRng2 (aCons (eVar 1) (aCons (eVar 2) aNil))) (gtName 4) (sSeq (sSet 5 (eCB (c 13) (aCons (eVar 0) (aCons (eVar 4) aNil))))
    (sSeq (sIf (t2 gLt (eVar 5) (eC (.int 0))) (sSet 5 (e2 gSub (eC (.int 1)) (e2 gMul (eC (.int 2)) (eVar 5)))) sNext)
    (sIf (t2 gGe (eVar 5) (e2 gPow (eC (.int 10)) (eC (.int 18)))) (sFor (iA gRng1 (aCons (eC (.int 60)) aNil)) (gtName 6) (sIf (t2 gGt (eVar 5) (eC (.int 0))) (sSeq (sDrop (eMtL gAppend (eVar 3) (aCons (e2 gMod (eCB gInt (aCons (eVar 5) aNil)) (eC (.int 1000))) aNil)))
    (sSet 5 (e2 gFdiv (eVar 5) (eC (.int 1000))))) sNext) FU) (sSeq (sSet 7 (e2 gMod (eCB gInt (aCons (e2 gAdd (e2 gAdd (e2 gMul (eVar 5) (eC (.int 48271))) (e2 gMul (eVar 4) (eC (.int 69621)))) (eC (.int 11))) aNil)) (eC (.int 2147483647))))
    (sFor (iA gRng1 (aCons (eC (.int 12)) aNil)) (gtName 6) (sSeq (sSet 7 (e2 gMod (eCB gInt (aCons (e2 gAdd (e2 gAdd (e2 gMul (eVar 7) (eC (.int 16807))) (e2 gMul (eC (.int 7)) (eVar 6))) (eC (.int 1))) aNil)) (eC (.int 2147483647))))
    (sDrop (eMtL gAppend (eVar 3) (aCons (e2 gMod (eCB gInt (aCons (e2 gFdiv (eVar 7) (eC (.int 997))) aNil)) (eC (.int 1000))) aNil)))) FU))))) FU)
    (sRet (eVar 3))))
def m12 (c : Nat → FM) : FM := bodyM 3 8 (b12 c)
/-- _law_cell(script, k): 0 script 1 k -/
def b13 (c : Nat → FM) : SM :=
  (sSeq (sIf (t2 gLt (eVar 1) (eCB gLen (aCons (eVar 0) aNil))) (sRet (e2 gIx (eVar 0) (eVar 1))) sNext)
    (sRet (eC (.int 0))))
def m13 (c : Nat → FM) : FM := bodyM 2 2 (b13 c)
/-- _law_draw(box, many): 0 box 1 many 2 at -/
def b14 (c : Nat → FM) : SM :=
  (sSeq (sSet 2 (e2 gIx (eVar 0) (eC (.int 1))))
    (sSeq (sAsg (e2 gAdd (eVar 2) (eC (.int 1))) (gtSub (eVar 0) (eC (.int 1))))
    (sSeq (sIf (t2 gLt (eVar 2) (eCB gLen (aCons (e2 gIx (eVar 0) (eC (.int 0))) aNil))) (sRet (e2 gMod (eCB gInt (aCons (e2 gIx (e2 gIx (eVar 0) (eC (.int 0))) (eVar 2)) aNil)) (eVar 1))) sNext)
    (sRet (eC (.int 0))))))
def m14 (c : Nat → FM) : FM := bodyM 2 3 (b14 c)
/-- _law_same(actual, expected): 0 actual 1 expected 2 k -/
def b15 (c : Nat → FM) : SM :=
  (sSeq (sIf (tTru (eB (eIsi "tuple" (eVar 1)))) (sSeq (sIf (tOrB (tNotB (tTru (eB (eIsi "tuple" (eVar 0))))) (t2 gNe (eCB gLen (aCons (eVar 0) aNil)) (eCB gLen (aCons (eVar 1) aNil)))) (sRet (eC (.bl false))) sNext)
    (sSeq (sFor (iA gRng1 (aCons (eCB gLen (aCons (eVar 1) aNil)) aNil)) (gtName 2) (sIf (tNotB (tTru (eCB (c 15) (aCons (e2 gIx (eVar 0) (eVar 2)) (aCons (e2 gIx (eVar 1) (eVar 2)) aNil))))) (sRet (eC (.bl false))) sNext) FU)
    (sRet (eC (.bl true))))) sNext)
    (sSeq (sIf (t2 gIsN (eVar 1) (eC .non)) (sRet (eB (t2 gIsN (eVar 0) (eC .non)))) sNext)
    (sSeq (sIf (tTru (eB (eIsi "bool" (eVar 1)))) (sRet (eAndV (eB (eIsi "bool" (eVar 0))) (eB (t2 gEq (eVar 0) (eVar 1))))) sNext)
    (sSeq (sIf (tTru (eB (eIsi "int" (eVar 1)))) (sRet (eAndV (eB (eIsi "int" (eVar 0))) (eAndV (eB (tNotB (tTru (eB (eIsi "bool" (eVar 0)))))) (eB (t2 gEq (eVar 0) (eVar 1)))))) sNext)
    (sRet (eAndV (eB (eIsi "str" (eVar 0))) (eB (t2 gEq (eVar 0) (eVar 1)))))))))
def m15 (c : Nat → FM) : FM := bodyM 2 3 (b15 c)
/-- _law_short(top, bottom): 0 top 1 bottom 2 k 3 turn -/
def b16 (c : Nat → FM) : SM :=
  (sSeq (sFor (iE (eLst (aCons (eC (.int 2)) (aCons (eC (.int 3)) (aCons (eC (.int 5)) (aCons (eC (.int 7)) (aCons (eC (.int 11)) aNil))))))) (gtName 2) (sFor (iA gRng1 (aCons (eC (.int 8)) aNil)) (gtName 3) (sIf (tAndB (t2 gEq (e2 gMod (eCB gInt (aCons (eVar 0) aNil)) (eVar 2)) (eC (.int 0))) (t2 gEq (e2 gMod (eCB gInt (aCons (eVar 1) aNil)) (eVar 2)) (eC (.int 0)))) (sSeq (sSet 0 (e2 gFdiv (eVar 0) (eVar 2)))
    (sSeq (sSet 1 (e2 gFdiv (eVar 1) (eVar 2)))
    (sIf (t2 gEq (eVar 0) (eC (.int 0))) (sSet 1 (eC (.int 1))) sNext))) sNext) FU) FU)
    (sSeq (sIf (t2 gEq (eVar 0) (eC (.int 0))) (sSet 1 (eC (.int 1))) sNext)
    (sRet (eTup (aCons (eVar 0) (aCons (eVar 1) aNil))))))
def m16 (c : Nat → FM) : FM := bodyM 2 4 (b16 c)
/-- law(script): 0 script 1 box 2 turn 3 one 4 two 5 sign 6 many 7 bottom 8 text 9 wrong 10 bad -/
def b17 (c : Nat → FM) : SM :=
  (sSeq (sSet 1 (eCB (c 11) (aCons (eVar 0) (aCons (eC (.int 0)) (aCons (eC (.int 62)) aNil)))))
    (sSeq (sFor (iA gRng1 (aCons (eC (.int 3)) aNil)) (gtName 2) (sSeq (sSet 3 (eCB (c 16) (aCons (e2 gSub (eCB (c 14) (aCons (eVar 1) (aCons (eC (.int 81)) aNil))) (eC (.int 40))) (aCons (e2 gAdd (eC (.int 1)) (eCB (c 14) (aCons (eVar 1) (aCons (eC (.int 12)) aNil)))) aNil))))
    (sSeq (sSet 4 (eCB (c 16) (aCons (e2 gSub (eCB (c 14) (aCons (eVar 1) (aCons (eC (.int 81)) aNil))) (eC (.int 40))) (aCons (e2 gAdd (eC (.int 1)) (eCB (c 14) (aCons (eVar 1) (aCons (eC (.int 12)) aNil)))) aNil))))
    (sSeq (sSet 5 (e2 gIx (eLst (aCons (eC (.int 1)) (aCons (e2 gSub (eC (.int 0)) (eC (.int 1))) aNil))) (eCB (c 14) (aCons (eVar 1) (aCons (eC (.int 2)) aNil)))))
    (sSeq (sSet 6 (e2 gAdd (eC (.int 1)) (eCB (c 14) (aCons (eVar 1) (aCons (eC (.int 6)) aNil)))))
    (sSeq (sIf (tOrB (tNotB (tTru (eCB (c 15) (aCons (eCB (c 2) (aCons (e2 gMul (e2 gMul (eVar 5) (eVar 6)) (e2 gIx (eVar 3) (eC (.int 0)))) (aCons (e2 gMul (e2 gMul (eVar 5) (eVar 6)) (e2 gIx (eVar 3) (eC (.int 1)))) aNil))) (aCons (eVar 3) aNil))))) (t2 gIsNot (eCB (c 3) (aCons (eVar 3) aNil)) (eC (.bl true)))) (sRet (eC (.bl false))) sNext)
    (sSeq (sSet 7 (e2 gMul (e2 gIx (eVar 3) (eC (.int 1))) (e2 gIx (eVar 4) (eC (.int 1)))))
    (sSeq (sIf (tNotB (tTru (eCB (c 15) (aCons (eCB (c 4) (aCons (eVar 3) (aCons (eVar 4) aNil))) (aCons (eCB (c 16) (aCons (e2 gAdd (e2 gMul (e2 gIx (eVar 3) (eC (.int 0))) (e2 gIx (eVar 4) (eC (.int 1)))) (e2 gMul (e2 gIx (eVar 4) (eC (.int 0))) (e2 gIx (eVar 3) (eC (.int 1))))) (aCons (eVar 7) aNil))) aNil))))) (sRet (eC (.bl false))) sNext)
    (sSeq (sIf (tNotB (tTru (eCB (c 15) (aCons (eCB (c 5) (aCons (eVar 3) (aCons (eVar 4) aNil))) (aCons (eCB (c 16) (aCons (e2 gSub (e2 gMul (e2 gIx (eVar 3) (eC (.int 0))) (e2 gIx (eVar 4) (eC (.int 1)))) (e2 gMul (e2 gIx (eVar 4) (eC (.int 0))) (e2 gIx (eVar 3) (eC (.int 1))))) (aCons (eVar 7) aNil))) aNil))))) (sRet (eC (.bl false))) sNext)
    (sSeq (sIf (tOrB (tNotB (tTru (eCB (c 15) (aCons (eCB (c 6) (aCons (eVar 3) (aCons (eVar 4) aNil))) (aCons (eCB (c 16) (aCons (e2 gMul (e2 gIx (eVar 3) (eC (.int 0))) (e2 gIx (eVar 4) (eC (.int 0)))) (aCons (eVar 7) aNil))) aNil))))) (tNotB (tTru (eCB (c 15) (aCons (eCB (c 7) (aCons (eVar 3) (aCons (eVar 4) aNil))) (aCons (eB (t2 gLt (e2 gMul (e2 gIx (eVar 3) (eC (.int 0))) (e2 gIx (eVar 4) (eC (.int 1)))) (e2 gMul (e2 gIx (eVar 4) (eC (.int 0))) (e2 gIx (eVar 3) (eC (.int 1)))))) aNil)))))) (sRet (eC (.bl false))) sNext)
    (sSeq (sSet 8 (eCB gStr (aCons (e2 gIx (eVar 3) (eC (.int 0))) aNil)))
    (sSeq (sIf (t2 gNe (e2 gIx (eVar 3) (eC (.int 1))) (eC (.int 1))) (sSet 8 (e2 gAdd (e2 gAdd (eVar 8) (eC (.str "/"))) (eCB gStr (aCons (e2 gIx (eVar 3) (eC (.int 1))) aNil)))) sNext)
    (sIf (tOrB (tNotB (tTru (eCB (c 15) (aCons (eCB (c 8) (aCons (eVar 3) aNil)) (aCons (eVar 8) aNil))))) (tNotB (tTru (eCB (c 15) (aCons (eCB (c 9) (aCons (eVar 8) aNil)) (aCons (eVar 3) aNil)))))) (sRet (eC (.bl false))) sNext)))))))))))) FU)
    (sSeq (sSet 9 (eLst (aCons (eC .non) (aCons (eTup (aCons (eC (.int 1)) aNil)) (aCons (eTup (aCons (eC (.int 2)) (aCons (eC (.int 4)) aNil))) (aCons (eTup (aCons (eC (.int 1)) (aCons (eC (.int 0)) aNil))) (aCons (eTup (aCons (eC (.int 1)) (aCons (e2 gSub (eC (.int 0)) (eC (.int 1))) aNil))) (aCons (eTup (aCons (eC (.int 0)) (aCons (eC (.int 2)) aNil))) (aCons (eTup (aCons (eC (.bl true)) (aCons (eC (.int 1)) aNil))) (aCons (eLst (aCons (eC (.int 1)) (aCons (eC (.int 1)) aNil))) (aCons (eTup (aCons (eC (.int 1)) (aCons (eC (.int 2)) (aCons (eC (.int 3)) aNil)))) (aCons (eC (.str "1/2")) aNil))))))))))))
    (sSeq (sIf (t2 gIsNot (eCB (c 3) (aCons (e2 gIx (eVar 9) (eCB (c 14) (aCons (eVar 1) (aCons (eC (.int 10)) aNil)))) aNil)) (eC (.bl false))) (sRet (eC (.bl false))) sNext)
    (sSeq (sSet 10 (eLst (aCons (eC (.str "")) (aCons (eC (.str "1/")) (aCons (eC (.str "/2")) (aCons (eC (.str "2/4")) (aCons (eC (.str "1/0")) (aCons (eC (.str "1/1")) (aCons (eC (.str "-")) (aCons (eC (.str "01")) (aCons (eC (.str "1 /2")) (aCons (eC (.str "x")) (aCons (eC (.str "1/-2")) (aCons (eC (.str "1234567890123")) (aCons (eC (.str "--1")) (aCons (eC (.str "+1")) aNil))))))))))))))))
    (sRet (eB (t2 gIsN (eCB (c 9) (aCons (e2 gIx (eVar 10) (eCB (c 14) (aCons (eVar 1) (aCons (eC (.int 14)) aNil)))) aNil)) (eC .non)))))))))
def m17 (c : Nat → FM) : FM := bodyM 1 11 (b17 c)
def tbl (c : Nat → FM) : List FM := [m0 c, m1 c, m2 c, m3 c, m4 c, m5 c, m6 c, m7 c, m8 c, m9 c, m10 c, m11 c, m12 c, m13 c, m14 c, m15 c, m16 c, m17 c]
def sem : Nat → Nat → FM
  | 0 => fun _ _ _ => .bad
  | n + 1 => fun i => (tbl (sem n)).getD i fun _ _ => .bad
end T30
/-! P30a: quotients in plain numbers. -/
namespace Q30
/-- t/b is x/y in shortest form -/
structure IsQ (x y t b : Int) : Prop where
  pos : 0 < b
  cop : Int.gcd t b = 1
  eq : t * y = x * b
theorem IsQ.uniq {x y t b t' b' : Int} (hy : y ≠ 0) (h : IsQ x y t b) (h' : IsQ x y t' b') : t = t' ∧ b = b' := by
  have e : t * b' = t' * b := by
    have : (t * b') * y = (t' * b) * y := by
      calc (t * b') * y = (t * y) * b' := by rw [Int.mul_right_comm]
        _ = (x * b) * b' := by rw [h.eq]
        _ = (x * b') * b := by rw [Int.mul_right_comm]
        _ = (t' * y) * b := by rw [h'.eq]
        _ = (t' * b) * y := by rw [Int.mul_right_comm]
    exact Int.eq_of_mul_eq_mul_right hy this
  have d1 : b.natAbs ∣ b'.natAbs := by
    have c : Nat.Coprime b.natAbs t.natAbs := by rw [Nat.coprime_comm]; exact h.cop
    refine c.dvd_of_dvd_mul_left ?_
    rw [← Int.natAbs_mul, e, Int.natAbs_mul]
    exact Nat.dvd_mul_left _ _
  have d2 : b'.natAbs ∣ b.natAbs := by
    have c : Nat.Coprime b'.natAbs t'.natAbs := by rw [Nat.coprime_comm]; exact h'.cop
    refine c.dvd_of_dvd_mul_left ?_
    rw [← Int.natAbs_mul, ← e, Int.natAbs_mul]
    exact Nat.dvd_mul_left _ _
  have eb : b = b' := by
    have := Nat.dvd_antisymm d1 d2
    have h1 := h.pos
    have h2 := h'.pos
    omega
  subst eb
  exact ⟨Int.eq_of_mul_eq_mul_right (by have := h.pos; omega) e, rfl⟩
/-- by the common divisor -/
theorem isQ_div {x y : Int} (hy : 0 < y) : IsQ x y (x.fdiv (Int.gcd x y)) (y.fdiv (Int.gcd x y)) := by
  have g0 : 0 < Int.gcd x y := Int.gcd_pos_of_ne_zero_right _ (by omega)
  obtain ⟨t, ht⟩ : (Int.gcd x y : Int) ∣ x := Int.gcd_dvd_left ..
  obtain ⟨b, hb⟩ : (Int.gcd x y : Int) ∣ y := Int.gcd_dvd_right ..
  generalize hg : Int.gcd x y = g at *
  have gz : (g : Int) ≠ 0 := by omega
  have e1 : x.fdiv g = t := by
    rw [Int.fdiv_eq_ediv_of_nonneg _ (by omega), ht, Int.mul_ediv_cancel_left _ gz]
  have e2 : y.fdiv g = b := by
    rw [Int.fdiv_eq_ediv_of_nonneg _ (by omega), hb, Int.mul_ediv_cancel_left _ gz]
  rw [e1, e2]
  refine ⟨?_, ?_, ?_⟩
  · have : 0 < (g : Int) * b := by rw [← hb]; exact hy
    exact Int.pos_of_mul_pos_right this (by omega) |> fun h => h
  · have : g * Int.gcd t b = g * 1 := by
      have h1 : Int.gcd ((g : Int) * t) (g * b) = g * Int.gcd t b := by rw [Int.gcd_mul_left]; simp
      rw [← ht, ← hb, hg] at h1
      omega
    exact Nat.eq_of_mul_eq_mul_left g0 this
  · calc t * y = t * (g * b) := by rw [← hb]
      _ = (g * t) * b := by rw [Int.mul_left_comm, Int.mul_assoc]
      _ = x * b := by rw [← ht]
theorem isQ_scale {t b s : Int} (hb : 0 < b) (hc : Int.gcd t b = 1) : IsQ (s * t) (s * b) t b := ⟨hb, hc, by rw [Int.mul_left_comm, ← Int.mul_assoc]⟩
theorem IsQ.neg {x y t b : Int} (h : IsQ (-x) (-y) t b) : IsQ x y t b := ⟨h.pos, h.cop, by have := h.eq; rw [Int.mul_neg, Int.neg_mul] at this; omega⟩
/-! ### the law's way -/
def sh1 (k : Int) (p : Int × Int) : Int × Int := if p.1.fmod k = 0 ∧ p.2.fmod k = 0 then (p.1.fdiv k, if p.1.fdiv k = 0 then 1 else p.2.fdiv k) else p
def itr {α : Type} (f : α → α) : Nat → α → α
  | 0, a => a
  | n + 1, a => f (itr f n a)
def sh8 (k : Int) (p : Int × Int) : Int × Int := itr (sh1 k) 8 p
def ks : List Int := [2, 3, 5, 7, 11]
def shA : List Int → Int × Int → Int × Int
  | [], p => p
  | k :: r, p => shA r (sh8 k p)
def short (t b : Int) : Int × Int := let p := shA ks (t, b); (p.1, if p.1 = 0 then 1 else p.2)
theorem fmod_dvd {a k : Int} (hk : 0 < k) : a.fmod k = 0 ↔ k ∣ a := by
  rw [Int.fmod_eq_emod_of_nonneg _ (by omega)]
  exact (Int.dvd_iff_emod_eq_zero ..).symm
theorem sh1_zero {k b : Int} (hk : 0 < k) : (sh1 k (0, b)).1 = 0 := by
  unfold sh1
  split
  · simp
  · rfl
theorem itr_inv {α : Type} {f : α → α} {P : α → Prop} (h : ∀ a, P a → P (f a)) : ∀ (n : Nat) (a : α), P a → P (itr f n a)
  | 0, a, q => q
  | n + 1, a, q => h _ (itr_inv h n a q)
theorem shA_zero : ∀ (l : List Int) (b : Int), (∀ k ∈ l, 0 < k) → (shA l (0, b)).1 = 0
  | [], b, _ => rfl
  | k :: r, b, h => by
    have e : (sh8 k (0, b)).1 = 0 := itr_inv (f := sh1 k) (P := fun p => p.1 = 0) (fun p e => by
      obtain ⟨p1, p2⟩ := p
      have e : p1 = 0 := e
      subst e
      exact sh1_zero (h k List.mem_cons_self)) 8 (0, b) rfl
    show (shA r (sh8 k (0, b))).1 = 0
    generalize sh8 k (0, b) = q at e
    obtain ⟨q1, q2⟩ := q
    have e : q1 = 0 := e
    subst e
    exact shA_zero r q2 fun k hk => h k (List.mem_cons_of_mem _ hk)
/-- what the turns for k do to t/b -/
theorem sh_itr {k : Int} (hk : 1 < k) {t b : Int} (ht : t ≠ 0) (hb : 0 < b) : ∀ j : Nat, ∃ (m : Nat) (t' b' : Int), itr (sh1 k) j (t, b) = (t', b') ∧ m ≤ j ∧ t = k ^ m * t' ∧ b = k ^ m * b' ∧ (m = j ∨ ¬ (k ∣ t' ∧ k ∣ b'))
  | 0 => ⟨0, t, b, rfl, Nat.le_refl _, by simp, by simp, .inl rfl⟩
  | j + 1 => by
    obtain ⟨m, t', b', e, hm, h1, h2, h3⟩ := sh_itr hk ht hb j
    have t0 : t' ≠ 0 := fun z => ht (by rw [h1, z, Int.mul_zero])
    show ∃ _ _ _, sh1 k (itr (sh1 k) j (t, b)) = _ ∧ _
    rw [e]
    by_cases hd : k ∣ t' ∧ k ∣ b'
    · have hmj : m = j := h3.resolve_right fun z => z hd
      obtain ⟨⟨u, hu⟩, ⟨v, hv⟩⟩ := hd
      have e1 : t'.fdiv k = u := by rw [Int.fdiv_eq_ediv_of_nonneg _ (by omega), hu, Int.mul_ediv_cancel_left _ (by omega)]
      have e2 : b'.fdiv k = v := by rw [Int.fdiv_eq_ediv_of_nonneg _ (by omega), hv, Int.mul_ediv_cancel_left _ (by omega)]
      have u0 : u ≠ 0 := fun z => t0 (by rw [hu, z, Int.mul_zero])
      refine ⟨m + 1, u, v, ?_, by omega, ?_, ?_, .inl (by omega)⟩
      · unfold sh1
        rw [if_pos ⟨(fmod_dvd (by omega)).mpr ⟨u, hu⟩, (fmod_dvd (by omega)).mpr ⟨v, hv⟩⟩]
        show (t'.fdiv k, if t'.fdiv k = 0 then 1 else b'.fdiv k) = (u, v)
        rw [e1, e2, if_neg u0]
      · rw [h1, hu, Int.pow_succ, Int.mul_assoc]
      · rw [h2, hv, Int.pow_succ, Int.mul_assoc]
    · refine ⟨m, t', b', ?_, by omega, h1, h2, .inr hd⟩
      unfold sh1
      rw [if_neg fun z => hd ⟨(fmod_dvd (by omega)).mp z.1, (fmod_dvd (by omega)).mp z.2⟩]
theorem sh_8 {k : Int} (hk : 1 < k) {t b : Int} (ht : t ≠ 0) (hb : 0 < b) (hb2 : b < 256) : ∃ (d t' b' : Int), sh8 k (t, b) = (t', b') ∧ 0 < d ∧ t = d * t' ∧ b = d * b' ∧ ¬ (k ∣ t' ∧ k ∣ b') := by
  obtain ⟨m, t', b', e, hm, h1, h2, h3⟩ := sh_itr hk ht hb 8
  have kp : ∀ m : Nat, 0 < k ^ m := fun m => Int.pow_pos (by omega)
  refine ⟨k ^ m, t', b', e, kp m, h1, h2, h3.resolve_left fun z => ?_⟩
  subst z
  have b0 : 0 < b' := by
    have : 0 < k ^ 8 * b' := by rw [← h2]; exact hb
    exact Int.pos_of_mul_pos_right this (kp 8)
  have k2 : (2 : Int) ≤ k := by omega
  have k4 : (4 : Int) ≤ k * k := Int.mul_le_mul k2 k2 (by omega) (by omega)
  have k16 : (16 : Int) ≤ k * k * (k * k) := Int.mul_le_mul k4 k4 (by omega) (by omega)
  have k256 : (256 : Int) ≤ k * k * (k * k) * (k * k * (k * k)) := Int.mul_le_mul k16 k16 (by omega) (by omega)
  have e8 : k ^ 8 = k * k * (k * k) * (k * k * (k * k)) := by
    simp only [Int.pow_succ, Int.pow_zero, Int.one_mul, Int.mul_assoc]
  rw [e8] at h2
  have := Int.mul_le_mul k256 (show (1 : Int) ≤ b' by omega) (by omega) (by omega)
  omega
theorem sh_all : ∀ (l : List Int) (t b : Int), (∀ k ∈ l, 1 < k) → t ≠ 0 → 0 < b → b < 256 → ∃ (d t' b' : Int), shA l (t, b) = (t', b') ∧ 0 < d ∧ t = d * t' ∧ b = d * b' ∧ ∀ k ∈ l, ¬ (k ∣ t' ∧ k ∣ b')
  | [], t, b, _, _, _, _ => ⟨1, t, b, rfl, by omega, by omega, by omega, fun k h => by simp at h⟩
  | k :: r, t, b, hl, ht, hb, hb2 => by
    obtain ⟨d1, t1, b1, e1, p1, h1, h2, h3⟩ := sh_8 (hl k List.mem_cons_self) ht hb hb2
    have t0 : t1 ≠ 0 := fun z => ht (by rw [h1, z, Int.mul_zero])
    have b0 : 0 < b1 := by
      have : 0 < d1 * b1 := by rw [← h2]; exact hb
      exact Int.pos_of_mul_pos_right this (by omega)
    have b1le : b1 ≤ b := by
      have := Int.mul_le_mul (show (1 : Int) ≤ d1 by omega) (Int.le_refl b1) (by omega) (by omega)
      omega
    obtain ⟨d2, t2, b2, e2, p2, h4, h5, h6⟩ := sh_all r t1 b1 (fun k hk => hl k (List.mem_cons_of_mem _ hk)) t0 b0 (by omega)
    refine ⟨d1 * d2, t2, b2, ?_, Int.mul_pos p1 p2, by rw [h1, h4, Int.mul_assoc], by rw [h2, h5, Int.mul_assoc], fun q hq => ?_⟩
    · show shA r (sh8 k (t, b)) = _
      rw [e1, e2]
    · rcases List.mem_cons.mp hq with rfl | hq
      · rintro ⟨⟨u, hu⟩, ⟨v, hv⟩⟩
        exact h3 ⟨⟨d2 * u, by rw [h4, hu, Int.mul_left_comm]⟩, ⟨d2 * v, by rw [h5, hv, Int.mul_left_comm]⟩⟩
      · exact h6 q hq
theorem smooth : ∀ i ∈ List.range 13, ∀ j ∈ List.range 13, i * j ≠ 0 → ∀ d ∈ List.range 145, 1 < d → (i * j) % d = 0 → ∃ k ∈ [2, 3, 5, 7, 11], d % k = 0 := by decide +kernel
theorem short_isQ {t b : Int} {i j : Nat} (hi : i ≤ 12) (hj : j ≤ 12) (hb : b = ((i * j : Nat) : Int)) (hp : 0 < b) : IsQ t b (short t b).1 (short t b).2 := by
  have ij : i * j ≤ 144 := Nat.mul_le_mul hi hj
  by_cases ht : t = 0
  · subst ht
    have e : (short 0 b).1 = 0 := shA_zero ks b (by decide)
    have e2 : (short 0 b).2 = 1 := by
      show (if (short 0 b).1 = 0 then 1 else _) = _
      rw [if_pos e]
    rw [e, e2]
    exact ⟨by omega, by simp, by simp⟩
  · obtain ⟨d, t', b', e, pd, h1, h2, h3⟩ := sh_all ks t b (by decide) ht hp (by omega)
    have t0 : t' ≠ 0 := fun z => ht (by rw [h1, z, Int.mul_zero])
    have e1 : short t b = (t', b') := by
      unfold short
      rw [e]
      show (t', if t' = 0 then 1 else b') = _
      rw [if_neg t0]
    rw [e1]
    have b0 : 0 < b' := by
      have : 0 < d * b' := by rw [← h2]; exact hp
      exact Int.pos_of_mul_pos_right this (by omega)
    refine ⟨b0, ?_, by rw [h1, h2, Int.mul_left_comm, Int.mul_assoc]⟩
    have gp : 0 < Int.gcd t' b' := Int.gcd_pos_of_ne_zero_right _ (by omega)
    by_cases g1 : Int.gcd t' b' = 1
    · exact g1
    · exfalso
      have gd1 : (Int.gcd t' b' : Int) ∣ t' := Int.gcd_dvd_left ..
      have gd2 : (Int.gcd t' b' : Int) ∣ b' := Int.gcd_dvd_right ..
      generalize Int.gcd t' b' = g at *
      have gb : (g : Int) ∣ b := by rw [h2]; exact Int.dvd_trans gd2 (Int.dvd_mul_left ..)
      rw [hb] at gb
      have gn : g ∣ i * j := Int.ofNat_dvd.mp gb
      have ij0 : i * j ≠ 0 := by omega
      have gle : g ≤ i * j := Nat.le_of_dvd (by omega) gn
      obtain ⟨k, hk, hkd⟩ := smooth i (List.mem_range.mpr (by omega)) j (List.mem_range.mpr (by omega)) ij0 g (List.mem_range.mpr (by omega)) (by omega) (Nat.mod_eq_zero_of_dvd gn)
      have kg : (k : Int) ∣ g := Int.ofNat_dvd.mpr (Nat.dvd_of_mod_eq_zero hkd)
      refine h3 (k : Int) ?_ ⟨Int.dvd_trans kg gd1, Int.dvd_trans kg gd2⟩
      revert hk
      simp only [List.mem_cons, List.not_mem_nil, or_false]
      rintro (rfl | rfl | rfl | rfl | rfl) <;> decide
end Q30
/-! P30b: the defs of the quotients. -/
namespace T30
open PySem PySem.Spec PyProof.Rows L2 EV
theorem u_cell (n : Nat) : sem (n + 1) 13 = bodyM 2 2 bCell := rfl
theorem u_dig (n : Nat) : sem (n + 1) 12 = bodyM 3 8 (bDigits 13 (sem n)) := rfl
theorem u_box (n : Nat) : sem (n + 1) 11 = bodyM 3 3 (bBox 12 (sem n)) := rfl
theorem u_draw (n : Nat) : sem (n + 1) 14 = bodyM 2 3 bDraw := rfl
theorem u_same (n : Nat) : sem (n + 1) 15 = bodyM 2 3 (bSame 15 (sem n)) := rfl
section
variable {η : MH}
theorem gcd_loop : ∀ (n a b : Nat), b < n → sWhile (tTru (eVar 1)) (sPar 0 1 (aCons (eVar 1) (aCons (e2 gMod (eVar 0) (eVar 1)) aNil))) n [some (.int a), some (.int b)] η = .ok (.nx, [some (.int (Nat.gcd a b)), some (.int 0)]) η
  | 0, a, b, h => by omega
  | n + 1, a, b, h => by
    unfold sWhile
    by_cases hb : b = 0
    · subst hb
      simp
    · have hm : ((b : Int) != 0) = true := by rw [bne_iff_ne]; omega
      have hm0 : (b : Int) ≠ 0 := by omega
      have lt : a % b < b := Nat.mod_lt _ (by omega)
      have t : tTru (eVar 1) [some (.int a), some (.int b)] η = .ok true η := by simp [hm0, hb]
      have e : sPar 0 1 (aCons (eVar 1) (aCons (e2 gMod (eVar 0) (eVar 1)) aNil)) [some (.int a), some (.int b)] η = .ok (.nx, [some (.int b), some (.int ((a % b : Nat) : Int))]) η := by
        rw [r_par, r_varS, r_var0, bind_ok, r_e2, r_var0, bind_ok, r_varS, r_var0, bind_ok, r_modI η a b hm0, bind_ok, ← Int.ofNat_fmod]
        rfl
      rw [t, bind_ok, if_pos rfl, e, bind_ok]
      show sWhile _ _ n [some (.int b), some (.int ((a % b : Nat) : Int))] η = _
      rw [gcd_loop n b (a % b) (by omega), Nat.gcd_comm b, ← Nat.gcd_rec, Nat.gcd_comm]
theorem abs_eq (i : Int) : (if i < 0 then -i else i) = (i.natAbs : Int) := by split <;> omega
theorem gcd_ok {n : Nat} {a b : Int} (h : b.natAbs < FU) : sem (n + 1) 1 [.int a, .int b] η = .ok (.int (Int.gcd a b)) η := by
  rw [show sem (n + 1) 1 = bodyM 2 2 (T30.b1 (sem n)) from rfl]
  refine body_ret rfl (δ := [some (.int (Int.gcd a b)), some (.int 0)]) ?_
  have e := gcd_loop (η := η) FU a.natAbs b.natAbs h
  simp only [List.map_cons, List.map_nil, Nat.sub_self, List.replicate_zero, List.append_nil]
  unfold b1
  simp [abs_eq, e]
  rfl
def qd (t b : Int) : Int × Int := if b < 0 then ((-t).fdiv (Int.gcd t b), (-b).fdiv (Int.gcd t b)) else (t.fdiv (Int.gcd t b), b.fdiv (Int.gcd t b))
theorem qd_isQ {t b : Int} (hb : b ≠ 0) : Q30.IsQ t b (qd t b).1 (qd t b).2 := by
  unfold qd
  split
  · rename_i h
    have := Q30.isQ_div (x := -t) (y := -b) (by omega)
    rw [Int.gcd_neg, Int.neg_gcd] at this
    exact this.neg
  · exact Q30.isQ_div (by omega)
theorem quot_ok {n : Nat} {a b : Int} (hb : b ≠ 0) (h : b.natAbs < FU) : sem (n + 2) 2 [.int a, .int b] η = .ok (.tup [.int (qd a b).1, .int (qd a b).2]) η := by
  rw [show sem (n + 2) 2 = bodyM 2 3 (T30.b2 (sem (n + 1))) from rfl]
  refine body_ret rfl (δ := [some (.int a), some (.int b), some (.int (Int.gcd a b))]) ?_
  have e := gcd_ok (η := η) (n := n) (a := a) h
  have gp : 0 < Int.gcd a b := Int.gcd_pos_of_ne_zero_right _ hb
  have gle : Int.gcd a b ≤ b.natAbs := Nat.le_of_dvd (by omega) (Nat.gcd_dvd_right _ _)
  have gz : (Int.gcd a b : Int) ≠ 0 := by omega
  have cd : ∀ x : Int, CDivN x (Int.gcd a b) := fun x => ⟨gz, by unfold FU at h; omega⟩
  have l2 : ∀ (x y : D) (η : MH), gTup [x, y] η = .ok (.tup [x, y]) η := fun x y η => r_gtup η _ (show 2 ≤ sizeLine from by unfold sizeLine; omega)
  show b2 _ [some (.int a), some (.int b), none] η = _
  unfold b2
  by_cases hb0 : b < 0
  · simp [e, hb0, cd, l2, qd]
  · simp [e, hb0, cd, l2, qd]
theorem quot_is {n : Nat} {a b t u : Int} (hb : b ≠ 0) (h : b.natAbs < FU) (q : Q30.IsQ a b t u) : sem (n + 2) 2 [.int a, .int b] η = .ok (.tup [.int t, .int u]) η := by
  rw [quot_ok hb h]
  obtain ⟨e1, e2⟩ := (qd_isQ hb).uniq hb q
  rw [e1, e2]
theorem l2 (x y : D) (η : MH) : gTup [x, y] η = .ok (.tup [x, y]) η := r_gtup η _ (show 2 ≤ sizeLine from by unfold sizeLine; omega)
theorem at0 (x y : D) : atI [x, y] 0 = some x := rfl
theorem at1 (x y : D) : atI [x, y] 1 = some y := rfl
theorem ix0 (x y : D) (η : MH) : gIx (.tup [x, y]) (.int 0) η = .ok x η := r_ixT η _ _ _ (at0 x y)
theorem ix1 (x y : D) (η : MH) : gIx (.tup [x, y]) (.int 1) η = .ok y η := r_ixT η _ _ _ (at1 x y)
theorem fmod_bool (x k : Int) : (x.fmod k == 0) = decide (x.fmod k = 0) := by
  cases h : decide (x.fmod k = 0) with
  | true => exact beq_iff_eq.mpr (of_decide_eq_true h)
  | false => exact Bool.eq_false_iff.mpr fun z => of_decide_eq_false h (beq_iff_eq.mp z)
/-- a turn of the law's shortening -/
def bTurn : SM := (sIf (tAndB (t2 gEq (e2 gMod (eCB gInt (aCons (eVar 0) aNil)) (eVar 2)) (eC (.int 0))) (t2 gEq (e2 gMod (eCB gInt (aCons (eVar 1) aNil)) (eVar 2)) (eC (.int 0)))) (sSeq (sSet 0 (e2 gFdiv (eVar 0) (eVar 2)))
    (sSeq (sSet 1 (e2 gFdiv (eVar 1) (eVar 2)))
    (sIf (t2 gEq (eVar 0) (eC (.int 0))) (sSet 1 (eC (.int 1))) sNext))) sNext)
theorem turn_ok {k : Int} (hk : 0 < k) (hk2 : k < 100) (p : Int × Int) (x : Option D) : bTurn [some (.int p.1), some (.int p.2), some (.int k), x] η = .ok (.nx, [some (.int (Q30.sh1 k p).1), some (.int (Q30.sh1 k p).2), some (.int k), x]) η := by
  obtain ⟨t, b⟩ := p
  have k0 : k ≠ 0 := by omega
  have cd : ∀ x : Int, CDivN x k := fun x => ⟨k0, by omega⟩
  unfold bTurn
  by_cases h1 : t.fmod k = 0
  · by_cases h2 : b.fmod k = 0
    · by_cases h3 : t.fdiv k = 0
      · simp [k0, h1, h2, h3, cd, Q30.sh1]
      · simp [k0, h1, h2, h3, cd, Q30.sh1]
    · simp [k0, h1, h2, cd, Q30.sh1]
  · simp [k0, h1, cd, Q30.sh1]
theorem turns_ok {k : Int} (hk : 0 < k) (hk2 : k < 100) (p : Int × Int) (x : Option D) : ∃ x', loopL (gtName 3) bTurn (rngD 0 8) [some (.int p.1), some (.int p.2), some (.int k), x] η = .ok (.nx, [some (.int (Q30.sh8 k p).1), some (.int (Q30.sh8 k p).2), some (.int k), x']) η := by
  have hh := loopL_inv (g := gtName 3) (b := bTurn) (fun j δ η' => η' = η ∧ ∃ x, δ = [some (.int (Q30.itr (Q30.sh1 k) j p).1), some (.int (Q30.itr (Q30.sh1 k) j p).2), some (.int k), x]) (rngD 0 8) 0 [some (.int p.1), some (.int p.2), some (.int k), x] η (by
    intro i d δ η' e h
    obtain ⟨hi, rfl⟩ := rng_get e
    obtain ⟨rfl, x, rfl⟩ := h
    refine ⟨_, η', ?_, rfl, some (.int (0 + (i : Int))), rfl⟩
    rw [r_turn, r_gtn, bind_ok]
    exact turn_ok hk hk2 _ _) ⟨rfl, x, rfl⟩
  obtain ⟨δ', η', e1, rfl, x', rfl⟩ := hh
  rw [rng_len] at e1
  exact ⟨x', e1⟩
end
end T30
/-! P30c: the law's shortening; the quotients' defs. -/
namespace T30
open PySem PySem.Spec PyProof.Rows L2 EV
/-- a walk over a list that stays -/
theorem loopO_inv {g : GM} {b : SM} {o : Nat} {w : Nat → D → D} (I : Nat → En → MH → Prop) (ds : List D) (hI : ∀ i δ η, I i δ η → lstAt η o = some ds) (st : ∀ i d δ η, ds[i]? = some d → I i δ η → ∃ δ' η', turnOf g b (w i d) δ η = .ok (.nx, δ') η' ∧ I (i + 1) δ' η') :
    ∀ (m k : Nat) (δ : En) (η : MH), ds.length - k < m → k ≤ ds.length → I k δ η → ∃ δ' η', loopO g b o w m k δ η = .ok (.nx, δ') η' ∧ I ds.length δ' η'
  | 0, k, δ, η, h, _, _ => by omega
  | m + 1, k, δ, η, h, hk, hi => by
    unfold loopO
    rw [hI k δ η hi]
    by_cases hl : k < ds.length
    · obtain ⟨δ1, η1, e1, h1⟩ := st k _ δ η (List.getElem?_eq_getElem hl) hi
      obtain ⟨δ2, η2, e2, h2⟩ := loopO_inv I ds hI st m (k + 1) δ1 η1 (by omega) (by omega) h1
      refine ⟨δ2, η2, ?_, h2⟩
      simp only [List.getElem?_eq_getElem hl]
      rw [e1]
      exact e2
    · have e : k = ds.length := by omega
      refine ⟨δ, η, ?_, e ▸ hi⟩
      simp only [List.getElem?_eq_none_iff.mpr (show ds.length ≤ k by omega)]
section
variable {η : MH}
theorem ks_get {i : Nat} {d : D} (h : (Q30.ks.map D.int)[i]? = some d) : ∃ k, 0 < k ∧ k < 100 ∧ d = .int k ∧ Q30.ks[i]? = some k := by
  rw [List.getElem?_map] at h
  obtain ⟨k, e, rfl⟩ := Option.map_eq_some_iff.mp h
  have hm : k ∈ Q30.ks := List.mem_of_getElem? e
  have : ∀ k ∈ Q30.ks, 0 < k ∧ k < 100 := by decide
  exact ⟨k, (this k hm).1, (this k hm).2, rfl, e⟩
theorem shA_take {p : Int × Int} : ∀ (l : List Int) (i : Nat) (k : Int), l[i]? = some k → Q30.shA (l.take (i + 1)) p = Q30.sh8 k (Q30.shA (l.take i) p)
  | [], i, k, h => by simp at h
  | a :: l, 0, k, h => by
    cases h
    simp [Q30.shA]
  | a :: l, i + 1, k, h => by
    have := shA_take (p := Q30.sh8 a p) l i k h
    rw [List.take_succ_cons, List.take_succ_cons]
    exact this
theorem short_ok {n : Nat} {t b : Int} : sem (n + 1) 16 [.int t, .int b] η = .ok (.tup [.int (Q30.short t b).1, .int (Q30.short t b).2]) (η ++ [.lst (Q30.ks.map D.int)]) := by
  rw [show sem (n + 1) 16 = bodyM 2 4 (T30.b16 (sem n)) from rfl]
  have hh := loopO_inv (g := gtName 2) (b := sFor (iA gRng1 (aCons (eC (.int 8)) aNil)) (gtName 3) bTurn FU) (o := η.length) (w := fun _ d => d) (fun i δ η' => η' = η ++ [.lst (Q30.ks.map D.int)] ∧ ∃ x2 x3, δ = [some (.int (Q30.shA (Q30.ks.take i) (t, b)).1), some (.int (Q30.shA (Q30.ks.take i) (t, b)).2), x2, x3]) (Q30.ks.map D.int) (by
      rintro i δ η' ⟨rfl, _⟩
      exact lstAt_lst (by simp)) (by
      rintro i d δ η' e ⟨rfl, x2, x3, rfl⟩
      obtain ⟨k, k0, k1, rfl, ek⟩ := ks_get e
      obtain ⟨x', e1⟩ := turns_ok (η := η ++ [.lst (Q30.ks.map D.int)]) k0 k1 (Q30.shA (Q30.ks.take i) (t, b)) x3
      refine ⟨_, _, ?_, rfl, some (.int k), x', rfl⟩
      rw [r_turn, r_gtn, bind_ok]
      have hit : iA gRng1 (aCons (eC (.int 8)) aNil) [some (.int (Q30.shA (Q30.ks.take i) (t, b)).1), some (.int (Q30.shA (Q30.ks.take i) (t, b)).2), some (.int k), x3] (η ++ [.lst (Q30.ks.map D.int)]) = .ok (.snap (rngD 0 8)) (η ++ [.lst (Q30.ks.map D.int)]) := by
        have := r_rng1 (η := η ++ [.lst (Q30.ks.map D.int)]) (j := 8) (by decide)
        simp [this]
      simp only [List.set_cons_succ, List.set_cons_zero]
      rw [for_snap hit, e1, shA_take _ _ _ ek]) FU 0 [some (.int t), some (.int b), none, none] (η ++ [.lst (Q30.ks.map D.int)]) (by simp [Q30.ks, FU]) (Nat.zero_le _) ⟨rfl, none, none, rfl⟩
  obtain ⟨δ', η', e1, rfl, x2, x3, rfl⟩ := hh
  rw [List.length_map, List.take_length] at e1
  refine body_ret rfl (δ := [some (.int (Q30.short t b).1), some (.int (Q30.short t b).2), x2, x3]) ?_
  have e5 : gLst [.int 2, .int 3, .int 5, .int 7, .int 11] η = .ok (.obj η.length) (η ++ [.lst (Q30.ks.map D.int)]) := r_glst η _ (show 5 ≤ sizeLine from by unfold sizeLine; omega)
  have hit : iE (eLst (aCons (eC (.int 2)) (aCons (eC (.int 3)) (aCons (eC (.int 5)) (aCons (eC (.int 7)) (aCons (eC (.int 11)) aNil)))))) [some (.int t), some (.int b), none, none] η = .ok (.live η.length fun _ d => d) (η ++ [.lst (Q30.ks.map D.int)]) := by
    simp [e5, gSrc, lstAt_lst (η := η ++ [.lst (Q30.ks.map D.int)]) (i := η.length) (xs := Q30.ks.map D.int) (by simp)]
  show T30.b16 _ [some (.int t), some (.int b), none, none] η = _
  unfold T30.b16
  rw [r_seq, for_live hit]
  have e1' : loopO (gtName 2) (sFor (iA gRng1 (aCons (eC (.int 8)) aNil)) (gtName 3) (sIf (tAndB (t2 gEq (e2 gMod (eCB gInt (aCons (eVar 0) aNil)) (eVar 2)) (eC (.int 0))) (t2 gEq (e2 gMod (eCB gInt (aCons (eVar 1) aNil)) (eVar 2)) (eC (.int 0)))) (sSeq (sSet 0 (e2 gFdiv (eVar 0) (eVar 2)))
    (sSeq (sSet 1 (e2 gFdiv (eVar 1) (eVar 2)))
    (sIf (t2 gEq (eVar 0) (eC (.int 0))) (sSet 1 (eC (.int 1))) sNext))) sNext) FU) η.length (fun _ d => d) FU 0 [some (.int t), some (.int b), none, none] (η ++ [.lst (Q30.ks.map D.int)]) = _ := e1
  rw [e1', bind_ok, r_nx]
  by_cases h0 : (Q30.shA Q30.ks (t, b)).1 = 0
  · simp [h0, Q30.short, l2]
  · simp [h0, Q30.short, l2]
theorem whole_ok {n : Nat} (i : Int) : sem (n + 1) 0 [.int i] η = .ok (.bl true) η := by
  rw [show sem (n + 1) 0 = bodyM 1 1 (T30.b0 (sem n)) from rfl]
  refine body_ret rfl (δ := [some (.int i)]) ?_
  simp [T30.b0]
theorem shaped2 (a b : Int) : SeqAt.shaped (.tuple [.int a, .int b]) = true := by rfl
theorem eq2 (a b c d : Int) : gEq (.tup [.int a, .int b]) (.tup [.int c, .int d]) η = .ok (a == c && (b == d && true)) η := by
  unfold gEq dEq
  have e1 : toP η (.tup [.int a, .int b]) = some (.tuple [.int a, .int b]) := rfl
  have e2 : toP η (.tup [.int c, .int d]) = some (.tuple [.int c, .int d]) := rfl
  rw [e1, e2]
  simp only [shaped2, and_self, if_true]
  rfl
theorem isq_ok {n : Nat} {t b : Int} (hb : 0 < b) (hl : b.natAbs < FU) (hc : Int.gcd t b = 1) : sem (n + 3) 3 [.tup [.int t, .int b]] η = .ok (.bl true) η := by
  rw [show sem (n + 3) 3 = bodyM 1 2 (T30.b3 (sem (n + 2))) from rfl]
  refine body_ret rfl (δ := [some (.tup [.int t, .int b]), none]) ?_
  have q := quot_is (η := η) (n := n) (show b ≠ 0 by omega) hl (show Q30.IsQ t b t b from ⟨hb, hc, rfl⟩)
  have all : tQ false (iE (eVar 0)) (gtName 1) tYesB (eCB (sem (n + 2) 0) (aCons (eVar 1) aNil)) [1] [some (.tup [.int t, .int b]), none] η = .ok true η := by
    have w1 := whole_ok (η := η) (n := n + 1) t
    have w2 := whole_ok (η := η) (n := n + 1) b
    rw [r_tQ]
    have hs : iE (eVar 0) [some (.tup [.int t, .int b]), none] η = .ok (.snap [.int t, .int b]) η := rfl
    rw [hs, bind_ok]
    have i1 : itemG (gtName 1) tYesB (eCB (sem (n + 2) 0) (aCons (eVar 1) aNil)) (.int t) (wipeD [some (.tup [.int t, .int b]), none] [1]) η = .ok (some (.bl true)) η := by
      simp [itemG, nox, wipeD, tYesB, w1]
    have i2 : itemG (gtName 1) tYesB (eCB (sem (n + 2) 0) (aCons (eVar 1) aNil)) (.int b) (wipeD [some (.tup [.int t, .int b]), none] [1]) η = .ok (some (.bl true)) η := by
      simp [itemG, nox, wipeD, tYesB, w2]
    rw [show FU = 99997 + 3 from rfl]
    unfold qS
    simp only [Src.at, List.getElem?_cons_zero]
    rw [i1]
    simp only [bind_ok, Bool.true_eq_false, if_false]
    unfold qS
    simp only [Src.at, List.getElem?_cons_succ, List.getElem?_cons_zero, Nat.zero_add]
    rw [i2]
    simp only [bind_ok, Bool.true_eq_false, if_false]
    unfold qS
    simp [Src.at]
  show T30.b3 _ [some (.tup [.int t, .int b]), none] η = _
  unfold T30.b3
  simp [-r_tQ, all, ix0, ix1, hb, q, eq2]
theorem plus_ok {n : Nat} {t1 b1 t2 b2 t b : Int} (s1 : t1.natAbs < 100) (s2 : t2.natAbs < 100) (h1 : 0 < b1) (h2 : 0 < b2) (k1 : b1 < 100) (k2 : b2 < 100) (q : Q30.IsQ (t1 * b2 + t2 * b1) (b1 * b2) t b) : sem (n + 3) 4 [.tup [.int t1, .int b1], .tup [.int t2, .int b2]] η = .ok (.tup [.int t, .int b]) η := by
  rw [show sem (n + 3) 4 = bodyM 2 2 (T30.b4 (sem (n + 2))) from rfl]
  refine body_ret rfl (δ := [some (.tup [.int t1, .int b1]), some (.tup [.int t2, .int b2])]) ?_
  have p : 0 < b1 * b2 := Int.mul_pos h1 h2
  have p2 : b1 * b2 ≤ 100 * 100 := Int.mul_le_mul (by omega) (by omega) (by omega) (by omega)
  have e := quot_is (η := η) (n := n) (show b1 * b2 ≠ 0 by omega) (show (b1 * b2).natAbs < FU by unfold FU; omega) q
  have c : ∀ x y : Int, x.natAbs < 100 → CMul x y := fun x y h => cmul_l (by omega) (by omega)
  unfold T30.b4
  simp [ix0, ix1, c t1 b2 s1, c t2 b1 s2, c b1 b2 (by omega), e]
theorem minus_ok {n : Nat} {t1 b1 t2 b2 t b : Int} (s1 : t1.natAbs < 100) (s2 : t2.natAbs < 100) (h1 : 0 < b1) (h2 : 0 < b2) (k1 : b1 < 100) (k2 : b2 < 100) (q : Q30.IsQ (t1 * b2 - t2 * b1) (b1 * b2) t b) : sem (n + 3) 5 [.tup [.int t1, .int b1], .tup [.int t2, .int b2]] η = .ok (.tup [.int t, .int b]) η := by
  rw [show sem (n + 3) 5 = bodyM 2 2 (T30.b5 (sem (n + 2))) from rfl]
  refine body_ret rfl (δ := [some (.tup [.int t1, .int b1]), some (.tup [.int t2, .int b2])]) ?_
  have p : 0 < b1 * b2 := Int.mul_pos h1 h2
  have p2 : b1 * b2 ≤ 100 * 100 := Int.mul_le_mul (by omega) (by omega) (by omega) (by omega)
  have e := quot_is (η := η) (n := n) (show b1 * b2 ≠ 0 by omega) (show (b1 * b2).natAbs < FU by unfold FU; omega) q
  have c : ∀ x y : Int, x.natAbs < 100 → CMul x y := fun x y h => cmul_l (by omega) (by omega)
  unfold T30.b5
  simp [ix0, ix1, c t1 b2 s1, c t2 b1 s2, c b1 b2 (by omega), e]
theorem times_ok {n : Nat} {t1 b1 t2 b2 t b : Int} (s1 : t1.natAbs < 100) (s2 : t2.natAbs < 100) (h1 : 0 < b1) (h2 : 0 < b2) (k1 : b1 < 100) (k2 : b2 < 100) (q : Q30.IsQ (t1 * t2) (b1 * b2) t b) : sem (n + 3) 6 [.tup [.int t1, .int b1], .tup [.int t2, .int b2]] η = .ok (.tup [.int t, .int b]) η := by
  rw [show sem (n + 3) 6 = bodyM 2 2 (T30.b6 (sem (n + 2))) from rfl]
  refine body_ret rfl (δ := [some (.tup [.int t1, .int b1]), some (.tup [.int t2, .int b2])]) ?_
  have p : 0 < b1 * b2 := Int.mul_pos h1 h2
  have p2 : b1 * b2 ≤ 100 * 100 := Int.mul_le_mul (by omega) (by omega) (by omega) (by omega)
  have e := quot_is (η := η) (n := n) (show b1 * b2 ≠ 0 by omega) (show (b1 * b2).natAbs < FU by unfold FU; omega) q
  have c : ∀ x y : Int, x.natAbs < 100 → CMul x y := fun x y h => cmul_l (by omega) (by omega)
  unfold T30.b6
  simp [ix0, ix1, c t1 t2 s1, c b1 b2 (by omega), e]
theorem less_ok {n : Nat} {t1 b1 t2 b2 : Int} (s1 : t1.natAbs < 100) (s2 : t2.natAbs < 100) : sem (n + 1) 7 [.tup [.int t1, .int b1], .tup [.int t2, .int b2]] η = .ok (.bl (decide (t1 * b2 < t2 * b1))) η := by
  rw [show sem (n + 1) 7 = bodyM 2 2 (T30.b7 (sem n)) from rfl]
  refine body_ret rfl (δ := [some (.tup [.int t1, .int b1]), some (.tup [.int t2, .int b2])]) ?_
  have c : ∀ x y : Int, x.natAbs < 100 → CMul x y := fun x y h => cmul_l (by omega) (by omega)
  unfold T30.b7
  simp [ix0, ix1, c t1 b2 s1, c t2 b1 s2]
end
end T30
/-! P30d: texts of quotients, by all of them. -/
namespace T30
open PySem PySem.Spec PyProof.Rows L2 EV
def txt (t b : Int) : Str := if b = 1 then Str.ofString (toString t) else Str.ofString (toString t) ++ Str.ofString "/" ++ Str.ofString (toString b)
def tb (p : Int × Int) : D := .tup [.int p.1, .int p.2]
def grid (bs : List Nat) : List (Int × Int) := (List.range 81).flatMap fun (i : Nat) => bs.filterMap fun (j : Nat) => if Int.gcd ((i : Int) - 40) ((j : Int) + 1) = 1 then some ((i : Int) - 40, (j : Int) + 1) else none
theorem in_grid {t b : Int} (h1 : -40 ≤ t) (h2 : t ≤ 40) (h3 : 0 < b) (h4 : b ≤ 12) (hc : Int.gcd t b = 1) : (t, b) ∈ grid (List.range 12) := by
  unfold grid
  refine List.mem_flatMap.mpr ⟨(t + 40).toNat, List.mem_range.mpr (by omega), List.mem_filterMap.mpr ⟨(b - 1).toNat, List.mem_range.mpr (by omega), ?_⟩⟩
  have e1 : (((t + 40).toNat : Nat) : Int) - 40 = t := by omega
  have e2 : (((b - 1).toNat : Nat) : Int) + 1 = b := by omega
  rw [e1, e2, if_pos hc]
theorem wr_all (η : MH) : ((grid (List.range 12)).map fun p => sem 19 8 [tb p] η) = (grid (List.range 12)).map fun p => Out.ok (.str (txt p.1 p.2)) η := by kernel_rfl
theorem rd_all (η : MH) : ((grid (List.range 12)).map fun p => sem 19 9 [.str (txt p.1 p.2)] η) = (grid (List.range 12)).map fun p => Out.ok (tb p) η := by kernel_rfl
theorem tx_all : ∀ p ∈ grid (List.range 12), SeqAt.shaped (.str (txt p.1 p.2)) = true ∧ p.1.natAbs.log2 < 1920 ∧ p.2.natAbs.log2 < 1920 ∧ (Str.ofString (toString p.1)).length + (Str.ofString "/").length ≤ sizeLine ∧ (Str.ofString (toString p.1) ++ Str.ofString "/").length + (Str.ofString (toString p.2)).length ≤ sizeLine := by decide +kernel
section
variable {η : MH} {t b : Int} (h : (t, b) ∈ grid (List.range 12))
include h
theorem wr_ok : sem 19 8 [.tup [.int t, .int b]] η = .ok (.str (txt t b)) η := List.map_inj_left.mp (wr_all η) _ h
theorem rd_ok : sem 19 9 [.str (txt t b)] η = .ok (.tup [.int t, .int b]) η := List.map_inj_left.mp (rd_all η) _ h
theorem st_t : gStr [.int t] η = .ok (.str (Str.ofString (toString t))) η := if_pos (tx_all _ h).2.1
theorem st_b : gStr [.int b] η = .ok (.str (Str.ofString (toString b))) η := if_pos (tx_all _ h).2.2.1
theorem ad_1 : gAdd (.str (Str.ofString (toString t))) (.str (Str.ofString "/")) η = .ok (.str (Str.ofString (toString t) ++ Str.ofString "/")) η := if_pos (tx_all _ h).2.2.2.1
theorem ad_2 : gAdd (.str (Str.ofString (toString t) ++ Str.ofString "/")) (.str (Str.ofString (toString b))) η = .ok (.str (Str.ofString (toString t) ++ Str.ofString "/" ++ Str.ofString (toString b))) η := if_pos (tx_all _ h).2.2.2.2
theorem sh_tx : SeqAt.shaped (.str (txt t b)) = true := (tx_all _ h).1
end
/-! what is no quotient, no text of one -/
def wrongs (o : Nat) : List D := [.non, .tup [.int 1], .tup [.int 2, .int 4], .tup [.int 1, .int 0], .tup [.int 1, .int (0 - 1)], .tup [.int 0, .int 2], .tup [.bl true, .int 1], .obj o, .tup [.int 1, .int 2, .int 3], .str "1/2"]
def bads : List D := [.str "", .str "1/", .str "/2", .str "2/4", .str "1/0", .str "1/1", .str "-", .str "01", .str "1 /2", .str "x", .str "1/-2", .str "1234567890123", .str "--1", .str "+1"]
theorem bad_all (η : MH) : (bads.map fun d => sem 19 9 [d] η) = bads.map fun d => Out.ok .non η := by kernel_rfl
theorem wrong_all (η : MH) : ([.non, .tup [.int 1], .tup [.int 2, .int 4], .tup [.int 1, .int 0], .tup [.int 1, .int (0 - 1)], .tup [.int 0, .int 2], .tup [.bl true, .int 1], .tup [.int 1, .int 2, .int 3], .str "1/2"].map fun d => sem 19 3 [d] η) = [.non, .tup [.int 1], .tup [.int 2, .int 4], .tup [.int 1, .int 0], .tup [.int 1, .int (0 - 1)], .tup [.int 0, .int 2], .tup [.bl true, .int 1], .tup [.int 1, .int 2, .int 3], .str "1/2"].map fun (d : D) => Out.ok (.bl false) η := by kernel_rfl
theorem wrong_obj {η : MH} {o : Nat} {xs : List D} (h : η[o]? = some (.lst xs)) : sem 19 3 [.obj o] η = .ok (.bl false) η := by
  rw [show sem 19 3 = bodyM 1 2 (T30.b3 (sem 18)) from rfl]
  refine body_ret rfl (δ := [some (.obj o), none]) ?_
  have e : gIsi "tuple" (.obj o) η = .ok false η := isi_of (t := "list") (by unfold dTy; simp only [h]) kit_lt
  show T30.b3 _ [some (.obj o), none] η = _
  unfold T30.b3
  simp [e]
theorem wrong_ok {η : MH} {o : Nat} {xs : List D} (h : η[o]? = some (.lst xs)) {d : D} (hd : d ∈ wrongs o) : sem 19 3 [d] η = .ok (.bl false) η := by
  by_cases e : d = .obj o
  · subst e
    exact wrong_obj h
  · refine List.map_inj_left.mp (wrong_all η) d ?_
    unfold wrongs at hd
    simp only [List.mem_cons, List.not_mem_nil, or_false] at hd ⊢
    rcases hd with h | h | h | h | h | h | h | h | h | h <;> simp_all
theorem seq_ok {u v : SM} {δ δ1 : En} {η η1 : MH} (h : u δ η = .ok (.nx, δ1) η1) : sSeq u v δ η = v δ1 η1 := by rw [r_seq, h]; rfl
end T30
/-! P30e: the law of the quotients. -/
namespace T30
open PySem PySem.Spec PyProof.Rows L2 EV
theorem draw30 {η : MH} {ds : List Int} {a : Nat} {m : Int} (h : Box η 2 1 ds a) (hm : 0 < m) : ∃ r : Int, 0 ≤ r ∧ r < m ∧ sem 19 14 [.obj 2, .int m] η = .ok (.int r) (boxed η 2 1 a) := draw_ok h hm
theorem same19 {η : MH} {d : D} (h : plainN 3 d = true) : sem 19 15 [d, d] η = .ok (.bl true) η := same_refl (f := sem) (i := 15) (fun n => rfl) 3 d 18 η h (by decide)
theorem plain2 (t b : Int) : plainN 3 (.tup [.int t, .int b]) = true := by rfl
abbrev env (x2 x3 x4 x5 x6 x7 x8 x9 x10 : Option D) : En := [some (.obj 0), some (.obj 2), x2, x3, x4, x5, x6, x7, x8, x9, x10]
/-- a drawn quotient -/
theorem pick {η : MH} {ds : List Int} {a : Nat} (h : Box η 2 1 ds a) : ∃ (r1 r2 t b : Int) (η1 η2 η3 : MH), sem 19 14 [.obj 2, .int 81] η = .ok (.int r1) η1 ∧ sem 19 14 [.obj 2, .int 12] η1 = .ok (.int r2) η2 ∧ sem 19 16 [.int (r1 - 40), .int (1 + r2)] η2 = .ok (.tup [.int t, .int b]) η3 ∧
    Box η3 2 1 ds (a + 2) ∧ -40 ≤ t ∧ t ≤ 40 ∧ 0 < b ∧ b ≤ 12 ∧ Int.gcd t b = 1 := by
  obtain ⟨r1, p1, p2, e1⟩ := draw30 (m := 81) h (by decide)
  obtain ⟨r2, p3, p4, e2⟩ := draw30 (m := 12) h.drawn (by decide)
  have hb2 := h.drawn.drawn
  generalize hη : boxed (boxed η 2 1 a) 2 1 (a + 1) = η2 at e2 hb2
  have q := Q30.short_isQ (t := r1 - 40) (b := 1 + r2) (i := (1 + r2).toNat) (j := 1) (by omega) (by omega) (by omega) (by omega)
  refine ⟨r1, r2, _, _, _, _, _, e1, e2, short_ok (n := 18), hb2.app _, ?_⟩
  generalize (Q30.short (r1 - 40) (1 + r2)).1 = t at q ⊢
  generalize (Q30.short (r1 - 40) (1 + r2)).2 = b at q ⊢
  obtain ⟨qp, qc, qe⟩ := q
  -- t·y = x·b with b, y positive and coprime t, b: b divides y
  have bd : b.natAbs ∣ (1 + r2).natAbs := by
    have c : Nat.Coprime b.natAbs t.natAbs := by rw [Nat.coprime_comm]; exact qc
    refine c.dvd_of_dvd_mul_left ?_
    rw [← Int.natAbs_mul, qe, Int.natAbs_mul]
    exact Nat.dvd_mul_left _ _
  have ble : b ≤ 1 + r2 := by
    have := Nat.le_of_dvd (by omega) bd
    omega
  -- |t| ≤ |x|
  have tle : t.natAbs ≤ (r1 - 40).natAbs := by
    have e : t.natAbs * (1 + r2).natAbs = (r1 - 40).natAbs * b.natAbs := by rw [← Int.natAbs_mul, qe, Int.natAbs_mul]
    have l1 : (r1 - 40).natAbs * b.natAbs ≤ (r1 - 40).natAbs * (1 + r2).natAbs := Nat.mul_le_mul_left _ (by omega)
    rw [← e] at l1
    exact Nat.le_of_mul_le_mul_right l1 (by omega)
  exact ⟨by omega, by omega, qp, by omega, qc⟩
theorem turn30 {ds : List Int} {η : MH} {a i : Nat} {x2 x3 x4 x5 x6 x7 x8 x9 x10 : Option D} (h : Box η 2 1 ds a) : ∃ a' η' y3 y4 y5 y6 y7 y8, Box η' 2 1 ds a' ∧ turnOf (gtName 2) (sSeq (sSet 3 (eCB ((sem 19) 16) (aCons (e2 gSub (eCB ((sem 19) 14) (aCons (eVar 1) (aCons (eC (.int 81)) aNil))) (eC (.int 40))) (aCons (e2 gAdd (eC (.int 1)) (eCB ((sem 19) 14) (aCons (eVar 1) (aCons (eC (.int 12)) aNil)))) aNil))))
    (sSeq (sSet 4 (eCB ((sem 19) 16) (aCons (e2 gSub (eCB ((sem 19) 14) (aCons (eVar 1) (aCons (eC (.int 81)) aNil))) (eC (.int 40))) (aCons (e2 gAdd (eC (.int 1)) (eCB ((sem 19) 14) (aCons (eVar 1) (aCons (eC (.int 12)) aNil)))) aNil))))
    (sSeq (sSet 5 (e2 gIx (eLst (aCons (eC (.int 1)) (aCons (e2 gSub (eC (.int 0)) (eC (.int 1))) aNil))) (eCB ((sem 19) 14) (aCons (eVar 1) (aCons (eC (.int 2)) aNil)))))
    (sSeq (sSet 6 (e2 gAdd (eC (.int 1)) (eCB ((sem 19) 14) (aCons (eVar 1) (aCons (eC (.int 6)) aNil)))))
    (sSeq (sIf (tOrB (tNotB (tTru (eCB ((sem 19) 15) (aCons (eCB ((sem 19) 2) (aCons (e2 gMul (e2 gMul (eVar 5) (eVar 6)) (e2 gIx (eVar 3) (eC (.int 0)))) (aCons (e2 gMul (e2 gMul (eVar 5) (eVar 6)) (e2 gIx (eVar 3) (eC (.int 1)))) aNil))) (aCons (eVar 3) aNil))))) (t2 gIsNot (eCB ((sem 19) 3) (aCons (eVar 3) aNil)) (eC (.bl true)))) (sRet (eC (.bl false))) sNext)
    (sSeq (sSet 7 (e2 gMul (e2 gIx (eVar 3) (eC (.int 1))) (e2 gIx (eVar 4) (eC (.int 1)))))
    (sSeq (sIf (tNotB (tTru (eCB ((sem 19) 15) (aCons (eCB ((sem 19) 4) (aCons (eVar 3) (aCons (eVar 4) aNil))) (aCons (eCB ((sem 19) 16) (aCons (e2 gAdd (e2 gMul (e2 gIx (eVar 3) (eC (.int 0))) (e2 gIx (eVar 4) (eC (.int 1)))) (e2 gMul (e2 gIx (eVar 4) (eC (.int 0))) (e2 gIx (eVar 3) (eC (.int 1))))) (aCons (eVar 7) aNil))) aNil))))) (sRet (eC (.bl false))) sNext)
    (sSeq (sIf (tNotB (tTru (eCB ((sem 19) 15) (aCons (eCB ((sem 19) 5) (aCons (eVar 3) (aCons (eVar 4) aNil))) (aCons (eCB ((sem 19) 16) (aCons (e2 gSub (e2 gMul (e2 gIx (eVar 3) (eC (.int 0))) (e2 gIx (eVar 4) (eC (.int 1)))) (e2 gMul (e2 gIx (eVar 4) (eC (.int 0))) (e2 gIx (eVar 3) (eC (.int 1))))) (aCons (eVar 7) aNil))) aNil))))) (sRet (eC (.bl false))) sNext)
    (sSeq (sIf (tOrB (tNotB (tTru (eCB ((sem 19) 15) (aCons (eCB ((sem 19) 6) (aCons (eVar 3) (aCons (eVar 4) aNil))) (aCons (eCB ((sem 19) 16) (aCons (e2 gMul (e2 gIx (eVar 3) (eC (.int 0))) (e2 gIx (eVar 4) (eC (.int 0)))) (aCons (eVar 7) aNil))) aNil))))) (tNotB (tTru (eCB ((sem 19) 15) (aCons (eCB ((sem 19) 7) (aCons (eVar 3) (aCons (eVar 4) aNil))) (aCons (eB (t2 gLt (e2 gMul (e2 gIx (eVar 3) (eC (.int 0))) (e2 gIx (eVar 4) (eC (.int 1)))) (e2 gMul (e2 gIx (eVar 4) (eC (.int 0))) (e2 gIx (eVar 3) (eC (.int 1)))))) aNil)))))) (sRet (eC (.bl false))) sNext)
    (sSeq (sSet 8 (eCB gStr (aCons (e2 gIx (eVar 3) (eC (.int 0))) aNil)))
    (sSeq (sIf (t2 gNe (e2 gIx (eVar 3) (eC (.int 1))) (eC (.int 1))) (sSet 8 (e2 gAdd (e2 gAdd (eVar 8) (eC (.str "/"))) (eCB gStr (aCons (e2 gIx (eVar 3) (eC (.int 1))) aNil)))) sNext)
    (sIf (tOrB (tNotB (tTru (eCB ((sem 19) 15) (aCons (eCB ((sem 19) 8) (aCons (eVar 3) aNil)) (aCons (eVar 8) aNil))))) (tNotB (tTru (eCB ((sem 19) 15) (aCons (eCB ((sem 19) 9) (aCons (eVar 8) aNil)) (aCons (eVar 3) aNil)))))) (sRet (eC (.bl false))) sNext)))))))))))) (.int (i : Int)) (env x2 x3 x4 x5 x6 x7 x8 x9 x10) η = .ok (.nx, env (some (.int (i : Int))) y3 y4 y5 y6 y7 y8 x9 x10) η' := by
  obtain ⟨r1, r2, t1, b1, η1, η2, η3, e1, e2, e3, hb3, p1, p2, p3, p4, c1⟩ := pick h
  obtain ⟨r3, r4, t2, b2, η4, η5, η6, e4, e5, e6, hb6, p5, p6, p7, p8, c2⟩ := pick hb3
  have e7 : gLst [.int 1, .int (0 - 1)] η6 = .ok (.obj η6.length) (η6 ++ [.lst [.int 1, .int (0 - 1)]]) := r_glst η6 _ (show 2 ≤ sizeLine from by unfold sizeLine; omega)
  have hb7 := hb6.app [.lst [.int 1, .int (0 - 1)]]
  have l7 : (η6 ++ [MO.lst [.int 1, .int (0 - 1)]])[η6.length]? = some (.lst [.int 1, .int (0 - 1)]) := by simp
  generalize hη7 : η6 ++ [MO.lst [.int 1, .int (0 - 1)]] = η7 at e7 hb7 l7
  obtain ⟨r5, q1, q2, e8⟩ := draw30 (m := 2) hb7 (by decide)
  have l6 : η6.length ≠ 2 := fun z => by
    have := hb6.box
    rw [← z, List.getElem?_eq_none_iff.mpr (Nat.le_refl _)] at this
    cases this
  have l8 : lstAt (boxed η7 2 1 (a + 2 + 2)) η6.length = some [.int 1, .int (0 - 1)] := by
    refine lstAt_lst ?_
    unfold boxed
    rw [List.getElem?_set_ne (Ne.symm l6)]
    exact l7
  have hb8 := hb7.drawn
  generalize hη8 : boxed η7 2 1 (a + 2 + 2) = η8 at e8 l8 hb8
  obtain ⟨s, hs, e9⟩ : ∃ s : Int, (s = 1 ∨ s = -1) ∧ gIx (.obj η6.length) (.int r5) η8 = .ok (.int s) η8 := by
    have : r5 = 0 ∨ r5 = 1 := by omega
    rcases this with rfl | rfl
    · exact ⟨1, .inl rfl, r_ixL η8 _ _ _ _ l8 rfl⟩
    · exact ⟨0 - 1, .inr rfl, r_ixL η8 _ _ _ _ l8 rfl⟩
  obtain ⟨r6, q3, q4, e10⟩ := draw30 (m := 6) hb8 (by decide)
  have hb9 := hb8.drawn
  generalize hη9 : boxed η8 2 1 (a + 2 + 2 + 1) = η9 at e10 hb9
  -- the scale
  have m1 : CMul s (1 + r6) := cmul_l (by omega) (by omega)
  have sm : s * (1 + r6) ≠ 0 ∧ (s * (1 + r6)).natAbs ≤ 6 := by
    rcases hs with rfl | rfl <;> omega
  generalize hS : s * (1 + r6) = S at sm
  have m2 : ∀ x : Int, CMul S x := fun x => cmul_l (by omega) (by omega)
  have sb0 : S * b1 ≠ 0 := Int.mul_ne_zero sm.1 (by omega)
  have sbl : (S * b1).natAbs < FU := by
    have : (S * b1).natAbs ≤ 6 * 12 := by rw [Int.natAbs_mul]; exact Nat.mul_le_mul sm.2 (by omega)
    unfold FU; omega
  have e11 := fun η => quot_is (η := η) (n := 17) (a := S * t1) sb0 sbl (Q30.isQ_scale (s := S) p3 c1)
  have e12 := fun η => same19 (η := η) (plain2 t1 b1)
  have e13 := fun η => isq_ok (η := η) (n := 16) p3 (show b1.natAbs < FU by unfold FU; omega) c1
  have m3 : CMul b1 b2 := cmul_l (by omega) (by omega)
  have bb0 : 0 < b1 * b2 := Int.mul_pos p3 p7
  have bbe : b1 * b2 = ((b1.toNat * b2.toNat : Nat) : Int) := by
    rw [Int.natCast_mul, Int.toNat_of_nonneg (by omega), Int.toNat_of_nonneg (by omega)]
  have q5 := Q30.short_isQ (t := t1 * b2 + t2 * b1) (b := b1 * b2) (i := b1.toNat) (j := b2.toNat) (by omega) (by omega) bbe bb0
  have q6 := Q30.short_isQ (t := t1 * b2 - t2 * b1) (b := b1 * b2) (i := b1.toNat) (j := b2.toNat) (by omega) (by omega) bbe bb0
  have q7 := Q30.short_isQ (t := t1 * t2) (b := b1 * b2) (i := b1.toNat) (j := b2.toNat) (by omega) (by omega) bbe bb0
  have e14 := fun η => plus_ok (η := η) (n := 16) (by omega) (by omega) p3 p7 (by omega) (by omega) q5
  have e15 := fun η => minus_ok (η := η) (n := 16) (by omega) (by omega) p3 p7 (by omega) (by omega) q6
  have e16 := fun η => times_ok (η := η) (n := 16) (by omega) (by omega) p3 p7 (by omega) (by omega) q7
  have e17 := fun η => less_ok (η := η) (n := 18) (t1 := t1) (b1 := b1) (t2 := t2) (b2 := b2) (by omega) (by omega)
  have es := fun (t b : Int) (η : MH) => short_ok (η := η) (n := 18) (t := t) (b := b)
  have m4 : CMul t1 b2 := cmul_l (by omega) (by omega)
  have m5 : CMul t2 b1 := cmul_l (by omega) (by omega)
  have m6 : CMul t1 t2 := cmul_l (by omega) (by omega)
  have e18 := fun (t b : Int) (η : MH) => same19 (η := η) (plain2 t b)
  have e19 := fun (b : Bool) (η : MH) => same19 (η := η) (d := .bl b) rfl
  have g1 := in_grid p1 p2 p3 p4 c1
  have e20 := fun η : MH => same19 (η := η) (d := .str (txt t1 b1)) (sh_tx g1)
  refine ⟨_, η9 ++ [.lst (Q30.ks.map D.int)] ++ [.lst (Q30.ks.map D.int)] ++ [.lst (Q30.ks.map D.int)], some (.tup [.int t1, .int b1]), some (.tup [.int t2, .int b2]), some (.int s), some (.int (1 + r6)), some (.int (b1 * b2)), some (.str (txt t1 b1)), ((hb9.app _).app _).app _, ?_⟩
  rw [r_turn, r_gtn, bind_ok]
  simp only [env, List.set_cons_succ, List.set_cons_zero]
  refine (seq_ok (δ1 := env (some (.int (i : Int))) (some (.tup [.int t1, .int b1])) x4 x5 x6 x7 x8 x9 x10) (η1 := η3) ?_).trans ?_
  · simp [e1, e2, e3]
  refine (seq_ok (δ1 := env (some (.int (i : Int))) (some (.tup [.int t1, .int b1])) (some (.tup [.int t2, .int b2])) x5 x6 x7 x8 x9 x10) (η1 := η6) ?_).trans ?_
  · simp [e4, e5, e6]
  refine (seq_ok (δ1 := env (some (.int (i : Int))) (some (.tup [.int t1, .int b1])) (some (.tup [.int t2, .int b2])) (some (.int s)) x6 x7 x8 x9 x10) (η1 := η8) ?_).trans ?_
  · have e7' : gLst [.int 1, .int (-1)] η6 = .ok (.obj η6.length) η7 := e7
    simp [e7', e8, e9]
  refine (seq_ok (δ1 := env (some (.int (i : Int))) (some (.tup [.int t1, .int b1])) (some (.tup [.int t2, .int b2])) (some (.int s)) (some (.int (1 + r6))) x7 x8 x9 x10) (η1 := η9) ?_).trans ?_
  · simp [e10]
  refine (seq_ok (δ1 := env (some (.int (i : Int))) (some (.tup [.int t1, .int b1])) (some (.tup [.int t2, .int b2])) (some (.int s)) (some (.int (1 + r6))) x7 x8 x9 x10) (η1 := η9) ?_).trans ?_
  · simp [ix0, ix1, m1, hS, m2, e11, e12, e13]
  refine (seq_ok (δ1 := env (some (.int (i : Int))) (some (.tup [.int t1, .int b1])) (some (.tup [.int t2, .int b2])) (some (.int s)) (some (.int (1 + r6))) (some (.int (b1 * b2))) x8 x9 x10) (η1 := η9) ?_).trans ?_
  · simp [ix0, ix1, m3]
  refine (seq_ok (δ1 := env (some (.int (i : Int))) (some (.tup [.int t1, .int b1])) (some (.tup [.int t2, .int b2])) (some (.int s)) (some (.int (1 + r6))) (some (.int (b1 * b2))) x8 x9 x10) (η1 := η9 ++ [.lst (Q30.ks.map D.int)]) ?_).trans ?_
  · simp [ix0, ix1, m4, m5, e14, es, e18]
  refine (seq_ok (δ1 := env (some (.int (i : Int))) (some (.tup [.int t1, .int b1])) (some (.tup [.int t2, .int b2])) (some (.int s)) (some (.int (1 + r6))) (some (.int (b1 * b2))) x8 x9 x10) (η1 := η9 ++ [.lst (Q30.ks.map D.int)] ++ [.lst (Q30.ks.map D.int)]) ?_).trans ?_
  · simp [ix0, ix1, m4, m5, e15, es, e18]
  refine (seq_ok (δ1 := env (some (.int (i : Int))) (some (.tup [.int t1, .int b1])) (some (.tup [.int t2, .int b2])) (some (.int s)) (some (.int (1 + r6))) (some (.int (b1 * b2))) x8 x9 x10) (η1 := η9 ++ [.lst (Q30.ks.map D.int)] ++ [.lst (Q30.ks.map D.int)] ++ [.lst (Q30.ks.map D.int)]) ?_).trans ?_
  · simp [ix0, ix1, m4, m5, m6, e16, e17, es, e18, e19]
  generalize η9 ++ [MO.lst (Q30.ks.map D.int)] ++ [.lst (Q30.ks.map D.int)] ++ [.lst (Q30.ks.map D.int)] = ηA
  refine (seq_ok (δ1 := env (some (.int (i : Int))) (some (.tup [.int t1, .int b1])) (some (.tup [.int t2, .int b2])) (some (.int s)) (some (.int (1 + r6))) (some (.int (b1 * b2))) (some (.str (Str.ofString (toString t1)))) x9 x10) (η1 := ηA) ?_).trans ?_
  · simp [ix0, ix1, st_t g1]
  refine (seq_ok (δ1 := env (some (.int (i : Int))) (some (.tup [.int t1, .int b1])) (some (.tup [.int t2, .int b2])) (some (.int s)) (some (.int (1 + r6))) (some (.int (b1 * b2))) (some (.str (txt t1 b1))) x9 x10) (η1 := ηA) ?_).trans ?_
  · by_cases h1 : b1 = 1
    · simp [ix0, ix1, h1, txt]
    · have a1 := ad_1 (η := ηA) g1
      have a2 := ad_2 (η := ηA) g1
      have sb := st_b (η := ηA) g1
      have hb1 : (b1 == 1) = false := beq_eq_false_iff_ne.mpr h1
      simp only [env, r_sif, r_t2, r_e2, r_varS, r_var0, r_c, ix1, bind_ok, r_neI, r_set, r_cb, r_acons, r_anil, r_next, hb1, Bool.not_false, if_true, a1, sb, a2, List.set_cons_succ, List.set_cons_zero, txt, if_neg h1]
  · simp [wr_ok g1, rd_ok g1, e20, e18]
theorem pure30 : PureOk (sem 20 17) 63 := by
  intro ns mo hl _ hmo
  obtain ⟨ds, ηb, eb, _, hb⟩ := box_ok (c := sem 18) (c' := sem 17) (ic := 13) (idg := 12) rfl rfl hmo
  have eb : sem 19 11 [.obj 0, .int 0, .int 62] [mo] = .ok (.obj 2) ηb := eb
  have hb : Box ηb 2 1 ds 0 := hb
  rw [show sem 20 17 = bodyM 1 11 (T30.b17 (sem 19)) from rfl]
  have hh := loopL_inv (g := gtName 2) (b := _) (fun _ δ η => (∃ a, Box η 2 1 ds a) ∧ ∃ x2 x3 x4 x5 x6 x7 x8 x9 x10, δ = env x2 x3 x4 x5 x6 x7 x8 x9 x10) (rngD 0 3) 0 (env none none none none none none none none none) ηb (by
    rintro i d δ η e ⟨⟨a, h⟩, x2, x3, x4, x5, x6, x7, x8, x9, x10, rfl⟩
    obtain ⟨hi, rfl⟩ := rng_get e
    obtain ⟨a', η', y3, y4, y5, y6, y7, y8, h', e'⟩ := turn30 (i := i) (x2 := x2) (x3 := x3) (x4 := x4) (x5 := x5) (x6 := x6) (x7 := x7) (x8 := x8) (x9 := x9) (x10 := x10) h
    rw [Int.zero_add]
    exact ⟨_, η', e', ⟨a', h'⟩, _, _, _, _, _, _, _, _, _, rfl⟩) ⟨⟨0, hb⟩, _, _, _, _, _, _, _, _, _, rfl⟩
  obtain ⟨δ1, η1, e1, ⟨a, h1⟩, x2, x3, x4, x5, x6, x7, x8, x9, x10, rfl⟩ := hh
  -- the lists behind the turns
  have w1 : gLst [.int 1, .int 1] η1 = .ok (.obj η1.length) (η1 ++ [.lst [.int 1, .int 1]]) := r_glst η1 _ (show 2 ≤ sizeLine from by unfold sizeLine; omega)
  have h2 := h1.app [.lst [.int 1, .int 1]]
  have l2' : (η1 ++ [MO.lst [.int 1, .int 1]])[η1.length]? = some (.lst [.int 1, .int 1]) := by simp
  generalize hη2 : η1 ++ [MO.lst [.int 1, .int 1]] = η2 at w1 h2 l2'
  generalize ho : η1.length = o at w1 l2'
  have w2 : gLst (wrongs o) η2 = .ok (.obj η2.length) (η2 ++ [.lst (wrongs o)]) := r_glst η2 _ (show 10 ≤ sizeLine from by unfold sizeLine; omega)
  have h3 := h2.app [.lst (wrongs o)]
  have l3 : (η2 ++ [MO.lst (wrongs o)])[η2.length]? = some (.lst (wrongs o)) := by simp
  have l3' : (η2 ++ [MO.lst (wrongs o)])[o]? = some (.lst [.int 1, .int 1]) := by
    rw [List.getElem?_append_left (List.getElem?_eq_some_iff.mp l2').1]
    exact l2'
  generalize hη3 : η2 ++ [MO.lst (wrongs o)] = η3 at w2 h3 l3 l3'
  generalize ho3 : η2.length = o3 at w2 l3
  have n3 : o3 ≠ 2 := fun z => by
    subst z
    have := h3.box
    rw [l3] at this
    cases this
  have no : o ≠ 2 := fun z => by
    subst z
    have := h3.box
    rw [l3'] at this
    cases this
  obtain ⟨r, r0, r10, d1⟩ := draw30 (m := 10) h3 (by decide)
  have h4 := h3.drawn
  have bx : ∀ {o : Nat} {m : MO}, o ≠ 2 → η3[o]? = some m → (boxed η3 2 1 a)[o]? = some m := fun {o m} ne e => by
    unfold boxed
    rw [List.getElem?_set_ne (Ne.symm ne)]
    exact e
  have l4 := bx n3 l3
  have l4' := bx no l3'
  generalize hη4 : boxed η3 2 1 a = η4 at d1 h4 l4 l4'
  have rl : r.toNat < (wrongs o).length := by show r.toNat < 10; omega
  have i1 : gIx (.obj o3) (.int r) η4 = .ok (wrongs o)[r.toNat] η4 := by
    refine r_ixL η4 _ _ _ _ (lstAt_lst l4) ?_
    have := atI_nat rl
    rw [Int.toNat_of_nonneg r0] at this
    exact this
  have wr := wrong_ok l4' (List.getElem_mem rl)
  have w3 : gLst bads η4 = .ok (.obj η4.length) (η4 ++ [.lst bads]) := r_glst η4 _ (show 14 ≤ sizeLine from by unfold sizeLine; omega)
  have h5 := h4.app [.lst bads]
  have l5 : (η4 ++ [MO.lst bads])[η4.length]? = some (.lst bads) := by simp
  generalize hη5 : η4 ++ [MO.lst bads] = η5 at w3 h5 l5
  generalize ho5 : η4.length = o5 at w3 l5
  have n5 : o5 ≠ 2 := fun z => by
    subst z
    have := h5.box
    rw [l5] at this
    cases this
  obtain ⟨q, q0, q14, d2⟩ := draw30 (m := 14) h5 (by decide)
  have l6 : (boxed η5 2 1 (a + 1))[o5]? = some (.lst bads) := by
    unfold boxed
    rw [List.getElem?_set_ne (Ne.symm n5)]
    exact l5
  generalize hη6 : boxed η5 2 1 (a + 1) = η6 at d2 l6
  have ql : q.toNat < bads.length := by show q.toNat < 14; omega
  have i2 : gIx (.obj o5) (.int q) η6 = .ok bads[q.toNat] η6 := by
    refine r_ixL η6 _ _ _ _ (lstAt_lst l6) ?_
    have := atI_nat ql
    rw [Int.toNat_of_nonneg q0] at this
    exact this
  have bd : sem 19 9 [bads[q.toNat]] η6 = .ok .non η6 := List.map_inj_left.mp (bad_all η6) _ (List.getElem_mem ql)
  refine ⟨η6, body_ret rfl (δ := env x2 x3 x4 x5 x6 x7 x8 (some (.obj o3)) (some (.obj o5))) ?_⟩
  show T30.b17 _ [some (.obj 0), none, none, none, none, none, none, none, none, none, none] _ = _
  unfold T30.b17
  refine (seq_ok (δ1 := env none none none none none none none none none) (η1 := ηb) ?_).trans ?_
  · simp [eb]
  have hit : iA gRng1 (aCons (eC (.int 3)) aNil) (env none none none none none none none none none) ηb = .ok (.snap (rngD 0 3)) ηb := by
    have := r_rng1 (η := ηb) (j := 3) (by decide)
    simp [this]
  refine (seq_ok (δ1 := env x2 x3 x4 x5 x6 x7 x8 x9 x10) (η1 := η1) ?_).trans ?_
  · rw [for_snap hit]
    exact e1
  refine (seq_ok (δ1 := env x2 x3 x4 x5 x6 x7 x8 (some (.obj o3)) x10) (η1 := η3) ?_).trans ?_
  · have t1 : ∀ (x : D) (η : MH), EV.gTup [x] η = .ok (.tup [x]) η := fun x η => r_gtup η _ (show 1 ≤ sizeLine from by unfold sizeLine; omega)
    have t3 : ∀ (x y z : D) (η : MH), EV.gTup [x, y, z] η = .ok (.tup [x, y, z]) η := fun x y z η => r_gtup η _ (show 3 ≤ sizeLine from by unfold sizeLine; omega)
    have w2' : gLst [.non, .tup [.int 1], .tup [.int 2, .int 4], .tup [.int 1, .int 0], .tup [.int 1, .int (-1)], .tup [.int 0, .int 2], .tup [.bl true, .int 1], .obj o, .tup [.int 1, .int 2, .int 3], .str "1/2"] η2 = .ok (.obj o3) η3 := w2
    simp [t1, t3, l2, w1, w2']
  refine (seq_ok (δ1 := env x2 x3 x4 x5 x6 x7 x8 (some (.obj o3)) x10) (η1 := η4) ?_).trans ?_
  · simp [d1, i1, wr]
  refine (seq_ok (δ1 := env x2 x3 x4 x5 x6 x7 x8 (some (.obj o3)) (some (.obj o5))) (η1 := η5) ?_).trans ?_
  · have w3' : gLst [.str "", .str "1/", .str "/2", .str "2/4", .str "1/0", .str "1/1", .str "-", .str "01", .str "1 /2", .str "x", .str "1/-2", .str "1234567890123", .str "--1", .str "+1"] η4 = .ok (.obj o5) η5 := w3
    simp [w3']
  · simp [d2, i2, bd]
end T30
namespace T30
open PySem PySem.Spec PyProof.Rows L2 EV
/-! facts -/
theorem sc0 : FnScope nm0 ["value"] (defScope (top 1)) := ⟨rfl, rfl, rfl, by decide +kernel, rfl, by decide +kernel, by decide +kernel⟩
theorem sc1 : FnScope nm1 ["one", "two"] (defScope (top 3)) := ⟨rfl, rfl, rfl, by decide +kernel, rfl, by decide +kernel, by decide +kernel⟩
theorem sc2 : FnScope nm2 ["top", "bottom"] (defScope (top 4)) := ⟨rfl, rfl, rfl, by decide +kernel, rfl, by decide +kernel, by decide +kernel⟩
theorem sc3 : FnScope nm3 ["value"] (defScope (top 5)) := ⟨rfl, rfl, rfl, by decide +kernel, rfl, by decide +kernel, by decide +kernel⟩
theorem sc4 : FnScope nm4 ["one", "two"] (defScope (top 6)) := ⟨rfl, rfl, rfl, by decide +kernel, rfl, by decide +kernel, by decide +kernel⟩
theorem sc5 : FnScope nm5 ["one", "two"] (defScope (top 7)) := ⟨rfl, rfl, rfl, by decide +kernel, rfl, by decide +kernel, by decide +kernel⟩
theorem sc6 : FnScope nm6 ["one", "two"] (defScope (top 8)) := ⟨rfl, rfl, rfl, by decide +kernel, rfl, by decide +kernel, by decide +kernel⟩
theorem sc7 : FnScope nm7 ["one", "two"] (defScope (top 9)) := ⟨rfl, rfl, rfl, by decide +kernel, rfl, by decide +kernel, by decide +kernel⟩
theorem sc8 : FnScope nm8 ["own"] (defScope (top 10)) := ⟨rfl, rfl, rfl, by decide +kernel, rfl, by decide +kernel, by decide +kernel⟩
theorem sc9 : FnScope nm9 ["text"] (defScope (top 11)) := ⟨rfl, rfl, rfl, by decide +kernel, rfl, by decide +kernel, by decide +kernel⟩
theorem sc10 : FnScope nm10 ["text"] (defScope (top 12)) := ⟨rfl, rfl, rfl, by decide +kernel, rfl, by decide +kernel, by decide +kernel⟩
theorem sc11 : FnScope nm11 ["script", "first", "last"] (defScope (top 14)) := ⟨rfl, rfl, rfl, by decide +kernel, rfl, by decide +kernel, by decide +kernel⟩
theorem sc12 : FnScope nm12 ["script", "first", "last"] (defScope (top 15)) := ⟨rfl, rfl, rfl, by decide +kernel, rfl, by decide +kernel, by decide +kernel⟩
theorem sc13 : FnScope nm13 ["script", "k"] (defScope (top 16)) := ⟨rfl, rfl, rfl, by decide +kernel, rfl, by decide +kernel, by decide +kernel⟩
theorem sc14 : FnScope nm14 ["box", "many"] (defScope (top 17)) := ⟨rfl, rfl, rfl, by decide +kernel, rfl, by decide +kernel, by decide +kernel⟩
theorem sc15 : FnScope nm15 ["actual", "expected"] (defScope (top 18)) := ⟨rfl, rfl, rfl, by decide +kernel, rfl, by decide +kernel, by decide +kernel⟩
theorem sc16 : FnScope nm16 ["top", "bottom"] (defScope (top 19)) := ⟨rfl, rfl, rfl, by decide +kernel, rfl, by decide +kernel, by decide +kernel⟩
theorem sc17 : FnScope nm17 ["script"] (defScope (top 20)) := ⟨rfl, rfl, rfl, by decide +kernel, rfl, by decide +kernel, by decide +kernel⟩
abbrev SS (K : PySem.W.Frag) : Sg := ⟨⟨[], [(He.cT K ("is_quotient", none)).2, (He.cT K ("is_number_text", none)).2]⟩, []⟩
theorem tm3 {K : PySem.W.Frag} : (He.cT K ("is_quotient", none)).2 ∈ (SS K).cl.tabs := .head _
theorem tm10 {K : PySem.W.Frag} : (He.cT K ("is_number_text", none)).2 ∈ (SS K).cl.tabs := .tail _ (.head _)
structure Fc (w : World) (K : PySem.W.Frag) (mg : Str → Option Value) (base : Heap) (fd : Nat → FuncData) : Prop where
  F0 : FunD K "is_whole" "is_whole" (defArgs (top 1)) (defBody (top 1)) (defScope (top 1)) [] [] (He.fAd K ("is_whole", none)) (fd 0)
  g0 : mg "is_whole" = some (.ref (He.fAd K ("is_whole", none)))
  F1 : FunD K "common_divisor" "common_divisor" (defArgs (top 3)) (defBody (top 3)) (defScope (top 3)) [] [] (He.fAd K ("common_divisor", none)) (fd 1)
  g1 : mg "common_divisor" = some (.ref (He.fAd K ("common_divisor", none)))
  F2 : FunD K "quotient" "quotient" (defArgs (top 4)) (defBody (top 4)) (defScope (top 4)) [] [] (He.fAd K ("quotient", none)) (fd 2)
  g2 : mg "quotient" = some (.ref (He.fAd K ("quotient", none)))
  F3 : FunD K "is_quotient" "is_quotient" (defArgs (top 5)) (defBody (top 5)) (defScope (top 5)) [] [] (He.fAd K ("is_quotient", none)) (fd 3)
  g3 : mg "is_quotient" = some (.ref (He.fAd K ("is_quotient", none)))
  F4 : FunD K "plus" "plus" (defArgs (top 6)) (defBody (top 6)) (defScope (top 6)) [] [] (He.fAd K ("plus", none)) (fd 4)
  g4 : mg "plus" = some (.ref (He.fAd K ("plus", none)))
  F5 : FunD K "minus" "minus" (defArgs (top 7)) (defBody (top 7)) (defScope (top 7)) [] [] (He.fAd K ("minus", none)) (fd 5)
  g5 : mg "minus" = some (.ref (He.fAd K ("minus", none)))
  F6 : FunD K "times" "times" (defArgs (top 8)) (defBody (top 8)) (defScope (top 8)) [] [] (He.fAd K ("times", none)) (fd 6)
  g6 : mg "times" = some (.ref (He.fAd K ("times", none)))
  F7 : FunD K "is_less" "is_less" (defArgs (top 9)) (defBody (top 9)) (defScope (top 9)) [] [] (He.fAd K ("is_less", none)) (fd 7)
  g7 : mg "is_less" = some (.ref (He.fAd K ("is_less", none)))
  F8 : FunD K "write_quotient" "write_quotient" (defArgs (top 10)) (defBody (top 10)) (defScope (top 10)) [] [] (He.fAd K ("write_quotient", none)) (fd 8)
  g8 : mg "write_quotient" = some (.ref (He.fAd K ("write_quotient", none)))
  F9 : FunD K "read_quotient" "read_quotient" (defArgs (top 11)) (defBody (top 11)) (defScope (top 11)) [] [] (He.fAd K ("read_quotient", none)) (fd 9)
  g9 : mg "read_quotient" = some (.ref (He.fAd K ("read_quotient", none)))
  F10 : FunD K "is_number_text" "is_number_text" (defArgs (top 12)) (defBody (top 12)) (defScope (top 12)) [] [] (He.fAd K ("is_number_text", none)) (fd 10)
  g10 : mg "is_number_text" = some (.ref (He.fAd K ("is_number_text", none)))
  F11 : FunD K "_law_box" "_law_box" (defArgs (top 14)) (defBody (top 14)) (defScope (top 14)) [] [] (He.fAd K ("_law_box", none)) (fd 11)
  g11 : mg "_law_box" = some (.ref (He.fAd K ("_law_box", none)))
  F12 : FunD K "_law_digits" "_law_digits" (defArgs (top 15)) (defBody (top 15)) (defScope (top 15)) [] [] (He.fAd K ("_law_digits", none)) (fd 12)
  g12 : mg "_law_digits" = some (.ref (He.fAd K ("_law_digits", none)))
  F13 : FunD K "_law_cell" "_law_cell" (defArgs (top 16)) (defBody (top 16)) (defScope (top 16)) [] [] (He.fAd K ("_law_cell", none)) (fd 13)
  g13 : mg "_law_cell" = some (.ref (He.fAd K ("_law_cell", none)))
  F14 : FunD K "_law_draw" "_law_draw" (defArgs (top 17)) (defBody (top 17)) (defScope (top 17)) [] [] (He.fAd K ("_law_draw", none)) (fd 14)
  g14 : mg "_law_draw" = some (.ref (He.fAd K ("_law_draw", none)))
  F15 : FunD K "_law_same" "_law_same" (defArgs (top 18)) (defBody (top 18)) (defScope (top 18)) [] [] (He.fAd K ("_law_same", none)) (fd 15)
  g15 : mg "_law_same" = some (.ref (He.fAd K ("_law_same", none)))
  F16 : FunD K "_law_short" "_law_short" (defArgs (top 19)) (defBody (top 19)) (defScope (top 19)) [] [] (He.fAd K ("_law_short", none)) (fd 16)
  g16 : mg "_law_short" = some (.ref (He.fAd K ("_law_short", none)))
  F17 : FunD K "law" "law" (defArgs (top 20)) (defBody (top 20)) (defScope (top 20)) [] [] (He.fAd K ("law", none)) (fd 17)
  g17 : mg "law" = some (.ref (He.fAd K ("law", none)))
  b_abs : mg "abs" = none
  b_all : mg "all" = none
  b_bool : mg "bool" = none
  b_int : mg "int" = none
  b_isinstance : mg "isinstance" = none
  b_len : mg "len" = none
  b_range : mg "range" = none
  b_str : mg "str" = none
  b_tuple : mg "tuple" = none
  t3 : GxR.TabB base mg (He.cT K ("is_quotient", none)).1 (He.cT K ("is_quotient", none)).2
  t10 : GxR.TabB base mg (He.cT K ("is_number_text", none)).1 (He.cT K ("is_number_text", none)).2
structure Ok (w : World) (K : PySem.W.Frag) (mg : Str → Option Value) (base : Heap) (fd : Nat → FuncData) (n : Nat) : Prop where
  o0 : FnOk prog w K mg base (CX prog w) (4 * n) (He.fAd K ("is_whole", none)) (fd 0) ["value"] (spM K (SS K) (sem n 0))
  o1 : FnOk prog w K mg base (CX prog w) (4 * n) (He.fAd K ("common_divisor", none)) (fd 1) ["one", "two"] (spM K (SS K) (sem n 1))
  o2 : FnOk prog w K mg base (CX prog w) (4 * n) (He.fAd K ("quotient", none)) (fd 2) ["top", "bottom"] (spM K (SS K) (sem n 2))
  o3 : FnOk prog w K mg base (CX prog w) (4 * n) (He.fAd K ("is_quotient", none)) (fd 3) ["value"] (spM K (SS K) (sem n 3))
  o4 : FnOk prog w K mg base (CX prog w) (4 * n) (He.fAd K ("plus", none)) (fd 4) ["one", "two"] (spM K (SS K) (sem n 4))
  o5 : FnOk prog w K mg base (CX prog w) (4 * n) (He.fAd K ("minus", none)) (fd 5) ["one", "two"] (spM K (SS K) (sem n 5))
  o6 : FnOk prog w K mg base (CX prog w) (4 * n) (He.fAd K ("times", none)) (fd 6) ["one", "two"] (spM K (SS K) (sem n 6))
  o7 : FnOk prog w K mg base (CX prog w) (4 * n) (He.fAd K ("is_less", none)) (fd 7) ["one", "two"] (spM K (SS K) (sem n 7))
  o8 : FnOk prog w K mg base (CX prog w) (4 * n) (He.fAd K ("write_quotient", none)) (fd 8) ["own"] (spM K (SS K) (sem n 8))
  o9 : FnOk prog w K mg base (CX prog w) (4 * n) (He.fAd K ("read_quotient", none)) (fd 9) ["text"] (spM K (SS K) (sem n 9))
  o10 : FnOk prog w K mg base (CX prog w) (4 * n) (He.fAd K ("is_number_text", none)) (fd 10) ["text"] (spM K (SS K) (sem n 10))
  o11 : FnOk prog w K mg base (CX prog w) (4 * n) (He.fAd K ("_law_box", none)) (fd 11) ["script", "first", "last"] (spM K (SS K) (sem n 11))
  o12 : FnOk prog w K mg base (CX prog w) (4 * n) (He.fAd K ("_law_digits", none)) (fd 12) ["script", "first", "last"] (spM K (SS K) (sem n 12))
  o13 : FnOk prog w K mg base (CX prog w) (4 * n) (He.fAd K ("_law_cell", none)) (fd 13) ["script", "k"] (spM K (SS K) (sem n 13))
  o14 : FnOk prog w K mg base (CX prog w) (4 * n) (He.fAd K ("_law_draw", none)) (fd 14) ["box", "many"] (spM K (SS K) (sem n 14))
  o15 : FnOk prog w K mg base (CX prog w) (4 * n) (He.fAd K ("_law_same", none)) (fd 15) ["actual", "expected"] (spM K (SS K) (sem n 15))
  o16 : FnOk prog w K mg base (CX prog w) (4 * n) (He.fAd K ("_law_short", none)) (fd 16) ["top", "bottom"] (spM K (SS K) (sem n 16))
  o17 : FnOk prog w K mg base (CX prog w) (4 * n) (He.fAd K ("law", none)) (fd 17) ["script"] (spM K (SS K) (sem n 17))
section
variable {w : World} {K : PySem.W.Frag} {mg : Str → Option Value} {base : Heap} {fd : Nat → FuncData} {n : Nat}
theorem bd0 (F : Fc w K mg base fd) : Binds K (fd 0) ["value"] [] := F.F0.bindsN fun _ _ _ _ _ _ us hl => match us, hl with | [_], _ => rfl
theorem bd1 (F : Fc w K mg base fd) : Binds K (fd 1) ["one", "two"] [] := F.F1.bindsN fun _ _ _ _ _ _ us hl => match us, hl with | [_, _], _ => rfl
theorem bd2 (F : Fc w K mg base fd) : Binds K (fd 2) ["top", "bottom"] [] := F.F2.bindsN fun _ _ _ _ _ _ us hl => match us, hl with | [_, _], _ => rfl
theorem bd3 (F : Fc w K mg base fd) : Binds K (fd 3) ["value"] [] := F.F3.bindsN fun _ _ _ _ _ _ us hl => match us, hl with | [_], _ => rfl
theorem bd4 (F : Fc w K mg base fd) : Binds K (fd 4) ["one", "two"] [] := F.F4.bindsN fun _ _ _ _ _ _ us hl => match us, hl with | [_, _], _ => rfl
theorem bd5 (F : Fc w K mg base fd) : Binds K (fd 5) ["one", "two"] [] := F.F5.bindsN fun _ _ _ _ _ _ us hl => match us, hl with | [_, _], _ => rfl
theorem bd6 (F : Fc w K mg base fd) : Binds K (fd 6) ["one", "two"] [] := F.F6.bindsN fun _ _ _ _ _ _ us hl => match us, hl with | [_, _], _ => rfl
theorem bd7 (F : Fc w K mg base fd) : Binds K (fd 7) ["one", "two"] [] := F.F7.bindsN fun _ _ _ _ _ _ us hl => match us, hl with | [_, _], _ => rfl
theorem bd8 (F : Fc w K mg base fd) : Binds K (fd 8) ["own"] [] := F.F8.bindsN fun _ _ _ _ _ _ us hl => match us, hl with | [_], _ => rfl
theorem bd9 (F : Fc w K mg base fd) : Binds K (fd 9) ["text"] [] := F.F9.bindsN fun _ _ _ _ _ _ us hl => match us, hl with | [_], _ => rfl
theorem bd10 (F : Fc w K mg base fd) : Binds K (fd 10) ["text"] [] := F.F10.bindsN fun _ _ _ _ _ _ us hl => match us, hl with | [_], _ => rfl
theorem bd11 (F : Fc w K mg base fd) : Binds K (fd 11) ["script", "first", "last"] [] := F.F11.bindsN fun _ _ _ _ _ _ us hl => match us, hl with | [_, _, _], _ => rfl
theorem bd12 (F : Fc w K mg base fd) : Binds K (fd 12) ["script", "first", "last"] [] := F.F12.bindsN fun _ _ _ _ _ _ us hl => match us, hl with | [_, _, _], _ => rfl
theorem bd13 (F : Fc w K mg base fd) : Binds K (fd 13) ["script", "k"] [] := F.F13.bindsN fun _ _ _ _ _ _ us hl => match us, hl with | [_, _], _ => rfl
theorem bd14 (F : Fc w K mg base fd) : Binds K (fd 14) ["box", "many"] [] := F.F14.bindsN fun _ _ _ _ _ _ us hl => match us, hl with | [_, _], _ => rfl
theorem bd15 (F : Fc w K mg base fd) : Binds K (fd 15) ["actual", "expected"] [] := F.F15.bindsN fun _ _ _ _ _ _ us hl => match us, hl with | [_, _], _ => rfl
theorem bd16 (F : Fc w K mg base fd) : Binds K (fd 16) ["top", "bottom"] [] := F.F16.bindsN fun _ _ _ _ _ _ us hl => match us, hl with | [_, _], _ => rfl
theorem bd17 (F : Fc w K mg base fd) : Binds K (fd 17) ["script"] [] := F.F17.bindsN fun _ _ _ _ _ _ us hl => match us, hl with | [_], _ => rfl
theorem sv0 (F : Fc w K mg base fd) (I : Ok w K mg base fd n) (A : Around) (outer : List Env) (s : Shared) (H : Hp) (E : XK) (hr : Room (4 * n + 3) (A.deeper (envOfC "is_whole" (defScope (top 1)) s.heap.objs.size (He.fAd K ("is_whole", none)) (.ref (He.codeOf K ("is_whole", none)))))) :
    SSV (cnOf prog w K mg base nm0 "is_whole" (defScope (top 1)) (He.fAd K ("is_whole", none)) (.ref (He.codeOf K ("is_whole", none))) A outer s H E (SS K)) (defBody (top 1)) (b0 (sem n)) :=
  (ssv_one (sv_ret (VV.ev (vv_and (ev_isi rfl F.b_isinstance rfl F.b_int (by decide +kernel) (evn 0)) (vv_and1 (ev_notv (ev_isi rfl F.b_isinstance rfl F.b_bool (by decide +kernel) (evn 0))))))))
theorem sv1 (F : Fc w K mg base fd) (I : Ok w K mg base fd n) (A : Around) (outer : List Env) (s : Shared) (H : Hp) (E : XK) (hr : Room (4 * n + 3) (A.deeper (envOfC "common_divisor" (defScope (top 3)) s.heap.objs.size (He.fAd K ("common_divisor", none)) (.ref (He.codeOf K ("common_divisor", none)))))) :
    SSV (cnOf prog w K mg base nm1 "common_divisor" (defScope (top 3)) (He.fAd K ("common_divisor", none)) (.ref (He.codeOf K ("common_divisor", none))) A outer s H E (SS K)) (defBody (top 3)) (b1 (sem n)) :=
  (ssv_cons (sv_par2 rfl sc1.nd (av_cons (ev_abs rfl F.b_abs (av_cons (evn 0) av_nil)) (av_cons (ev_abs rfl F.b_abs (av_cons (evn 1) av_nil)) av_nil)))
    (ssv_cons (sv_while own_cn (tv_tru (evn 1) (by intro _; rfl)) (ssv_one (sv_par2 rfl sc1.nd (av_cons (evn 1) (av_cons (ev_mod (evn 0) (evn 1)) av_nil)))))
    (ssv_one (sv_ret (evn 0)))))
theorem sv2 (F : Fc w K mg base fd) (I : Ok w K mg base fd n) (A : Around) (outer : List Env) (s : Shared) (H : Hp) (E : XK) (hr : Room (4 * n + 3) (A.deeper (envOfC "quotient" (defScope (top 4)) s.heap.objs.size (He.fAd K ("quotient", none)) (.ref (He.codeOf K ("quotient", none)))))) :
    SSV (cnOf prog w K mg base nm2 "quotient" (defScope (top 4)) (He.fAd K ("quotient", none)) (.ref (He.codeOf K ("quotient", none))) A outer s H E (SS K)) (defBody (top 4)) (b2 (sem n)) :=
  (ssv_cons (svn 2 sc2.nd (ev_call I.o1 (hr.mono (by omega)) rfl F.g1 F.F1.kp (bd1 F) pass_cn (av_cons (evn 0) (av_cons (evn 1) av_nil))))
    (ssv_one (sv_ret (ev_if (tv_lt (evn 1) ec_int) (ev_tup (av_cons (ev_fdiv (ev_neg (evn 0)) (evn 2)) (av_cons (ev_fdiv (ev_neg (evn 1)) (evn 2)) av_nil))) (ev_tup (av_cons (ev_fdiv (evn 0) (evn 2)) (av_cons (ev_fdiv (evn 1) (evn 2)) av_nil)))))))
theorem sv3 (F : Fc w K mg base fd) (I : Ok w K mg base fd n) (A : Around) (outer : List Env) (s : Shared) (H : Hp) (E : XK) (hr : Room (4 * n + 3) (A.deeper (envOfC "is_quotient" (defScope (top 5)) s.heap.objs.size (He.fAd K ("is_quotient", none)) (.ref (He.codeOf K ("is_quotient", none)))))) :
    SSV (cnOf prog w K mg base nm3 "is_quotient" (defScope (top 5)) (He.fAd K ("is_quotient", none)) (.ref (He.codeOf K ("is_quotient", none))) A outer s H E (SS K)) (defBody (top 5)) (b3 (sem n)) :=
  (ssv_cons (sv_if (WV.tv (wv_or (tv_not (tv_tru (ev_isi rfl F.b_isinstance rfl F.b_tuple (by decide +kernel) (evn 0)) (by intro _; rfl))) (wv_or (tv_ne hr.units (ev_len rfl F.b_len (av_cons (evn 0) av_nil)) ec_int) (wv_or1 (tv_not (tv_tru (ev_all (k := 4 * n + 0) (scope := _) (own := [("own", 1)]) (hr.mono (by omega)) rfl rfl F.b_all F.t3 tm3 rfl (show GX.GenOk nm3 (defScope (top 5)) _ _ from ⟨⟨rfl, by decide +kernel, by decide +kernel, by decide +kernel, by decide +kernel⟩, rfl, by decide +kernel, rfl⟩) sc3.nd (iv_val (evn 0)) (fun A s H Cc cl code bi fp go hrg => (gwn 1 sc3.nd)) (fun A s H Cc cl code bi fp go hrg => tsv_nil) (fun A s H Cc cl code bi fp go hrg => (ev_call I.o0 (hrg.mono (by omega)) rfl F.g0 F.F0.kp (bd0 F) (pass_gen cx_no) (av_cons (evn 1) av_nil)))) (by intro _; rfl))))))) (ssv_one (sv_ret ec_bl)) ssv_nil)
    (ssv_one (sv_ret (VV.ev (vv_and (ev_gt (ev_ix (by intro _ _; rfl) (evn 0) ec_int) ec_int) (vv_and1 (ev_eq hr.units (ev_call I.o2 (hr.mono (by omega)) rfl F.g2 F.F2.kp (bd2 F) pass_cn (av_cons (ev_ix (by intro _ _; rfl) (evn 0) ec_int) (av_cons (ev_ix (by intro _ _; rfl) (evn 0) ec_int) av_nil))) (evn 0))))))))
theorem sv4 (F : Fc w K mg base fd) (I : Ok w K mg base fd n) (A : Around) (outer : List Env) (s : Shared) (H : Hp) (E : XK) (hr : Room (4 * n + 3) (A.deeper (envOfC "plus" (defScope (top 6)) s.heap.objs.size (He.fAd K ("plus", none)) (.ref (He.codeOf K ("plus", none)))))) :
    SSV (cnOf prog w K mg base nm4 "plus" (defScope (top 6)) (He.fAd K ("plus", none)) (.ref (He.codeOf K ("plus", none))) A outer s H E (SS K)) (defBody (top 6)) (b4 (sem n)) :=
  (ssv_one (sv_ret (ev_call I.o2 (hr.mono (by omega)) rfl F.g2 F.F2.kp (bd2 F) pass_cn (av_cons (ev_add (ev_mul (ev_ix (by intro _ _; rfl) (evn 0) ec_int) (ev_ix (by intro _ _; rfl) (evn 1) ec_int)) (ev_mul (ev_ix (by intro _ _; rfl) (evn 1) ec_int) (ev_ix (by intro _ _; rfl) (evn 0) ec_int))) (av_cons (ev_mul (ev_ix (by intro _ _; rfl) (evn 0) ec_int) (ev_ix (by intro _ _; rfl) (evn 1) ec_int)) av_nil)))))
theorem sv5 (F : Fc w K mg base fd) (I : Ok w K mg base fd n) (A : Around) (outer : List Env) (s : Shared) (H : Hp) (E : XK) (hr : Room (4 * n + 3) (A.deeper (envOfC "minus" (defScope (top 7)) s.heap.objs.size (He.fAd K ("minus", none)) (.ref (He.codeOf K ("minus", none)))))) :
    SSV (cnOf prog w K mg base nm5 "minus" (defScope (top 7)) (He.fAd K ("minus", none)) (.ref (He.codeOf K ("minus", none))) A outer s H E (SS K)) (defBody (top 7)) (b5 (sem n)) :=
  (ssv_one (sv_ret (ev_call I.o2 (hr.mono (by omega)) rfl F.g2 F.F2.kp (bd2 F) pass_cn (av_cons (ev_sub (ev_mul (ev_ix (by intro _ _; rfl) (evn 0) ec_int) (ev_ix (by intro _ _; rfl) (evn 1) ec_int)) (ev_mul (ev_ix (by intro _ _; rfl) (evn 1) ec_int) (ev_ix (by intro _ _; rfl) (evn 0) ec_int))) (av_cons (ev_mul (ev_ix (by intro _ _; rfl) (evn 0) ec_int) (ev_ix (by intro _ _; rfl) (evn 1) ec_int)) av_nil)))))
theorem sv6 (F : Fc w K mg base fd) (I : Ok w K mg base fd n) (A : Around) (outer : List Env) (s : Shared) (H : Hp) (E : XK) (hr : Room (4 * n + 3) (A.deeper (envOfC "times" (defScope (top 8)) s.heap.objs.size (He.fAd K ("times", none)) (.ref (He.codeOf K ("times", none)))))) :
    SSV (cnOf prog w K mg base nm6 "times" (defScope (top 8)) (He.fAd K ("times", none)) (.ref (He.codeOf K ("times", none))) A outer s H E (SS K)) (defBody (top 8)) (b6 (sem n)) :=
  (ssv_one (sv_ret (ev_call I.o2 (hr.mono (by omega)) rfl F.g2 F.F2.kp (bd2 F) pass_cn (av_cons (ev_mul (ev_ix (by intro _ _; rfl) (evn 0) ec_int) (ev_ix (by intro _ _; rfl) (evn 1) ec_int)) (av_cons (ev_mul (ev_ix (by intro _ _; rfl) (evn 0) ec_int) (ev_ix (by intro _ _; rfl) (evn 1) ec_int)) av_nil)))))
theorem sv7 (F : Fc w K mg base fd) (I : Ok w K mg base fd n) (A : Around) (outer : List Env) (s : Shared) (H : Hp) (E : XK) (hr : Room (4 * n + 3) (A.deeper (envOfC "is_less" (defScope (top 9)) s.heap.objs.size (He.fAd K ("is_less", none)) (.ref (He.codeOf K ("is_less", none)))))) :
    SSV (cnOf prog w K mg base nm7 "is_less" (defScope (top 9)) (He.fAd K ("is_less", none)) (.ref (He.codeOf K ("is_less", none))) A outer s H E (SS K)) (defBody (top 9)) (b7 (sem n)) :=
  (ssv_one (sv_ret (ev_lt (ev_mul (ev_ix (by intro _ _; rfl) (evn 0) ec_int) (ev_ix (by intro _ _; rfl) (evn 1) ec_int)) (ev_mul (ev_ix (by intro _ _; rfl) (evn 1) ec_int) (ev_ix (by intro _ _; rfl) (evn 0) ec_int)))))
theorem sv8 (F : Fc w K mg base fd) (I : Ok w K mg base fd n) (A : Around) (outer : List Env) (s : Shared) (H : Hp) (E : XK) (hr : Room (4 * n + 3) (A.deeper (envOfC "write_quotient" (defScope (top 10)) s.heap.objs.size (He.fAd K ("write_quotient", none)) (.ref (He.codeOf K ("write_quotient", none)))))) :
    SSV (cnOf prog w K mg base nm8 "write_quotient" (defScope (top 10)) (He.fAd K ("write_quotient", none)) (.ref (He.codeOf K ("write_quotient", none))) A outer s H E (SS K)) (defBody (top 10)) (b8 (sem n)) :=
  (ssv_one (sv_ret (ev_if (tv_eq hr.units (ev_ix (by intro _ _; rfl) (evn 0) ec_int) ec_int) (ev_str rfl F.b_str (av_cons (ev_ix (by intro _ _; rfl) (evn 0) ec_int) av_nil)) (ev_add (ev_add (ev_str rfl F.b_str (av_cons (ev_ix (by intro _ _; rfl) (evn 0) ec_int) av_nil)) ec_str) (ev_str rfl F.b_str (av_cons (ev_ix (by intro _ _; rfl) (evn 0) ec_int) av_nil))))))
theorem sv9 (F : Fc w K mg base fd) (I : Ok w K mg base fd n) (A : Around) (outer : List Env) (s : Shared) (H : Hp) (E : XK) (hr : Room (4 * n + 3) (A.deeper (envOfC "read_quotient" (defScope (top 11)) s.heap.objs.size (He.fAd K ("read_quotient", none)) (.ref (He.codeOf K ("read_quotient", none)))))) :
    SSV (cnOf prog w K mg base nm9 "read_quotient" (defScope (top 11)) (He.fAd K ("read_quotient", none)) (.ref (He.codeOf K ("read_quotient", none))) A outer s H E (SS K)) (defBody (top 11)) (b9 (sem n)) :=
  (ssv_cons (sv_asg (ev_partition (evn 0) ec_str) (gv_tup rfl (gsv_cons (gvn 1 sc9.nd) (gsv_cons (gvn 2 sc9.nd) (gsv_cons (gvn 3 sc9.nd) gsv_nil)))))
    (ssv_cons (sv_if (WV.tv (wv_or (tv_not (tv_tru (ev_call I.o10 (hr.mono (by omega)) rfl F.g10 F.F10.kp (bd10 F) pass_cn (av_cons (evn 1) av_nil)) (by intro _; rfl))) (wv_or1 (WV.tv (wv_and (tv_eq hr.units (evn 2) ec_str) (wv_and1 (tv_not (tv_tru (ev_call I.o10 (hr.mono (by omega)) rfl F.g10 F.F10.kp (bd10 F) pass_cn (av_cons (evn 3) av_nil)) (by intro _; rfl))))))))) (ssv_one (sv_ret ec_non)) ssv_nil)
    (ssv_cons (svn 4 sc9.nd (ev_tup (av_cons (ev_int rfl F.b_int (av_cons (evn 1) av_nil)) (av_cons (ev_if (tv_eq hr.units (evn 2) ec_str) (ev_int rfl F.b_int (av_cons (evn 3) av_nil)) ec_int) av_nil))))
    (ssv_one (sv_ret (ev_if (WV.tv (wv_and (tv_tru (ev_call I.o3 (hr.mono (by omega)) rfl F.g3 F.F3.kp (bd3 F) pass_cn (av_cons (evn 4) av_nil)) (by intro _; rfl)) (wv_and1 (tv_eq hr.units (ev_call I.o8 (hr.mono (by omega)) rfl F.g8 F.F8.kp (bd8 F) pass_cn (av_cons (evn 4) av_nil)) (evn 0))))) (evn 4) ec_non))))))
theorem sv10 (F : Fc w K mg base fd) (I : Ok w K mg base fd n) (A : Around) (outer : List Env) (s : Shared) (H : Hp) (E : XK) (hr : Room (4 * n + 3) (A.deeper (envOfC "is_number_text" (defScope (top 12)) s.heap.objs.size (He.fAd K ("is_number_text", none)) (.ref (He.codeOf K ("is_number_text", none)))))) :
    SSV (cnOf prog w K mg base nm10 "is_number_text" (defScope (top 12)) (He.fAd K ("is_number_text", none)) (.ref (He.codeOf K ("is_number_text", none))) A outer s H E (SS K)) (defBody (top 12)) (b10 (sem n)) :=
  (ssv_cons (svn 1 sc10.nd (ev_if (tv_eq hr.units (ev_sl (evn 0) ov_none (ov_some ec_int)) ec_str) (ev_sl (evn 0) (ov_some ec_int) ov_none) (evn 0)))
    (ssv_one (sv_ret (VV.ev (vv_and (ev_chn op_le op_le ord_ok ord_ok ec_int (ev_len rfl F.b_len (av_cons (evn 1) av_nil)) ec_int) (vv_and1 (ev_all (k := 4 * n + 0) (scope := _) (own := [("sign", 2)]) (hr.mono (by omega)) rfl rfl F.b_all F.t10 tm10 rfl (show GX.GenOk nm10 (defScope (top 12)) _ _ from ⟨⟨rfl, by decide +kernel, by decide +kernel, by decide +kernel, by decide +kernel⟩, rfl, by decide +kernel, rfl⟩) sc10.nd (iv_val (evn 1)) (fun A s H Cc cl code bi fp go hrg => (gwn 2 sc10.nd)) (fun A s H Cc cl code bi fp go hrg => tsv_nil) (fun A s H Cc cl code bi fp go hrg => (ev_in (evn 2) ec_str)))))))))
theorem sv11 (F : Fc w K mg base fd) (I : Ok w K mg base fd n) (A : Around) (outer : List Env) (s : Shared) (H : Hp) (E : XK) (hr : Room (4 * n + 3) (A.deeper (envOfC "_law_box" (defScope (top 14)) s.heap.objs.size (He.fAd K ("_law_box", none)) (.ref (He.codeOf K ("_law_box", none)))))) :
    SSV (cnOf prog w K mg base nm11 "_law_box" (defScope (top 14)) (He.fAd K ("_law_box", none)) (.ref (He.codeOf K ("_law_box", none))) A outer s H E (SS K)) (defBody (top 14)) (b11 (sem n)) :=
  (ssv_one (sv_ret (ev_lst (av_cons (ev_call I.o12 (hr.mono (by omega)) rfl F.g12 F.F12.kp (bd12 F) pass_cn (av_cons (evn 0) (av_cons (evn 1) (av_cons (evn 2) av_nil)))) (av_cons ec_int av_nil)))))
theorem sv12 (F : Fc w K mg base fd) (I : Ok w K mg base fd n) (A : Around) (outer : List Env) (s : Shared) (H : Hp) (E : XK) (hr : Room (4 * n + 3) (A.deeper (envOfC "_law_digits" (defScope (top 15)) s.heap.objs.size (He.fAd K ("_law_digits", none)) (.ref (He.codeOf K ("_law_digits", none)))))) :
    SSV (cnOf prog w K mg base nm12 "_law_digits" (defScope (top 15)) (He.fAd K ("_law_digits", none)) (.ref (He.codeOf K ("_law_digits", none))) A outer s H E (SS K)) (defBody (top 15)) (b12 (sem n)) :=
  (ssv_cons (svn 3 sc12.nd (ev_lst av_nil))
    (ssv_cons (sv_for own_cn rfl (iv_range2 rfl F.b_range (av_cons (evn 1) (av_cons (evn 2) av_nil))) (gvn 4 sc12.nd) (ssv_cons (svn 5 sc12.nd (ev_call I.o13 (hr.mono (by omega)) rfl F.g13 F.F13.kp (bd13 F) pass_cn (av_cons (evn 0) (av_cons (evn 4) av_nil))))
    (ssv_cons (sv_if (tv_lt (evn 5) ec_int) (ssv_one (svn 5 sc12.nd (ev_sub ec_int (ev_mul ec_int (evn 5))))) ssv_nil)
    (ssv_one (sv_if (tv_ge (evn 5) (ev_pow ec_int ec_int)) (ssv_one (sv_for own_cn rfl (iv_range1 rfl F.b_range (av_cons ec_int av_nil)) (gvn 6 sc12.nd) (ssv_one (sv_if (tv_gt (evn 5) ec_int) (ssv_cons (sv_expr (ev_append (evn 3) (av_cons (ev_mod (ev_int rfl F.b_int (av_cons (evn 5) av_nil)) ec_int) av_nil)))
    (ssv_one (svn 5 sc12.nd (ev_fdiv (evn 5) ec_int)))) ssv_nil)))) (ssv_cons (svn 7 sc12.nd (ev_mod (ev_int rfl F.b_int (av_cons (ev_add (ev_add (ev_mul (evn 5) ec_int) (ev_mul (evn 4) ec_int)) ec_int) av_nil)) ec_int))
    (ssv_one (sv_for own_cn rfl (iv_range1 rfl F.b_range (av_cons ec_int av_nil)) (gvn 6 sc12.nd) (ssv_cons (svn 7 sc12.nd (ev_mod (ev_int rfl F.b_int (av_cons (ev_add (ev_add (ev_mul (evn 7) ec_int) (ev_mul ec_int (evn 6))) ec_int) av_nil)) ec_int))
    (ssv_one (sv_expr (ev_append (evn 3) (av_cons (ev_mod (ev_int rfl F.b_int (av_cons (ev_fdiv (evn 7) ec_int) av_nil)) ec_int) av_nil)))))))))))))
    (ssv_one (sv_ret (evn 3)))))
theorem sv13 (F : Fc w K mg base fd) (I : Ok w K mg base fd n) (A : Around) (outer : List Env) (s : Shared) (H : Hp) (E : XK) (hr : Room (4 * n + 3) (A.deeper (envOfC "_law_cell" (defScope (top 16)) s.heap.objs.size (He.fAd K ("_law_cell", none)) (.ref (He.codeOf K ("_law_cell", none)))))) :
    SSV (cnOf prog w K mg base nm13 "_law_cell" (defScope (top 16)) (He.fAd K ("_law_cell", none)) (.ref (He.codeOf K ("_law_cell", none))) A outer s H E (SS K)) (defBody (top 16)) (b13 (sem n)) :=
  (ssv_cons (sv_if (tv_lt (evn 1) (ev_len rfl F.b_len (av_cons (evn 0) av_nil))) (ssv_one (sv_ret (ev_ix (by intro _ _; rfl) (evn 0) (evn 1)))) ssv_nil)
    (ssv_one (sv_ret ec_int)))
theorem sv14 (F : Fc w K mg base fd) (I : Ok w K mg base fd n) (A : Around) (outer : List Env) (s : Shared) (H : Hp) (E : XK) (hr : Room (4 * n + 3) (A.deeper (envOfC "_law_draw" (defScope (top 17)) s.heap.objs.size (He.fAd K ("_law_draw", none)) (.ref (He.codeOf K ("_law_draw", none)))))) :
    SSV (cnOf prog w K mg base nm14 "_law_draw" (defScope (top 17)) (He.fAd K ("_law_draw", none)) (.ref (He.codeOf K ("_law_draw", none))) A outer s H E (SS K)) (defBody (top 17)) (b14 (sem n)) :=
  (ssv_cons (svn 2 sc14.nd (ev_ix (by intro _ _; rfl) (evn 0) ec_int))
    (ssv_cons (sv_asg (ev_add (evn 2) ec_int) (gv_sub (evn 0) ec_int))
    (ssv_cons (sv_if (tv_lt (evn 2) (ev_len rfl F.b_len (av_cons (ev_ix (by intro _ _; rfl) (evn 0) ec_int) av_nil))) (ssv_one (sv_ret (ev_mod (ev_int rfl F.b_int (av_cons (ev_ix (by intro _ _; rfl) (ev_ix (by intro _ _; rfl) (evn 0) ec_int) (evn 2)) av_nil)) (evn 1)))) ssv_nil)
    (ssv_one (sv_ret ec_int)))))
theorem sv15 (F : Fc w K mg base fd) (I : Ok w K mg base fd n) (A : Around) (outer : List Env) (s : Shared) (H : Hp) (E : XK) (hr : Room (4 * n + 3) (A.deeper (envOfC "_law_same" (defScope (top 18)) s.heap.objs.size (He.fAd K ("_law_same", none)) (.ref (He.codeOf K ("_law_same", none)))))) :
    SSV (cnOf prog w K mg base nm15 "_law_same" (defScope (top 18)) (He.fAd K ("_law_same", none)) (.ref (He.codeOf K ("_law_same", none))) A outer s H E (SS K)) (defBody (top 18)) (b15 (sem n)) :=
  (ssv_cons (sv_if (tv_tru (ev_isi rfl F.b_isinstance rfl F.b_tuple (by decide +kernel) (evn 1)) (by intro _; rfl)) (ssv_cons (sv_if (WV.tv (wv_or (tv_not (tv_tru (ev_isi rfl F.b_isinstance rfl F.b_tuple (by decide +kernel) (evn 0)) (by intro _; rfl))) (wv_or1 (tv_ne hr.units (ev_len rfl F.b_len (av_cons (evn 0) av_nil)) (ev_len rfl F.b_len (av_cons (evn 1) av_nil)))))) (ssv_one (sv_ret ec_bl)) ssv_nil)
    (ssv_cons (sv_for own_cn rfl (iv_range1 rfl F.b_range (av_cons (ev_len rfl F.b_len (av_cons (evn 1) av_nil)) av_nil)) (gvn 2 sc15.nd) (ssv_one (sv_if (tv_not (tv_tru (ev_call I.o15 (hr.mono (by omega)) rfl F.g15 F.F15.kp (bd15 F) pass_cn (av_cons (ev_ix (by intro _ _; rfl) (evn 0) (evn 2)) (av_cons (ev_ix (by intro _ _; rfl) (evn 1) (evn 2)) av_nil))) (by intro _; rfl))) (ssv_one (sv_ret ec_bl)) ssv_nil)))
    (ssv_one (sv_ret ec_bl)))) ssv_nil)
    (ssv_cons (sv_if (tv_is (evn 1) ec_non) (ssv_one (sv_ret (ev_is (evn 0) ec_non))) ssv_nil)
    (ssv_cons (sv_if (tv_tru (ev_isi rfl F.b_isinstance rfl F.b_bool (by decide +kernel) (evn 1)) (by intro _; rfl)) (ssv_one (sv_ret (VV.ev (vv_and (ev_isi rfl F.b_isinstance rfl F.b_bool (by decide +kernel) (evn 0)) (vv_and1 (ev_eq hr.units (evn 0) (evn 1))))))) ssv_nil)
    (ssv_cons (sv_if (tv_tru (ev_isi rfl F.b_isinstance rfl F.b_int (by decide +kernel) (evn 1)) (by intro _; rfl)) (ssv_one (sv_ret (VV.ev (vv_and (ev_isi rfl F.b_isinstance rfl F.b_int (by decide +kernel) (evn 0)) (vv_and (ev_notv (ev_isi rfl F.b_isinstance rfl F.b_bool (by decide +kernel) (evn 0))) (vv_and1 (ev_eq hr.units (evn 0) (evn 1)))))))) ssv_nil)
    (ssv_one (sv_ret (VV.ev (vv_and (ev_isi rfl F.b_isinstance rfl F.b_str (by decide +kernel) (evn 0)) (vv_and1 (ev_eq hr.units (evn 0) (evn 1)))))))))))
theorem sv16 (F : Fc w K mg base fd) (I : Ok w K mg base fd n) (A : Around) (outer : List Env) (s : Shared) (H : Hp) (E : XK) (hr : Room (4 * n + 3) (A.deeper (envOfC "_law_short" (defScope (top 19)) s.heap.objs.size (He.fAd K ("_law_short", none)) (.ref (He.codeOf K ("_law_short", none)))))) :
    SSV (cnOf prog w K mg base nm16 "_law_short" (defScope (top 19)) (He.fAd K ("_law_short", none)) (.ref (He.codeOf K ("_law_short", none))) A outer s H E (SS K)) (defBody (top 19)) (b16 (sem n)) :=
  (ssv_cons (sv_for own_cn rfl (iv_val (ev_lst (av_cons ec_int (av_cons ec_int (av_cons ec_int (av_cons ec_int (av_cons ec_int av_nil))))))) (gvn 2 sc16.nd) (ssv_one (sv_for own_cn rfl (iv_range1 rfl F.b_range (av_cons ec_int av_nil)) (gvn 3 sc16.nd) (ssv_one (sv_if (WV.tv (wv_and (tv_eq hr.units (ev_mod (ev_int rfl F.b_int (av_cons (evn 0) av_nil)) (evn 2)) ec_int) (wv_and1 (tv_eq hr.units (ev_mod (ev_int rfl F.b_int (av_cons (evn 1) av_nil)) (evn 2)) ec_int)))) (ssv_cons (svn 0 sc16.nd (ev_fdiv (evn 0) (evn 2)))
    (ssv_cons (svn 1 sc16.nd (ev_fdiv (evn 1) (evn 2)))
    (ssv_one (sv_if (tv_eq hr.units (evn 0) ec_int) (ssv_one (svn 1 sc16.nd ec_int)) ssv_nil)))) ssv_nil)))))
    (ssv_cons (sv_if (tv_eq hr.units (evn 0) ec_int) (ssv_one (svn 1 sc16.nd ec_int)) ssv_nil)
    (ssv_one (sv_ret (ev_tup (av_cons (evn 0) (av_cons (evn 1) av_nil)))))))
theorem sv17 (F : Fc w K mg base fd) (I : Ok w K mg base fd n) (A : Around) (outer : List Env) (s : Shared) (H : Hp) (E : XK) (hr : Room (4 * n + 3) (A.deeper (envOfC "law" (defScope (top 20)) s.heap.objs.size (He.fAd K ("law", none)) (.ref (He.codeOf K ("law", none)))))) :
    SSV (cnOf prog w K mg base nm17 "law" (defScope (top 20)) (He.fAd K ("law", none)) (.ref (He.codeOf K ("law", none))) A outer s H E (SS K)) (defBody (top 20)) (b17 (sem n)) :=
  (ssv_cons (svn 1 sc17.nd (ev_call I.o11 (hr.mono (by omega)) rfl F.g11 F.F11.kp (bd11 F) pass_cn (av_cons (evn 0) (av_cons ec_int (av_cons ec_int av_nil)))))
    (ssv_cons (sv_for own_cn rfl (iv_range1 rfl F.b_range (av_cons ec_int av_nil)) (gvn 2 sc17.nd) (ssv_cons (svn 3 sc17.nd (ev_call I.o16 (hr.mono (by omega)) rfl F.g16 F.F16.kp (bd16 F) pass_cn (av_cons (ev_sub (ev_call I.o14 (hr.mono (by omega)) rfl F.g14 F.F14.kp (bd14 F) pass_cn (av_cons (evn 1) (av_cons ec_int av_nil))) ec_int) (av_cons (ev_add ec_int (ev_call I.o14 (hr.mono (by omega)) rfl F.g14 F.F14.kp (bd14 F) pass_cn (av_cons (evn 1) (av_cons ec_int av_nil)))) av_nil))))
    (ssv_cons (svn 4 sc17.nd (ev_call I.o16 (hr.mono (by omega)) rfl F.g16 F.F16.kp (bd16 F) pass_cn (av_cons (ev_sub (ev_call I.o14 (hr.mono (by omega)) rfl F.g14 F.F14.kp (bd14 F) pass_cn (av_cons (evn 1) (av_cons ec_int av_nil))) ec_int) (av_cons (ev_add ec_int (ev_call I.o14 (hr.mono (by omega)) rfl F.g14 F.F14.kp (bd14 F) pass_cn (av_cons (evn 1) (av_cons ec_int av_nil)))) av_nil))))
    (ssv_cons (svn 5 sc17.nd (ev_ix (by intro _ _; rfl) (ev_lst (av_cons ec_int (av_cons (ev_sub ec_int ec_int) av_nil))) (ev_call I.o14 (hr.mono (by omega)) rfl F.g14 F.F14.kp (bd14 F) pass_cn (av_cons (evn 1) (av_cons ec_int av_nil)))))
    (ssv_cons (svn 6 sc17.nd (ev_add ec_int (ev_call I.o14 (hr.mono (by omega)) rfl F.g14 F.F14.kp (bd14 F) pass_cn (av_cons (evn 1) (av_cons ec_int av_nil)))))
    (ssv_cons (sv_if (WV.tv (wv_or (tv_not (tv_tru (ev_call I.o15 (hr.mono (by omega)) rfl F.g15 F.F15.kp (bd15 F) pass_cn (av_cons (ev_call I.o2 (hr.mono (by omega)) rfl F.g2 F.F2.kp (bd2 F) pass_cn (av_cons (ev_mul (ev_mul (evn 5) (evn 6)) (ev_ix (by intro _ _; rfl) (evn 3) ec_int)) (av_cons (ev_mul (ev_mul (evn 5) (evn 6)) (ev_ix (by intro _ _; rfl) (evn 3) ec_int)) av_nil))) (av_cons (evn 3) av_nil))) (by intro _; rfl))) (wv_or1 (tv_isnot (ev_call I.o3 (hr.mono (by omega)) rfl F.g3 F.F3.kp (bd3 F) pass_cn (av_cons (evn 3) av_nil)) ec_bl)))) (ssv_one (sv_ret ec_bl)) ssv_nil)
    (ssv_cons (svn 7 sc17.nd (ev_mul (ev_ix (by intro _ _; rfl) (evn 3) ec_int) (ev_ix (by intro _ _; rfl) (evn 4) ec_int)))
    (ssv_cons (sv_if (tv_not (tv_tru (ev_call I.o15 (hr.mono (by omega)) rfl F.g15 F.F15.kp (bd15 F) pass_cn (av_cons (ev_call I.o4 (hr.mono (by omega)) rfl F.g4 F.F4.kp (bd4 F) pass_cn (av_cons (evn 3) (av_cons (evn 4) av_nil))) (av_cons (ev_call I.o16 (hr.mono (by omega)) rfl F.g16 F.F16.kp (bd16 F) pass_cn (av_cons (ev_add (ev_mul (ev_ix (by intro _ _; rfl) (evn 3) ec_int) (ev_ix (by intro _ _; rfl) (evn 4) ec_int)) (ev_mul (ev_ix (by intro _ _; rfl) (evn 4) ec_int) (ev_ix (by intro _ _; rfl) (evn 3) ec_int))) (av_cons (evn 7) av_nil))) av_nil))) (by intro _; rfl))) (ssv_one (sv_ret ec_bl)) ssv_nil)
    (ssv_cons (sv_if (tv_not (tv_tru (ev_call I.o15 (hr.mono (by omega)) rfl F.g15 F.F15.kp (bd15 F) pass_cn (av_cons (ev_call I.o5 (hr.mono (by omega)) rfl F.g5 F.F5.kp (bd5 F) pass_cn (av_cons (evn 3) (av_cons (evn 4) av_nil))) (av_cons (ev_call I.o16 (hr.mono (by omega)) rfl F.g16 F.F16.kp (bd16 F) pass_cn (av_cons (ev_sub (ev_mul (ev_ix (by intro _ _; rfl) (evn 3) ec_int) (ev_ix (by intro _ _; rfl) (evn 4) ec_int)) (ev_mul (ev_ix (by intro _ _; rfl) (evn 4) ec_int) (ev_ix (by intro _ _; rfl) (evn 3) ec_int))) (av_cons (evn 7) av_nil))) av_nil))) (by intro _; rfl))) (ssv_one (sv_ret ec_bl)) ssv_nil)
    (ssv_cons (sv_if (WV.tv (wv_or (tv_not (tv_tru (ev_call I.o15 (hr.mono (by omega)) rfl F.g15 F.F15.kp (bd15 F) pass_cn (av_cons (ev_call I.o6 (hr.mono (by omega)) rfl F.g6 F.F6.kp (bd6 F) pass_cn (av_cons (evn 3) (av_cons (evn 4) av_nil))) (av_cons (ev_call I.o16 (hr.mono (by omega)) rfl F.g16 F.F16.kp (bd16 F) pass_cn (av_cons (ev_mul (ev_ix (by intro _ _; rfl) (evn 3) ec_int) (ev_ix (by intro _ _; rfl) (evn 4) ec_int)) (av_cons (evn 7) av_nil))) av_nil))) (by intro _; rfl))) (wv_or1 (tv_not (tv_tru (ev_call I.o15 (hr.mono (by omega)) rfl F.g15 F.F15.kp (bd15 F) pass_cn (av_cons (ev_call I.o7 (hr.mono (by omega)) rfl F.g7 F.F7.kp (bd7 F) pass_cn (av_cons (evn 3) (av_cons (evn 4) av_nil))) (av_cons (ev_lt (ev_mul (ev_ix (by intro _ _; rfl) (evn 3) ec_int) (ev_ix (by intro _ _; rfl) (evn 4) ec_int)) (ev_mul (ev_ix (by intro _ _; rfl) (evn 4) ec_int) (ev_ix (by intro _ _; rfl) (evn 3) ec_int))) av_nil))) (by intro _; rfl)))))) (ssv_one (sv_ret ec_bl)) ssv_nil)
    (ssv_cons (svn 8 sc17.nd (ev_str rfl F.b_str (av_cons (ev_ix (by intro _ _; rfl) (evn 3) ec_int) av_nil)))
    (ssv_cons (sv_if (tv_ne hr.units (ev_ix (by intro _ _; rfl) (evn 3) ec_int) ec_int) (ssv_one (svn 8 sc17.nd (ev_add (ev_add (evn 8) ec_str) (ev_str rfl F.b_str (av_cons (ev_ix (by intro _ _; rfl) (evn 3) ec_int) av_nil))))) ssv_nil)
    (ssv_one (sv_if (WV.tv (wv_or (tv_not (tv_tru (ev_call I.o15 (hr.mono (by omega)) rfl F.g15 F.F15.kp (bd15 F) pass_cn (av_cons (ev_call I.o8 (hr.mono (by omega)) rfl F.g8 F.F8.kp (bd8 F) pass_cn (av_cons (evn 3) av_nil)) (av_cons (evn 8) av_nil))) (by intro _; rfl))) (wv_or1 (tv_not (tv_tru (ev_call I.o15 (hr.mono (by omega)) rfl F.g15 F.F15.kp (bd15 F) pass_cn (av_cons (ev_call I.o9 (hr.mono (by omega)) rfl F.g9 F.F9.kp (bd9 F) pass_cn (av_cons (evn 8) av_nil)) (av_cons (evn 3) av_nil))) (by intro _; rfl)))))) (ssv_one (sv_ret ec_bl)) ssv_nil))))))))))))))
    (ssv_cons (svn 9 sc17.nd (ev_lst (av_cons ec_non (av_cons (ev_tup (av_cons ec_int av_nil)) (av_cons (ev_tup (av_cons ec_int (av_cons ec_int av_nil))) (av_cons (ev_tup (av_cons ec_int (av_cons ec_int av_nil))) (av_cons (ev_tup (av_cons ec_int (av_cons (ev_sub ec_int ec_int) av_nil))) (av_cons (ev_tup (av_cons ec_int (av_cons ec_int av_nil))) (av_cons (ev_tup (av_cons ec_bl (av_cons ec_int av_nil))) (av_cons (ev_lst (av_cons ec_int (av_cons ec_int av_nil))) (av_cons (ev_tup (av_cons ec_int (av_cons ec_int (av_cons ec_int av_nil)))) (av_cons ec_str av_nil))))))))))))
    (ssv_cons (sv_if (tv_isnot (ev_call I.o3 (hr.mono (by omega)) rfl F.g3 F.F3.kp (bd3 F) pass_cn (av_cons (ev_ix (by intro _ _; rfl) (evn 9) (ev_call I.o14 (hr.mono (by omega)) rfl F.g14 F.F14.kp (bd14 F) pass_cn (av_cons (evn 1) (av_cons ec_int av_nil)))) av_nil)) ec_bl) (ssv_one (sv_ret ec_bl)) ssv_nil)
    (ssv_cons (svn 10 sc17.nd (ev_lst (av_cons ec_str (av_cons ec_str (av_cons ec_str (av_cons ec_str (av_cons ec_str (av_cons ec_str (av_cons ec_str (av_cons ec_str (av_cons ec_str (av_cons ec_str (av_cons ec_str (av_cons ec_str (av_cons ec_str (av_cons ec_str av_nil))))))))))))))))
    (ssv_one (sv_ret (ev_is (ev_call I.o9 (hr.mono (by omega)) rfl F.g9 F.F9.kp (bd9 F) pass_cn (av_cons (ev_ix (by intro _ _; rfl) (evn 10) (ev_call I.o14 (hr.mono (by omega)) rfl F.g14 F.F14.kp (bd14 F) pass_cn (av_cons (evn 1) (av_cons ec_int av_nil)))) av_nil)) ec_non))))))))
theorem st0 (F : Fc w K mg base fd) (I : Ok w K mg base fd n) : FnOk prog w K mg base (CX prog w) (4 * (n + 1)) (He.fAd K ("is_whole", none)) (fd 0) ["value"] (spM K (SS K) (sem (n + 1) 0)) :=
  fn_okC (k := 4 * n + 3) ("is_whole", none) F.F0 sc0 fun A outer s H E hr => sv0 F I A outer s H E hr
theorem st1 (F : Fc w K mg base fd) (I : Ok w K mg base fd n) : FnOk prog w K mg base (CX prog w) (4 * (n + 1)) (He.fAd K ("common_divisor", none)) (fd 1) ["one", "two"] (spM K (SS K) (sem (n + 1) 1)) :=
  fn_okC (k := 4 * n + 3) ("common_divisor", none) F.F1 sc1 fun A outer s H E hr => sv1 F I A outer s H E hr
theorem st2 (F : Fc w K mg base fd) (I : Ok w K mg base fd n) : FnOk prog w K mg base (CX prog w) (4 * (n + 1)) (He.fAd K ("quotient", none)) (fd 2) ["top", "bottom"] (spM K (SS K) (sem (n + 1) 2)) :=
  fn_okC (k := 4 * n + 3) ("quotient", none) F.F2 sc2 fun A outer s H E hr => sv2 F I A outer s H E hr
theorem st3 (F : Fc w K mg base fd) (I : Ok w K mg base fd n) : FnOk prog w K mg base (CX prog w) (4 * (n + 1)) (He.fAd K ("is_quotient", none)) (fd 3) ["value"] (spM K (SS K) (sem (n + 1) 3)) :=
  fn_okC (k := 4 * n + 3) ("is_quotient", none) F.F3 sc3 fun A outer s H E hr => sv3 F I A outer s H E hr
theorem st4 (F : Fc w K mg base fd) (I : Ok w K mg base fd n) : FnOk prog w K mg base (CX prog w) (4 * (n + 1)) (He.fAd K ("plus", none)) (fd 4) ["one", "two"] (spM K (SS K) (sem (n + 1) 4)) :=
  fn_okC (k := 4 * n + 3) ("plus", none) F.F4 sc4 fun A outer s H E hr => sv4 F I A outer s H E hr
theorem st5 (F : Fc w K mg base fd) (I : Ok w K mg base fd n) : FnOk prog w K mg base (CX prog w) (4 * (n + 1)) (He.fAd K ("minus", none)) (fd 5) ["one", "two"] (spM K (SS K) (sem (n + 1) 5)) :=
  fn_okC (k := 4 * n + 3) ("minus", none) F.F5 sc5 fun A outer s H E hr => sv5 F I A outer s H E hr
theorem st6 (F : Fc w K mg base fd) (I : Ok w K mg base fd n) : FnOk prog w K mg base (CX prog w) (4 * (n + 1)) (He.fAd K ("times", none)) (fd 6) ["one", "two"] (spM K (SS K) (sem (n + 1) 6)) :=
  fn_okC (k := 4 * n + 3) ("times", none) F.F6 sc6 fun A outer s H E hr => sv6 F I A outer s H E hr
theorem st7 (F : Fc w K mg base fd) (I : Ok w K mg base fd n) : FnOk prog w K mg base (CX prog w) (4 * (n + 1)) (He.fAd K ("is_less", none)) (fd 7) ["one", "two"] (spM K (SS K) (sem (n + 1) 7)) :=
  fn_okC (k := 4 * n + 3) ("is_less", none) F.F7 sc7 fun A outer s H E hr => sv7 F I A outer s H E hr
theorem st8 (F : Fc w K mg base fd) (I : Ok w K mg base fd n) : FnOk prog w K mg base (CX prog w) (4 * (n + 1)) (He.fAd K ("write_quotient", none)) (fd 8) ["own"] (spM K (SS K) (sem (n + 1) 8)) :=
  fn_okC (k := 4 * n + 3) ("write_quotient", none) F.F8 sc8 fun A outer s H E hr => sv8 F I A outer s H E hr
theorem st9 (F : Fc w K mg base fd) (I : Ok w K mg base fd n) : FnOk prog w K mg base (CX prog w) (4 * (n + 1)) (He.fAd K ("read_quotient", none)) (fd 9) ["text"] (spM K (SS K) (sem (n + 1) 9)) :=
  fn_okC (k := 4 * n + 3) ("read_quotient", none) F.F9 sc9 fun A outer s H E hr => sv9 F I A outer s H E hr
theorem st10 (F : Fc w K mg base fd) (I : Ok w K mg base fd n) : FnOk prog w K mg base (CX prog w) (4 * (n + 1)) (He.fAd K ("is_number_text", none)) (fd 10) ["text"] (spM K (SS K) (sem (n + 1) 10)) :=
  fn_okC (k := 4 * n + 3) ("is_number_text", none) F.F10 sc10 fun A outer s H E hr => sv10 F I A outer s H E hr
theorem st11 (F : Fc w K mg base fd) (I : Ok w K mg base fd n) : FnOk prog w K mg base (CX prog w) (4 * (n + 1)) (He.fAd K ("_law_box", none)) (fd 11) ["script", "first", "last"] (spM K (SS K) (sem (n + 1) 11)) :=
  fn_okC (k := 4 * n + 3) ("_law_box", none) F.F11 sc11 fun A outer s H E hr => sv11 F I A outer s H E hr
theorem st12 (F : Fc w K mg base fd) (I : Ok w K mg base fd n) : FnOk prog w K mg base (CX prog w) (4 * (n + 1)) (He.fAd K ("_law_digits", none)) (fd 12) ["script", "first", "last"] (spM K (SS K) (sem (n + 1) 12)) :=
  fn_okC (k := 4 * n + 3) ("_law_digits", none) F.F12 sc12 fun A outer s H E hr => sv12 F I A outer s H E hr
theorem st13 (F : Fc w K mg base fd) (I : Ok w K mg base fd n) : FnOk prog w K mg base (CX prog w) (4 * (n + 1)) (He.fAd K ("_law_cell", none)) (fd 13) ["script", "k"] (spM K (SS K) (sem (n + 1) 13)) :=
  fn_okC (k := 4 * n + 3) ("_law_cell", none) F.F13 sc13 fun A outer s H E hr => sv13 F I A outer s H E hr
theorem st14 (F : Fc w K mg base fd) (I : Ok w K mg base fd n) : FnOk prog w K mg base (CX prog w) (4 * (n + 1)) (He.fAd K ("_law_draw", none)) (fd 14) ["box", "many"] (spM K (SS K) (sem (n + 1) 14)) :=
  fn_okC (k := 4 * n + 3) ("_law_draw", none) F.F14 sc14 fun A outer s H E hr => sv14 F I A outer s H E hr
theorem st15 (F : Fc w K mg base fd) (I : Ok w K mg base fd n) : FnOk prog w K mg base (CX prog w) (4 * (n + 1)) (He.fAd K ("_law_same", none)) (fd 15) ["actual", "expected"] (spM K (SS K) (sem (n + 1) 15)) :=
  fn_okC (k := 4 * n + 3) ("_law_same", none) F.F15 sc15 fun A outer s H E hr => sv15 F I A outer s H E hr
theorem st16 (F : Fc w K mg base fd) (I : Ok w K mg base fd n) : FnOk prog w K mg base (CX prog w) (4 * (n + 1)) (He.fAd K ("_law_short", none)) (fd 16) ["top", "bottom"] (spM K (SS K) (sem (n + 1) 16)) :=
  fn_okC (k := 4 * n + 3) ("_law_short", none) F.F16 sc16 fun A outer s H E hr => sv16 F I A outer s H E hr
theorem st17 (F : Fc w K mg base fd) (I : Ok w K mg base fd n) : FnOk prog w K mg base (CX prog w) (4 * (n + 1)) (He.fAd K ("law", none)) (fd 17) ["script"] (spM K (SS K) (sem (n + 1) 17)) :=
  fn_okC (k := 4 * n + 3) ("law", none) F.F17 sc17 fun A outer s H E hr => sv17 F I A outer s H E hr
theorem oks (F : Fc w K mg base fd) : ∀ n, Ok w K mg base fd n
  | 0 => ⟨fn_bad fun _ _ => rfl, fn_bad fun _ _ => rfl, fn_bad fun _ _ => rfl, fn_bad fun _ _ => rfl, fn_bad fun _ _ => rfl, fn_bad fun _ _ => rfl, fn_bad fun _ _ => rfl, fn_bad fun _ _ => rfl, fn_bad fun _ _ => rfl, fn_bad fun _ _ => rfl, fn_bad fun _ _ => rfl, fn_bad fun _ _ => rfl, fn_bad fun _ _ => rfl, fn_bad fun _ _ => rfl, fn_bad fun _ _ => rfl, fn_bad fun _ _ => rfl, fn_bad fun _ _ => rfl, fn_bad fun _ _ => rfl⟩
  | n + 1 => ⟨st0 F (oks F n), st1 F (oks F n), st2 F (oks F n), st3 F (oks F n), st4 F (oks F n), st5 F (oks F n), st6 F (oks F n), st7 F (oks F n), st8 F (oks F n), st9 F (oks F n), st10 F (oks F n), st11 F (oks F n), st12 F (oks F n), st13 F (oks F n), st14 F (oks F n), st15 F (oks F n), st16 F (oks F n), st17 F (oks F n)⟩
end
/-! the head -/
def dfs : List He.DefD := [⟨("is_whole", none), "is_whole", "is_whole", defArgs (top 1), defBody (top 1), defScope (top 1), [], []⟩,
  ⟨("common_divisor", none), "common_divisor", "common_divisor", defArgs (top 3), defBody (top 3), defScope (top 3), [], []⟩,
  ⟨("quotient", none), "quotient", "quotient", defArgs (top 4), defBody (top 4), defScope (top 4), [], []⟩,
  ⟨("is_quotient", none), "is_quotient", "is_quotient", defArgs (top 5), defBody (top 5), defScope (top 5), [], []⟩,
  ⟨("plus", none), "plus", "plus", defArgs (top 6), defBody (top 6), defScope (top 6), [], []⟩,
  ⟨("minus", none), "minus", "minus", defArgs (top 7), defBody (top 7), defScope (top 7), [], []⟩,
  ⟨("times", none), "times", "times", defArgs (top 8), defBody (top 8), defScope (top 8), [], []⟩,
  ⟨("is_less", none), "is_less", "is_less", defArgs (top 9), defBody (top 9), defScope (top 9), [], []⟩,
  ⟨("write_quotient", none), "write_quotient", "write_quotient", defArgs (top 10), defBody (top 10), defScope (top 10), [], []⟩,
  ⟨("read_quotient", none), "read_quotient", "read_quotient", defArgs (top 11), defBody (top 11), defScope (top 11), [], []⟩,
  ⟨("is_number_text", none), "is_number_text", "is_number_text", defArgs (top 12), defBody (top 12), defScope (top 12), [], []⟩,
  ⟨("_law_box", none), "_law_box", "_law_box", defArgs (top 14), defBody (top 14), defScope (top 14), [], []⟩,
  ⟨("_law_digits", none), "_law_digits", "_law_digits", defArgs (top 15), defBody (top 15), defScope (top 15), [], []⟩,
  ⟨("_law_cell", none), "_law_cell", "_law_cell", defArgs (top 16), defBody (top 16), defScope (top 16), [], []⟩,
  ⟨("_law_draw", none), "_law_draw", "_law_draw", defArgs (top 17), defBody (top 17), defScope (top 17), [], []⟩,
  ⟨("_law_same", none), "_law_same", "_law_same", defArgs (top 18), defBody (top 18), defScope (top 18), [], []⟩,
  ⟨("_law_short", none), "_law_short", "_law_short", defArgs (top 19), defBody (top 19), defScope (top 19), [], []⟩,
  ⟨("law", none), "law", "law", defArgs (top 20), defBody (top 20), defScope (top 20), [], []⟩]
def fas : List He.Fa := [.glo "is_whole", .glo "common_divisor", .glo "quotient", .glo "is_quotient", .glo "plus", .glo "minus", .glo "times", .glo "is_less", .glo "write_quotient", .glo "read_quotient", .glo "is_number_text", .glo "_law_box", .glo "_law_digits", .glo "_law_cell", .glo "_law_draw", .glo "_law_same", .glo "_law_short", .glo "law", .free "abs", .free "all", .free "bool", .free "int", .free "isinstance", .free "len", .free "range", .free "str", .free "tuple"]
def tfs : List He.Defn := [("is_quotient", none), ("is_number_text", none)]
abbrev R : PySem.W.OpenRow := PySem.W.OpenLaw.row PySem.Challenge.rw_toldcost_k30_quotients
abbrev hk : PySem.W.Hook := He.hookX 4 fas dfs [] tfs fun _ => true
def ob (s : PySem.W.SharedT) : He.AlX := He.obsX 4 fas dfs [] tfs (fun _ => true) (HandSHeadRun.getT s)
theorem ob_eq (s : PySem.W.SharedT) : ob s = hk.obs s.abs := He.obsX_eq (HandSHeadRun.getT_eq s)
def lse : List Str := ["is_whole", "common_divisor", "quotient", "is_quotient", "plus", "minus", "times", "is_less", "write_quotient", "read_quotient", "is_number_text", "_law_box", "_law_digits", "_law_cell", "_law_draw", "_law_same", "_law_short", "__name__"]
theorem run (w : World) : HandSHeadRun.RunEq R (PySem.W.view R.prog [20]) hk ob 1360 lse w := by
  intro os
  kernel_rfl
theorem facts {w : World} {K : PySem.W.Frag} {h : Heap} {mg : Str → Option Value} (KX : K.In h) (G : h.Ns mainGlobals mg) (c : He.SaysX fas dfs [] tfs (fun _ => true) w h K) :
    ∃ fd : Nat → FuncData, FunD K "law" "law" (defArgs (top 20)) (defBody (top 20)) (defScope (top 20)) [] [] (He.fAd K ("law", none)) (fd 17) ∧ ∀ base : Heap, (∀ p ∈ tfs.map (He.cT K), LamX.TabB base mg p.1 p.2) → Fc w K mg base fd := by
  obtain ⟨f0, F0⟩ := c.t.d.def_ 0 (d := ⟨("is_whole", none), "is_whole", "is_whole", defArgs (top 1), defBody (top 1), defScope (top 1), [], []⟩) rfl
  obtain ⟨f1, F1⟩ := c.t.d.def_ 1 (d := ⟨("common_divisor", none), "common_divisor", "common_divisor", defArgs (top 3), defBody (top 3), defScope (top 3), [], []⟩) rfl
  obtain ⟨f2, F2⟩ := c.t.d.def_ 2 (d := ⟨("quotient", none), "quotient", "quotient", defArgs (top 4), defBody (top 4), defScope (top 4), [], []⟩) rfl
  obtain ⟨f3, F3⟩ := c.t.d.def_ 3 (d := ⟨("is_quotient", none), "is_quotient", "is_quotient", defArgs (top 5), defBody (top 5), defScope (top 5), [], []⟩) rfl
  obtain ⟨f4, F4⟩ := c.t.d.def_ 4 (d := ⟨("plus", none), "plus", "plus", defArgs (top 6), defBody (top 6), defScope (top 6), [], []⟩) rfl
  obtain ⟨f5, F5⟩ := c.t.d.def_ 5 (d := ⟨("minus", none), "minus", "minus", defArgs (top 7), defBody (top 7), defScope (top 7), [], []⟩) rfl
  obtain ⟨f6, F6⟩ := c.t.d.def_ 6 (d := ⟨("times", none), "times", "times", defArgs (top 8), defBody (top 8), defScope (top 8), [], []⟩) rfl
  obtain ⟨f7, F7⟩ := c.t.d.def_ 7 (d := ⟨("is_less", none), "is_less", "is_less", defArgs (top 9), defBody (top 9), defScope (top 9), [], []⟩) rfl
  obtain ⟨f8, F8⟩ := c.t.d.def_ 8 (d := ⟨("write_quotient", none), "write_quotient", "write_quotient", defArgs (top 10), defBody (top 10), defScope (top 10), [], []⟩) rfl
  obtain ⟨f9, F9⟩ := c.t.d.def_ 9 (d := ⟨("read_quotient", none), "read_quotient", "read_quotient", defArgs (top 11), defBody (top 11), defScope (top 11), [], []⟩) rfl
  obtain ⟨f10, F10⟩ := c.t.d.def_ 10 (d := ⟨("is_number_text", none), "is_number_text", "is_number_text", defArgs (top 12), defBody (top 12), defScope (top 12), [], []⟩) rfl
  obtain ⟨f11, F11⟩ := c.t.d.def_ 11 (d := ⟨("_law_box", none), "_law_box", "_law_box", defArgs (top 14), defBody (top 14), defScope (top 14), [], []⟩) rfl
  obtain ⟨f12, F12⟩ := c.t.d.def_ 12 (d := ⟨("_law_digits", none), "_law_digits", "_law_digits", defArgs (top 15), defBody (top 15), defScope (top 15), [], []⟩) rfl
  obtain ⟨f13, F13⟩ := c.t.d.def_ 13 (d := ⟨("_law_cell", none), "_law_cell", "_law_cell", defArgs (top 16), defBody (top 16), defScope (top 16), [], []⟩) rfl
  obtain ⟨f14, F14⟩ := c.t.d.def_ 14 (d := ⟨("_law_draw", none), "_law_draw", "_law_draw", defArgs (top 17), defBody (top 17), defScope (top 17), [], []⟩) rfl
  obtain ⟨f15, F15⟩ := c.t.d.def_ 15 (d := ⟨("_law_same", none), "_law_same", "_law_same", defArgs (top 18), defBody (top 18), defScope (top 18), [], []⟩) rfl
  obtain ⟨f16, F16⟩ := c.t.d.def_ 16 (d := ⟨("_law_short", none), "_law_short", "_law_short", defArgs (top 19), defBody (top 19), defScope (top 19), [], []⟩) rfl
  obtain ⟨f17, F17⟩ := c.t.d.def_ 17 (d := ⟨("law", none), "law", "law", defArgs (top 20), defBody (top 20), defScope (top 20), [], []⟩) rfl
  refine ⟨fun i => [f0, f1, f2, f3, f4, f5, f6, f7, f8, f9, f10, f11, f12, f13, f14, f15, f16, f17].getD i f0, F17, fun base TB => ?_⟩
  have T3 := TB (He.cT K ("is_quotient", none)) (.head _)
  have T10 := TB (He.cT K ("is_number_text", none)) (.tail _ (.head _))
  exact {
    F0 := F0,
    g0 := He.glo_ok KX G (c.t.d.fact 0 (f := .glo "is_whole") rfl),
    F1 := F1,
    g1 := He.glo_ok KX G (c.t.d.fact 1 (f := .glo "common_divisor") rfl),
    F2 := F2,
    g2 := He.glo_ok KX G (c.t.d.fact 2 (f := .glo "quotient") rfl),
    F3 := F3,
    g3 := He.glo_ok KX G (c.t.d.fact 3 (f := .glo "is_quotient") rfl),
    F4 := F4,
    g4 := He.glo_ok KX G (c.t.d.fact 4 (f := .glo "plus") rfl),
    F5 := F5,
    g5 := He.glo_ok KX G (c.t.d.fact 5 (f := .glo "minus") rfl),
    F6 := F6,
    g6 := He.glo_ok KX G (c.t.d.fact 6 (f := .glo "times") rfl),
    F7 := F7,
    g7 := He.glo_ok KX G (c.t.d.fact 7 (f := .glo "is_less") rfl),
    F8 := F8,
    g8 := He.glo_ok KX G (c.t.d.fact 8 (f := .glo "write_quotient") rfl),
    F9 := F9,
    g9 := He.glo_ok KX G (c.t.d.fact 9 (f := .glo "read_quotient") rfl),
    F10 := F10,
    g10 := He.glo_ok KX G (c.t.d.fact 10 (f := .glo "is_number_text") rfl),
    F11 := F11,
    g11 := He.glo_ok KX G (c.t.d.fact 11 (f := .glo "_law_box") rfl),
    F12 := F12,
    g12 := He.glo_ok KX G (c.t.d.fact 12 (f := .glo "_law_digits") rfl),
    F13 := F13,
    g13 := He.glo_ok KX G (c.t.d.fact 13 (f := .glo "_law_cell") rfl),
    F14 := F14,
    g14 := He.glo_ok KX G (c.t.d.fact 14 (f := .glo "_law_draw") rfl),
    F15 := F15,
    g15 := He.glo_ok KX G (c.t.d.fact 15 (f := .glo "_law_same") rfl),
    F16 := F16,
    g16 := He.glo_ok KX G (c.t.d.fact 16 (f := .glo "_law_short") rfl),
    F17 := F17,
    g17 := He.glo_ok KX G (c.t.d.fact 17 (f := .glo "law") rfl),
    b_abs := He.free_ok KX G (c.t.d.fact 18 (f := .free "abs") rfl),
    b_all := He.free_ok KX G (c.t.d.fact 19 (f := .free "all") rfl),
    b_bool := He.free_ok KX G (c.t.d.fact 20 (f := .free "bool") rfl),
    b_int := He.free_ok KX G (c.t.d.fact 21 (f := .free "int") rfl),
    b_isinstance := He.free_ok KX G (c.t.d.fact 22 (f := .free "isinstance") rfl),
    b_len := He.free_ok KX G (c.t.d.fact 23 (f := .free "len") rfl),
    b_range := He.free_ok KX G (c.t.d.fact 24 (f := .free "range") rfl),
    b_str := He.free_ok KX G (c.t.d.fact 25 (f := .free "str") rfl),
    b_tuple := He.free_ok KX G (c.t.d.fact 26 (f := .free "tuple") rfl),
    t3 := ⟨T3.code, T3.bm, T3.gP⟩,
    t10 := ⟨T10.code, T10.bm, T10.gP⟩ }
end T30
open PySem PySem.W PySem.Calls PyProof.Rows
theorem t30_holds (pure_ok : EV.PureOk (T30.sem 20 17) 63) : PySem.Challenge.rw_toldcost_k30_quotients.Holds := by
  w_on; o_law
  refine HandSHeadRun.head_any (r := OpenLaw.row PySem.Challenge.rw_toldcost_k30_quotients) (q := view (OpenLaw.row PySem.Challenge.rw_toldcost_k30_quotients).prog [20]) (H := T30.hk) (ob := T30.ob) (M := 1360) (loose := T30.lse) (d := HandSHeadRun.topDef (OpenLaw.row PySem.Challenge.rw_toldcost_k30_quotients).prog 20) (kwd := []) T30.ob_eq
    (by kernel_rfl) (fun s => by kernel_rfl) T30.run (by kernel_rfl) (by kernel_rfl) (by kernel_rfl) (by rfl) (by first | assumption | decide +kernel) (by decide +kernel) ⟨rfl, rfl, rfl, rfl, rfl, by decide +kernel⟩ ?hw ?hc
  case hw => w_witness2
  case hc =>
    refine LamX.walk_ofTsE (l := PySem.Challenge.rw_toldcost_k30_quotients) (n := 63) (k := 80) (x := "script") (CX := fun w => L2.CX T30.prog w) rfl (by decide) (by kernel_rfl) ⟨rfl, by decide, by decide⟩ ?F ?X
    case X => exact fun w H s e s' ⟨_, _, _, _, _, _, _, _, _, _, _, _, z⟩ => z
    intro w mg fa h Y G hmg0
    obtain ⟨K, KX, c⟩ := Y
    have hmg : mg ("law" : PySem.Str) = some (.ref fa) := by
      have e : (HandSHeadRun.topDef (OpenLaw.row PySem.Challenge.rw_toldcost_k30_quotients).prog 20).name = ("law" : PySem.Str) := by kernel_rfl
      rw [← e]
      exact hmg0
    obtain ⟨fd, Fl, hF⟩ := T30.facts KX G c
    have eg := hmg.symm.trans (He.glo_ok KX G (c.t.d.fact 17 (f := .glo "law") rfl))
    cases eg
    have tab : ∀ p ∈ T30.tfs.map (He.cT K), ∃ q ∈ T30.tfs, p = He.cT K q := fun p hp => by
      obtain ⟨q, hq, e⟩ := List.mem_map.mp hp
      exact ⟨q, hq, e.symm⟩
    refine ⟨K, KX, fd 17, T30.tfs.map (He.cT K), EV.spM K (T30.SS K) (T30.sem 20 17), fun p hp => ?_, fun p hp => ?_, fun p hp => ?_, fun s v => ?_, fun H a ns hl hb hT hS => ?_, fun base _ _ hTB => ?_⟩
    · obtain ⟨q, hq, rfl⟩ := tab p hp
      exact c.empty q hq
    · obtain ⟨q, hq, rfl⟩ := tab p hp
      exact c.out q hq
    · obtain ⟨q, hq, rfl⟩ := tab p hp
      exact PySem.W.codeHd_of_K KX (c.hd q hq)
    · exact L2.FunD.bindsA (ps := ["script"]) Fl (fun _ _ _ _ _ _ us hl => match us, hl with | [_], _ => rfl) s [v] rfl
    · exact EV.sp_law pure_ok hl hb (fun P hP => by obtain ⟨p, hp, rfl⟩ := List.mem_map.mp (show P ∈ (T30.tfs.map (He.cT K)).map Prod.snd from hP); exact hT p hp) hS
    · exact (T30.oks (hF base hTB) 20).o17
theorem PySem.Challenge.cw_toldcost_k30_quotients_holds : PySem.Challenge.rw_toldcost_k30_quotients.Holds :=
  t30_holds T30.pure30

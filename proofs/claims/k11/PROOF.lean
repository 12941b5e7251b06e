import PyProof.Rows.All
import Wide.All
import OpenK.AllK
import Wide.FinOn
import HandS.ForMost
import HandS.ForExc
import HandS.IsInst
import HandS.SetKeys
import HandS.TryMany
import HandS.Deep
import HandS.Codes
import HandS.Defaults
import HandS.HeadHook2
import HandS.Head2
import HandS.HeadEnd
import PySem.Challenge.RW_ringlog_k11_rows_that_stand_and_that_are
set_option Elab.async false
set_option linter.all false
set_option maxRecDepth 100000
set_option maxHeartbeats 4000000
/-! RL0: frozen data (Rp), the symbolic heap (Hs: mutable points L, frozen part I), and their lemmas. -/
namespace RL
open PySem PySem.Spec PyProof.Rows L2

/-! ### frozen data -/
mutual
inductive Rp (I : Hp) : V → PyData → Prop
  | non : Rp I .non .none
  | bl (b : Bool) : Rp I (.bl b) (.bool b)
  | int (i : Int) : Rp I (.int i) (.int i)
  | str (x : Str) : Rp I (.str x) (.str x)
  | lst {a : Addr} {xs : List V} {ds : List PyData} : I a = some (.lst xs) → RpA I xs ds → Rp I (.ref a) (.list ds)
  | tup {a : Addr} {xs : List V} {ds : List PyData} : I a = some (.tup xs) → RpA I xs ds → Rp I (.ref a) (.tuple ds)
inductive RpA (I : Hp) : List V → List PyData → Prop
  | nil : RpA I [] []
  | cons {v : V} {vs : List V} {d : PyData} {ds : List PyData} : Rp I v d → RpA I vs ds → RpA I (v :: vs) (d :: ds)
end

section
variable {I I' : Hp} {K : PySem.W.Frag}
mutual
theorem Rp.mono (s : Same I I') : ∀ {d : PyData} {v : V}, Rp I v d → Rp I' v d
  | .none, _, h => by cases h; exact .non
  | .bool b, _, h => by cases h; exact .bl b
  | .int i, _, h => by cases h; exact .int i
  | .str x, _, h => by cases h; exact .str x
  | .list ds, _, h => by
    cases h with
    | lst e r => exact .lst (s _ _ e) (RpA.mono s r)
  | .tuple ds, _, h => by
    cases h with
    | tup e r => exact .tup (s _ _ e) (RpA.mono s r)
  | .dict _, _, h => by cases h
theorem RpA.mono (s : Same I I') : ∀ {ds : List PyData} {vs : List V}, RpA I vs ds → RpA I' vs ds
  | [], _, h => by cases h; exact .nil
  | d :: ds, _, h => by
    cases h with
    | cons h1 h2 => exact .cons (Rp.mono s h1) (RpA.mono s h2)
end
mutual
theorem Rp.dp : ∀ {d : PyData} {v : V}, Rp I v d → Dp K I v d
  | .none, _, h => by cases h; exact .non
  | .bool b, _, h => by cases h; exact .bl b
  | .int i, _, h => by cases h; exact .int i
  | .str x, _, h => by cases h; exact .str x
  | .list ds, _, h => by
    cases h with
    | lst e r => exact .lst (.inl (.inl e)) (RpA.dp r)
  | .tuple ds, _, h => by
    cases h with
    | tup e r => exact .tup (.inl (.inl e)) (RpA.dp r)
  | .dict _, _, h => by cases h
theorem RpA.dp : ∀ {ds : List PyData} {vs : List V}, RpA I vs ds → DpAll K I vs ds
  | [], _, h => by cases h; exact .nil
  | d :: ds, _, h => by
    cases h with
    | cons h1 h2 => exact .cons (Rp.dp h1) (RpA.dp h2)
end
theorem RpA.length : ∀ {ds : List PyData} {vs : List V}, RpA I vs ds → vs.length = ds.length
  | [], _, h => by cases h; rfl
  | d :: ds, _, h => by
    cases h with
    | cons h1 h2 => simp [RpA.length h2]
theorem RpA.get : ∀ {ds : List PyData} {vs : List V} {i : Nat} {d : PyData}, RpA I vs ds → ds[i]? = some d → ∃ v, vs[i]? = some v ∧ Rp I v d
  | [], _, i, d, h, e => by simp at e
  | c :: ds, _, 0, d, h, e => by
    cases h with
    | cons h1 h2 =>
      simp at e
      subst e
      exact ⟨_, rfl, h1⟩
  | c :: ds, _, i + 1, d, h, e => by
    cases h with
    | cons h1 h2 =>
      obtain ⟨v, q, r⟩ := RpA.get (i := i) h2 (by simpa using e)
      exact ⟨v, by simpa using q, r⟩
theorem RpA.getV : ∀ {ds : List PyData} {vs : List V} {i : Nat} {v : V}, RpA I vs ds → vs[i]? = some v → ∃ d, ds[i]? = some d ∧ Rp I v d
  | [], _, i, v, h, e => by cases h; simp at e
  | c :: ds, _, 0, v, h, e => by
    cases h with
    | cons h1 h2 =>
      simp at e
      subst e
      exact ⟨_, rfl, h1⟩
  | c :: ds, _, i + 1, v, h, e => by
    cases h with
    | cons h1 h2 =>
      obtain ⟨d, q, r⟩ := RpA.getV (i := i) h2 (by simpa using e)
      exact ⟨d, by simpa using q, r⟩
theorem RpA.append : ∀ {ds es : List PyData} {vs ws : List V}, RpA I vs ds → RpA I ws es → RpA I (vs ++ ws) (ds ++ es)
  | [], _, _, _, h, g => by cases h; exact g
  | d :: ds, _, _, _, h, g => by
    cases h with
    | cons h1 h2 => exact .cons h1 (RpA.append h2 g)
theorem RpA.take : ∀ {ds : List PyData} {vs : List V} (n : Nat), RpA I vs ds → RpA I (vs.take n) (ds.take n)
  | _, _, 0, _ => by simpa using RpA.nil
  | [], _, n + 1, h => by cases h; simpa using RpA.nil
  | d :: ds, _, n + 1, h => by
    cases h with
    | cons h1 h2 => simpa using RpA.cons h1 (RpA.take n h2)
theorem RpA.drop : ∀ {ds : List PyData} {vs : List V} (n : Nat), RpA I vs ds → RpA I (vs.drop n) (ds.drop n)
  | _, _, 0, h => by simpa using h
  | [], _, n + 1, h => by cases h; simpa using RpA.nil
  | d :: ds, _, n + 1, h => by
    cases h with
    | cons h1 h2 => simpa using RpA.drop n h2
theorem RpA.set : ∀ {ds : List PyData} {vs : List V} {v : V} {d : PyData} (n : Nat), RpA I vs ds → Rp I v d → RpA I (vs.set n v) (ds.set n d)
  | [], _, _, _, n, h, _ => by cases h; simpa using RpA.nil
  | c :: ds, _, _, _, 0, h, g => by
    cases h with
    | cons h1 h2 => simpa using RpA.cons g h2
  | c :: ds, _, _, _, n + 1, h, g => by
    cases h with
    | cons h1 h2 => simpa using RpA.cons h1 (RpA.set n h2 g)
theorem RpA.snoc {ds : List PyData} {vs : List V} {v : V} {d : PyData} (h : RpA I vs ds) (g : Rp I v d) : RpA I (vs ++ [v]) (ds ++ [d]) := h.append (.cons g .nil)
/-- lists of ints -/
theorem RpA.ints : ∀ (ns : List Int), RpA I (ns.map V.int) (ns.map PyData.int)
  | [] => .nil
  | n :: ns => .cons (.int n) (RpA.ints ns)
theorem RpA.intsV : ∀ {ns : List Int} {vs : List V}, RpA I vs (ns.map PyData.int) → vs = ns.map V.int
  | [], _, h => by cases h; rfl
  | n :: ns, _, h => by
    cases h with
    | cons h1 h2 =>
      cases h1
      rw [RpA.intsV h2] <;> rfl
end
/-- a list of ints, of lists of ints -/
def dI (ns : List Int) : PyData := .list (ns.map .int)
def dII (nss : List (List Int)) : PyData := .list (nss.map dI)
theorem Rp.lstI {I : Hp} {v : V} {ds : List PyData} (h : Rp I v (.list ds)) : ∃ a vs, v = .ref a ∧ I a = some (.lst vs) ∧ RpA I vs ds := by
  cases h with
  | lst e r => exact ⟨_, _, rfl, e, r⟩
theorem Rp.tupI {I : Hp} {v : V} {ds : List PyData} (h : Rp I v (.tuple ds)) : ∃ a vs, v = .ref a ∧ I a = some (.tup vs) ∧ RpA I vs ds := by
  cases h with
  | tup e r => exact ⟨_, _, rfl, e, r⟩
theorem Rp.dI_inv {I : Hp} {v : V} {ns : List Int} (h : Rp I v (dI ns)) : ∃ a, v = .ref a ∧ I a = some (.lst (ns.map V.int)) := by
  obtain ⟨a, vs, e, h1, h2⟩ := Rp.lstI h
  rw [RpA.intsV h2] at h1
  exact ⟨a, e, h1⟩
theorem Rp.dI_mk {I : Hp} {a : Addr} {ns : List Int} (h : I a = some (.lst (ns.map V.int))) : Rp I (.ref a) (dI ns) := .lst h (RpA.ints ns)
theorem Rp.intI {I : Hp} {v : V} {i : Int} (h : Rp I v (.int i)) : v = .int i := by cases h; rfl
theorem Rp.strI {I : Hp} {v : V} {x : Str} (h : Rp I v (.str x)) : v = .str x := by cases h; rfl
theorem Rp.boolI {I : Hp} {v : V} {b : Bool} (h : Rp I v (.bool b)) : v = .bl b := by cases h; rfl
theorem Rp.noneI {I : Hp} {v : V} (h : Rp I v .none) : v = .non := by cases h; rfl

/-! ### the symbolic heap -/
abbrev ML := List (Addr × HO)
structure Hs (L : ML) (I H : Hp) : Prop where
  im : Same I H
  mu : ∀ x ∈ L, H x.1 = some x.2
  dj : ∀ x ∈ L, I x.1 = none
  nd : (L.map Prod.fst).Nodup
theorem same_upd {I : Hp} {p : Addr} {o : HO} (h : I p = none) : Same I (upd I p o) := fun b u e => by
  rw [upd_ne (ne_of_none e h)]
  exact e
theorem same_mut {H H' : Hp} {p : Addr} {o : HO} (e : Same H H') (h : H p = none) : Same H (upd H' p o) := fun b u hb => by
  rw [upd_ne (ne_of_none hb h)]
  exact e b u hb
theorem Hs.start (H : Hp) : Hs [] H H := ⟨Same.refl H, (fun _ h => nomatch h), (fun _ h => nomatch h), List.nodup_nil⟩
section
variable {L L' R : ML} {I H H' : Hp} {p q : Addr} {o o' u : HO} {x y z : Addr × HO}
theorem Hs.fr (h : Hs L I H) (hp : H p = none) : I p = none := h.im.free hp
theorem Hs.perm (h : Hs L I H) (e : L.Perm L') : Hs L' I H :=
  ⟨h.im, fun x hx => h.mu x (e.mem_iff.mpr hx), fun x hx => h.dj x (e.mem_iff.mpr hx), (e.map Prod.fst).nodup_iff.mp h.nd⟩
theorem Hs.grow (h : Hs L I H) (s : Same H H') : Hs L I H' := ⟨h.im.trans s, fun x hx => s _ _ (h.mu x hx), h.dj, h.nd⟩
theorem Hs.notin (h : Hs L I H) (hp : H p = none) : p ∉ L.map Prod.fst := fun hm => by
  obtain ⟨x, hx, e⟩ := List.mem_map.mp hm
  have := h.mu x hx
  rw [e, hp] at this
  cases this
theorem Hs.junk (h : Hs L I H) (hp : H p = none) : Hs L I (upd H p o) := h.grow (same_upd hp)
theorem Hs.newM (h : Hs L I H) (hp : H p = none) : Hs ((p, o) :: L) I (upd H p o) := by
  have s : Same H (upd H p o) := same_upd hp
  refine ⟨h.im.trans s, fun x hx => ?_, fun x hx => ?_, ?_⟩
  · rcases List.mem_cons.mp hx with rfl | hx
    · exact upd_same
    · exact s _ _ (h.mu x hx)
  · rcases List.mem_cons.mp hx with rfl | hx
    · exact h.fr hp
    · exact h.dj x hx
  · exact List.nodup_cons.mpr ⟨h.notin hp, h.nd⟩
theorem Hs.drop (h : Hs (x :: L) I H) : Hs L I H := ⟨h.im, fun y hy => h.mu y (.tail _ hy), fun y hy => h.dj y (.tail _ hy), (List.nodup_cons.mp h.nd).2⟩
theorem Hs.frz (h : Hs ((p, o) :: L) I H) : Hs L (upd I p o) H := by
  refine ⟨fun b u e => ?_, fun y hy => h.mu y (.tail _ hy), fun y hy => ?_, (List.nodup_cons.mp h.nd).2⟩
  · by_cases hb : b = p
    · subst hb
      rw [upd_same] at e
      rw [← e]
      exact h.mu _ (.head _)
    · rw [upd_ne hb] at e
      exact h.im b u e
  · rw [upd_ne fun e => (List.nodup_cons.mp h.nd).1 (List.mem_map.mpr ⟨y, hy, e⟩)]
    exact h.dj y (.tail _ hy)
theorem Hs.cast (h : Hs ((p, o) :: L) I H) (e : o = o') : Hs ((p, o') :: L) I H := e ▸ h
theorem Hs.fr0 (h : Hs ((p, o) :: L) I H) : I p = none := h.dj _ (.head _)
theorem Hs.newI (h : Hs L I H) (hp : H p = none) : Hs L (upd I p o) (upd H p o) := (h.newM hp).frz
/-- a new frozen object -/
theorem Hs.put (h : Hs L I H) (hp : H p = none) (o : HO) : ∃ I', Same I I' ∧ I' p = some o ∧ Hs L I' (upd H p o) := ⟨_, same_upd (h.fr hp), upd_same, h.newI hp⟩
theorem Hs.ne (h : Hs L I H) (hx : I p = some o) (hy : (q, u) ∈ L) : p ≠ q := fun e => by
  subst e
  have := h.dj _ hy
  rw [hx] at this
  cases this
theorem Hs.set0 (h : Hs ((p, o) :: L) I H) : Hs ((p, o') :: L) I (upd H p o') := by
  have nd := List.nodup_cons.mp h.nd
  have ne : ∀ y ∈ L, y.1 ≠ p := fun y hy e => nd.1 (List.mem_map.mpr ⟨y, hy, e⟩)
  refine ⟨fun b u e => ?_, fun y hy => ?_, fun y hy => ?_, h.nd⟩
  · rw [upd_ne (h.ne e (.head _))]
    exact h.im b u e
  · rcases List.mem_cons.mp hy with rfl | hy
    · exact upd_same
    · rw [upd_ne (ne y hy)]
      exact h.mu y (.tail _ hy)
  · rcases List.mem_cons.mp hy with rfl | hy
    · exact h.fr0
    · exact h.dj y (.tail _ hy)
/-- the i-th point to the front -/
theorem Hs.m1 {a x : Addr × HO} (h : Hs (a :: x :: L) I H) : Hs (x :: a :: L) I H := h.perm (.swap _ _ _)
theorem Hs.m2 {a b x : Addr × HO} (h : Hs (a :: b :: x :: L) I H) : Hs (x :: a :: b :: L) I H := (h.perm (.cons _ (.swap _ _ _))).m1
theorem Hs.m3 {a b c x : Addr × HO} (h : Hs (a :: b :: c :: x :: L) I H) : Hs (x :: a :: b :: c :: L) I H := (h.perm (.cons _ (.cons _ (.swap _ _ _)))).m2
theorem Hs.m4 {a b c d x : Addr × HO} (h : Hs (a :: b :: c :: d :: x :: L) I H) : Hs (x :: a :: b :: c :: d :: L) I H := (h.perm (.cons _ (.cons _ (.cons _ (.swap _ _ _))))).m3
theorem Hs.m5 {a b c d e x : Addr × HO} (h : Hs (a :: b :: c :: d :: e :: x :: L) I H) : Hs (x :: a :: b :: c :: d :: e :: L) I H := (h.perm (.cons _ (.cons _ (.cons _ (.cons _ (.swap _ _ _)))))).m4
theorem Hs.n1 {a x : Addr × HO} (h : Hs (x :: a :: L) I H) : Hs (a :: x :: L) I H := h.m1
theorem Hs.n2 {a b x : Addr × HO} (h : Hs (x :: a :: b :: L) I H) : Hs (a :: b :: x :: L) I H := h.m1.perm (.cons _ (.swap _ _ _))
theorem Hs.n3 {a b c x : Addr × HO} (h : Hs (x :: a :: b :: c :: L) I H) : Hs (a :: b :: c :: x :: L) I H := h.n2.perm (.cons _ (.cons _ (.swap _ _ _)))
theorem Hs.n4 {a b c d x : Addr × HO} (h : Hs (x :: a :: b :: c :: d :: L) I H) : Hs (a :: b :: c :: d :: x :: L) I H := h.n3.perm (.cons _ (.cons _ (.cons _ (.swap _ _ _))))
theorem Hs.n5 {a b c d e x : Addr × HO} (h : Hs (x :: a :: b :: c :: d :: e :: L) I H) : Hs (a :: b :: c :: d :: e :: x :: L) I H := h.n4.perm (.cons _ (.cons _ (.cons _ (.cons _ (.swap _ _ _)))))
theorem Hs.set1 {a : Addr × HO} (h : Hs (a :: (p, o) :: L) I H) : Hs (a :: (p, o') :: L) I (upd H p o') := h.m1.set0.n1
theorem Hs.set2 {a b : Addr × HO} (h : Hs (a :: b :: (p, o) :: L) I H) : Hs (a :: b :: (p, o') :: L) I (upd H p o') := h.m2.set0.n2
theorem Hs.set3 {a b c : Addr × HO} (h : Hs (a :: b :: c :: (p, o) :: L) I H) : Hs (a :: b :: c :: (p, o') :: L) I (upd H p o') := h.m3.set0.n3
theorem Hs.set4 {a b c d : Addr × HO} (h : Hs (a :: b :: c :: d :: (p, o) :: L) I H) : Hs (a :: b :: c :: d :: (p, o') :: L) I (upd H p o') := h.m4.set0.n4
theorem Hs.set5 {a b c d e : Addr × HO} (h : Hs (a :: b :: c :: d :: e :: (p, o) :: L) I H) : Hs (a :: b :: c :: d :: e :: (p, o') :: L) I (upd H p o') := h.m5.set0.n5
theorem Hs.g0 (h : Hs ((p, o) :: L) I H) : H p = some o := h.mu _ (.head _)
theorem Hs.g1 {a : Addr × HO} (h : Hs (a :: (p, o) :: L) I H) : H p = some o := h.drop.g0
theorem Hs.g2 {a b : Addr × HO} (h : Hs (a :: b :: (p, o) :: L) I H) : H p = some o := h.drop.g1
theorem Hs.g3 {a b c : Addr × HO} (h : Hs (a :: b :: c :: (p, o) :: L) I H) : H p = some o := h.drop.g2
theorem Hs.g4 {a b c d : Addr × HO} (h : Hs (a :: b :: c :: d :: (p, o) :: L) I H) : H p = some o := h.drop.g3
theorem Hs.g5 {a b c d e : Addr × HO} (h : Hs (a :: b :: c :: d :: e :: (p, o) :: L) I H) : H p = some o := h.drop.g4
/-- picking -/
inductive Pick (y : Addr × HO) : ML → ML → Prop
  | here {L : ML} : Pick y (y :: L) L
  | there {x : Addr × HO} {L L1 : ML} : Pick y L L1 → Pick y (x :: L) (x :: L1)
theorem Pick.perm (h : Pick y L L') : L.Perm (y :: L') := by
  induction h with
  | here => exact .refl _
  | there h ih => exact (ih.cons _).trans (.swap _ _ _)
theorem pick {L1 : ML} (h : Pick y L L1) (e : L1.Perm L') : L.Perm (y :: L') := h.perm.trans (e.cons _)
/-- reading -/
theorem Hs.i (h : Hs L I H) (e : I p = some o) : H p = some o := h.im _ _ e
theorem Hs.sq {K : PySem.W.Frag} {xs : List V} (h : Hs L I H) (e : I p = some (.lst xs)) : SqL K H p xs := .inl (.inl (h.im _ _ e))
theorem Hs.st {K : PySem.W.Frag} {xs : List V} (h : Hs L I H) (e : I p = some (.tup xs)) : SqT K H p xs := .inl (.inl (h.im _ _ e))
theorem Hs.sl {K : PySem.W.Frag} {xs : List V} (h : Hs L I H) (e : SqL K I p xs) : SqL K H p xs := h.im.seq e
theorem sqm {K : PySem.W.Frag} {xs : List V} (e : H p = some (.lst xs)) : SqL K H p xs := .inl (.inl e)
theorem sqt {K : PySem.W.Frag} {xs : List V} (e : H p = some (.tup xs)) : SqT K H p xs := .inl (.inl e)
theorem Hs.rp {v : V} {d : PyData} (h : Hs L I H) (e : Rp I v d) : Rp H v d := e.mono h.im
end
theorem szl {n : Nat} (h : n ≤ 100000) : n ≤ sizeLine := Nat.le_trans h (by decide)
theorem szlt {n : Nat} (h : n < 100000) : n < sizeLine := Nat.lt_of_lt_of_le h (by decide)
theorem if_t {c : Bool} {A B : Prop} (hc : c = true) (h : A) : if c = true then A else B := by
  rw [if_pos hc]
  exact h
theorem if_f {c : Bool} {A B : Prop} (hc : c = false) (h : B) : if c = true then A else B := by
  rw [hc, if_neg Bool.false_ne_true]
  exact h
theorem if_d {c A B : Prop} [Decidable c] (h1 : c → A) (h2 : ¬ c → B) : if decide c = true then A else B := by
  by_cases h : c
  · rw [if_pos (decide_eq_true h)]
    exact h1 h
  · rw [if_neg (by simpa using h)]
    exact h2 h
theorem if_nd {c A B : Prop} [Decidable c] (h1 : c → B) (h2 : ¬ c → A) : if (!decide c) = true then A else B := by
  by_cases h : c
  · rw [if_neg (by simpa using h)]
    exact h1 h
  · rw [if_pos (by simpa using h)]
    exact h2 h
theorem if_b {c : Bool} {A B : Prop} (h1 : c = true → A) (h2 : c = false → B) : if c = true then A else B := by
  cases c with
  | true => exact if_t rfl (h1 rfl)
  | false => exact if_f rfl (h2 rfl)

/-! ### data of a bounded depth -/
/-- data of depth at most n, its lists of at most 1000 items, its texts of signs -/
def okD : Nat → PyData → Prop
  | _, .none => True
  | _, .bool _ => True
  | _, .int _ => True
  | _, .str x => PyData.strOk x = true
  | 0, .list _ => False
  | 0, .tuple _ => False
  | n + 1, .list ds => ds.length ≤ 1000 ∧ ∀ d ∈ ds, okD n d
  | n + 1, .tuple ds => ds.length ≤ 1000 ∧ ∀ d ∈ ds, okD n d
  | _, .dict _ => False
theorem okD_int {n : Nat} {i : Int} : okD n (.int i) := by cases n <;> trivial
theorem okD_none {n : Nat} : okD n .none := by cases n <;> trivial
theorem okD_bool {n : Nat} {b : Bool} : okD n (.bool b) := by cases n <;> trivial
theorem okD_str {n : Nat} {x : Str} (h : PyData.strOk x = true) : okD n (.str x) := by cases n <;> exact h
theorem okD_mono : ∀ {n m : Nat} {d : PyData}, n ≤ m → okD n d → okD m d
  | n, m, .none, _, _ => okD_none
  | n, m, .bool _, _, _ => okD_bool
  | n, m, .int _, _, _ => okD_int
  | 0, m, .str _, _, h => okD_str h
  | n + 1, m, .str _, _, h => okD_str h
  | n + 1, m + 1, .list ds, l, h => ⟨h.1, fun d hd => okD_mono (Nat.le_of_succ_le_succ l) (h.2 d hd)⟩
  | n + 1, m + 1, .tuple ds, l, h => ⟨h.1, fun d hd => okD_mono (Nat.le_of_succ_le_succ l) (h.2 d hd)⟩
  | 0, _, .list _, _, h => h.elim
  | 0, _, .tuple _, _, h => h.elim
  | n + 1, 0, _, l, _ => absurd l (by omega)
  | 0, _, .dict _, _, h => by cases h
theorem okD_dI {n : Nat} {ns : List Int} (h : ns.length ≤ 1000) : okD (n + 1) (dI ns) := by
  refine ⟨by rw [List.length_map]; exact h, fun d hd => ?_⟩
  obtain ⟨i, _, rfl⟩ := List.mem_map.mp hd
  exact okD_int
theorem okD_dII {n : Nat} {nss : List (List Int)} (h : nss.length ≤ 1000) (h2 : ∀ ns ∈ nss, ns.length ≤ 1000) : okD (n + 2) (dII nss) := by
  refine ⟨by rw [List.length_map]; exact h, fun d hd => ?_⟩
  obtain ⟨i, hi, rfl⟩ := List.mem_map.mp hd
  exact okD_dI (h2 i hi)
theorem canLayAll_of : ∀ {ds : List PyData}, (∀ d ∈ ds, d.canLay0 = true) → PyData.canLayAll0 ds = true
  | [], _ => rfl
  | d :: ds, h => by
    rw [PyData.canLayAll0, h d (.head _), canLayAll_of fun e he => h e (.tail _ he)]
    rfl
theorem depthAll_of : ∀ {ds : List PyData} {n : Nat}, (∀ d ∈ ds, d.depth ≤ n) → PyData.depthAll ds ≤ n
  | [], n, _ => Nat.zero_le n
  | d :: ds, n, h => by
    rw [PyData.depthAll]
    have h1 := h d (.head _)
    have h2 := depthAll_of fun e he => h e (.tail _ he)
    omega
theorem lay_of : ∀ {n : Nat} {d : PyData}, okD n d → d.canLay0 = true ∧ d.depth ≤ n
  | n, .none, _ => ⟨rfl, Nat.zero_le n⟩
  | n, .bool _, _ => ⟨rfl, Nat.zero_le n⟩
  | n, .int _, _ => ⟨rfl, Nat.zero_le n⟩
  | 0, .str _, h => ⟨h, Nat.zero_le 0⟩
  | n + 1, .str _, h => ⟨h, Nat.zero_le _⟩
  | n + 1, .list ds, h => by
    have k := fun d hd => lay_of (h.2 d hd)
    refine ⟨by rw [PyData.canLay0]; exact canLayAll_of fun d hd => (k d hd).1, ?_⟩
    rw [PyData.depth]
    exact Nat.succ_le_succ (depthAll_of fun d hd => (k d hd).2)
  | n + 1, .tuple ds, h => by
    have k := fun d hd => lay_of (h.2 d hd)
    refine ⟨by rw [PyData.canLay0]; exact canLayAll_of fun d hd => (k d hd).1, ?_⟩
    rw [PyData.depth]
    exact Nat.succ_le_succ (depthAll_of fun d hd => (k d hd).2)
  | 0, .list _, h => h.elim
  | 0, .tuple _, h => h.elim
  | 0, .dict _, h => by cases h
  | n + 1, .dict _, h => by cases h
theorem shaped_of {n : Nat} {d : PyData} (h : okD n d) (l : n ≤ 64) : SeqAt.shaped d = true := by
  obtain ⟨h1, h2⟩ := lay_of h
  unfold SeqAt.shaped
  rw [h1, Bool.true_and]
  exact decide_eq_true (Nat.le_trans h2 l)
theorem eqv_rfl {n : Nat} {d : PyData} (h : okD n d) : PyData.eqv d d = true := SeqAt.eqv_refl d (lay_of h).1
/-- a != b, a == b of equal data -/
theorem neD_same {K : PySem.W.Frag} {H : Hp} {Q : VK} {x y : V} {n : Nat} {d : PyData} (hx : Rp H x d) (hy : Rp H y d) (h : okD n d) (l : n ≤ 64) (q : Q (.bl false) H) : rNeD K x y H Q := by
  refine ⟨d, d, hx.dp, hy.dp, shaped_of h l, shaped_of h l, ?_⟩
  rw [eqv_rfl h]
  exact q
theorem eqD_same {K : PySem.W.Frag} {H : Hp} {Q : VK} {x y : V} {n : Nat} {d : PyData} (hx : Rp H x d) (hy : Rp H y d) (h : okD n d) (l : n ≤ 64) (q : Q (.bl true) H) : rEqD K x y H Q := by
  refine ⟨d, d, hx.dp, hy.dp, shaped_of h l, shaped_of h l, ?_⟩
  rw [eqv_rfl h]
  exact q
/-! ### slices -/
theorem cut_to {xs : List V} {k : Int} (h : 0 ≤ k) : cutV xs none (some k) = xs.take k.toNat := by
  obtain ⟨n, rfl⟩ : ∃ n : Nat, k = (n : Int) := ⟨k.toNat, by omega⟩
  unfold cutV
  rw [HT.sIx_none, HT.sIx_nat, List.drop_zero, Nat.sub_zero, Int.toNat_natCast]
  rcases Nat.le_total n xs.length with l | l
  · rw [Nat.min_eq_left l]
  · rw [Nat.min_eq_right l, List.take_length, List.take_of_length_le l]
theorem cut_from {xs : List V} {k : Int} (h : 0 ≤ k) : cutV xs (some k) none = xs.drop k.toNat := by
  obtain ⟨n, rfl⟩ : ∃ n : Nat, k = (n : Int) := ⟨k.toNat, by omega⟩
  unfold cutV
  rw [HT.sIx_none, HT.sIx_nat, Int.toNat_natCast]
  rcases Nat.le_total n xs.length with l | l
  · rw [Nat.min_eq_left l, List.take_of_length_le (by rw [List.length_drop]; omega)]
  · rw [Nat.min_eq_right l, List.drop_length, List.drop_of_length_le l]
    simp
theorem cut_mid {xs : List V} {j k : Int} (h : 0 ≤ j) (h2 : j ≤ k) : cutV xs (some j) (some k) = (xs.drop j.toNat).take (k - j).toNat := by
  obtain ⟨n, rfl⟩ : ∃ n : Nat, j = (n : Int) := ⟨j.toNat, by omega⟩
  obtain ⟨m, rfl⟩ : ∃ m : Nat, k = (m : Int) := ⟨k.toNat, by omega⟩
  unfold cutV
  rw [HT.sIx_nat, HT.sIx_nat, Int.toNat_natCast, show ((m : Int) - (n : Int)).toNat = m - n by omega]
  rcases Nat.le_total n xs.length with l | l
  · rw [Nat.min_eq_left l]
    rcases Nat.le_total m xs.length with l2 | l2
    · rw [Nat.min_eq_left l2]
    · rw [Nat.min_eq_right l2, List.take_of_length_le (by rw [List.length_drop]; omega), List.take_of_length_le (by rw [List.length_drop]; omega)]
  · rw [Nat.min_eq_right l, List.drop_length, List.drop_of_length_le l]
    simp
theorem map_take (ns : List Int) (k : Nat) : (ns.map V.int).take k = (ns.take k).map V.int := List.map_take.symm
theorem map_drop (ns : List Int) (k : Nat) : (ns.map V.int).drop k = (ns.drop k).map V.int := List.map_drop.symm
theorem map_snoc (ns : List Int) (z : Int) : (ns ++ [z]).map V.int = ns.map V.int ++ [V.int z] := by simp
theorem at2 {x y : V} {j : Int} (h0 : 0 ≤ j) (h1 : j < 2) : ∃ v, atI [x, y] j = some v ∧ (v = x ∨ v = y) := by
  rcases (by omega : j = 0 ∨ j = 1) with rfl | rfl
  · exact ⟨x, rfl, .inl rfl⟩
  · exact ⟨y, rfl, .inr rfl⟩
theorem at3 {x y z : V} {j : Int} (h0 : 0 ≤ j) (h1 : j < 3) : ∃ v, atI [x, y, z] j = some v ∧ (v = x ∨ v = y ∨ v = z) := by
  rcases (by omega : j = 0 ∨ j = 1 ∨ j = 2) with rfl | rfl | rfl
  · exact ⟨x, rfl, .inl rfl⟩
  · exact ⟨y, rfl, .inr (.inl rfl)⟩
  · exact ⟨z, rfl, .inr (.inr rfl)⟩

/-! ### many points -/
/-- lists of ints at addresses -/
def pts (as : List Addr) (nss : List (List Int)) : ML := as.zip (nss.map fun ns => HO.lst (ns.map V.int))
theorem pts_snoc {as : List Addr} {nss : List (List Int)} {q : Addr} {ns : List Int} (h : as.length = nss.length) : pts (as ++ [q]) (nss ++ [ns]) = pts as nss ++ [(q, HO.lst (ns.map V.int))] := by
  unfold pts
  rw [List.map_append, List.zip_append (by rw [List.length_map]; exact h)]
  rfl
/-- they are frozen -/
theorem Hs.frzs {L : ML} : ∀ {as : List Addr} {nss : List (List Int)} {I H : Hp}, as.length = nss.length → Hs (pts as nss ++ L) I H → ∃ I', Same I I' ∧ Hs L I' H ∧ RpA I' (as.map V.ref) (nss.map dI)
  | [], [], I, H, _, h => ⟨I, Same.refl I, h, .nil⟩
  | a :: as, [], _, _, e, _ => by cases e
  | [], n :: nss, _, _, e, _ => by cases e
  | a :: as, n :: nss, I, H, e, h => by
    have h1 : Hs ((a, HO.lst (n.map V.int)) :: (pts as nss ++ L)) I H := h
    have s1 := same_upd (o := HO.lst (n.map V.int)) h1.fr0
    obtain ⟨I', s2, h2, r⟩ := Hs.frzs (L := L) (by simpa using e) h1.frz
    exact ⟨I', s1.trans s2, h2, .cons (Rp.dI_mk (s2 _ _ upd_same)) r⟩
theorem Hs.m_app {x : Addr × HO} {A L : ML} {I H : Hp} (h : Hs (x :: (A ++ L)) I H) : Hs (A ++ (x :: L)) I H := h.perm (List.perm_middle).symm
theorem Hs.app_m {x : Addr × HO} {A L : ML} {I H : Hp} (h : Hs (A ++ (x :: L)) I H) : Hs (x :: (A ++ L)) I H := h.perm List.perm_middle
theorem Hs.gm {L : ML} {I H : Hp} {p : Addr} {o : HO} (h : Hs L I H) (m : (p, o) ∈ L) : H p = some o := h.mu _ m
theorem Hs.dropl {A L : ML} {I H : Hp} (h : Hs (A ++ L) I H) : Hs L I H := by
  induction A with
  | nil => exact h
  | cons x A ih => exact ih h.drop

theorem rpa_pts {H : Hp} : ∀ {as : List Addr} {nss : List (List Int)}, as.length = nss.length → (∀ x ∈ pts as nss, H x.1 = some x.2) → RpA H (as.map V.ref) (nss.map dI)
  | [], [], _, _ => .nil
  | a :: as, [], e, _ => by cases e
  | [], n :: nss, e, _ => by cases e
  | a :: as, n :: nss, e, h => .cons (Rp.dI_mk (h (a, HO.lst (n.map V.int)) (.head _))) (rpa_pts (by simpa using e) fun x hx => h x (.tail _ hx))
/-- a list of lists that stand as points -/
theorem Hs.rpII {L : ML} {I H : Hp} {p : Addr} {as : List Addr} {nss : List (List Int)} (h : Hs ((p, .lst (as.map V.ref)) :: (pts as nss ++ L)) I H) (e : as.length = nss.length) : Rp H (.ref p) (dII nss) :=
  .lst h.g0 (rpa_pts e fun x hx => h.mu x (.tail _ (List.mem_append_left _ hx)))
theorem Hs.frzII {L : ML} {I H : Hp} {p : Addr} {as : List Addr} {nss : List (List Int)} (h : Hs ((p, .lst (as.map V.ref)) :: (pts as nss ++ L)) I H) (e : as.length = nss.length) : ∃ I', Same I I' ∧ Hs L I' H ∧ Rp I' (.ref p) (dII nss) := by
  obtain ⟨I1, s1, h1, r1⟩ := Hs.frzs e h.m_app
  have s2 := same_upd (o := .lst (as.map V.ref)) h1.fr0
  exact ⟨_, s1.trans s2, h1.frz, .lst upd_same (r1.mono s2)⟩

theorem Hs.rot {A L : ML} {I H : Hp} {x y : Addr × HO} (h : Hs (x :: (A ++ (y :: L))) I H) : Hs (y :: x :: (A ++ L)) I H := (h.perm ((List.perm_middle).cons _)).m1

theorem Hs.one {L : ML} {I H : Hp} {x : Addr × HO} (h : Hs (x :: L) I H) : Hs [x] I H := (h.perm (List.perm_append_comm (l₁ := [x]) (l₂ := L))).dropl
end RL
/-! RL1: a def's promise in one word (Ok), its calls, methods, makes, raises; rules that lacked. -/
namespace RL
open PySem PySem.Spec PyProof.Rows L2

/-- the def at f keeps sp, binds its parameters ps, stands -/
structure Ok (P : Program) (w : World) (K : PySem.W.Frag) (mg : Str → Option Value) (base : Heap) (k : Nat) (f : Addr) (ps : List Str) (sp : Sp) : Prop where
  ex : ∃ fd : FuncData, FnOk P w K mg base (L2.CX P w) k f fd ps sp ∧ Binds K fd ps []
  kp : PySem.W.keepIn K (.ref f) = true
section
variable {P : Program} {w : World} {K : PySem.W.Frag} {mg : Str → Option Value} {base : Heap}
theorem Ok.mono {j k : Nat} {f : Addr} {ps : List Str} {sp : Sp} (G : Ok P w K mg base j f ps sp) (h : j ≤ k) : Ok P w K mg base k f ps sp := by
  obtain ⟨fd, F, b⟩ := G.ex
  exact ⟨⟨fd, F.mono h, b⟩, G.kp⟩
theorem Ok.imp {k : Nat} {f : Addr} {ps : List Str} {sp sp' : Sp} (G : Ok P w K mg base k f ps sp) (h : ∀ vs H Q E, sp' vs H Q E → sp vs H Q E) : Ok P w K mg base k f ps sp' := by
  obtain ⟨fd, F, b⟩ := G.ex
  exact ⟨⟨fd, F.imp h, b⟩, G.kp⟩
/-- the def st of the text at f -/
abbrev Df (K : PySem.W.Frag) (x qual : Str) (st : Stmt) (f : Addr) : Prop := ∃ fd, FunD K x qual (defArgs st) (defBody st) (defScope st) [] [] f fd
theorem ok_of {x qual : Str} {st : Stmt} {f : Addr} {N ps : List Str} {k : Nat} {sp : Sp} (F : Df K x qual st f) (S : FnScope N ps (defScope st))
    (bd : ∀ (kV doc pm : Value) (an : Option Addr) (cdv ct : Value) (us : List Value), us.length = ps.length → bindArgs (PySem.W.fnOf x qual (defArgs st) (defBody st) (defScope st) .none kV doc pm an cdv ct) ⟨us, []⟩ = pure (ps.zip us))
    (len : ∀ vs H Q E, sp vs H Q E → vs.length = ps.length)
    (hbody : ∀ (cdv : Value) (A : Around) (outer : List Env) (s : Shared) (H : Hp) (vs : List V) (Q : VK) (E : XK), Room k (A.deeper (envOfC qual (defScope st) s.heap.objs.size f cdv)) →
      Takes (cxOf (L2.CX P w) P w K mg base N qual (defScope st) f cdv A outer s H E) (fun cls d _ H' => E cls d H') →
      PassesOwn (model P w) (A.deeper (envOfC qual (defScope st) s.heap.objs.size f cdv)) (envOfC qual (defScope st) s.heap.objs.size f cdv) (cxOf (L2.CX P w) P w K mg base N qual (defScope st) f cdv A outer s H E).xe → sp vs H Q E →
      ∃ t, PSs (cxOf (L2.CX P w) P w K mg base N qual (defScope st) f cdv A outer s H E) (defBody st) t ∧ t { nx := fun _ H' => Q .non H', rt := Q } (start N vs) H) : Ok P w K mg base (k + 1) f ps sp := by
  obtain ⟨fd, F⟩ := F
  exact ⟨⟨fd, F.ok S len fun cdv A outer s H vs Q E hr h => hbody cdv A outer s H vs Q E hr (takes_of rfl rfl rfl rfl) (passes_of (X := cxOf (L2.CX P w) P w K mg base N qual (defScope st) f cdv A outer s H E) rfl) h, F.bindsN bd⟩, F.kp⟩
end

theorem fnok_of {P : Program} {w : World} {K : PySem.W.Frag} {mg : Str → Option Value} {base : Heap} {x qual : Str} {st : Stmt} {f : Addr} {fd : FuncData} {N ps : List Str} {k : Nat} {sp : Sp} (F : FunD K x qual (defArgs st) (defBody st) (defScope st) [] [] f fd) (S : FnScope N ps (defScope st))
    (len : ∀ vs H Q E, sp vs H Q E → vs.length = ps.length)
    (hbody : ∀ (cdv : Value) (A : Around) (outer : List Env) (s : Shared) (H : Hp) (vs : List V) (Q : VK) (E : XK), Room k (A.deeper (envOfC qual (defScope st) s.heap.objs.size f cdv)) →
      Takes (cxOf (L2.CX P w) P w K mg base N qual (defScope st) f cdv A outer s H E) (fun cls d _ H' => E cls d H') →
      PassesOwn (model P w) (A.deeper (envOfC qual (defScope st) s.heap.objs.size f cdv)) (envOfC qual (defScope st) s.heap.objs.size f cdv) (cxOf (L2.CX P w) P w K mg base N qual (defScope st) f cdv A outer s H E).xe → sp vs H Q E →
      ∃ t, PSs (cxOf (L2.CX P w) P w K mg base N qual (defScope st) f cdv A outer s H E) (defBody st) t ∧ t { nx := fun _ H' => Q .non H', rt := Q } (start N vs) H) : FnOk P w K mg base (L2.CX P w) (k + 1) f fd ps sp :=
  F.ok S len fun cdv A outer s H vs Q E hr h => hbody cdv A outer s H vs Q E hr (takes_of rfl rfl rfl rfl) (passes_of (X := cxOf (L2.CX P w) P w K mg base N qual (defScope st) f cdv A outer s H E) rfl) h

/-! ### calls -/
def tMethO (C : Addr) (m : Str) (sp : Sp) (E : L2.St → XK) (ta : TE) (t : TA) : TE := fun σ H Q => ta σ H fun x H1 => ∃ a dx fs, x = .ref a ∧ H1 a = some (.ins C dx fs) ∧ fs.lookup m = none ∧ t σ H1 fun vs H2 => sp (x :: vs) H2 Q (E σ)
def tMakeO (C : Addr) (sp : Sp) (E : L2.St → XK) (t : TA) : TE := fun σ H Q => t σ H fun vs H1 => ∀ x dx, H1 x = none → H1 dx = none → dx ≠ x →
  sp (.ref x :: vs) (upd (upd H1 dx (.own x)) x (.ins C dx [])) (fun v H2 => v = .non ∧ Q (.ref x) H2) (E σ)
/-- nothing is let out -/
theorem passN {X : Cx} (σ : L2.St) : PassesAt (L2.CX X.prog X.w) X σ E0 := fun _ _ _ _ _ _ h => by
  obtain ⟨_, _, _, _, _, _, _, _, _, _, _, _, z⟩ := h
  exact z.elim
section
variable {X : Cx} {k : Nat} {f C : Addr} {ps : List Str} {sp : Sp} {E : L2.St → XK} {x m : Str} {p pos apos : Pos} {e o : Expr} {es : List Expr} {ta : TE} {t : TA}
theorem pe_callO (G : Ok X.prog X.w X.K X.mg X.base k f ps sp) (hr : Room k X.A) (hm : X.mg x = some (.ref f)) (hx : ∀ σ, PassesAt (L2.CX X.prog X.w) X σ (E σ))
    (ha : PA X (e :: es) t) (hg : Gl X x := by rfl) (hdb : (x == ("__debug__" : Str)) = false := by decide) (he : starEach (e :: es) X.env = (false, eval e X.env) :: starEach es X.env := by rfl) (hpl : (backTo pos (starEach es X.env)).any (·.1) = false := by rfl) :
    PE X (.Call (.Name x p) (e :: es) [] pos) (tCallS sp E t) := by
  obtain ⟨fd, F, hb⟩ := G.ex
  exact pe_callS F hr hg hm G.kp hb hx ha hdb he hpl
theorem pe_methO {pl : Sem Bool} (he : PE X o ta) (c : Cls X.K C) (hm : Meth X.K C m f) (G : Ok X.prog X.w X.K X.mg X.base k f ps sp) (hr : Room k X.A) (hx : ∀ σ, PassesAt (L2.CX X.prog X.w) X σ (E σ)) (ha : PA X (e :: es) t)
    (hst : starEach (e :: es) X.env = (false, eval e X.env) :: starEach es X.env := by rfl) (hpl : (backTo pos (starEach es X.env)).any (·.1) = false := by rfl)
    (ht : eval (.Call (.Attribute o m apos) (e :: es) [] pos) X.env = (do
      let ov ← eval o X.env
      standAt apos.atName
      let (f, first) ← holding [ov] (getMethod ov m pl)
      callWith pos f first (backTo pos (starEach (e :: es) X.env)) (backToKw pos (keywordEach [] X.env))) := by rfl) :
    PE X (.Call (.Attribute o m apos) (e :: es) [] pos) (tMethO C m sp E ta t) := by
  obtain ⟨fd, F, hb⟩ := G.ex
  refine ⟨fun pins s σ H Q I h => ?_⟩
  refine PySem.W.methodCall_KW (pl := pl) (thn (he.run pins s σ H _ I h) fun u s1 ⟨x, H1, I1, rx, a, dx, fs, ex, ea, l, q⟩ => ?_) ht
  subst ex
  obtain rfl : u = Value.ref a := rx
  refine getmeth_ok I1 ea c hm l ?_
  refine PySem.W.callWith_K (first := [.ref a]) (h₀ := X.base) I.ok.mod.kin hm.kp (thn (ha.run pos pins s1 σ H1 _ I1 q) fun us s2 ⟨vs, H2, I2, r, q2⟩ => ⟨I2.kIn, ?_⟩) hst hpl
  exact run_fnS (us := .ref a :: us) (vs := .ref a :: vs) F hr hb (hx σ) I2 (.cons rfl r) q2
theorem pe_methO0 {pl : Sem Bool} (he : PE X o ta) (c : Cls X.K C) (hm : Meth X.K C m f) (G : Ok X.prog X.w X.K X.mg X.base k f ps sp) (hr : Room k X.A) (hx : ∀ σ, PassesAt (L2.CX X.prog X.w) X σ (E σ))
    (ht : eval (.Call (.Attribute o m apos) [] [] pos) X.env = (do
      let ov ← eval o X.env
      standAt apos.atName
      let (f, first) ← holding [ov] (getMethod ov m pl)
      callWith pos f first (backTo pos (starEach [] X.env)) (backToKw pos (keywordEach [] X.env))) := by rfl) :
    PE X (.Call (.Attribute o m apos) [] [] pos) (tMethO C m sp E ta tNil) := by
  obtain ⟨fd, F, hb⟩ := G.ex
  refine ⟨fun pins s σ H Q I h => ?_⟩
  refine PySem.W.methodCall_KW (pl := pl) (thn (he.run pins s σ H _ I h) fun u s1 ⟨x, H1, I1, rx, a, dx, fs, ex, ea, l, q⟩ => ?_) ht
  subst ex
  obtain rfl : u = Value.ref a := rx
  refine getmeth_ok I1 ea c hm l ?_
  exact PySem.W.callWith_K0 (first := [.ref a]) I1.kIn hm.kp (run_fnS (us := [.ref a]) (vs := [.ref a]) F hr hb (hx σ) I1 (.cons rfl .nil) q)
theorem run_makeS {fd : FuncData} {pins : List (Addr × Obj)} {σ : L2.St} {H : Hp} {s : Shared} {Q : VK} {us : List Value} {vs : List V} (M : Mk X.K C f) (F : FnOk X.prog X.w X.K X.mg X.base (L2.CX X.prog X.w) k f fd ps sp) (hr : Room (k + 1) X.A) (hb : Binds X.K fd ps [])
    (hx : PassesAt (L2.CX X.prog X.w) X σ (E σ)) (I : Inv X pins σ H s) (r : Vals vs us)
    (h : ∀ x dx, H x = none → H dx = none → dx ≠ x → sp (.ref x :: vs) (upd (upd H dx (.own x)) x (.ins C dx [])) (fun v H2 => v = .non ∧ Q (.ref x) H2) (E σ)) :
    wpAny (model X.prog X.w) X.A (call (.ref C) us) (EP X pins σ Q) X.xe s := by
  have hq := h (s.heap.objs.size + 1) s.heap.objs.size (I.hok.fresh (Nat.le_succ _)) (I.hok.fresh (Nat.le_refl _)) (Nat.ne_of_lt (Nat.lt_succ_self _))
  have I2 := Inv.made (C := C) I
  have r2 : Vals (V.ref (s.heap.objs.size + 1) :: vs) (Value.ref (s.heap.objs.size + 1) :: us) := .cons rfl r
  have hl : (Value.ref (s.heap.objs.size + 1) :: us).length = ps.length := by
    have e := r2.length
    rw [F.len _ _ _ _ hq] at e
    exact e.symm
  have hb2 := hb { s with heap := (s.heap.push PySem.W.emptyDict).push (PySem.W.instObj C s.heap.objs.size) } (Value.ref (s.heap.objs.size + 1) :: us) I2.kIn (by rw [List.append_nil]; exact hl)
  rw [List.append_nil] at hb2
  refine wpAny_call (make_map (f := f) I.kIn M.makes M.init (beq_iff_eq.mp M.fn) (codeAny_mono (F.run _ X.stack _ _ ⟨Value.ref (s.heap.objs.size + 1) :: us, []⟩ (Value.ref (s.heap.objs.size + 1) :: us) _ _ (E σ) (hr.make C us [])
    (I2.env0.make C us []) hb2 r2 hq) fun r s' hq' => ?_))
  cases r with
  | error e => exact hx pins _ _ e s' I2 hq'
  | ok fl =>
    cases fl with
    | ret u =>
      obtain ⟨v, H', I3, rv, ev, q3⟩ := I2.after hq'
      subst ev
      exact ⟨rv, ⟨V.ref (s.heap.objs.size + 1), H', I3, rfl, q3⟩⟩
    | next => exact False.elim hq'
    | brk => exact False.elim hq'
    | cont => exact False.elim hq'
theorem pe_makeO (M : Mk X.K C f) (G : Ok X.prog X.w X.K X.mg X.base k f ps sp) (hr : Room (k + 1) X.A) (hm : X.mg x = some (.ref C)) (hx : ∀ σ, PassesAt (L2.CX X.prog X.w) X σ (E σ))
    (ha : PA X (e :: es) t) (hg : Gl X x := by rfl) (hdb : (x == ("__debug__" : Str)) = false := by decide) (he : starEach (e :: es) X.env = (false, eval e X.env) :: starEach es X.env := by rfl) (hpl : (backTo pos (starEach es X.env)).any (·.1) = false := by rfl) :
    PE X (.Call (.Name x p) (e :: es) [] pos) (tMakeO C sp E t) := by
  obtain ⟨fd, F, hb⟩ := G.ex
  refine ⟨fun pins s σ H Q I h => ?_⟩
  refine wpAny_Call_Name_kw (ld_glob I hg hm ?_ hdb)
  refine PySem.W.callWith_K (h₀ := X.base) I.ok.mod.kin M.kp (thn (ha.run pos pins s σ H _ I h) fun us s1 ⟨vs, H1, I1, r, q⟩ => ⟨I1.kIn, ?_⟩) he hpl
  exact run_makeS M F hr hb (hx σ) I1 r q
end

/-! ### isinstance -/
theorem kb_NoneType_bool {K : PySem.W.Frag} : PySem.W.kitOne K (.type "NoneType") (.type "bool") = some false := kit_ty (by decide +kernel)
theorem kb_NoneType_int {K : PySem.W.Frag} : PySem.W.kitOne K (.type "NoneType") (.type "int") = some false := kit_ty (by decide +kernel)
theorem kb_NoneType_str {K : PySem.W.Frag} : PySem.W.kitOne K (.type "NoneType") (.type "str") = some false := kit_ty (by decide +kernel)
theorem kb_NoneType_list {K : PySem.W.Frag} : PySem.W.kitOne K (.type "NoneType") (.type "list") = some false := kit_ty (by decide +kernel)
theorem kb_NoneType_tuple {K : PySem.W.Frag} : PySem.W.kitOne K (.type "NoneType") (.type "tuple") = some false := kit_ty (by decide +kernel)
theorem kb_bool_bool {K : PySem.W.Frag} : PySem.W.kitOne K (.type "bool") (.type "bool") = some true := kit_ty (by decide +kernel)
theorem kb_bool_int {K : PySem.W.Frag} : PySem.W.kitOne K (.type "bool") (.type "int") = some true := kit_ty (by decide +kernel)
theorem kb_bool_str {K : PySem.W.Frag} : PySem.W.kitOne K (.type "bool") (.type "str") = some false := kit_ty (by decide +kernel)
theorem kb_bool_list {K : PySem.W.Frag} : PySem.W.kitOne K (.type "bool") (.type "list") = some false := kit_ty (by decide +kernel)
theorem kb_bool_tuple {K : PySem.W.Frag} : PySem.W.kitOne K (.type "bool") (.type "tuple") = some false := kit_ty (by decide +kernel)
theorem kb_int_bool {K : PySem.W.Frag} : PySem.W.kitOne K (.type "int") (.type "bool") = some false := kit_ty (by decide +kernel)
theorem kb_int_int {K : PySem.W.Frag} : PySem.W.kitOne K (.type "int") (.type "int") = some true := kit_ty (by decide +kernel)
theorem kb_int_str {K : PySem.W.Frag} : PySem.W.kitOne K (.type "int") (.type "str") = some false := kit_ty (by decide +kernel)
theorem kb_int_list {K : PySem.W.Frag} : PySem.W.kitOne K (.type "int") (.type "list") = some false := kit_ty (by decide +kernel)
theorem kb_int_tuple {K : PySem.W.Frag} : PySem.W.kitOne K (.type "int") (.type "tuple") = some false := kit_ty (by decide +kernel)
theorem kb_str_bool {K : PySem.W.Frag} : PySem.W.kitOne K (.type "str") (.type "bool") = some false := kit_ty (by decide +kernel)
theorem kb_str_int {K : PySem.W.Frag} : PySem.W.kitOne K (.type "str") (.type "int") = some false := kit_ty (by decide +kernel)
theorem kb_str_str {K : PySem.W.Frag} : PySem.W.kitOne K (.type "str") (.type "str") = some true := kit_ty (by decide +kernel)
theorem kb_str_list {K : PySem.W.Frag} : PySem.W.kitOne K (.type "str") (.type "list") = some false := kit_ty (by decide +kernel)
theorem kb_str_tuple {K : PySem.W.Frag} : PySem.W.kitOne K (.type "str") (.type "tuple") = some false := kit_ty (by decide +kernel)
theorem kb_list_bool {K : PySem.W.Frag} : PySem.W.kitOne K (.type "list") (.type "bool") = some false := kit_ty (by decide +kernel)
theorem kb_list_int {K : PySem.W.Frag} : PySem.W.kitOne K (.type "list") (.type "int") = some false := kit_ty (by decide +kernel)
theorem kb_list_str {K : PySem.W.Frag} : PySem.W.kitOne K (.type "list") (.type "str") = some false := kit_ty (by decide +kernel)
theorem kb_list_list {K : PySem.W.Frag} : PySem.W.kitOne K (.type "list") (.type "list") = some true := kit_ty (by decide +kernel)
theorem kb_list_tuple {K : PySem.W.Frag} : PySem.W.kitOne K (.type "list") (.type "tuple") = some false := kit_ty (by decide +kernel)
theorem kb_tuple_bool {K : PySem.W.Frag} : PySem.W.kitOne K (.type "tuple") (.type "bool") = some false := kit_ty (by decide +kernel)
theorem kb_tuple_int {K : PySem.W.Frag} : PySem.W.kitOne K (.type "tuple") (.type "int") = some false := kit_ty (by decide +kernel)
theorem kb_tuple_str {K : PySem.W.Frag} : PySem.W.kitOne K (.type "tuple") (.type "str") = some false := kit_ty (by decide +kernel)
theorem kb_tuple_list {K : PySem.W.Frag} : PySem.W.kitOne K (.type "tuple") (.type "list") = some false := kit_ty (by decide +kernel)
theorem kb_tuple_tuple {K : PySem.W.Frag} : PySem.W.kitOne K (.type "tuple") (.type "tuple") = some true := kit_ty (by decide +kernel)
theorem kit2 {K : PySem.W.Frag} {t b c : Value} {r1 r2 : Bool} (h1 : PySem.W.kitOne K t b = some r1) (h2 : PySem.W.kitOne K t c = some r2) : PySem.W.kitAny K t [b, c] = some (r1 || r2) := by
  refine kitAny_cons h1 (fun e => ?_) (fun e => by rw [e] <;> rfl)
  rw [e]
  refine kitAny_cons h2 (fun e => ?_) (fun e => by rw [e] <;> rfl)
  rw [e]
  rfl
/-- what raises nothing -/
theorem fn_cx0 {P : Program} {w : World} {K : PySem.W.Frag} {mg : Str → Option Value} {base : Heap} {k : Nat} {f : Addr} {fd : FuncData} {ps : List Str} {sp : Sp} (F : FnOk P w K mg base (L2.CX P w) k f fd ps sp) (h : ∀ vs H Q E, sp vs H Q E → sp vs H Q E0) : FnOk P w K mg base CX0 k f fd ps sp := by
  refine ⟨F.len, fun A outer s H args us vs Q E hr he hb hv hs => codeAny_mono (F.run A outer s H args us vs Q E0 hr he hb hv (h _ _ _ _ hs)) fun r s' hq => ?_⟩
  cases r with
  | error e =>
    obtain ⟨_, _, _, _, _, _, _, _, _, _, _, _, z⟩ := hq
    exact z.elim
  | ok fl => cases fl <;> exact hq
/-- a promise that no one asks -/
def spNever : Sp := fun _ _ _ _ => False
theorem ok_never {P : Program} {w : World} {K : PySem.W.Frag} {mg : Str → Option Value} {base : Heap} {x qual : Str} {st : Stmt} {f : Addr} {ps : List Str} {k : Nat} (F : Df K x qual st f)
    (bd : ∀ (kV doc pm : Value) (an : Option Addr) (cdv ct : Value) (us : List Value), us.length = ps.length → bindArgs (PySem.W.fnOf x qual (defArgs st) (defBody st) (defScope st) .none kV doc pm an cdv ct) ⟨us, []⟩ = pure (ps.zip us)) : Ok P w K mg base k f ps spNever := by
  obtain ⟨fd, F⟩ := F
  exact ⟨⟨fd, ⟨fun _ _ _ _ h => h.elim, fun _ _ _ _ _ _ _ _ _ _ _ _ _ h => h.elim⟩, F.bindsN bd⟩, F.kp⟩

/-! ### the rules with their written part named (for use within comprehensions) -/
section
variable {X : Cx}
theorem ix_list_q (K : PySem.W.Frag) (h : X.K = K) : IxR X (rIxL K) := h ▸ ix_list
theorem ix_tup_q (K : PySem.W.Frag) (h : X.K = K) : IxR X (rIxT K) := h ▸ ix_tup
theorem ix_seq_q (K : PySem.W.Frag) (h : X.K = K) : IxR X (rIx K) := h ▸ ix_seq
theorem sl_list_q (K : PySem.W.Frag) (h : X.K = K) : SlR X (rSlL K) := h ▸ sl_list
theorem sl_tup_q (K : PySem.W.Frag) (h : X.K = K) : SlR X (rSlT K) := h ▸ sl_tup
theorem call_len_seq_q (K : PySem.W.Frag) (h : X.K = K) : CallR X (.builtin "len") (fun xs H Q => ∃ p ys, xs = [.ref p] ∧ (SqL K H p ys ∨ SqT K H p ys) ∧ Q (.int ys.length) H) := h ▸ call_len_seq
theorem call_list_of_q (K : PySem.W.Frag) (h : X.K = K) : CallR X (.type "list") (fun xs H Q => ∃ p ys, xs = [.ref p] ∧ (SqL K H p ys ∨ SqT K H p ys) ∧ ∀ l, H l = none → Q (.ref l) (upd H l (.lst ys))) := h ▸ call_list_of
theorem call_tuple_of_q (K : PySem.W.Frag) (h : X.K = K) : CallR X (.type "tuple") (fun xs H Q => ∃ p ys, xs = [.ref p] ∧ ((SqL K H p ys ∧ ∀ l, H l = none → Q (.ref l) (upd H l (.tup ys))) ∨ (SqT K H p ys ∧ Q (.ref p) H))) := h ▸ call_tuple_of
theorem op_in_seq_q (K : PySem.W.Frag) (h : X.K = K) : OpR X (compareOp .In) (rIn K false) := h ▸ op_in_seq
theorem op_notIn_seq_q (K : PySem.W.Frag) (h : X.K = K) : OpR X (compareOp .NotIn) (rIn K true) := h ▸ op_notIn_seq
theorem op_eqD_q (K : PySem.W.Frag) (h : X.K = K) (hu : X.A.units + 64 < cLine) : OpR X (compareOp .Eq) (rEqD K) := h ▸ op_eqD hu
theorem op_neD_q (K : PySem.W.Frag) (h : X.K = K) (hu : X.A.units + 64 < cLine) : OpR X (compareOp .NotEq) (rNeD K) := h ▸ op_neD hu
theorem op_inD_q (K : PySem.W.Frag) (h : X.K = K) (hu : X.A.units + 65 < cLine) : OpR X (compareOp .In) (rInD K) := h ▸ op_inD hu
theorem op_notInD_q (K : PySem.W.Frag) (h : X.K = K) (hu : X.A.units + 65 < cLine) : OpR X (compareOp .NotIn) (rNotInD K) := h ▸ op_notInD hu
theorem cr_sum_q (K : PySem.W.Frag) (h : X.K = K) (hc : X.calm = true) : CallR X (.builtin "sum") (rSum K) := h ▸ cr_sum hc
theorem call_isi_q (K : PySem.W.Frag) (h : X.K = K) : CallR X (.builtin "isinstance") (rIsi K) := h ▸ call_isi
theorem call_isiT_q (K : PySem.W.Frag) (h : X.K = K) : CallR X (.builtin "isinstance") (rIsiT K) := h ▸ call_isiT
theorem pe_fld_q (K : PySem.W.Frag) (h : X.K = K) {e : Expr} {ta : TE} {f : Str} {pos : Pos} (he : PE X e ta) (hb : attributeBase e f X.env (eval e X.env) = eval e X.env) : PE X (.Attribute e f pos) (tFld K ta f) := h ▸ pe_fld he hb
theorem pg_tup_q (K : PySem.W.Frag) (h : X.K = K) {es : List Expr} {k : Nat} {t : TGs} {n : Nat} {pos : Pos} (hc : X.calm = true) (hg : PGs X es t)
    (hn : (assignEach es X.env).length = n := by rfl) (hst : (assignEach es X.env).findIdx? (·.1) = none := by rfl) : PG X (.Tuple es k pos) (gTup K n t) := h ▸ pg_tup hc hg hn hst
theorem pi_list_q (K : PySem.W.Frag) (h : X.K = K) {tg l : Expr} {tl : TE} (hl : PE X l tl) : PI X tg l (iList K tl) := h ▸ pi_list hl
theorem pi_tup_q (K : PySem.W.Frag) (h : X.K = K) {tg l : Expr} {tl : TE} (hl : PE X l tl) : PI X tg l (iTup K tl) := h ▸ pi_tup hl
theorem pe_bm0_q (K : PySem.W.Frag) (h : X.K = K) {T : String} {name : Str} {id : String} {o : Expr} {to : TE} {apos cpos : Pos} {r : V → List V → Hp → VK → Prop} (pa : PlainAttrs T) (slot : Slot T name id) (hty : typeOf (.builtin id) = pure (.type "method_descriptor")) (hm : MtR X id r) (ho : PE X o to)
    (hbase : attributeBase o name X.env (eval o X.env) = eval o X.env := by rfl) (hline : (apos.endLine == cpos.line) = true := by rfl) : PE X (.Call (.Attribute o name apos) [] [] cpos) (tBM0 K T r to) := h ▸ pe_bm0 pa slot hty hm ho hbase hline
theorem pe_bm_q (K : PySem.W.Frag) (h : X.K = K) {T : String} {name : Str} {id : String} {o e : Expr} {es : List Expr} {to : TE} {t : TA} {apos cpos : Pos} {r : V → List V → Hp → VK → Prop} (pa : PlainAttrs T) (slot : Slot T name id) (hty : typeOf (.builtin id) = pure (.type "method_descriptor")) (hm : MtR X id r) (ho : PE X o to) (ha : PA X (e :: es) t)
    (hbase : attributeBase o name X.env (eval o X.env) = eval o X.env := by rfl)
    (hfew : ((backTo cpos (starEach (e :: es) X.env)).all (fun x => !x.1) && (backToKw cpos (keywordEach [] X.env)).all (fun x => x.1.isSome)
      && decide ((e :: es).length + ([] : List Keyword).length + (if ([] : List Keyword).isEmpty then 0 else 1) < 30)) = true := by rfl)
    (hline : (apos.endLine == cpos.line) = true := by rfl) (hs : starEach (e :: es) X.env = (false, eval e X.env) :: starEach es X.env := by rfl) (hplain : (backTo cpos (starEach es X.env)).any (·.1) = false := by rfl) :
    PE X (.Call (.Attribute o name apos) (e :: es) [] cpos) (tBM K T r to t) := h ▸ pe_bm pa slot hty hm ho ha hbase hfew hline hs hplain
end

/-! ### a comprehension over turns that are known -/
theorem lc_of {J : It} {n : Nat} {item : Nat → V} {g : TG} {tt : TT} {te : TE} {vs : List Nat} {σ : L2.St} {H1 : Hp} {D : Addr} {Qd : Hp → Prop} (Pv : Nat → Hp → Prop) (hgo : ∀ i H, i < n → J.go i H) (hy : ∀ i H x H', J.yld i H x H' → H' = H ∧ x = item i)
    (hst : ∀ i H, n ≤ i → J.stop i H) (h0 : Pv 0 (upd H1 D (.lst [])))
    (hs : ∀ i H, i < n → Pv i H → g (item i) (wipe σ vs) H fun σ2 H2 => wipe σ2 vs = wipe σ vs ∧ tt σ2 H2 fun b H3 =>
      if b = true then te σ2 H3 fun y H4 => ∃ acc, H4 D = some (.lst acc) ∧ acc.length < sizeLine ∧ Pv (i + 1) (upd H4 D (.lst (acc ++ [y]))) else Pv (i + 1) H3) (hd : ∀ H, Pv n H → Qd H) :
    ∃ W : Nat → Nat → Hp → Prop, (∃ m, W 0 m (upd H1 D (.lst []))) ∧ ∀ i m H, W i m H →
      (J.stop i H ∧ Qd H) ∨ (J.go i H ∧ ∃ Nx : Hp → Prop, (∀ H', Nx H' → ∃ m', m' < m ∧ W (i + 1) m' H') ∧ ∀ x H', J.yld i H x H' → g x (wipe σ vs) H' fun σ2 H2 => wipe σ2 vs = wipe σ vs ∧ tt σ2 H2 fun b H3 =>
        if b = true then te σ2 H3 fun y H4 => ∃ acc, H4 D = some (.lst acc) ∧ acc.length < sizeLine ∧ Nx (upd H4 D (.lst (acc ++ [y]))) else Nx H3) := by
  refine ⟨fun i m H => m = n - i ∧ i ≤ n ∧ Pv i H, ⟨n, rfl, Nat.zero_le _, h0⟩, ?_⟩
  rintro i m H ⟨rfl, hi, p⟩
  rcases Nat.lt_or_ge i n with hlt | hge
  · refine .inr ⟨hgo i H hlt, Pv (i + 1), fun H' p' => ⟨n - (i + 1), by omega, rfl, hlt, p'⟩, fun x H' y => ?_⟩
    obtain ⟨rfl, rfl⟩ := hy i H x H' y
    exact hs i _ hlt p
  · obtain rfl : i = n := Nat.le_antisymm hi hge
    exact .inl ⟨hst _ _ hge, hd H p⟩
/-- over range(lo, .., c) -/
theorem lc_rangeC {lo c : Int} {n : Nat} {g : TG} {tt : TT} {te : TE} {vs : List Nat} {σ : L2.St} {H1 : Hp} {D : Addr} {Qd : Hp → Prop} (Pv : Nat → Hp → Prop) (h0 : Pv 0 (upd H1 D (.lst [])))
    (hs : ∀ i H, i < n → Pv i H → g (.int (lo + (i : Nat) * c)) (wipe σ vs) H fun σ2 H2 => wipe σ2 vs = wipe σ vs ∧ tt σ2 H2 fun b H3 =>
      if b = true then te σ2 H3 fun y H4 => ∃ acc, H4 D = some (.lst acc) ∧ acc.length < sizeLine ∧ Pv (i + 1) (upd H4 D (.lst (acc ++ [y]))) else Pv (i + 1) H3) (hd : ∀ H, Pv n H → Qd H) :
    ∃ W : Nat → Nat → Hp → Prop, (∃ m, W 0 m (upd H1 D (.lst []))) ∧ ∀ i m H, W i m H →
      ((Itc lo c n).stop i H ∧ Qd H) ∨ ((Itc lo c n).go i H ∧ ∃ Nx : Hp → Prop, (∀ H', Nx H' → ∃ m', m' < m ∧ W (i + 1) m' H') ∧ ∀ x H', (Itc lo c n).yld i H x H' → g x (wipe σ vs) H' fun σ2 H2 => wipe σ2 vs = wipe σ vs ∧ tt σ2 H2 fun b H3 =>
        if b = true then te σ2 H3 fun y H4 => ∃ acc, H4 D = some (.lst acc) ∧ acc.length < sizeLine ∧ Nx (upd H4 D (.lst (acc ++ [y]))) else Nx H3) :=
  lc_of (item := fun i => .int (lo + (i : Nat) * c)) Pv (fun _ _ h => h) (fun _ _ _ _ h => h) (fun _ _ h => h) h0 hs hd
theorem rgc3 {m : Int} (h : 0 ≤ m) (h2 : m ≤ 100000) : RgC 0 m 3 ((m.toNat + 2) / 3) := by
  have e : Builtin.Range.rangeSize 0 m 3 = (((m.toNat + 2) / 3 : Nat) : Int) := by
    rw [PyProof.Rows.rangeSize_pos (by decide) h]
    omega
  refine ⟨by decide, by decide, ?_, e⟩
  unfold Builtin.Range.small
  rw [e]
  simp only [Builtin.Range.rangeFitsLong, Bool.and_eq_true, Bool.or_eq_true, decide_eq_true_eq, beq_iff_eq, show (3 : Int) > 0 by decide, if_true]
  omega

/-- over the keys of a locked dict -/
theorem lc_keys {d : Addr} {o : Obj} {kvs : List (Key × V)} {g : TG} {tt : TT} {te : TE} {vs : List Nat} {σ : L2.St} {H1 : Hp} {D : Addr} {Qd : Hp → Prop} (Pv : Nat → Hp → Prop) (hl : ∀ i H, Pv i H → H d = some (.frz o (.dK kvs))) (h0 : Pv 0 (upd H1 D (.lst [])))
    (hs : ∀ i H k v, kvs[i]? = some (k, v) → Pv i H → g (kV k) (wipe σ vs) H fun σ2 H2 => wipe σ2 vs = wipe σ vs ∧ tt σ2 H2 fun b H3 =>
      if b = true then te σ2 H3 fun y H4 => ∃ acc, H4 D = some (.lst acc) ∧ acc.length < sizeLine ∧ Pv (i + 1) (upd H4 D (.lst (acc ++ [y]))) else Pv (i + 1) H3) (hd : ∀ H, Pv kvs.length H → Qd H) :
    ∃ W : Nat → Nat → Hp → Prop, (∃ m, W 0 m (upd H1 D (.lst []))) ∧ ∀ i m H, W i m H →
      ((Itk d o kvs).stop i H ∧ Qd H) ∨ ((Itk d o kvs).go i H ∧ ∃ Nx : Hp → Prop, (∀ H', Nx H' → ∃ m', m' < m ∧ W (i + 1) m' H') ∧ ∀ x H', (Itk d o kvs).yld i H x H' → g x (wipe σ vs) H' fun σ2 H2 => wipe σ2 vs = wipe σ vs ∧ tt σ2 H2 fun b H3 =>
        if b = true then te σ2 H3 fun y H4 => ∃ acc, H4 D = some (.lst acc) ∧ acc.length < sizeLine ∧ Nx (upd H4 D (.lst (acc ++ [y]))) else Nx H3) := by
  refine ⟨fun i m H => m = kvs.length - i ∧ i ≤ kvs.length ∧ Pv i H, ⟨kvs.length, rfl, Nat.zero_le _, h0⟩, ?_⟩
  rintro i m H ⟨rfl, hi, p⟩
  rcases Nat.lt_or_ge i kvs.length with hlt | hge
  · refine .inr ⟨⟨hl i H p, hlt⟩, Pv (i + 1), fun H' p' => ⟨kvs.length - (i + 1), by omega, rfl, hlt, p'⟩, fun x H' y => ?_⟩
    obtain ⟨rfl, k, v, e, rfl⟩ := y
    exact hs i _ k v e p
  · obtain rfl : i = kvs.length := Nat.le_antisymm hi hge
    exact .inl ⟨⟨hl _ H p, hge⟩, hd H p⟩
end RL
namespace RL
open PySem PySem.Spec PyProof.Rows L2
def top (i : Nat) : Stmt := PySem.Challenge.pw_ringlog_k11_rows_that_stand_and_that_are.main.body.getD i (.Pass ⟨0, 0, 0, 0⟩)
abbrev s_words_of : Stmt := top 2
abbrev n_words_of : List Str := ["some", "data", "words"]
abbrev p_words_of : List Str := ["some"]
theorem sc_words_of : FnScope n_words_of p_words_of (defScope s_words_of) := ⟨rfl, rfl, rfl, by decide +kernel, rfl, by decide +kernel, by decide +kernel⟩
theorem bd_words_of (kV doc pm : Value) (an : Option Addr) (cdv ct : Value) (us : List Value) (hl : us.length = p_words_of.length) : bindArgs (PySem.W.fnOf "words_of" "words_of" (defArgs s_words_of) (defBody s_words_of) (defScope s_words_of) .none kV doc pm an cdv ct) ⟨us, []⟩ = pure (p_words_of.zip us) := match us, hl with | [_], _ => rfl
abbrev a_words_of (K : PySem.W.Frag) : Addr := He.ga K "words_of"
def dd_words_of : He.DefD := ⟨("words_of", none), "words_of", "words_of", defArgs s_words_of, defBody s_words_of, defScope s_words_of, [], []⟩
abbrev s_in_groups : Stmt := top 4
abbrev n_in_groups : List Str := ["blocks", "found", "words"]
abbrev p_in_groups : List Str := ["blocks"]
theorem sc_in_groups : FnScope n_in_groups p_in_groups (defScope s_in_groups) := ⟨rfl, rfl, rfl, by decide +kernel, rfl, by decide +kernel, by decide +kernel⟩
theorem bd_in_groups (kV doc pm : Value) (an : Option Addr) (cdv ct : Value) (us : List Value) (hl : us.length = p_in_groups.length) : bindArgs (PySem.W.fnOf "in_groups" "in_groups" (defArgs s_in_groups) (defBody s_in_groups) (defScope s_in_groups) .none kV doc pm an cdv ct) ⟨us, []⟩ = pure (p_in_groups.zip us) := match us, hl with | [_], _ => rfl
abbrev a_in_groups (K : PySem.W.Frag) : Addr := He.ga K "in_groups"
def dd_in_groups : He.DefD := ⟨("in_groups", none), "in_groups", "in_groups", defArgs s_in_groups, defBody s_in_groups, defScope s_in_groups, [], []⟩
abbrev s_rows_in : Stmt := top 5
abbrev n_rows_in : List Str := ["blocks", "groups", "begin"]
abbrev p_rows_in : List Str := ["blocks"]
theorem sc_rows_in : FnScope n_rows_in p_rows_in (defScope s_rows_in) := ⟨rfl, rfl, rfl, by decide +kernel, rfl, by decide +kernel, by decide +kernel⟩
theorem bd_rows_in (kV doc pm : Value) (an : Option Addr) (cdv ct : Value) (us : List Value) (hl : us.length = p_rows_in.length) : bindArgs (PySem.W.fnOf "rows_in" "rows_in" (defArgs s_rows_in) (defBody s_rows_in) (defScope s_rows_in) .none kV doc pm an cdv ct) ⟨us, []⟩ = pure (p_rows_in.zip us) := match us, hl with | [_], _ => rfl
abbrev a_rows_in (K : PySem.W.Frag) : Addr := He.ga K "rows_in"
def dd_rows_in : He.DefD := ⟨("rows_in", none), "rows_in", "rows_in", defArgs s_rows_in, defBody s_rows_in, defScope s_rows_in, [], []⟩
abbrev s_cut_in : Stmt := top 6
abbrev n_cut_in : List Str := ["blocks", "groups", "begin"]
abbrev p_cut_in : List Str := ["blocks"]
theorem sc_cut_in : FnScope n_cut_in p_cut_in (defScope s_cut_in) := ⟨rfl, rfl, rfl, by decide +kernel, rfl, by decide +kernel, by decide +kernel⟩
theorem bd_cut_in (kV doc pm : Value) (an : Option Addr) (cdv ct : Value) (us : List Value) (hl : us.length = p_cut_in.length) : bindArgs (PySem.W.fnOf "cut_in" "cut_in" (defArgs s_cut_in) (defBody s_cut_in) (defScope s_cut_in) .none kV doc pm an cdv ct) ⟨us, []⟩ = pure (p_cut_in.zip us) := match us, hl with | [_], _ => rfl
abbrev a_cut_in (K : PySem.W.Frag) : Addr := He.ga K "cut_in"
def dd_cut_in : He.DefD := ⟨("cut_in", none), "cut_in", "cut_in", defArgs s_cut_in, defBody s_cut_in, defScope s_cut_in, [], []⟩
abbrev s_l_taken : Stmt := top 8
abbrev n_l_taken : List Str := ["_law_row", "_law_many", "_law_cell"]
abbrev p_l_taken : List Str := ["_law_row", "_law_many"]
theorem sc_l_taken : FnScope n_l_taken p_l_taken (defScope s_l_taken) := ⟨rfl, rfl, rfl, by decide +kernel, rfl, by decide +kernel, by decide +kernel⟩
theorem bd_l_taken (kV doc pm : Value) (an : Option Addr) (cdv ct : Value) (us : List Value) (hl : us.length = p_l_taken.length) : bindArgs (PySem.W.fnOf "_law_taken" "_law_taken" (defArgs s_l_taken) (defBody s_l_taken) (defScope s_l_taken) .none kV doc pm an cdv ct) ⟨us, []⟩ = pure (p_l_taken.zip us) := match us, hl with | [_, _], _ => rfl
abbrev a_l_taken (K : PySem.W.Frag) : Addr := He.ga K "_law_taken"
def dd_l_taken : He.DefD := ⟨("_law_taken", none), "_law_taken", "_law_taken", defArgs s_l_taken, defBody s_l_taken, defScope s_l_taken, [], []⟩
abbrev s_l_row_of : Stmt := top 9
abbrev n_l_row_of : List Str := ["_law_row", "_law_found", "_law_k"]
abbrev p_l_row_of : List Str := ["_law_row"]
theorem sc_l_row_of : FnScope n_l_row_of p_l_row_of (defScope s_l_row_of) := ⟨rfl, rfl, rfl, by decide +kernel, rfl, by decide +kernel, by decide +kernel⟩
theorem bd_l_row_of (kV doc pm : Value) (an : Option Addr) (cdv ct : Value) (us : List Value) (hl : us.length = p_l_row_of.length) : bindArgs (PySem.W.fnOf "_law_row_of" "_law_row_of" (defArgs s_l_row_of) (defBody s_l_row_of) (defScope s_l_row_of) .none kV doc pm an cdv ct) ⟨us, []⟩ = pure (p_l_row_of.zip us) := match us, hl with | [_], _ => rfl
abbrev a_l_row_of (K : PySem.W.Frag) : Addr := He.ga K "_law_row_of"
def dd_l_row_of : He.DefD := ⟨("_law_row_of", none), "_law_row_of", "_law_row_of", defArgs s_l_row_of, defBody s_l_row_of, defScope s_l_row_of, [], []⟩
abbrev s_l_pieces : Stmt := top 10
abbrev n_l_pieces : List Str := ["_law_words", "_law_data", "_law_at"]
abbrev p_l_pieces : List Str := ["_law_words"]
theorem sc_l_pieces : FnScope n_l_pieces p_l_pieces (defScope s_l_pieces) := ⟨rfl, rfl, rfl, by decide +kernel, rfl, by decide +kernel, by decide +kernel⟩
theorem bd_l_pieces (kV doc pm : Value) (an : Option Addr) (cdv ct : Value) (us : List Value) (hl : us.length = p_l_pieces.length) : bindArgs (PySem.W.fnOf "_law_pieces" "_law_pieces" (defArgs s_l_pieces) (defBody s_l_pieces) (defScope s_l_pieces) .none kV doc pm an cdv ct) ⟨us, []⟩ = pure (p_l_pieces.zip us) := match us, hl with | [_], _ => rfl
abbrev a_l_pieces (K : PySem.W.Frag) : Addr := He.ga K "_law_pieces"
def dd_l_pieces : He.DefD := ⟨("_law_pieces", none), "_law_pieces", "_law_pieces", defArgs s_l_pieces, defBody s_l_pieces, defScope s_l_pieces, [], []⟩
abbrev s_l_mark : Stmt := top 11
abbrev n_l_mark : List Str := ["_law_number", "_law_floor", "_law_left"]
abbrev p_l_mark : List Str := ["_law_number", "_law_floor", "_law_left"]
theorem sc_l_mark : FnScope n_l_mark p_l_mark (defScope s_l_mark) := ⟨rfl, rfl, rfl, by decide +kernel, rfl, by decide +kernel, by decide +kernel⟩
theorem bd_l_mark (kV doc pm : Value) (an : Option Addr) (cdv ct : Value) (us : List Value) (hl : us.length = p_l_mark.length) : bindArgs (PySem.W.fnOf "_law_mark" "_law_mark" (defArgs s_l_mark) (defBody s_l_mark) (defScope s_l_mark) .none kV doc pm an cdv ct) ⟨us, []⟩ = pure (p_l_mark.zip us) := match us, hl with | [_, _, _], _ => rfl
abbrev a_l_mark (K : PySem.W.Frag) : Addr := He.ga K "_law_mark"
def dd_l_mark : He.DefD := ⟨("_law_mark", none), "_law_mark", "_law_mark", defArgs s_l_mark, defBody s_l_mark, defScope s_l_mark, [], []⟩
abbrev s_l_alike : Stmt := top 12
abbrev n_l_alike : List Str := ["_law_found", "_law_due", "_law_k"]
abbrev p_l_alike : List Str := ["_law_found", "_law_due"]
theorem sc_l_alike : FnScope n_l_alike p_l_alike (defScope s_l_alike) := ⟨rfl, rfl, rfl, by decide +kernel, rfl, by decide +kernel, by decide +kernel⟩
theorem bd_l_alike (kV doc pm : Value) (an : Option Addr) (cdv ct : Value) (us : List Value) (hl : us.length = p_l_alike.length) : bindArgs (PySem.W.fnOf "_law_alike" "_law_alike" (defArgs s_l_alike) (defBody s_l_alike) (defScope s_l_alike) .none kV doc pm an cdv ct) ⟨us, []⟩ = pure (p_l_alike.zip us) := match us, hl with | [_, _], _ => rfl
abbrev a_l_alike (K : PySem.W.Frag) : Addr := He.ga K "_law_alike"
def dd_l_alike : He.DefD := ⟨("_law_alike", none), "_law_alike", "_law_alike", defArgs s_l_alike, defBody s_l_alike, defScope s_l_alike, [], []⟩
abbrev s_law : Stmt := top 13
abbrev n_law : List Str := ["_law_script", "_law_row", "_law_turn", "_law_number", "_law_blocks", "_law_due", "_law_cut", "_law_k", "_law_words", "_law_some", "_law_many", "_law_j", "_law_handed", "_law_found", "_law_told"]
abbrev p_law : List Str := ["_law_script"]
theorem sc_law : FnScope n_law p_law (defScope s_law) := ⟨rfl, rfl, rfl, by decide +kernel, rfl, by decide +kernel, by decide +kernel⟩
theorem bd_law (kV doc pm : Value) (an : Option Addr) (cdv ct : Value) (us : List Value) (hl : us.length = p_law.length) : bindArgs (PySem.W.fnOf "law" "law" (defArgs s_law) (defBody s_law) (defScope s_law) .none kV doc pm an cdv ct) ⟨us, []⟩ = pure (p_law.zip us) := match us, hl with | [_], _ => rfl
abbrev a_law (K : PySem.W.Frag) : Addr := He.ga K "law"
def dd_law : He.DefD := ⟨("law", none), "law", "law", defArgs s_law, defBody s_law, defScope s_law, [], []⟩
structure Tx (K : PySem.W.Frag) (mg : Str → Option Value) : Prop where
  d_words_of : Df K "words_of" "words_of" s_words_of (a_words_of K)
  g_words_of : mg "words_of" = some (.ref (a_words_of K))
  d_in_groups : Df K "in_groups" "in_groups" s_in_groups (a_in_groups K)
  g_in_groups : mg "in_groups" = some (.ref (a_in_groups K))
  d_rows_in : Df K "rows_in" "rows_in" s_rows_in (a_rows_in K)
  g_rows_in : mg "rows_in" = some (.ref (a_rows_in K))
  d_cut_in : Df K "cut_in" "cut_in" s_cut_in (a_cut_in K)
  g_cut_in : mg "cut_in" = some (.ref (a_cut_in K))
  d_l_taken : Df K "_law_taken" "_law_taken" s_l_taken (a_l_taken K)
  g_l_taken : mg "_law_taken" = some (.ref (a_l_taken K))
  d_l_row_of : Df K "_law_row_of" "_law_row_of" s_l_row_of (a_l_row_of K)
  g_l_row_of : mg "_law_row_of" = some (.ref (a_l_row_of K))
  d_l_pieces : Df K "_law_pieces" "_law_pieces" s_l_pieces (a_l_pieces K)
  g_l_pieces : mg "_law_pieces" = some (.ref (a_l_pieces K))
  d_l_mark : Df K "_law_mark" "_law_mark" s_l_mark (a_l_mark K)
  g_l_mark : mg "_law_mark" = some (.ref (a_l_mark K))
  d_l_alike : Df K "_law_alike" "_law_alike" s_l_alike (a_l_alike K)
  g_l_alike : mg "_law_alike" = some (.ref (a_l_alike K))
  d_law : Df K "law" "law" s_law (a_law K)
  g_law : mg "law" = some (.ref (a_law K))
  i_DATA : ∃ t, mg "DATA" = some (.int 3 t)
  b_bool : mg "bool" = none
  b_int : mg "int" = none
  b_isinstance : mg "isinstance" = none
  b_len : mg "len" = none
  b_list : mg "list" = none
  b_range : mg "range" = none
  b_str : mg "str" = none
  b_tuple : mg "tuple" = none
def fa : List He.Fa := [.glo "words_of", .glo "in_groups", .glo "rows_in", .glo "cut_in", .glo "_law_taken", .glo "_law_row_of", .glo "_law_pieces", .glo "_law_mark", .glo "_law_alike", .glo "law", .int "DATA" 3, .free "bool", .free "int", .free "isinstance", .free "len", .free "list", .free "range", .free "str", .free "tuple"]
def fn : List He.DefD := [dd_words_of, dd_in_groups, dd_rows_in, dd_cut_in, dd_l_taken, dd_l_row_of, dd_l_pieces, dd_l_mark, dd_l_alike, dd_law]
theorem Tx.of {K : PySem.W.Frag} {h : Heap} {mg : Str → Option Value} (X : K.In h) (G : h.Ns mainGlobals mg) (c : He.SaysD fa fn K) : Tx K mg where
  d_words_of := c.def_ 0 (d := dd_words_of) rfl
  g_words_of := He.glo_ok X G (c.fact 0 (f := .glo "words_of") rfl)
  d_in_groups := c.def_ 1 (d := dd_in_groups) rfl
  g_in_groups := He.glo_ok X G (c.fact 1 (f := .glo "in_groups") rfl)
  d_rows_in := c.def_ 2 (d := dd_rows_in) rfl
  g_rows_in := He.glo_ok X G (c.fact 2 (f := .glo "rows_in") rfl)
  d_cut_in := c.def_ 3 (d := dd_cut_in) rfl
  g_cut_in := He.glo_ok X G (c.fact 3 (f := .glo "cut_in") rfl)
  d_l_taken := c.def_ 4 (d := dd_l_taken) rfl
  g_l_taken := He.glo_ok X G (c.fact 4 (f := .glo "_law_taken") rfl)
  d_l_row_of := c.def_ 5 (d := dd_l_row_of) rfl
  g_l_row_of := He.glo_ok X G (c.fact 5 (f := .glo "_law_row_of") rfl)
  d_l_pieces := c.def_ 6 (d := dd_l_pieces) rfl
  g_l_pieces := He.glo_ok X G (c.fact 6 (f := .glo "_law_pieces") rfl)
  d_l_mark := c.def_ 7 (d := dd_l_mark) rfl
  g_l_mark := He.glo_ok X G (c.fact 7 (f := .glo "_law_mark") rfl)
  d_l_alike := c.def_ 8 (d := dd_l_alike) rfl
  g_l_alike := He.glo_ok X G (c.fact 8 (f := .glo "_law_alike") rfl)
  d_law := c.def_ 9 (d := dd_law) rfl
  g_law := He.glo_ok X G (c.fact 9 (f := .glo "law") rfl)
  i_DATA := He.int_ok X G (c.fact 10 (f := .int "DATA" 3) rfl)
  b_bool := He.free_ok X G (c.fact 11 (f := .free "bool") rfl)
  b_int := He.free_ok X G (c.fact 12 (f := .free "int") rfl)
  b_isinstance := He.free_ok X G (c.fact 13 (f := .free "isinstance") rfl)
  b_len := He.free_ok X G (c.fact 14 (f := .free "len") rfl)
  b_list := He.free_ok X G (c.fact 15 (f := .free "list") rfl)
  b_range := He.free_ok X G (c.fact 16 (f := .free "range") rfl)
  b_str := He.free_ok X G (c.fact 17 (f := .free "str") rfl)
  b_tuple := He.free_ok X G (c.fact 18 (f := .free "tuple") rfl)
end RL
namespace RL
open PySem PySem.Spec PyProof.Rows L2
/-- the law's promise: a list of ints is handed in, True comes out -/
def sp_law (K : PySem.W.Frag) : Sp := fun vs H Q _ => ∃ (a : Addr) (ns : List Int), vs = [.ref a] ∧ SqL K H a (ns.map V.int) ∧ ∀ H', Q (.bl true) H'
end RL
namespace RL
open PySem PySem.Spec PyProof.Rows L2
/-- what the law draws from: the script's list, how far, the mix -/
abbrev rowO (a : Addr) (i m : Int) : HO := .lst [.ref a, .int i, .int m]
structure RowOk (K : PySem.W.Frag) (I : Hp) (a : Addr) (i : Int) : Prop where
  sc : ∃ ns : List Int, SqL K I a (ns.map V.int)
  le : 0 ≤ i
theorem RowOk.mono {K : PySem.W.Frag} {I I' : Hp} {a : Addr} {i : Int} (s : Same I I') (h : RowOk K I a i) : RowOk K I' a i := by
  obtain ⟨⟨ns, q⟩, l⟩ := h
  exact ⟨⟨ns, s.seq q⟩, l⟩
theorem RowOk.to {K : PySem.W.Frag} {I : Hp} {a : Addr} {i j : Int} (h : RowOk K I a i) (l : 0 ≤ j) : RowOk K I a j := ⟨h.sc, l⟩
/-- a draw below k: any -/
def sp_taken (K : PySem.W.Frag) : Sp := fun vs H Q _ => ∃ (r a : Addr) (i m k : Int) (L : ML) (I : Hp), vs = [.ref r, .int k] ∧ Hs ((r, rowO a i m) :: L) I H ∧ RowOk K I a i ∧ 0 < k ∧
  ∀ H' i' m' v, Hs ((r, rowO a i' m') :: L) I H' → RowOk K I a i' → 0 ≤ v → v < k → Q (.int v) H'
section
variable {P : Program} {w : World} {K : PySem.W.Frag} {mg : Str → Option Value} {base : Heap}
theorem ok_taken (T : Tx K mg) : Ok P w K mg base 1 (a_l_taken K) p_l_taken (sp_taken K) := by
  refine ok_of T.d_l_taken sc_l_taken bd_l_taken (fun vs H Q E h => ?_) (fun cdv A outer s H vs Q E hr tk po h => ?_)
  · obtain ⟨r, a, i, m, k, L, I, rfl, _⟩ := h
    rfl
  · obtain ⟨r, a, i, m, k, L, I, rfl, h, ⟨⟨ns, hS⟩, hi⟩, hk, q⟩ := h
    refine ⟨_, (pss_cons (ps_asg (pe_op op_add (pe_ix ix_list (pv 0) pe_int (fun _ _ => rfl)) pe_int) (pg_sub (pv 0) pe_int set_list))
    (pss_cons (ps_if (pt_cmpR op_gt (pe_ix ix_list (pv 0) pe_int (fun _ _ => rfl)) (pe_callB call_len_seq (by rfl) T.b_len PySem.boot_len (pa_cons (pe_ix ix_list (pv 0) pe_int (fun _ _ => rfl)) pa_nil)) (nomark _))
    (pss_cons (ps_asg (pe_op op_mod (pe_op op_add (pe_op op_mul (pe_ix ix_list (pv 0) pe_int (fun _ _ => rfl)) pe_int) pe_int) pe_int) (pg_sub (pv 0) pe_int set_list))
    (pss_one (ps_ret (pe_op op_mod (pe_op op_fdiv (pe_ix ix_list (pv 0) pe_int (fun _ _ => rfl)) pe_int) (pv 1)))))
    pss_nil)
    (pss_cons (ps_set (i := 2) sc_l_taken.nd rfl (Or.inl rfl) (pe_ix ix_list (pe_ix ix_list (pv 0) pe_int (fun _ _ => rfl)) (pe_op op_sub (pe_ix ix_list (pv 0) pe_int (fun _ _ => rfl)) pe_int) (fun _ _ => rfl)))
    (pss_cons (ps_asg (pe_op op_mod (pe_op op_add (pe_op op_add (pe_op op_mul (pe_ix ix_list (pv 0) pe_int (fun _ _ => rfl)) pe_int) (pv 2)) pe_int) pe_int) (pg_sub (pv 0) pe_int set_list))
    (pss_one (ps_ret (pe_op op_mod (pv 2) (pv 1)))))))), ?_⟩
    have h1 := h.set0 (o' := rowO a (i + 1) m)
    -- row[1] = row[1] + 1
    refine ⟨_, rfl, r, [.ref a, .int i, .int m], 1, .int i, rfl, rfl, sqm h.g0, rfl, i, 1, rfl, rfl, _, rfl, r, _, 1, 1, rfl, rfl, h.g0, rfl, ?_⟩
    -- row[1] > len(row[0])
    refine ⟨_, rfl, r, _, 1, .int (i + 1), rfl, rfl, sqm h1.g0, rfl, _, rfl, r, _, 0, .ref a, rfl, rfl, sqm h1.g0, rfl, a, ns.map V.int, rfl, .inl (h1.sl hS), i + 1, _, rfl, rfl, _, rfl, if_d (fun c => ?_) (fun c => ?_)⟩
    · have h2 := h1.set0 (o' := rowO a (i + 1) ((m * 48271 + 11) % 2147483647))
      refine ⟨_, rfl, r, _, 2, .int m, rfl, rfl, sqm h1.g0, rfl, m, 48271, rfl, rfl, .inr ⟨by decide, by decide⟩, _, 11, rfl, rfl, _, 2147483647, rfl, rfl, (by show (0 : Int) < 2147483647; decide), _, rfl, r, _, 2, 2, rfl, rfl, h1.g0, rfl, ?_⟩
      refine ⟨_, rfl, r, _, 2, .int ((m * 48271 + 11) % 2147483647), rfl, rfl, sqm h2.g0, rfl, _, 7, rfl, rfl, ⟨by decide, by decide⟩, _, rfl, _, k, rfl, rfl, hk, ?_⟩
      exact q _ _ _ _ h2 ⟨⟨ns, hS⟩, by omega⟩ (Int.emod_nonneg _ (by omega)) (Int.emod_lt_of_pos _ hk)
    · have hl : (i + 1 - 1).toNat < ns.length := by
        rw [List.length_map] at c
        omega
      have e1 : (i + 1 - 1 : Int) = (((i + 1 - 1).toNat : Nat) : Int) := by omega
      have hz : (ns.map V.int)[(i + 1 - 1).toNat]? = some (.int ns[(i + 1 - 1).toNat]) := by
        rw [List.getElem?_map, List.getElem?_eq_getElem hl]
        rfl
      have h2 := h1.set0 (o' := rowO a (i + 1) ((m * 48271 + ns[(i + 1 - 1).toNat] + 11) % 2147483647))
      refine ⟨_, rfl, r, _, 0, .ref a, rfl, rfl, sqm h1.g0, rfl, _, rfl, r, _, 1, .int (i + 1), rfl, rfl, sqm h1.g0, rfl, _, 1, rfl, rfl, a, _, _, _, rfl, rfl, h1.sl hS, at_of e1 hz, ?_⟩
      refine ⟨_, rfl, r, _, 2, .int m, rfl, rfl, sqm h1.g0, rfl, m, 48271, rfl, rfl, .inr ⟨by decide, by decide⟩, _, rfl, _, _, rfl, rfl, _, 11, rfl, rfl, _, 2147483647, rfl, rfl, (by show (0 : Int) < 2147483647; decide), _, rfl, r, _, 2, 2, rfl, rfl, h1.g0, rfl, ?_⟩
      refine ⟨_, rfl, _, rfl, _, k, rfl, rfl, hk, ?_⟩
      exact q _ _ _ _ h2 ⟨⟨ns, hS⟩, by omega⟩ (Int.emod_nonneg _ (by omega)) (Int.emod_lt_of_pos _ hk)
end
end RL
namespace RL
open PySem PySem.Spec PyProof.Rows L2
/-- a row's words -/
def goodRow (ns : List Int) : Prop := ns.length ≤ 11 ∧ ∀ n ∈ ns, 0 ≤ n ∧ n ≤ 999999999
def sp_rowof (K : PySem.W.Frag) : Sp := fun vs H Q _ => ∃ (r a : Addr) (i m : Int) (L : ML) (I : Hp), vs = [.ref r] ∧ Hs ((r, rowO a i m) :: L) I H ∧ RowOk K I a i ∧
  ∀ H' i' m' p ns, Hs ((p, .lst (ns.map V.int)) :: (r, rowO a i' m') :: L) I H' → RowOk K I a i' → goodRow ns → Q (.ref p) H'
section
variable {P : Program} {w : World} {K : PySem.W.Frag} {mg : Str → Option Value} {base : Heap}
theorem ok_rowof (T : Tx K mg) : Ok P w K mg base 2 (a_l_row_of K) p_l_row_of (sp_rowof K) := by
  have G_l_taken := ok_taken (P := P) (w := w) (base := base) T
  refine ok_of T.d_l_row_of sc_l_row_of bd_l_row_of (fun vs H Q E h => ?_) (fun cdv A outer s H vs Q E hr tk po h => ?_)
  · obtain ⟨r, a, i, m, L, I, rfl, _⟩ := h
    rfl
  · obtain ⟨r, a, i, m, L, I, rfl, h, ro, q⟩ := h
    refine ⟨_, (pss_cons (ps_set (i := 1) sc_l_row_of.nd rfl (Or.inl rfl) (pe_lst pa_nil))
    (pss_cons (ps_for po rfl (pi_range1 (by rfl) T.b_range (pa_cons (pe_callO G_l_taken (hr.mono (by first | decide | omega)) T.g_l_taken (passAt tk) (pa_cons (pv 0) (pa_cons (pe_ix ix_list (pe_lst (pa_cons pe_int (pa_cons pe_int pa_nil))) (pe_callO G_l_taken (hr.mono (by first | decide | omega)) T.g_l_taken (passAt tk) (pa_cons (pv 0) (pa_cons pe_int pa_nil))) (fun _ _ => rfl)) pa_nil))) pa_nil)) (pg_name (i := 2) sc_l_row_of.nd rfl (Or.inl rfl))
    (pss_one (ps_expr (pe_bm PySem.F.plainAttrs_list PySem.F.slot_list_append PySem.F.type_list_append mt_append (pv 1) (pa_cons (pe_callO G_l_taken (hr.mono (by first | decide | omega)) T.g_l_taken (passAt tk) (pa_cons (pv 0) (pa_cons (pe_ix ix_list (pe_lst (pa_cons pe_int (pa_cons pe_int (pa_cons pe_int pa_nil)))) (pe_callO G_l_taken (hr.mono (by first | decide | omega)) T.g_l_taken (passAt tk) (pa_cons (pv 0) (pa_cons pe_int pa_nil))) (fun _ _ => rfl)) pa_nil))) pa_nil)))))
    (pss_one (ps_ret (pv 1))))), ?_⟩
    refine ⟨szl (by simp), fun f hf => ?_⟩
    have h1 := h.newM (o := .lst (([] : List Int).map V.int)) hf
    -- how many
    refine ⟨_, rfl, szl (by simp), fun p hp => ?_⟩
    have h2 := (h1.newM (o := .lst (([4, 12] : List Int).map V.int)) hp).m2
    refine ⟨_, rfl, r, a, i, m, 2, _, I, rfl, h2, ro, by decide, fun H3 i3 m3 v3 h3 ro3 lo3 hi3 => ?_⟩
    obtain ⟨x, ex, hx⟩ := at2 (x := .int 4) (y := .int 12) lo3 hi3
    obtain ⟨c, rfl, hc⟩ : ∃ c, x = .int c ∧ 0 < c ∧ c ≤ 12 := by
      rcases hx with e | e
      · exact ⟨4, e, by decide, by decide⟩
      · exact ⟨12, e, by decide, by decide⟩
    refine ⟨p, _, _, _, rfl, rfl, sqm h3.g1, ex, ?_⟩
    refine ⟨r, a, i3, m3, c, _, I, rfl, h3, ro3, hc.1, fun H4 i4 m4 v4 h4 ro4 lo4 hi4 => ?_⟩
    have h4 := h4.m1.drop
    refine ⟨v4, rfl, by omega, by omega, for_range (lo := 0) (fun j σ H' => ∃ i' m' ns z, σ = [some (.ref r), some (.ref f), z] ∧ Hs ((r, rowO a i' m') :: (f, .lst (ns.map V.int)) :: L) I H' ∧ RowOk K I a i' ∧ ns.length = j ∧ ∀ n ∈ ns, 0 ≤ n ∧ n ≤ 999999999)
      ⟨i4, m4, [], none, rfl, h4, ro4, rfl, (fun _ h => nomatch h)⟩ ?_ ?_⟩
    · rintro j σ H5 hj ⟨i5, m5, ns, z, rfl, h5, ro5, hl, hb⟩
      refine ⟨_, rfl, .inl ⟨rfl, _, sqm h5.g1⟩, _, rfl, szl (by simp), fun p hp => ?_⟩
      have h6 := (h5.newM (o := .lst (([3, 100, 1000000000] : List Int).map V.int)) hp).m1
      refine ⟨_, rfl, r, a, i5, m5, 3, _, I, rfl, h6, ro5, by decide, fun H7 i7 m7 v7 h7 ro7 lo7 hi7 => ?_⟩
      obtain ⟨x, ex, hx⟩ := at3 (x := .int 3) (y := .int 100) (z := .int 1000000000) lo7 hi7
      obtain ⟨c, rfl, hc⟩ : ∃ c, x = .int c ∧ 0 < c ∧ c ≤ 1000000000 := by
        rcases hx with e | e | e
        · exact ⟨3, e, by decide, by decide⟩
        · exact ⟨100, e, by decide, by decide⟩
        · exact ⟨1000000000, e, by decide, by decide⟩
      refine ⟨p, _, _, _, rfl, rfl, sqm h7.g1, ex, ?_⟩
      refine ⟨r, a, i7, m7, c, _, I, rfl, h7, ro7, hc.1, fun H8 i8 m8 v8 h8 ro8 lo8 hi8 => ?_⟩
      have h8 := h8.m1.drop
      refine ⟨f, _, _, rfl, rfl, h8.g1, szlt (by rw [List.length_map]; omega), i8, m8, ns ++ [v8], _, rfl, ?_, ro8, by simp [hl], ?_⟩
      · rw [map_snoc]
        exact h8.set1
      · intro n hn
        rcases List.mem_append.mp hn with hn | hn
        · exact hb n hn
        · rw [List.mem_singleton.mp hn]
          omega
    · rintro σ H5 ⟨i5, m5, ns, z, rfl, h5, ro5, hl, hb⟩
      exact ⟨_, rfl, q _ _ _ f ns h5.m1 ro5 ⟨by omega, hb⟩⟩
end
end RL
namespace RL
open PySem PySem.Spec PyProof.Rows L2
/-- alike things: True -/
def sp_alike (n : Nat) : Sp := fun vs H Q _ => ∃ (x y : V) (d : PyData), vs = [x, y] ∧ Rp H x d ∧ Rp H y d ∧ okD n d ∧ ∀ H', Same H H' → Q (.bl true) H'
section
variable {P : Program} {w : World} {K : PySem.W.Frag} {mg : Str → Option Value} {base : Heap}
theorem ok_alike_step (T : Tx K mg) {n : Nat} {sp0 : Sp} (G_l_alike : Ok P w K mg base n (a_l_alike K) p_l_alike sp0) (h0 : ∀ m, n = m + 1 → sp0 = sp_alike m) : Ok P w K mg base (n + 1) (a_l_alike K) p_l_alike (sp_alike n) := by
  refine ok_of T.d_l_alike sc_l_alike bd_l_alike (fun vs H Q E h => ?_) (fun cdv A outer s H vs Q E hr tk po h => ?_)
  · obtain ⟨x, y, d, rfl, _⟩ := h
    rfl
  · obtain ⟨x, y, d, rfl, hx, hy, hd, q⟩ := h
    have hu64 := hr.units
    have hr0 : Room n _ := hr
    refine ⟨_, (pss_cons (ps_if (PW.pt (pw_or (pt_val (pe_callB call_isi (by rfl) T.b_isinstance boot_isinstance (pa_cons (pv 1) (pa_cons (pe_bltn (v := .ty "tuple") (by rfl) T.b_tuple boot_tuple rfl) pa_nil)))) (pw_or1 (pt_val (pe_callB call_isi (by rfl) T.b_isinstance boot_isinstance (pa_cons (pv 1) (pa_cons (pe_bltn (v := .ty "list") (by rfl) T.b_list boot_list rfl) pa_nil)))))))
    (pss_cons (ps_if (PW.pt (pw_or (pt_cmpR op_ne (pe_callB call_isi (by rfl) T.b_isinstance boot_isinstance (pa_cons (pv 0) (pa_cons (pe_bltn (v := .ty "tuple") (by rfl) T.b_tuple boot_tuple rfl) pa_nil))) (pe_callB call_isi (by rfl) T.b_isinstance boot_isinstance (pa_cons (pv 1) (pa_cons (pe_bltn (v := .ty "tuple") (by rfl) T.b_tuple boot_tuple rfl) pa_nil))) (nomark _)) (pw_or1 (pt_not (pt_val (pe_callB call_isiT (by rfl) T.b_isinstance boot_isinstance (pa_cons (pv 0) (pa_cons (pe_tup (pa_cons (pe_bltn (v := .ty "tuple") (by rfl) T.b_tuple boot_tuple rfl) (pa_cons (pe_bltn (v := .ty "list") (by rfl) T.b_list boot_list rfl) pa_nil))) pa_nil))))))))
    (pss_one (ps_ret pe_bl))
    pss_nil)
    (pss_cons (ps_if (pt_cmpR op_ne (pe_callB call_len_seq (by rfl) T.b_len PySem.boot_len (pa_cons (pv 0) pa_nil)) (pe_callB call_len_seq (by rfl) T.b_len PySem.boot_len (pa_cons (pv 1) pa_nil)) (nomark _))
    (pss_one (ps_ret pe_bl))
    pss_nil)
    (pss_one (ps_ret (pe_cmpR (op_eqD hu64) (pe_lc (own := [("_law_k", 2)]) rfl sc_l_alike.nd (pi_range1 (by rfl) T.b_range (pa_cons (pe_callB call_len_seq (by rfl) T.b_len PySem.boot_len (pa_cons (pv 1) pa_nil)) pa_nil)) (blkOk_by (own := [("_law_k", 2)]) (N := n_l_alike) (sc := defScope s_l_alike) (by decide +kernel)) (fun _ _ _ _ _ => (pg_name (i := 2) sc_l_alike.nd rfl (Or.inl rfl))) (fun _ _ _ _ _ => (pts_one (pt_not (pt_val (pe_callO G_l_alike (hr.mono (by first | decide | omega)) T.g_l_alike passN (pa_cons (pe_ix (ix_seq_q K rfl) (pv 0) (pv 2) (fun _ _ => rfl)) (pa_cons (pe_ix (ix_seq_q K rfl) (pv 1) (pv 2) (fun _ _ => rfl)) pa_nil))))))) (fun _ _ _ _ _ => (pv 2))) (pe_lst pa_nil) (nomark _))))))
    pss_nil)
    (pss_cons (ps_if (PW.pt (pw_or (pt_cmp (pc_isN (pv 1)) rfl) (pw_or1 (pt_cmp (pc_isN (pv 0)) rfl))))
    (pss_one (ps_ret (pe_and (pe_cmp (pc_isN (pv 1)) rfl) (pe_one (pe_cmp (pc_isN (pv 0)) rfl)))))
    pss_nil)
    (pss_cons (ps_if (PW.pt (pw_or (pt_val (pe_callB call_isi (by rfl) T.b_isinstance boot_isinstance (pa_cons (pv 1) (pa_cons (pe_bltn (v := .ty "bool") (by rfl) T.b_bool boot_bool rfl) pa_nil)))) (pw_or1 (pt_val (pe_callB call_isi (by rfl) T.b_isinstance boot_isinstance (pa_cons (pv 0) (pa_cons (pe_bltn (v := .ty "bool") (by rfl) T.b_bool boot_bool rfl) pa_nil)))))))
    (pss_one (ps_ret (pe_and (pe_callB call_isi (by rfl) T.b_isinstance boot_isinstance (pa_cons (pv 1) (pa_cons (pe_bltn (v := .ty "bool") (by rfl) T.b_bool boot_bool rfl) pa_nil))) (pe_and (pe_callB call_isi (by rfl) T.b_isinstance boot_isinstance (pa_cons (pv 0) (pa_cons (pe_bltn (v := .ty "bool") (by rfl) T.b_bool boot_bool rfl) pa_nil))) (pe_one (pe_cmpR op_eq (pv 0) (pv 1) (nomark _)))))))
    pss_nil)
    (pss_cons (ps_if (pt_val (pe_callB call_isi (by rfl) T.b_isinstance boot_isinstance (pa_cons (pv 1) (pa_cons (pe_bltn (v := .ty "str") (by rfl) T.b_str boot_str rfl) pa_nil))))
    (pss_one (ps_ret (pe_and (pe_callB call_isi (by rfl) T.b_isinstance boot_isinstance (pa_cons (pv 0) (pa_cons (pe_bltn (v := .ty "str") (by rfl) T.b_str boot_str rfl) pa_nil))) (pe_one (pe_cmpR op_eq (pv 0) (pv 1) (nomark _))))))
    pss_nil)
    (pss_one (ps_ret (pe_and (pe_callB call_isi (by rfl) T.b_isinstance boot_isinstance (pa_cons (pv 0) (pa_cons (pe_bltn (v := .ty "int") (by rfl) T.b_int boot_int rfl) pa_nil))) (pe_one (pe_cmpR op_eq (pv 0) (pv 1) (nomark _)))))))))), ?_⟩
    cases d with
    | none =>
      cases hx
      cases hy
      refine ⟨_, rfl, ?_⟩
      refine ⟨_, _, .type "NoneType", .type "tuple", false, rfl, .ty _, .base .non, kb_NoneType_tuple, ?_⟩
      refine ⟨false, rfl, if_f rfl ⟨_, rfl, ?_⟩⟩
      refine ⟨_, _, .type "NoneType", .type "list", false, rfl, .ty _, .base .non, kb_NoneType_list, ?_⟩
      refine ⟨false, rfl, if_f rfl ?_⟩
      refine ⟨_, rfl, _, rfl, if_t rfl ⟨_, rfl, _, rfl, if_t rfl ⟨_, rfl, q _ (Same.refl _)⟩⟩⟩
    | bool b =>
      cases hx
      cases hy
      refine ⟨_, rfl, ?_⟩
      refine ⟨_, _, .type "bool", .type "tuple", false, rfl, .ty _, .base (.bl b), kb_bool_tuple, ?_⟩
      refine ⟨false, rfl, if_f rfl ⟨_, rfl, ?_⟩⟩
      refine ⟨_, _, .type "bool", .type "list", false, rfl, .ty _, .base (.bl b), kb_bool_list, ?_⟩
      refine ⟨false, rfl, if_f rfl ?_⟩
      refine ⟨_, rfl, _, rfl, if_f rfl ⟨_, rfl, _, rfl, if_f rfl ?_⟩⟩
      refine ⟨_, rfl, ?_⟩
      refine ⟨_, _, .type "bool", .type "bool", true, rfl, .ty _, .base (.bl b), kb_bool_bool, ?_⟩
      refine ⟨true, rfl, if_t rfl (if_t rfl ⟨_, rfl, ?_⟩)⟩
      refine ⟨_, _, .type "bool", .type "bool", true, rfl, .ty _, .base (.bl b), kb_bool_bool, ?_⟩
      refine ⟨true, rfl, if_t rfl ⟨_, rfl, ?_⟩⟩
      refine ⟨_, _, .type "bool", .type "bool", true, rfl, .ty _, .base (.bl b), kb_bool_bool, ?_⟩
      refine ⟨true, rfl, if_t rfl ⟨_, rfl, _, rfl, rfl, ?_⟩⟩
      rw [decide_eq_true rfl]
      exact q _ (Same.refl _)
    | int i =>
      cases hx
      cases hy
      refine ⟨_, rfl, ?_⟩
      refine ⟨_, _, .type "int", .type "tuple", false, rfl, .ty _, .base (.int i), kb_int_tuple, ?_⟩
      refine ⟨false, rfl, if_f rfl ⟨_, rfl, ?_⟩⟩
      refine ⟨_, _, .type "int", .type "list", false, rfl, .ty _, .base (.int i), kb_int_list, ?_⟩
      refine ⟨false, rfl, if_f rfl ?_⟩
      refine ⟨_, rfl, _, rfl, if_f rfl ⟨_, rfl, _, rfl, if_f rfl ?_⟩⟩
      refine ⟨_, rfl, ?_⟩
      refine ⟨_, _, .type "int", .type "bool", false, rfl, .ty _, .base (.int i), kb_int_bool, ?_⟩
      refine ⟨false, rfl, if_f rfl ⟨_, rfl, ?_⟩⟩
      refine ⟨_, _, .type "int", .type "bool", false, rfl, .ty _, .base (.int i), kb_int_bool, ?_⟩
      refine ⟨false, rfl, if_f rfl ?_⟩
      refine ⟨_, rfl, ?_⟩
      refine ⟨_, _, .type "int", .type "str", false, rfl, .ty _, .base (.int i), kb_int_str, ?_⟩
      refine ⟨false, rfl, if_f rfl ⟨_, rfl, ?_⟩⟩
      refine ⟨_, _, .type "int", .type "int", true, rfl, .ty _, .base (.int i), kb_int_int, ?_⟩
      refine ⟨true, rfl, if_t rfl ⟨_, rfl, _, rfl, rfl, ?_⟩⟩
      rw [decide_eq_true rfl]
      exact q _ (Same.refl _)
    | str z =>
      cases hx
      cases hy
      refine ⟨_, rfl, ?_⟩
      refine ⟨_, _, .type "str", .type "tuple", false, rfl, .ty _, .base (.str z), kb_str_tuple, ?_⟩
      refine ⟨false, rfl, if_f rfl ⟨_, rfl, ?_⟩⟩
      refine ⟨_, _, .type "str", .type "list", false, rfl, .ty _, .base (.str z), kb_str_list, ?_⟩
      refine ⟨false, rfl, if_f rfl ?_⟩
      refine ⟨_, rfl, _, rfl, if_f rfl ⟨_, rfl, _, rfl, if_f rfl ?_⟩⟩
      refine ⟨_, rfl, ?_⟩
      refine ⟨_, _, .type "str", .type "bool", false, rfl, .ty _, .base (.str z), kb_str_bool, ?_⟩
      refine ⟨false, rfl, if_f rfl ⟨_, rfl, ?_⟩⟩
      refine ⟨_, _, .type "str", .type "bool", false, rfl, .ty _, .base (.str z), kb_str_bool, ?_⟩
      refine ⟨false, rfl, if_f rfl ?_⟩
      refine ⟨_, rfl, ?_⟩
      refine ⟨_, _, .type "str", .type "str", true, rfl, .ty _, .base (.str z), kb_str_str, ?_⟩
      refine ⟨true, rfl, if_t rfl ⟨_, rfl, ?_⟩⟩
      refine ⟨_, _, .type "str", .type "str", true, rfl, .ty _, .base (.str z), kb_str_str, ?_⟩
      refine ⟨true, rfl, if_t rfl ⟨_, rfl, _, rfl, rfl, ?_⟩⟩
      rw [decide_eq_true rfl]
      exact q _ (Same.refl _)
    | dict kvs => cases n <;> cases hd
    | list ds =>
      obtain ⟨m, rfl⟩ : ∃ m, n = m + 1 := by
        cases n with
        | zero => cases hd
        | succ m => exact ⟨m, rfl⟩
      obtain rfl := h0 m rfl
      obtain ⟨hl, hd⟩ := hd
      obtain ⟨a, xs, rfl, ha, hxs⟩ := hx.lstI
      obtain ⟨b, ys, rfl, hb, hys⟩ := hy.lstI
      have lx := hxs.length
      have ly := hys.length
      refine ⟨_, rfl, ?_⟩
      refine ⟨_, _, .type "list", .type "tuple", false, rfl, .ty _, .base (.lst hb), kb_list_tuple, ?_⟩
      refine ⟨false, rfl, if_f rfl ⟨_, rfl, ?_⟩⟩
      refine ⟨_, _, .type "list", .type "list", true, rfl, .ty _, .base (.lst hb), kb_list_list, ?_⟩
      refine ⟨true, rfl, if_t rfl ?_⟩
      -- of one kind
      refine ⟨_, rfl, ?_⟩
      refine ⟨_, _, .type "list", .type "tuple", false, rfl, .ty _, .base (.lst ha), kb_list_tuple, ?_⟩
      refine ⟨_, rfl, ?_⟩
      refine ⟨_, _, .type "list", .type "tuple", false, rfl, .ty _, .base (.lst hb), kb_list_tuple, ?_⟩
      refine ⟨rfl, _, rfl, if_f rfl ⟨_, rfl, szl (by decide), fun t ht => ?_⟩⟩
      have sT : Same H (upd H t (.tup [.ty "tuple", .ty "list"])) := same_upd ht
      refine ⟨_, t, _, .type "list", [.type "tuple", .type "list"], true, rfl, upd_same, .cons (.ty _) (.cons (.ty _) .nil), .base (.lst (sT _ _ ha)), kit2 kb_list_tuple kb_list_list, _, rfl, if_f rfl ?_⟩
      -- of one length
      refine ⟨_, rfl, a, xs, rfl, .inl (sqm (sT _ _ ha)), _, rfl, b, ys, rfl, .inl (sqm (sT _ _ hb)), rfl, _, rfl, if_nd (fun _ => ?_) (fun c => absurd (by rw [lx, ly]) c)⟩
      refine ⟨_, rfl, b, ys, rfl, .inl (sqm (sT _ _ hb)), _, rfl, by omega, by omega, fun D nD => ?_⟩
      have sD : Same (upd H t (.tup [.ty "tuple", .ty "list"])) (upd (upd H t (.tup [.ty "tuple", .ty "list"])) D (.lst [])) := same_upd nD
      refine lc_range (lo := 0) (fun i H' => Same (upd (upd H t (.tup [.ty "tuple", .ty "list"])) D (.lst [])) H') (Same.refl _) ?_ ?_
      · intro i H1 hi s1
        have hi2 : i < ds.length := by
          rw [← ly]
          exact hi
        obtain ⟨vx, ex, rx⟩ := hxs.get (List.getElem?_eq_getElem hi2)
        obtain ⟨vy, ey, ry⟩ := hys.get (List.getElem?_eq_getElem hi2)
        have sA : Same H H1 := (sT.trans sD).trans s1
        refine ⟨rfl, _, rfl, _, rfl, .inl ⟨a, xs, _, vx, rfl, rfl, sqm (sA _ _ ha), at_of (by omega) ex, _, rfl, _, rfl, .inl ⟨b, ys, _, vy, rfl, rfl, sqm (sA _ _ hb), at_of (by omega) ey, ?_⟩⟩⟩
        refine ⟨vx, vy, ds[i], rfl, rx.mono sA, ry.mono sA, hd _ (List.getElem_mem hi2), fun H2 s2 => ⟨true, rfl, if_f rfl (s1.trans s2)⟩⟩
      · intro H1 s1
        refine ⟨szl (by decide), fun p hp => ?_⟩
        have eD : (upd H1 p (.lst [])) D = some (.lst []) := (same_upd hp) _ _ (s1 _ _ upd_same)
        refine ⟨.list [], .list [], .lst (sqm eD) .nil, .lst (sqm upd_same) .nil, by decide +kernel, by decide +kernel, ?_⟩
        exact q _ (((sT.trans sD).trans s1).trans (same_upd hp))
    | tuple ds =>
      obtain ⟨m, rfl⟩ : ∃ m, n = m + 1 := by
        cases n with
        | zero => cases hd
        | succ m => exact ⟨m, rfl⟩
      obtain rfl := h0 m rfl
      obtain ⟨hl, hd⟩ := hd
      obtain ⟨a, xs, rfl, ha, hxs⟩ := hx.tupI
      obtain ⟨b, ys, rfl, hb, hys⟩ := hy.tupI
      have lx := hxs.length
      have ly := hys.length
      refine ⟨_, rfl, ?_⟩
      refine ⟨_, _, .type "tuple", .type "tuple", true, rfl, .ty _, .base (.tup hb), kb_tuple_tuple, ?_⟩
      refine ⟨true, rfl, if_t rfl (if_t rfl ?_)⟩
      refine ⟨_, rfl, ?_⟩
      refine ⟨_, _, .type "tuple", .type "tuple", true, rfl, .ty _, .base (.tup ha), kb_tuple_tuple, ?_⟩
      refine ⟨_, rfl, ?_⟩
      refine ⟨_, _, .type "tuple", .type "tuple", true, rfl, .ty _, .base (.tup hb), kb_tuple_tuple, ?_⟩
      refine ⟨rfl, _, rfl, if_f rfl ⟨_, rfl, szl (by decide), fun t ht => ?_⟩⟩
      have sT : Same H (upd H t (.tup [.ty "tuple", .ty "list"])) := same_upd ht
      refine ⟨_, t, _, .type "tuple", [.type "tuple", .type "list"], true, rfl, upd_same, .cons (.ty _) (.cons (.ty _) .nil), .base (.tup (sT _ _ ha)), kit2 kb_tuple_tuple kb_tuple_list, _, rfl, if_f rfl ?_⟩
      refine ⟨_, rfl, a, xs, rfl, .inr (sqt (sT _ _ ha)), _, rfl, b, ys, rfl, .inr (sqt (sT _ _ hb)), rfl, _, rfl, if_nd (fun _ => ?_) (fun c => absurd (by rw [lx, ly]) c)⟩
      refine ⟨_, rfl, b, ys, rfl, .inr (sqt (sT _ _ hb)), _, rfl, by omega, by omega, fun D nD => ?_⟩
      have sD : Same (upd H t (.tup [.ty "tuple", .ty "list"])) (upd (upd H t (.tup [.ty "tuple", .ty "list"])) D (.lst [])) := same_upd nD
      refine lc_range (lo := 0) (fun i H' => Same (upd (upd H t (.tup [.ty "tuple", .ty "list"])) D (.lst [])) H') (Same.refl _) ?_ ?_
      · intro i H1 hi s1
        have hi2 : i < ds.length := by
          rw [← ly]
          exact hi
        obtain ⟨vx, ex, rx⟩ := hxs.get (List.getElem?_eq_getElem hi2)
        obtain ⟨vy, ey, ry⟩ := hys.get (List.getElem?_eq_getElem hi2)
        have sA : Same H H1 := (sT.trans sD).trans s1
        refine ⟨rfl, _, rfl, _, rfl, .inr (.inl ⟨a, xs, _, vx, rfl, rfl, sqt (sA _ _ ha), at_of (by omega) ex, _, rfl, _, rfl, .inr (.inl ⟨b, ys, _, vy, rfl, rfl, sqt (sA _ _ hb), at_of (by omega) ey, ?_⟩)⟩)⟩
        refine ⟨vx, vy, ds[i], rfl, rx.mono sA, ry.mono sA, hd _ (List.getElem_mem hi2), fun H2 s2 => ⟨true, rfl, if_f rfl (s1.trans s2)⟩⟩
      · intro H1 s1
        refine ⟨szl (by decide), fun p hp => ?_⟩
        have eD : (upd H1 p (.lst [])) D = some (.lst []) := (same_upd hp) _ _ (s1 _ _ upd_same)
        refine ⟨.list [], .list [], .lst (sqm eD) .nil, .lst (sqm upd_same) .nil, by decide +kernel, by decide +kernel, ?_⟩
        exact q _ (((sT.trans sD).trans s1).trans (same_upd hp))
theorem ok_alike (T : Tx K mg) : ∀ n, Ok P w K mg base (n + 1) (a_l_alike K) p_l_alike (sp_alike n)
  | 0 => ok_alike_step T (ok_never T.d_l_alike bd_l_alike) (fun m e => by cases e)
  | n + 1 => ok_alike_step T (ok_alike T n) (fun m e => by cases e; rfl)
end
end RL
namespace RL
open PySem PySem.Spec PyProof.Rows L2
/-- a block's words -/
def mkB (n f b l : Int) (ds : List Int) : List Int := n :: f :: b :: l :: (ds ++ [n])
theorem mkB_v (n f b l : Int) (ds : List Int) : (mkB n f b l ds).map V.int = [V.int n, V.int f, V.int b, V.int l] ++ ds.map V.int ++ [V.int n] := by simp [mkB]
def kindN (ws : List Int) (p m : Int) : Str :=
  if ws.headD 0 = 0 ∧ ws.getLastD 0 = 0 then "empty" else if ws.headD 0 = ws.getLastD 0 ∧ m ≤ ws.headD 0 ∧ ws.headD 0 % m = p then "whole" else "torn"
theorem mkB_len (n f b l : Int) (ds : List Int) : (mkB n f b l ds).length = ds.length + 5 := by simp [mkB]
/-- the ends of a list of ints -/
theorem at_0 {ws : List Int} (h : ws ≠ []) : atI (ws.map V.int) 0 = some (.int (ws.headD 0)) := by
  cases ws with
  | nil => exact absurd rfl h
  | cons x r => exact atI_nat (j := 0) rfl
theorem at_last {ws : List Int} (h : ws ≠ []) : atI (ws.map V.int) (-1) = some (.int (ws.getLastD 0)) := by
  have e : ws.getLastD 0 = ws.getLast h := by
    rw [List.getLastD_eq_getLast?, List.getLast?_eq_some_getLast h]
    rfl
  rw [e]
  have hz : ws.map V.int = ws.dropLast.map V.int ++ [V.int (ws.getLast h)] := by
    rw [← List.map_singleton, ← List.map_append, List.dropLast_concat_getLast]
  rw [hz]
  exact atI_last _ _
end RL
namespace RL
open PySem PySem.Spec PyProof.Rows L2
/-! a row in pieces -/
def dataN (ws : List Int) : List Int := ((ws.length : Int) :: ws) ++ [0, 0]
def pieceAt (d : List Int) (i : Nat) : List Int := (d.drop (3 * i)).take 3
def piecesN (ws : List Int) : List (List Int) := (List.range ((ws.length + 3) / 3)).map (pieceAt (dataN ws))
theorem dataN_len (ws : List Int) : (dataN ws).length = ws.length + 3 := by simp [dataN]
theorem piecesN_len (ws : List Int) : (piecesN ws).length = (ws.length + 3) / 3 := by simp [piecesN]
theorem piecesN_get {ws : List Int} {i : Nat} (h : i < (ws.length + 3) / 3) : (piecesN ws)[i]? = some (pieceAt (dataN ws) i) := by
  unfold piecesN
  rw [List.getElem?_map, List.getElem?_range h]
  rfl
theorem piece_len {ws : List Int} {i : Nat} (h : i < (ws.length + 3) / 3) : (pieceAt (dataN ws) i).length = 3 := by
  unfold pieceAt
  rw [List.length_take, List.length_drop, dataN_len]
  omega
theorem piecesN_mem {ws ds : List Int} (h : ds ∈ piecesN ws) : ds.length = 3 := by
  obtain ⟨i, hi, rfl⟩ := List.mem_map.mp h
  exact piece_len (List.mem_range.mp hi)
theorem piecesN_take {ws : List Int} {i : Nat} (h : i < (ws.length + 3) / 3) : (piecesN ws).take (i + 1) = (piecesN ws).take i ++ [pieceAt (dataN ws) i] := by
  rw [List.take_add_one, piecesN_get h]
  rfl
/-- the pieces together -/
theorem flat_pieces (d : List Int) : ∀ n, ((List.range n).map (pieceAt d)).flatten = d.take (3 * n)
  | 0 => by simp
  | n + 1 => by
    rw [List.range_succ, List.map_append, List.flatten_append, flat_pieces d n]
    show d.take (3 * n) ++ ((d.drop (3 * n)).take 3 ++ []) = _
    rw [List.append_nil, show 3 * (n + 1) = 3 * n + 3 by omega, List.take_add]
/-- the row of its blocks' data -/
def rowN (d : List Int) : List Int := (d.drop 1).take (d.headD 0).toNat
theorem rowN_pieces (ws : List Int) : rowN (piecesN ws).flatten = ws := by
  unfold piecesN
  rw [flat_pieces]
  obtain ⟨k, hk, hl⟩ : ∃ k, 3 * ((ws.length + 3) / 3) = k + 1 ∧ ws.length ≤ k := ⟨3 * ((ws.length + 3) / 3) - 1, by omega, by omega⟩
  rw [hk]
  unfold rowN dataN
  simp only [List.cons_append, List.take_succ_cons, List.drop_succ_cons, List.drop_zero, List.headD_cons, Int.toNat_natCast]
  rw [List.take_take, Nat.min_eq_left hl]
  simp
/-- padded with noughts to a multiple of three -/
theorem pad_piece {ws zs : List Int} {i : Nat} (hz : zs <+: [0, 0]) (h : 3 * i + 3 ≤ ws.length + 1 + zs.length) : ((((ws.length : Int) :: ws) ++ zs).drop (3 * i)).take 3 = pieceAt (dataN ws) i := by
  obtain ⟨t, ht⟩ := hz
  unfold pieceAt dataN
  have e : (((ws.length : Int) :: ws) ++ [0, 0] : List Int) = ((((ws.length : Int) :: ws) ++ zs) ++ t) := by rw [← ht, List.append_assoc]
  have hl : ((((ws.length : Int) :: ws) ++ zs)).length = ws.length + 1 + zs.length := by
    simp only [List.length_append, List.length_cons]
  rw [e]
  generalize ((((ws.length : Int) :: ws) ++ zs)) = A at hl
  rw [List.drop_append_of_le_length (by omega), List.take_append_of_le_length (by rw [List.length_drop]; omega)]
/-- a row's blocks: numbers from n on, floor f, begin b -/
def blocksF (n f b : Int) : List (List Int) → List (List Int)
  | [] => []
  | d :: r => mkB n f b (r.length : Int) d :: blocksF (n + 1) f b r
theorem blocksF_len : ∀ (n f b : Int) (ds : List (List Int)), (blocksF n f b ds).length = ds.length
  | _, _, _, [] => rfl
  | n, f, b, d :: r => by
    show (blocksF (n + 1) f b r).length + 1 = r.length + 1
    rw [blocksF_len]
theorem blocksF_get : ∀ {n f b : Int} {ds : List (List Int)} {k : Nat} {d : List Int}, ds[k]? = some d → (blocksF n f b ds)[k]? = some (mkB (n + k) f b ((ds.length - 1 - k : Nat) : Int) d)
  | n, f, b, [], k, d, h => by simp at h
  | n, f, b, e :: r, 0, d, h => by
    obtain rfl : e = d := by simpa using h
    show some (mkB n f b (r.length : Int) e) = _
    simp
  | n, f, b, e :: r, k + 1, d, h => by
    have ih := blocksF_get (n := n + 1) (f := f) (b := b) (ds := r) (k := k) (d := d) (by simpa using h)
    show (blocksF (n + 1) f b r)[k]? = _
    rw [ih, show n + 1 + (k : Int) = n + ((k + 1 : Nat) : Int) by omega, show (r.length - 1 - k : Nat) = ((e :: r).length - 1 - (k + 1) : Nat) by simp only [List.length_cons]; omega]
theorem blocksF_mem : ∀ {n f b : Int} {ds : List (List Int)} {x : List Int}, x ∈ blocksF n f b ds → ∃ k l d, d ∈ ds ∧ x = mkB k f b l d
  | n, f, b, d :: r, x, h => by
    rcases List.mem_cons.mp h with rfl | h
    · exact ⟨_, _, d, .head _, rfl⟩
    · obtain ⟨k, l, e, he, q⟩ := blocksF_mem h
      exact ⟨k, l, e, .tail _ he, q⟩
/-- the data of some blocks -/
def datas (bss : List (List Int)) : List Int := (bss.map fun b => (b.drop 4).take 3).flatten
theorem mkB_data {n f b l : Int} {d : List Int} (h : d.length = 3) : ((mkB n f b l d).drop 4).take 3 = d := by
  unfold mkB
  simp only [List.drop_succ_cons, List.drop_zero]
  rw [← h, List.take_left']
  rfl
theorem datas_blocksF : ∀ {n f b : Int} {ds : List (List Int)}, (∀ d ∈ ds, d.length = 3) → datas (blocksF n f b ds) = ds.flatten
  | n, f, b, [], _ => rfl
  | n, f, b, d :: r, h => by
    have ih := datas_blocksF (n := n + 1) (f := f) (b := b) (ds := r) fun e he => h e (.tail _ he)
    show ((mkB n f b (r.length : Int) d).drop 4).take 3 ++ datas (blocksF (n + 1) f b r) = d ++ r.flatten
    rw [ih, mkB_data (h d (.head _))]
theorem flat_head {ws : List Int} : (piecesN ws).flatten ≠ [] ∧ (piecesN ws).flatten.headD 0 = (ws.length : Int) := by
  unfold piecesN
  rw [flat_pieces]
  obtain ⟨k, hk⟩ : ∃ k, 3 * ((ws.length + 3) / 3) = k + 1 := ⟨3 * ((ws.length + 3) / 3) - 1, by omega⟩
  rw [hk]
  unfold dataN
  simp
end RL
namespace RL
open PySem PySem.Spec PyProof.Rows L2
def sp_lpieces : Sp := fun vs H Q _ => ∃ (c : Addr) (ws : List Int) (L : ML) (I : Hp), vs = [.ref c] ∧ Hs L I H ∧ H c = some (.lst (ws.map V.int)) ∧ ws.length ≤ 1000 ∧
  ∀ H' p as, as.length = (piecesN ws).length → Hs ((p, .lst (as.map V.ref)) :: (pts as (piecesN ws) ++ L)) I H' → Same H H' → Q (.ref p) H'
theorem dataN_v (ws : List Int) : [V.int ((ws.map V.int).length : Nat)] ++ ws.map V.int ++ [V.int 0, V.int 0] = (dataN ws).map V.int := by simp [dataN]
section
variable {P : Program} {w : World} {K : PySem.W.Frag} {mg : Str → Option Value} {base : Heap}
theorem ok_lpieces (T : Tx K mg) : Ok P w K mg base 1 (a_l_pieces K) p_l_pieces sp_lpieces := by
  refine ok_of T.d_l_pieces sc_l_pieces bd_l_pieces (fun vs H Q E h => ?_) (fun cdv A outer s H vs Q E hr tk po h => ?_)
  · obtain ⟨c, ws, L, I, rfl, _⟩ := h
    rfl
  · obtain ⟨c, ws, L, I, rfl, h, hc, hl, q⟩ := h
    refine ⟨_, (pss_cons (ps_set (i := 1) sc_l_pieces.nd rfl (Or.inr rfl) (pe_op op_cat (pe_op op_cat (pe_lst (pa_cons (pe_callB call_len_seq (by rfl) T.b_len PySem.boot_len (pa_cons (pv 0) pa_nil)) pa_nil)) (pv 0)) (pe_lst (pa_cons pe_int (pa_cons pe_int pa_nil)))))
    (pss_one (ps_ret (pe_lc (own := [("_law_at", 2)]) rfl sc_l_pieces.nd (pi_range3 (by rfl) T.b_range (pa_cons pe_int (pa_cons (pe_op op_add (pe_callB call_len_seq (by rfl) T.b_len PySem.boot_len (pa_cons (pv 0) pa_nil)) pe_int) (pa_cons pe_int pa_nil)))) (blkOk_by (own := [("_law_at", 2)]) (N := n_l_pieces) (sc := defScope s_l_pieces) (by decide +kernel)) (fun _ _ _ _ _ => (pg_name (i := 2) sc_l_pieces.nd rfl (Or.inl rfl))) (fun _ _ _ _ _ => pts_nil) (fun _ _ _ _ _ => (pe_slice (sl_list_q K rfl) (pv 1) (po_some (pv 2)) (po_some (pe_op op_add (pv 2) pe_int)))))))), ?_⟩
    -- data
    refine ⟨_, rfl, c, _, rfl, .inl (sqm hc), szl (by simp), fun p1 hp1 => ?_⟩
    refine ⟨_, rfl, p1, c, _, _, rfl, rfl, upd_same, same_upd hp1 _ _ hc, szl (by simp; omega), fun p2 hp2 => ?_⟩
    refine ⟨szl (by simp), fun p3 hp3 => ?_⟩
    refine ⟨p2, p3, _, _, rfl, rfl, same_upd hp3 _ _ upd_same, upd_same, szl (by simp; omega), fun d hd => ?_⟩
    have h1 := ((((h.junk hp1).junk hp2).junk hp3).newM hd).cast (congrArg HO.lst (dataN_v ws))
    have s1 : Same H _ := (((same_upd hp1).trans (same_upd hp2)).trans (same_upd hp3)).trans (same_upd (o := .lst ([V.int ((ws.map V.int).length : Nat)] ++ ws.map V.int ++ [V.int 0, V.int 0])) hd)
    -- the slices
    have hc1 := s1 _ _ hc
    refine ⟨_, rfl, c, ws.map V.int, rfl, .inl (sqm hc1), _, 1, rfl, rfl, 0, _, 3, _, rfl, rgc3 (by omega) (by rw [List.length_map]; omega), fun D hD => ?_⟩
    have en : ((((ws.map V.int).length : Int) + 1).toNat + 2) / 3 = (ws.length + 3) / 3 := by
      rw [List.length_map]
      omega
    rw [en]
    refine lc_rangeC (fun i H' => ∃ as, as.length = i ∧ Hs ((D, .lst (as.map V.ref)) :: (pts as ((piecesN ws).take i) ++ ((d, .lst ((dataN ws).map V.int)) :: L))) I H' ∧ Same H H') ⟨[], rfl, h1.newM hD, s1.trans (same_upd hD)⟩ ?_ ?_
    · rintro i H1 hi ⟨as, ha, h2, s2⟩
      have hdd := h2.gm (p := d) (.tail _ (List.mem_append_right _ (.head _)))
      refine ⟨rfl, _, rfl, _, rfl, _, rfl, _, rfl, _, 3, rfl, rfl, _, rfl, d, _, rfl, sqm hdd, fun x hx => ?_⟩
      have e0 : (0 : Int) + (i : Nat) * 3 = ((3 * i : Nat) : Int) := by omega
      have h3 := (h2.newM (o := .lst (cutV ((dataN ws).map V.int) (some (0 + (i : Nat) * 3)) (some (0 + (i : Nat) * 3 + 3)))) hx).cast (o' := .lst ((pieceAt (dataN ws) i).map V.int)) (by
        rw [e0, cut_mid (by omega) (by omega), map_drop, map_take]
        unfold pieceAt
        congr 3
        omega)
      refine ⟨_, h3.g1, szlt (by rw [List.length_map, ha]; omega), as ++ [x], by rw [List.length_append, ha]; rfl, ?_, ?_⟩
      · rw [piecesN_take hi, pts_snoc (by rw [List.length_take, piecesN_len, ha]; omega), List.append_assoc, List.map_append]
        exact (h3.set1.m1.perm ((List.perm_middle).symm.cons _))
      · exact same_mut (s2.trans (same_upd hx)) (s1.free hD)
    · rintro H1 ⟨as, ha, h2, s2⟩
      have e1 : (piecesN ws).take ((ws.length + 3) / 3) = piecesN ws := List.take_of_length_le (by rw [piecesN_len]; exact Nat.le_refl _)
      rw [e1] at h2
      refine q H1 D as (by rw [piecesN_len]; exact ha) ?_ s2
      exact (h2.perm ((List.perm_middle).cons _)).m1.drop
end
end RL
namespace RL
open PySem PySem.Spec PyProof.Rows L2
/-! blocks by the rows that they are of -/
def addG : List (Int × List (List Int)) → Int → List Int → List (Int × List (List Int))
  | [], b, w => [(b, [w])]
  | (c, l) :: r, b, w => if c = b then (c, l ++ [w]) :: r else (c, l) :: addG r b w
def stepG (g : List (Int × List (List Int))) (w : List Int) : List (Int × List (List Int)) := if 0 < w.getD 2 0 then addG g (w.getD 2 0) w else g
theorem stepG_pos {g : List (Int × List (List Int))} {w : List Int} {b : Int} (e : w.getD 2 0 = b) (h : 0 < b) : stepG g w = addG g b w := by
  unfold stepG
  rw [e, if_pos h]
def groupsN (bss : List (List Int)) : List (Int × List (List Int)) := bss.foldl stepG []
theorem groupsN_snoc (bss : List (List Int)) (w : List Int) : groupsN (bss ++ [w]) = stepG (groupsN bss) w := by
  unfold groupsN
  rw [List.foldl_append]
  rfl
theorem groupsN_take {bss : List (List Int)} {i : Nat} {w : List Int} (h : bss[i]? = some w) : groupsN (bss.take (i + 1)) = stepG (groupsN (bss.take i)) w := by
  rw [List.take_add_one, h]
  exact groupsN_snoc _ _
theorem addG_at : ∀ {g1 g2 : List (Int × List (List Int))} {b : Int} {ws : List (List Int)} {w : List Int}, (∀ x ∈ g1, x.1 ≠ b) → addG (g1 ++ (b, ws) :: g2) b w = g1 ++ (b, ws ++ [w]) :: g2
  | [], g2, b, ws, w, _ => by
    show (if b = b then _ else _) = _
    rw [if_pos rfl]
    rfl
  | (c, l) :: g1, g2, b, ws, w, h => by
    show (if c = b then _ else (c, l) :: addG (g1 ++ (b, ws) :: g2) b w) = (c, l) :: (g1 ++ (b, ws ++ [w]) :: g2)
    rw [if_neg (h (c, l) (.head _)), addG_at fun x hx => h x (.tail _ hx)]
theorem addG_new : ∀ {g : List (Int × List (List Int))} {b : Int} {w : List Int}, (∀ x ∈ g, x.1 ≠ b) → addG g b w = g ++ [(b, [w])]
  | [], b, w, _ => rfl
  | (c, l) :: g, b, w, h => by
    show (if c = b then _ else _) = _
    rw [if_neg (h (c, l) (.head _)), addG_new fun x hx => h x (.tail _ hx)]
    rfl
theorem addG_keys : ∀ {g : List (Int × List (List Int))} {b : Int} {w : List Int} {x : Int × List (List Int)}, x ∈ addG g b w → x.1 = b ∨ ∃ y ∈ g, y.1 = x.1
  | [], b, w, x, h => .inl (by rw [List.mem_singleton.mp h])
  | (c, l) :: g, b, w, x, h => by
    by_cases e : c = b
    · rw [show addG ((c, l) :: g) b w = (c, l ++ [w]) :: g from if_pos e] at h
      rcases List.mem_cons.mp h with rfl | h
      · exact .inl e
      · exact .inr ⟨x, .tail _ h, rfl⟩
    · rw [show addG ((c, l) :: g) b w = (c, l) :: addG g b w from if_neg e] at h
      rcases List.mem_cons.mp h with rfl | h
      · exact .inr ⟨_, .head _, rfl⟩
      · rcases addG_keys h with h | ⟨y, hy, q⟩
        · exact .inl h
        · exact .inr ⟨y, .tail _ hy, q⟩
/-- what is in the groups is of the blocks -/
def inG (g : List (Int × List (List Int))) (n : Nat) (W : List Int → Prop) : Prop := ∀ x ∈ g, x.2 ≠ [] ∧ x.2.length ≤ n ∧ (∀ w ∈ x.2, W w ∧ w.getD 2 0 = x.1) ∧ 0 < x.1
theorem inG_add {W : List Int → Prop} : ∀ {g : List (Int × List (List Int))} {n : Nat} {w : List Int}, inG g n W → W w → 0 < w.getD 2 0 → inG (addG g (w.getD 2 0) w) (n + 1) W
  | [], n, w, _, hw, h0 => by
    intro x hx
    obtain rfl := List.mem_singleton.mp hx
    refine ⟨by simp, by simp, fun v hv => ?_, h0⟩
    obtain rfl := List.mem_singleton.mp hv
    exact ⟨hw, rfl⟩
  | (c, l) :: g, n, w, h, hw, h0 => by
    by_cases e : c = w.getD 2 0
    · rw [show addG ((c, l) :: g) (w.getD 2 0) w = (c, l ++ [w]) :: g from if_pos e]
      intro x hx
      rcases List.mem_cons.mp hx with rfl | hx
      · obtain ⟨a1, a2, a3, a4⟩ := h (c, l) (.head _)
        refine ⟨by simp, by simpa using a2, fun v hv => ?_, a4⟩
        rcases List.mem_append.mp hv with hv | hv
        · exact a3 v hv
        · obtain rfl := List.mem_singleton.mp hv
          exact ⟨hw, e.symm⟩
      · obtain ⟨a1, a2, a3, a4⟩ := h x (.tail _ hx)
        exact ⟨a1, Nat.le_succ_of_le a2, a3, a4⟩
    · rw [show addG ((c, l) :: g) (w.getD 2 0) w = (c, l) :: addG g (w.getD 2 0) w from if_neg e]
      intro x hx
      rcases List.mem_cons.mp hx with rfl | hx
      · obtain ⟨a1, a2, a3, a4⟩ := h (c, l) (.head _)
        exact ⟨a1, Nat.le_succ_of_le a2, a3, a4⟩
      · exact inG_add (fun y hy => h y (.tail _ hy)) hw h0 x hx
theorem inG_groups {W : List Int → Prop} : ∀ {bss : List (List Int)} {g : List (Int × List (List Int))} {n : Nat}, inG g n W → (∀ w ∈ bss, W w) → inG (bss.foldl stepG g) (n + bss.length) W
  | [], g, n, h, _ => h
  | w :: bss, g, n, h, hW => by
    show inG (bss.foldl stepG (stepG g w)) _ _
    have h1 : inG (stepG g w) (n + 1) W := by
      unfold stepG
      split
      · exact inG_add h (hW w (.head _)) (by assumption)
      · exact fun x hx => by
          obtain ⟨a1, a2, a3, a4⟩ := h x hx
          exact ⟨a1, Nat.le_succ_of_le a2, a3, a4⟩
    have h2 := inG_groups h1 fun v hv => hW v (.tail _ hv)
    rw [show n + (w :: bss).length = n + 1 + bss.length by simp only [List.length_cons]; omega]
    exact h2
theorem groups_in (bss : List (List Int)) : inG (groupsN bss) bss.length fun w => w ∈ bss := by
  have h := inG_groups (W := fun w => w ∈ bss) (bss := bss) (g := []) (n := 0) (fun _ h => nomatch h) fun _ h => h
  rw [Nat.zero_add] at h
  exact h
theorem addG_len : ∀ (g : List (Int × List (List Int))) (b : Int) (w : List Int), (addG g b w).length ≤ g.length + 1
  | [], _, _ => Nat.le_refl _
  | (c, l) :: g, b, w => by
    by_cases e : c = b
    · rw [show addG ((c, l) :: g) b w = (c, l ++ [w]) :: g from if_pos e]
      exact Nat.le_succ _
    · rw [show addG ((c, l) :: g) b w = (c, l) :: addG g b w from if_neg e]
      exact Nat.succ_le_succ (addG_len g b w)
theorem foldl_len : ∀ (bss : List (List Int)) (g : List (Int × List (List Int))), (bss.foldl stepG g).length ≤ g.length + bss.length
  | [], g => Nat.le_refl _
  | w :: bss, g => by
    have h1 := foldl_len bss (stepG g w)
    have h2 : (stepG g w).length ≤ g.length + 1 := by
      unfold stepG
      split
      · exact addG_len _ _ _
      · exact Nat.le_succ _
    show (bss.foldl stepG (stepG g w)).length ≤ g.length + (bss.length + 1)
    omega
theorem groups_len (bss : List (List Int)) : (groupsN bss).length ≤ bss.length := by
  have := foldl_len bss []
  simpa [groupsN] using this
/-- what is left behind the last block of some -/
def lastL (ws : List (List Int)) : Int := (ws.getLastD []).getD 3 0
def rowOf (g : Int × List (List Int)) : Option (Int × List Int) := if lastL g.2 = 0 then some (g.1, rowN (datas g.2)) else none
def rowsN (bss : List (List Int)) : List (Int × List Int) := (groupsN bss).filterMap rowOf
def cutOf (g : Int × List (List Int)) : Option Int := if 0 < lastL g.2 then some g.1 else none
def cutN (bss : List (List Int)) : List Int := (groupsN bss).filterMap cutOf
/-- a row with its begin, as data -/
def dRow (x : Int × List Int) : PyData := .tuple [.int x.1, dI x.2]
/-- more blocks of the same begin -/
theorem foldl_same {b : Int} (h0 : 0 < b) : ∀ {B : List (List Int)} {g : List (Int × List (List Int))} {ws : List (List Int)}, (∀ x ∈ g, x.1 ≠ b) → (∀ w ∈ B, w.getD 2 0 = b) → B.foldl stepG (g ++ [(b, ws)]) = g ++ [(b, ws ++ B)]
  | [], g, ws, _, _ => by simp
  | w :: B, g, ws, hg, hB => by
    have e := hB w (.head _)
    show B.foldl stepG (stepG (g ++ [(b, ws)]) w) = _
    rw [stepG_pos e h0, addG_at hg, foldl_same h0 hg fun v hv => hB v (.tail _ hv)]
    simp
theorem groups_row {A B : List (List Int)} {b : Int} (h0 : 0 < b) (hA : ∀ x ∈ groupsN A, x.1 ≠ b) (hB : ∀ w ∈ B, w.getD 2 0 = b) (hne : B ≠ []) : groupsN (A ++ B) = groupsN A ++ [(b, B)] := by
  cases B with
  | nil => exact absurd rfl hne
  | cons w B =>
    show (A ++ w :: B).foldl stepG [] = _
    rw [List.foldl_append]
    show B.foldl stepG (stepG (groupsN A) w) = _
    rw [stepG_pos (hB w (.head _)) h0, addG_new hA, foldl_same h0 hA fun v hv => hB v (.tail _ hv)]
    rfl
theorem groups_mark {A : List (List Int)} {w : List Int} (h : ¬ 0 < w.getD 2 0) : groupsN (A ++ [w]) = groupsN A := by
  rw [groupsN_snoc]
  unfold stepG
  rw [if_neg h]
/-- a row's first k blocks -/
theorem lastL_blocks {n f b : Int} {ds : List (List Int)} {k : Nat} (hk : k < ds.length) : lastL ((blocksF n f b ds).take (k + 1)) = ((ds.length - 1 - k : Nat) : Int) := by
  unfold lastL
  rw [List.take_add_one, blocksF_get (List.getElem?_eq_getElem hk)]
  simp [mkB]
theorem blocksF_begin {n f b : Int} {ds : List (List Int)} {w : List Int} (h : w ∈ blocksF n f b ds) : w.getD 2 0 = b := by
  obtain ⟨k, l, d, _, rfl⟩ := blocksF_mem h
  rfl
end RL
namespace RL
open PySem PySem.Spec PyProof.Rows L2
/-- a group on the heap: its begin, its list, the blocks' refs and words -/
structure Grp where
  b : Int
  a : Addr
  xs : List V
  ws : List (List Int)
def Grp.kv (g : Grp) : Key × V := (Sum.inl g.b, .ref g.a)
def Grp.pt (g : Grp) : Addr × HO := (g.a, .lst g.xs)
def Grp.da (g : Grp) : Int × List (List Int) := (g.b, g.ws)
structure GrpOk (I : Hp) (gs : List Grp) (bss : List (List Int)) : Prop where
  rp : ∀ g ∈ gs, RpA I g.xs (g.ws.map dI)
  da : gs.map Grp.da = groupsN bss
  nd : (gs.map Grp.b).Nodup
theorem GrpOk.mono {I I' : Hp} {gs : List Grp} {bss : List (List Int)} (s : Same I I') (h : GrpOk I gs bss) : GrpOk I' gs bss := ⟨fun g hg => (h.rp g hg).mono s, h.da, h.nd⟩
theorem grp_find : ∀ {gs : List Grp} {b : Int} {v : V}, valV (gs.map Grp.kv) (Sum.inl b : Key) = some v → ∃ g1 g g2, gs = g1 ++ g :: g2 ∧ g.b = b ∧ v = .ref g.a ∧ ∀ x ∈ g1, x.b ≠ b
  | [], b, v, h => by cases h
  | g :: gs, b, v, h => by
    by_cases e : g.b = b
    · rw [List.map_cons, valV_pos (show (Grp.kv g).1 = Sum.inl b from congrArg Sum.inl e)] at h
      exact ⟨[], g, gs, rfl, e, (Option.some.inj h).symm, fun _ h => nomatch h⟩
    · rw [List.map_cons, valV_neg (show ¬ (Grp.kv g).1 = Sum.inl b from fun z => e (Sum.inl.inj z))] at h
      obtain ⟨g1, x, g2, rfl, a1, a2, a3⟩ := grp_find h
      refine ⟨g :: g1, x, g2, rfl, a1, a2, fun y hy => ?_⟩
      rcases List.mem_cons.mp hy with rfl | hy
      · exact e
      · exact a3 y hy
theorem grp_none : ∀ {gs : List Grp} {b : Int}, valV (gs.map Grp.kv) (Sum.inl b : Key) = none → ∀ g ∈ gs, g.b ≠ b
  | [], b, _ => fun _ h => nomatch h
  | g :: gs, b, h => by
    by_cases e : g.b = b
    · rw [List.map_cons, valV_pos (show (Grp.kv g).1 = Sum.inl b from congrArg Sum.inl e)] at h
      cases h
    · rw [List.map_cons, valV_neg (show ¬ (Grp.kv g).1 = Sum.inl b from fun z => e (Sum.inl.inj z))] at h
      intro y hy
      rcases List.mem_cons.mp hy with rfl | hy
      · exact e
      · exact grp_none h y hy
theorem grp_get {gs : List Grp} {g : Grp} (hg : g ∈ gs) (nd : (gs.map Grp.b).Nodup) : valV (gs.map Grp.kv) (Sum.inl g.b : Key) = some (.ref g.a) := by
  induction gs with
  | nil => cases hg
  | cons x gs ih =>
    rw [List.map_cons, List.nodup_cons] at nd
    by_cases e : x.b = g.b
    · rcases List.mem_cons.mp hg with rfl | hg
      · rw [List.map_cons, valV_pos (show (Grp.kv g).1 = Sum.inl g.b from rfl)]
        rfl
      · exact absurd (List.mem_map.mpr ⟨g, hg, e.symm⟩) nd.1
    · rw [List.map_cons, valV_neg (show ¬ (Grp.kv x).1 = Sum.inl g.b from fun z => e (Sum.inl.inj z))]
      rcases List.mem_cons.mp hg with rfl | hg
      · exact absurd rfl e
      · exact ih hg nd.2
def sp_in_groups : Sp := fun vs H Q _ => ∃ (c : Addr) (bss : List (List Int)) (L : ML) (I : Hp), vs = [.ref c] ∧ Hs L I H ∧ Rp I (.ref c) (dII bss) ∧ bss.length ≤ 1000 ∧ (∀ b ∈ bss, b.length = 8) ∧
  ∀ H' d gs, Hs ((d, .dK (gs.map Grp.kv)) :: (gs.map Grp.pt ++ L)) I H' → GrpOk I gs bss → Q (.ref d) H'
section
variable {P : Program} {w : World} {K : PySem.W.Frag} {mg : Str → Option Value} {base : Heap}
theorem ok_in_groups (T : Tx K mg) : Ok P w K mg base 1 (a_in_groups K) p_in_groups sp_in_groups := by
  refine ok_of T.d_in_groups sc_in_groups bd_in_groups (fun vs H Q E h => ?_) (fun cdv A outer s H vs Q E hr tk po h => ?_)
  · obtain ⟨c, bss, L, I, rfl, _⟩ := h
    rfl
  · obtain ⟨c, bss, L, I, rfl, h, hc, hl, hb, q⟩ := h
    have hu := hu_of hr
    refine ⟨_, (pss_cons (ps_set (i := 1) sc_in_groups.nd rfl (Or.inl rfl) pe_dnewK)
    (pss_cons (ps_for po rfl (pi_list (pv 0)) (pg_name (i := 2) sc_in_groups.nd rfl (Or.inl rfl))
    (pss_one (ps_if (pt_cmpR op_gt (pe_ix ix_list (pv 2) pe_int (fun _ _ => rfl)) pe_int (nomark _))
    (pss_one (ps_expr (pe_bm PySem.F.plainAttrs_list PySem.F.slot_list_append PySem.F.type_list_append mt_append (pe_dsetd (pv 1) (pe_ix ix_list (pv 2) pe_int (fun _ _ => rfl)) (pe_lst pa_nil) ⟨rfl, rfl, rfl, rfl⟩) (pa_cons (pv 2) pa_nil))))
    pss_nil)))
    (pss_one (ps_ret (pv 1))))), ?_⟩
    obtain ⟨c', vs, e, hcv, hr2⟩ := hc.lstI
    cases e
    have el : vs.length = bss.length := by rw [hr2.length, List.length_map]
    intro d hd
    refine ⟨_, rfl, c, rfl, ⟨_, sqm (same_upd hd _ _ (h.i hcv))⟩, for_list (xs := vs) (fun i σ H' => ∃ gs z, σ = [some (.ref c), some (.ref d), z] ∧ Hs ((d, .dK (gs.map Grp.kv)) :: (gs.map Grp.pt ++ L)) I H' ∧ GrpOk I gs (bss.take i) ∧ gs.length ≤ i)
      ⟨[], none, rfl, h.newM hd, ⟨(fun _ h => nomatch h), rfl, List.nodup_nil⟩, Nat.le_refl _⟩ (fun i σ H' _ ⟨_, _, _, h', _⟩ => h'.sq hcv) ?_ ?_⟩
    · rintro i x σ H1 hx ⟨gs, z, rfl, h1, ok, gl⟩
      obtain ⟨dd, hdi, rx⟩ := hr2.getV hx
      rw [List.getElem?_map] at hdi
      cases hbi : bss[i]? with
      | none =>
        rw [hbi] at hdi
        cases hdi
      | some bl =>
        rw [hbi] at hdi
        obtain rfl : dI bl = dd := Option.some.inj hdi
        obtain ⟨y, rfl, hy⟩ := rx.dI_inv
        have hb8 := hb bl (List.mem_of_getElem? hbi)
        have il : i < bss.length := (List.getElem?_eq_some_iff.mp hbi).1
        have e2 : atI (bl.map V.int) 2 = some (.int (bl.getD 2 0)) := by
          refine atI_nat (j := 2) ?_
          rw [List.getElem?_map, List.getElem?_eq_getElem (by omega)]
          simp [List.getD_eq_getElem?_getD, List.getElem?_eq_getElem (show 2 < bl.length by omega)]
        have eg : groupsN (bss.take (i + 1)) = stepG (groupsN (bss.take i)) bl := groupsN_take hbi
        refine ⟨_, rfl, y, _, 2, _, rfl, rfl, h1.sq hy, e2, _, 0, rfl, rfl, _, rfl, if_d (fun c0 => ?_) (fun c0 => ?_)⟩
        · rw [stepG_pos rfl c0, ← ok.da] at eg
          refine ⟨_, rfl, d, rfl, .inl ⟨_, .inl h1.g0⟩, _, rfl, y, _, 2, _, rfl, rfl, h1.sq hy, e2, szl (by simp), fun l hl0 => ?_⟩
          have h2 := h1.newM (o := .lst []) hl0
          refine ⟨gs.map Grp.kv, Sum.inl (bl.getD 2 0), h2.g1, rfl, szlt (by rw [List.length_map]; omega), fun v hv => ?_, fun hn => ?_⟩
          · obtain ⟨g1, g, g2, rfl, eb, rfl, hne⟩ := grp_find hv
            have e3 : (g1 ++ g :: g2).map Grp.pt ++ L = g1.map Grp.pt ++ ((g.a, .lst g.xs) :: (g2.map Grp.pt ++ L)) := by
              simp only [List.map_append, List.map_cons, List.append_assoc, List.cons_append]
              rfl
            have h4 := h2.drop
            rw [e3] at h4
            have h3 := h4.rot
            refine ⟨.inl ⟨rfl, _, sqm h3.g0⟩, _, rfl, g.a, _, _, rfl, rfl, h3.g0, szlt ?_, ?_⟩
            · have r1 := (ok.rp g (List.mem_append_right _ (.head _))).length
              have r2 := groups_in (bss.take i)
              rw [← ok.da] at r2
              have r3 := (r2 g.da (List.mem_map.mpr ⟨g, List.mem_append_right _ (.head _), rfl⟩)).2.1
              rw [List.length_take] at r3
              have r4 : g.da.2.length = g.ws.length := rfl
              rw [List.length_map] at r1
              omega
            · refine ⟨g1 ++ Grp.mk g.b g.a (g.xs ++ [.ref y]) (g.ws ++ [bl]) :: g2, _, rfl, ?_, ⟨?_, ?_, ?_⟩, by simpa using Nat.le_succ_of_le gl⟩
              · have e3 : (g1 ++ Grp.mk g.b g.a (g.xs ++ [.ref y]) (g.ws ++ [bl]) :: g2).map Grp.pt ++ L = g1.map Grp.pt ++ ((g.a, .lst (g.xs ++ [.ref y])) :: (g2.map Grp.pt ++ L)) := by simp [Grp.pt]
                have e4 : (g1 ++ Grp.mk g.b g.a (g.xs ++ [.ref y]) (g.ws ++ [bl]) :: g2).map Grp.kv = (g1 ++ g :: g2).map Grp.kv := by simp [Grp.kv]
                rw [e3, e4]
                exact (h3.set0.m1.perm ((List.perm_middle).symm.cons _))
              · intro x hx
                rcases List.mem_append.mp hx with hx | hx
                · exact ok.rp x (List.mem_append_left _ hx)
                · rcases List.mem_cons.mp hx with rfl | hx
                  · rw [List.map_append]
                    exact (ok.rp g (List.mem_append_right _ (.head _))).snoc (Rp.dI_mk hy)
                  · exact ok.rp x (List.mem_append_right _ (.tail _ hx))
              · rw [eg, List.map_append, List.map_cons, List.map_append, List.map_cons, ← eb]
                exact (addG_at (b := g.b) fun x hx => by
                  obtain ⟨z, hz, rfl⟩ := List.mem_map.mp hx
                  rw [eb]
                  exact hne z hz).symm
              · have := ok.nd
                simpa using this
          · have hne := grp_none hn
            have h3 := h2.m1.set0 (o' := .dK ((gs.map Grp.kv) ++ [(Sum.inl (bl.getD 2 0), .ref l)]))
            rw [putK_new _ hn]
            refine ⟨.inl ⟨rfl, _, sqm h3.g1⟩, _, rfl, l, _, _, rfl, rfl, h3.g1, szlt (by simp), ?_⟩
            refine ⟨gs ++ [Grp.mk (bl.getD 2 0) l [.ref y] [bl]], _, rfl, ?_, ⟨?_, ?_, ?_⟩, by simpa using gl⟩
            · have e3 : (gs ++ [Grp.mk (bl.getD 2 0) l [.ref y] [bl]]).map Grp.pt ++ L = gs.map Grp.pt ++ ((l, .lst [.ref y]) :: L) := by simp [Grp.pt]
              have e4 : (gs ++ [Grp.mk (bl.getD 2 0) l [.ref y] [bl]]).map Grp.kv = (gs.map Grp.kv) ++ [(Sum.inl (bl.getD 2 0), .ref l)] := by simp [Grp.kv]
              rw [e3, e4]
              exact (h3.set1.perm ((List.perm_middle).symm.cons _))
            · intro x hx
              rcases List.mem_append.mp hx with hx | hx
              · exact ok.rp x hx
              · obtain rfl := List.mem_singleton.mp hx
                exact .cons (Rp.dI_mk hy) .nil
            · rw [eg, List.map_append]
              exact (addG_new fun x hx => by
                obtain ⟨z, hz, rfl⟩ := List.mem_map.mp hx
                exact hne z hz).symm
            · rw [List.map_append, List.nodup_append]
              refine ⟨ok.nd, by simp, fun x hx z hz => ?_⟩
              obtain ⟨g, hg, rfl⟩ := List.mem_map.mp hx
              obtain rfl := List.mem_singleton.mp hz
              exact hne g hg
        · refine ⟨gs, _, rfl, h1, ⟨ok.rp, ?_, ok.nd⟩, Nat.le_succ_of_le gl⟩
          rw [eg, ok.da]
          unfold stepG
          rw [if_neg c0]
    · rintro σ H1 ⟨gs, z, rfl, h1, ok, gl⟩
      rw [List.take_of_length_le (Nat.le_of_eq el.symm)] at ok
      exact ⟨_, rfl, q _ d gs h1 ok⟩
end
end RL
namespace RL
open PySem PySem.Spec PyProof.Rows L2
def sp_words_of : Sp := fun vs H Q _ => ∃ (c : Addr) (bss : List (List Int)) (L : ML) (I : Hp), vs = [.ref c] ∧ Hs L I H ∧ Rp H (.ref c) (dII bss) ∧ bss.length ≤ 100 ∧ (∀ b ∈ bss, b.length ≤ 100) ∧ datas bss ≠ [] ∧ 0 ≤ (datas bss).headD 0 ∧
  ∀ H' p, Hs ((p, .lst ((rowN (datas bss)).map V.int)) :: L) I H' → Same H H' → Q (.ref p) H'
theorem datas_take {bss : List (List Int)} {i : Nat} {b : List Int} (h : bss[i]? = some b) : datas (bss.take (i + 1)) = datas (bss.take i) ++ (b.drop 4).take 3 := by
  unfold datas
  rw [List.take_add_one, h, List.map_append, List.flatten_append]
  simp
theorem datas_len : ∀ (bss : List (List Int)), (datas bss).length ≤ 3 * bss.length
  | [] => Nat.le_refl 0
  | b :: bss => by
    have ih := datas_len bss
    show (((b.drop 4).take 3) ++ datas bss).length ≤ _
    rw [List.length_append, List.length_take, List.length_cons]
    omega
section
variable {P : Program} {w : World} {K : PySem.W.Frag} {mg : Str → Option Value} {base : Heap}
theorem ok_words_of (T : Tx K mg) : Ok P w K mg base 1 (a_words_of K) p_words_of sp_words_of := by
  refine ok_of T.d_words_of sc_words_of bd_words_of (fun vs H Q E h => ?_) (fun cdv A outer s H vs Q E hr tk po h => ?_)
  · obtain ⟨c, bss, L, I, rfl, _⟩ := h
    rfl
  · obtain ⟨c, bss, L, I, rfl, h, hc, hl, hb, hd, hd0, q⟩ := h
    obtain ⟨t3, ht3⟩ := T.i_DATA
    refine ⟨_, (pss_cons (ps_set (i := 1) sc_words_of.nd rfl (Or.inl rfl) (pe_lst pa_nil))
    (pss_cons (ps_for po rfl (pi_list (pv 0)) (pg_name (i := 2) sc_words_of.nd rfl (Or.inl rfl))
    (pss_one (ps_set (i := 1) sc_words_of.nd rfl (Or.inl rfl) (pe_op op_cat (pv 1) (pe_slice sl_list (pv 2) (po_some pe_int) (po_some (pe_op op_add pe_int (pe_glob (v := .int 3) rfl T.i_DATA.choose_spec ⟨_, rfl⟩))))))))
    (pss_one (ps_ret (pe_slice sl_list (pv 1) (po_some pe_int) (po_some (pe_op op_add pe_int (pe_ix ix_list (pv 1) pe_int (fun _ _ => rfl))))))))), ?_⟩
    obtain ⟨c', vs, e, hcv, hr2⟩ := hc.lstI
    cases e
    refine ⟨szl (by simp), fun p0 hp0 => ?_⟩
    refine ⟨_, rfl, c, rfl, ⟨_, sqm (same_upd hp0 _ _ hcv)⟩, for_list (xs := vs) (fun i σ H' => ∃ p z, σ = [some (.ref c), some (.ref p), z] ∧ Same H H' ∧ H' p = some (.lst ((datas (bss.take i)).map V.int)))
      ⟨p0, none, rfl, same_upd hp0, upd_same⟩ (fun i σ H' _ ⟨_, _, _, s', _⟩ => sqm (s' _ _ hcv)) ?_ ?_⟩
    · rintro i x σ H1 hx ⟨p, z, rfl, s1, hp⟩
      obtain ⟨d, hdi, rx⟩ := hr2.getV hx
      rw [List.getElem?_map] at hdi
      cases hbi : bss[i]? with
      | none =>
        rw [hbi] at hdi
        cases hdi
      | some b =>
        rw [hbi] at hdi
        obtain rfl : dI b = d := Option.some.inj hdi
        obtain ⟨y, rfl, hy⟩ := rx.dI_inv
        have hbl := hb b (List.mem_of_getElem? hbi)
        refine ⟨_, rfl, _, rfl, 4, rfl, 4, 3, rfl, rfl, _, rfl, y, _, rfl, sqm (s1 _ _ hy), fun p2 hp2 => ?_⟩
        have e1 : cutV (b.map V.int) (some 4) (some (4 + 3)) = ((b.drop 4).take 3).map V.int := by
          rw [cut_mid (by decide) (by decide), map_drop, map_take]
          rfl
        refine ⟨p, p2, _, _, rfl, rfl, same_upd hp2 _ _ hp, upd_same, szl (by
          have l1 := datas_len (bss.take i)
          have l2 := cutV_length (b.map V.int) (some 4) (some (4 + 3))
          rw [List.length_take] at l1
          rw [List.length_map] at l2
          rw [List.length_map]
          show _ + (cutV (b.map V.int) (some 4) (some (4 + 3))).length ≤ 100000
          omega), fun p3 hp3 => ?_⟩
        refine ⟨p3, _, rfl, (s1.trans (same_upd hp2)).trans (same_upd hp3), ?_⟩
        rw [datas_take hbi, List.map_append, ← e1]
        exact upd_same
    · rintro σ H1 ⟨p, z, rfl, s1, hp⟩
      have el : vs.length = bss.length := by rw [hr2.length, List.length_map]
      rw [List.take_of_length_le (Nat.le_of_eq el.symm)] at hp
      refine ⟨_, rfl, 1, rfl, _, rfl, p, _, 0, _, rfl, rfl, sqm hp, at_0 hd, 1, _, rfl, rfl, _, rfl, p, _, rfl, sqm hp, fun p4 hp4 => ?_⟩
      refine q _ p4 (((h.grow s1).newM hp4).cast ?_) (s1.trans (same_upd hp4))
      rw [cut_mid (by decide) (by omega), map_drop, map_take]
      unfold rowN
      rw [show (1 + (datas bss).headD 0 - 1).toNat = ((datas bss).headD 0).toNat by omega]
      rfl
end
end RL
namespace RL
open PySem PySem.Spec PyProof.Rows L2
/-- blocks that may be told -/
structure Tellable (bss : List (List Int)) : Prop where
  l8 : ∀ b ∈ bss, b.length = 8
  le : bss.length ≤ 100
  ok : ∀ g ∈ groupsN bss, lastL g.2 = 0 → datas g.2 ≠ [] ∧ 0 ≤ (datas g.2).headD 0
end RL
namespace RL
open PySem PySem.Spec PyProof.Rows L2
theorem grp_last {I : Hp} {g : Grp} (r : RpA I g.xs (g.ws.map dI)) (hne : g.ws ≠ []) (h8 : ∀ w ∈ g.ws, w.length = 8) : ∃ (y : Addr) (bl : List Int), atI g.xs (-1) = some (.ref y) ∧ I y = some (.lst (bl.map V.int)) ∧ atI (bl.map V.int) 3 = some (.int (lastL g.ws)) := by
  obtain ⟨ws0, bl, e⟩ : ∃ ws0 bl, g.ws = ws0 ++ [bl] := ⟨g.ws.dropLast, g.ws.getLast hne, (List.dropLast_concat_getLast hne).symm⟩
  have l1 := r.length
  rw [List.length_map, e, List.length_append, List.length_singleton] at l1
  obtain ⟨v, hv, rv⟩ := r.get (i := ws0.length) (d := dI bl) (by rw [e, List.map_append, List.getElem?_append_right (by rw [List.length_map]; exact Nat.le_refl _), List.length_map, Nat.sub_self]; rfl)
  obtain ⟨y, rfl, hy⟩ := rv.dI_inv
  have hx : g.xs = g.xs.dropLast ++ [.ref y] := by
    have hn : g.xs ≠ [] := fun z => by
      rw [z] at l1
      exact absurd l1 (by show ¬ 0 = _; omega)
    have : g.xs.getLast hn = .ref y := by
      rw [List.getLast_eq_getElem]
      have := (List.getElem?_eq_some_iff.mp hv).2
      simp only [l1, Nat.add_sub_cancel]
      exact this
    rw [← this]
    exact (List.dropLast_concat_getLast hn).symm
  have hb : bl.length = 8 := h8 bl (by rw [e]; simp)
  refine ⟨y, bl, ?_, hy, ?_⟩
  · rw [hx]
    exact atI_last _ _
  · refine atI_nat (j := 3) ?_
    rw [List.getElem?_map, List.getElem?_eq_getElem (by omega)]
    unfold lastL
    rw [e]
    simp [List.getD_eq_getElem?_getD, List.getElem?_eq_getElem (show 3 < bl.length by omega)]
theorem filterMap_take {α β : Type} {f : α → Option β} {l : List α} {i : Nat} {x : α} (h : l[i]? = some x) : (l.take (i + 1)).filterMap f = (l.take i).filterMap f ++ (f x).toList := by
  rw [List.take_add_one, h, List.filterMap_append]
  cases e : f x with
  | none => simp [e]
  | some y => simp [e]
def sp_rows_in : Sp := fun vs H Q _ => ∃ (c : Addr) (bss : List (List Int)) (L : ML) (I : Hp), vs = [.ref c] ∧ Hs L I H ∧ Rp I (.ref c) (dII bss) ∧ Tellable bss ∧
  ∀ I' H' p xs, Same I I' → Hs ((p, .lst xs) :: L) I' H' → RpA I' xs ((rowsN bss).map dRow) → Q (.ref p) H'
def sp_cut_in : Sp := fun vs H Q _ => ∃ (c : Addr) (bss : List (List Int)) (L : ML) (I : Hp), vs = [.ref c] ∧ Hs L I H ∧ Rp I (.ref c) (dII bss) ∧ Tellable bss ∧
  ∀ H' p, Hs ((p, .lst ((cutN bss).map V.int)) :: L) I H' → Q (.ref p) H'
section
variable {P : Program} {w : World} {K : PySem.W.Frag} {mg : Str → Option Value} {base : Heap}
theorem ok_rows_in (T : Tx K mg) : Ok P w K mg base 2 (a_rows_in K) p_rows_in sp_rows_in := by
  have G_in_groups := ok_in_groups (P := P) (w := w) (base := base) T
  have G_words_of := ok_words_of (P := P) (w := w) (base := base) T
  refine ok_of T.d_rows_in sc_rows_in bd_rows_in (fun vs H Q E h => ?_) (fun cdv A outer s H vs Q E hr tk po h => ?_)
  · obtain ⟨c, bss, L, I, rfl, _⟩ := h
    rfl
  · obtain ⟨c, bss, L, I, rfl, h, hc, ht, q⟩ := h
    have hu := hu_of hr
    refine ⟨_, (pss_cons (ps_set (i := 1) sc_rows_in.nd rfl (Or.inr rfl) (pe_callO G_in_groups (hr.mono (by first | decide | omega)) T.g_in_groups (passAt tk) (pa_cons (pv 0) pa_nil)))
    (pss_one (ps_ret (pe_lock (pe_lc (own := [("begin", 2)]) rfl sc_rows_in.nd (pi_keys (pv 1)) (blkOk_by (own := [("begin", 2)]) (N := n_rows_in) (sc := defScope s_rows_in) (by decide +kernel)) (fun _ _ _ _ _ => (pg_name (i := 2) sc_rows_in.nd rfl (Or.inl rfl))) (fun _ _ _ _ _ => (pts_one (pt_cmpR op_eq (pe_ix (ix_list_q K rfl) (pe_ix (ix_list_q K rfl) (pe_dget hu (pv 1) (pv 2) (fun _ _ => rfl)) (pe_un un_neg pe_int) (fun _ _ => rfl)) pe_int (fun _ _ => rfl)) pe_int (nomark _)))) (fun _ _ _ _ _ => (pe_tup (pa_cons (pv 2) (pa_cons (pe_callO G_words_of (hr.mono (by first | decide | omega)) T.g_words_of passN (pa_cons (pe_dget hu (pv 1) (pv 2) (fun _ _ => rfl)) pa_nil)) pa_nil))))))))), ?_⟩
    have hl := ht.le
    refine ⟨_, rfl, c, bss, L, I, rfl, h, hc, by omega, ht.l8, fun H1 d gs h1 ok => ?_⟩
    refine ⟨d, _, h1.g0, trivial, fun od => ?_⟩
    have h2 := h1.set0 (o' := .frz od (.dK (gs.map Grp.kv)))
    refine ⟨_, rfl, d, od, rfl, .inl ⟨_, h2.g0, fun D hD => ?_⟩⟩
    have gi := groups_in bss
    rw [← ok.da] at gi
    refine lc_keys (fun i H' => ∃ xs I', Hs ((D, .lst xs) :: (d, .frz od (.dK (gs.map Grp.kv))) :: (gs.map Grp.pt ++ L)) I' H' ∧ Same I I' ∧ RpA I' xs (((groupsN bss).take i).filterMap rowOf |>.map dRow) ∧ xs.length ≤ i) (fun i H' ⟨_, _, h', _⟩ => h'.g1)
      ⟨[], I, h2.newM hD, Same.refl I, .nil, Nat.le_refl _⟩ ?_ ?_
    · rintro i H3 k v hk ⟨xs, I3, h3, s3, rx, xl⟩
      rw [List.getElem?_map] at hk
      cases hgi : gs[i]? with
      | none =>
        rw [hgi] at hk
        cases hk
      | some g =>
        rw [hgi] at hk
        have hk2 : g.kv = (k, v) := Option.some.inj hk
        obtain ⟨rfl, rfl⟩ : k = Sum.inl g.b ∧ v = .ref g.a := by
          unfold Grp.kv at hk2
          injection hk2 with a1 a2
          exact ⟨a1.symm, a2.symm⟩
        have hg : g ∈ gs := List.mem_of_getElem? hgi
        have il : i < gs.length := (List.getElem?_eq_some_iff.mp hgi).1
        have gl : gs.length = (groupsN bss).length := by rw [← ok.da, List.length_map]
        have hgd : (groupsN bss)[i]? = some g.da := by
          rw [← ok.da, List.getElem?_map, hgi]
          rfl
        obtain ⟨n1, n2, n3, n4⟩ := gi g.da (List.mem_map.mpr ⟨g, hg, rfl⟩)
        have n8 : ∀ w ∈ g.ws, w.length = 8 := fun w hw => ht.l8 w (n3 w hw).1
        obtain ⟨y, bl, e1, ey, e3⟩ := grp_last (ok.rp g hg) n1 n8
        have ga : ∀ {I' H' : Hp} {L' : ML}, Hs ((D, .lst xs) :: (d, .frz od (.dK (gs.map Grp.kv))) :: (gs.map Grp.pt ++ L)) I' H' → H' g.a = some (.lst g.xs) := fun h' =>
          h'.gm (.tail _ (.tail _ (List.mem_append_left _ (List.mem_map.mpr ⟨g, hg, rfl⟩))))
        have dg : ∀ {H' : Hp}, H' d = some (.frz od (.dK (gs.map Grp.kv))) → DGet H' d (.int g.b) (some (.ref g.a)) := fun e => .inl ⟨_, Sum.inl g.b, .inr ⟨od, e⟩, rfl, (grp_get hg ok.nd).symm⟩
        have a3 := ga (L' := L) h3
        refine ⟨rfl, _, rfl, _, rfl, d, _, rfl, dg h3.g1, 1, rfl, g.a, _, _, _, rfl, rfl, sqm a3, e1, y, _, 3, _, rfl, rfl, h3.sq (s3 _ _ ey), e3, rfl, _, rfl, if_d (fun c0 => ?_) (fun c0 => ?_)⟩
        · have c1 : lastL g.ws = 0 := V.int.inj c0
          obtain ⟨m1, m2⟩ := ht.ok g.da (List.mem_of_getElem? hgd) c1
          have rg : Rp H3 (.ref g.a) (dII g.ws) := .lst a3 ((ok.rp g hg).mono (s3.trans h3.im))
          refine ⟨_, rfl, _, rfl, _, rfl, d, _, rfl, dg h3.g1, g.a, g.ws, _, I3, rfl, h3, rg, ?_, fun b hb => by rw [n8 b hb]; decide, m1, m2, fun H4 t h4 s4 => ⟨szl (by simp), fun u hu => ?_⟩⟩
          · have : g.da.2.length = g.ws.length := rfl
            omega
          have h5 := (h4.newM (o := .tup [.int g.b, .ref t]) hu).m1
          have st := same_upd (o := .lst ((rowN (datas g.ws)).map V.int)) h5.fr0
          have h6 := h5.frz
          have su := same_upd (o := .tup [.int g.b, .ref t]) h6.fr0
          have h7 := h6.frz
          have gl2 := groups_len bss
          refine ⟨xs, h7.g0, szlt (by omega), xs ++ [.ref u], _, h7.set0, (s3.trans st).trans su, ?_, by simpa using xl⟩
          rw [filterMap_take hgd, show rowOf g.da = some (g.b, rowN (datas g.ws)) from if_pos c1, List.map_append]
          exact (rx.mono (st.trans su)).snoc (.tup upd_same (.cons (.int _) (.cons (Rp.dI_mk (su _ _ upd_same)) .nil)))
        · refine ⟨xs, I3, h3, s3, ?_, Nat.le_succ_of_le xl⟩
          rw [filterMap_take hgd, show rowOf g.da = none from if_neg fun z => c0 (congrArg V.int z)]
          simpa using rx
    · rintro H3 ⟨xs, I3, h3, s3, rx, xl⟩
      have e : (groupsN bss).take ((gs.map Grp.kv).length) = groupsN bss := List.take_of_length_le (by rw [← ok.da, List.length_map, List.length_map]; exact Nat.le_refl _)
      rw [e] at rx
      exact ⟨h3.g1, q I3 _ D xs s3 ((h3.set1 (o' := .dK (gs.map Grp.kv))).m1.drop.m_app.dropl) rx⟩
theorem ok_cut_in (T : Tx K mg) : Ok P w K mg base 2 (a_cut_in K) p_cut_in sp_cut_in := by
  have G_in_groups := ok_in_groups (P := P) (w := w) (base := base) T
  refine ok_of T.d_cut_in sc_cut_in bd_cut_in (fun vs H Q E h => ?_) (fun cdv A outer s H vs Q E hr tk po h => ?_)
  · obtain ⟨c, bss, L, I, rfl, _⟩ := h
    rfl
  · obtain ⟨c, bss, L, I, rfl, h, hc, ht, q⟩ := h
    have hu := hu_of hr
    refine ⟨_, (pss_cons (ps_set (i := 1) sc_cut_in.nd rfl (Or.inr rfl) (pe_callO G_in_groups (hr.mono (by first | decide | omega)) T.g_in_groups (passAt tk) (pa_cons (pv 0) pa_nil)))
    (pss_one (ps_ret (pe_lock (pe_lc (own := [("begin", 2)]) rfl sc_cut_in.nd (pi_keys (pv 1)) (blkOk_by (own := [("begin", 2)]) (N := n_cut_in) (sc := defScope s_cut_in) (by decide +kernel)) (fun _ _ _ _ _ => (pg_name (i := 2) sc_cut_in.nd rfl (Or.inl rfl))) (fun _ _ _ _ _ => (pts_one (pt_cmpR op_gt (pe_ix (ix_list_q K rfl) (pe_ix (ix_list_q K rfl) (pe_dget hu (pv 1) (pv 2) (fun _ _ => rfl)) (pe_un un_neg pe_int) (fun _ _ => rfl)) pe_int (fun _ _ => rfl)) pe_int (nomark _)))) (fun _ _ _ _ _ => (pv 2))))))), ?_⟩
    have hl := ht.le
    refine ⟨_, rfl, c, bss, L, I, rfl, h, hc, by omega, ht.l8, fun H1 d gs h1 ok => ?_⟩
    refine ⟨d, _, h1.g0, trivial, fun od => ?_⟩
    have h2 := h1.set0 (o' := .frz od (.dK (gs.map Grp.kv)))
    refine ⟨_, rfl, d, od, rfl, .inl ⟨_, h2.g0, fun D hD => ?_⟩⟩
    have gi := groups_in bss
    rw [← ok.da] at gi
    refine lc_keys (fun i H' => Hs ((D, .lst ((((groupsN bss).take i).filterMap cutOf).map V.int)) :: (d, .frz od (.dK (gs.map Grp.kv))) :: (gs.map Grp.pt ++ L)) I H') (fun i H' h' => h'.g1)
      (h2.newM hD) ?_ ?_
    · rintro i H3 k v hk h3
      rw [List.getElem?_map] at hk
      cases hgi : gs[i]? with
      | none =>
        rw [hgi] at hk
        cases hk
      | some g =>
        rw [hgi] at hk
        have hk2 : g.kv = (k, v) := Option.some.inj hk
        obtain ⟨rfl, rfl⟩ : k = Sum.inl g.b ∧ v = .ref g.a := by
          unfold Grp.kv at hk2
          injection hk2 with a1 a2
          exact ⟨a1.symm, a2.symm⟩
        have hg : g ∈ gs := List.mem_of_getElem? hgi
        have gl : gs.length = (groupsN bss).length := by rw [← ok.da, List.length_map]
        have il : i < gs.length := (List.getElem?_eq_some_iff.mp hgi).1
        have hgd : (groupsN bss)[i]? = some g.da := by
          rw [← ok.da, List.getElem?_map, hgi]
          rfl
        obtain ⟨n1, n2, n3, n4⟩ := gi g.da (List.mem_map.mpr ⟨g, hg, rfl⟩)
        have n8 : ∀ w ∈ g.ws, w.length = 8 := fun w hw => ht.l8 w (n3 w hw).1
        obtain ⟨y, bl, e1, ey, e3⟩ := grp_last (ok.rp g hg) n1 n8
        have a3 : H3 g.a = some (.lst g.xs) := h3.gm (.tail _ (.tail _ (List.mem_append_left _ (List.mem_map.mpr ⟨g, hg, rfl⟩))))
        have dg : DGet H3 d (.int g.b) (some (.ref g.a)) := .inl ⟨_, Sum.inl g.b, .inr ⟨od, h3.g1⟩, rfl, (grp_get hg ok.nd).symm⟩
        refine ⟨rfl, _, rfl, _, rfl, d, _, rfl, dg, 1, rfl, g.a, _, _, _, rfl, rfl, sqm a3, e1, y, _, 3, _, rfl, rfl, h3.sq ey, e3, _, 0, rfl, rfl, _, rfl, if_d (fun c0 => ?_) (fun c0 => ?_)⟩
        · refine ⟨_, rfl, _, h3.g0, szlt ?_, ?_⟩
          · rw [List.length_map]
            have := List.length_filterMap_le cutOf ((groupsN bss).take i)
            rw [List.length_take] at this
            have l2 : (groupsN bss).length ≤ 1000 := by
              have := groups_len bss
              omega
            omega
          · rw [filterMap_take hgd, show cutOf g.da = some g.b from if_pos c0, List.map_append]
            exact h3.set0
        · show Hs _ _ _
          rw [filterMap_take hgd, show cutOf g.da = none from if_neg c0]
          simpa using h3
    · rintro H3 h3
      have e : (groupsN bss).take ((gs.map Grp.kv).length) = groupsN bss := List.take_of_length_le (by rw [← ok.da, List.length_map, List.length_map]; exact Nat.le_refl _)
      rw [e] at h3
      exact ⟨h3.g1, q _ D ((h3.set1 (o' := .dK (gs.map Grp.kv))).m1.drop.m_app.dropl)⟩
end
end RL
namespace RL
open PySem PySem.Spec PyProof.Rows L2
def sp_lmark : Sp := fun vs H Q _ => ∃ (n f l : Int) (L : ML) (I : Hp), vs = [.int n, .int f, .int l] ∧ Hs L I H ∧ ∀ H' p, Hs ((p, .lst ((mkB n f 0 l [0, 0, 0]).map V.int)) :: L) I H' → Same H H' → Q (.ref p) H'
section
variable {P : Program} {w : World} {K : PySem.W.Frag} {mg : Str → Option Value} {base : Heap}
theorem ok_lmark (T : Tx K mg) : Ok P w K mg base 1 (a_l_mark K) p_l_mark sp_lmark := by
  refine ok_of T.d_l_mark sc_l_mark bd_l_mark (fun vs H Q E h => ?_) (fun cdv A outer s H vs Q E hr tk po h => ?_)
  · obtain ⟨n, f, l, L, I, rfl, _⟩ := h
    rfl
  · obtain ⟨n, f, l, L, I, rfl, h, q⟩ := h
    refine ⟨_, (pss_one (ps_ret (pe_lst (pa_cons (pv 0) (pa_cons (pv 1) (pa_cons pe_int (pa_cons (pv 2) (pa_cons pe_int (pa_cons pe_int (pa_cons pe_int (pa_cons (pv 0) pa_nil))))))))))), ?_⟩
    refine ⟨_, rfl, _, rfl, _, rfl, _, rfl, szl (by simp), fun p hp => ?_⟩
    exact q _ p (h.newM hp) (same_upd hp)
end
end RL
namespace RL
open PySem PySem.Spec PyProof.Rows L2
structure K11 (n : Int) (bss : List (List Int)) : Prop where
  pos : 0 < n
  l8 : ∀ b ∈ bss, b.length = 8
  lt : ∀ g ∈ groupsN bss, g.1 < n
  ok : ∀ g ∈ groupsN bss, lastL g.2 = 0 → datas g.2 ≠ [] ∧ 0 ≤ (datas g.2).headD 0
theorem K11.nil {n : Int} (h : 0 < n) : K11 n [] := ⟨h, (fun _ h => nomatch h), (fun _ h => nomatch h), (fun _ h => nomatch h)⟩
theorem groups_mk (A : List (List Int)) (n f l : Int) (ds : List Int) : groupsN (A ++ [mkB n f 0 l ds]) = groupsN A := groups_mark (by simp [mkB])
theorem K11.mark {n f l : Int} {bss : List (List Int)} (h : K11 n bss) : K11 (n + 1) (bss ++ [mkB n f 0 l [0, 0, 0]]) ∧ rowsN (bss ++ [mkB n f 0 l [0, 0, 0]]) = rowsN bss ∧ cutN (bss ++ [mkB n f 0 l [0, 0, 0]]) = cutN bss := by
  have e := groups_mk bss n f l [0, 0, 0]
  refine ⟨⟨by have := h.pos; omega, fun b hb => ?_, fun g hg => ?_, fun g hg => ?_⟩, ?_, ?_⟩
  · rcases List.mem_append.mp hb with hb | hb
    · exact h.l8 b hb
    · obtain rfl := List.mem_singleton.mp hb
      rfl
  · rw [e] at hg
    have := h.lt g hg
    omega
  · rw [e] at hg
    exact h.ok g hg
  · unfold rowsN
    rw [e]
  · unfold cutN
    rw [e]
theorem K11.row {n f : Int} {bss : List (List Int)} {ws : List Int} {k : Nat} (h : K11 n bss) (hk : k < (piecesN ws).length) :
    K11 (n + (k + 1 : Nat)) (bss ++ (blocksF n f n (piecesN ws)).take (k + 1)) ∧
    rowsN (bss ++ (blocksF n f n (piecesN ws)).take (k + 1)) = rowsN bss ++ (if k + 1 = (piecesN ws).length then [(n, ws)] else []) ∧
    cutN (bss ++ (blocksF n f n (piecesN ws)).take (k + 1)) = cutN bss ++ (if k + 1 < (piecesN ws).length then [n] else []) := by
  have hne : (blocksF n f n (piecesN ws)).take (k + 1) ≠ [] := by
    intro z
    have := congrArg List.length z
    rw [List.length_take, blocksF_len] at this
    have : min (k + 1) (piecesN ws).length = 0 := this
    omega
  have e : groupsN (bss ++ (blocksF n f n (piecesN ws)).take (k + 1)) = groupsN bss ++ [(n, (blocksF n f n (piecesN ws)).take (k + 1))] :=
    groups_row h.pos (fun x hx => by have := h.lt x hx; omega) (fun w hw => blocksF_begin (List.mem_of_mem_take hw)) hne
  have el := lastL_blocks (n := n) (f := f) (b := n) hk
  have full : k + 1 = (piecesN ws).length → (blocksF n f n (piecesN ws)).take (k + 1) = blocksF n f n (piecesN ws) := fun z => List.take_of_length_le (by rw [blocksF_len, z]; exact Nat.le_refl _)
  have fd : datas (blocksF n f n (piecesN ws)) = (piecesN ws).flatten := datas_blocksF fun _ h => piecesN_mem h
  refine ⟨⟨by have := h.pos; omega, fun b hb => ?_, fun g hg => ?_, fun g hg g0 => ?_⟩, ?_, ?_⟩
  · rcases List.mem_append.mp hb with hb | hb
    · exact h.l8 b hb
    · obtain ⟨_, _, d, hd, rfl⟩ := blocksF_mem (List.mem_of_mem_take hb)
      rw [mkB_len, piecesN_mem hd]
  · rw [e] at hg
    rcases List.mem_append.mp hg with hg | hg
    · have := h.lt g hg
      omega
    · obtain rfl := List.mem_singleton.mp hg
      show n < _
      omega
  · rw [e] at hg
    rcases List.mem_append.mp hg with hg | hg
    · exact h.ok g hg g0
    · obtain rfl := List.mem_singleton.mp hg
      have g1 : lastL ((blocksF n f n (piecesN ws)).take (k + 1)) = 0 := g0
      rw [el] at g1
      show datas ((blocksF n f n (piecesN ws)).take (k + 1)) ≠ [] ∧ 0 ≤ (datas ((blocksF n f n (piecesN ws)).take (k + 1))).headD 0
      rw [full (by omega), fd]
      exact ⟨flat_head.1, by rw [flat_head.2]; omega⟩
  · unfold rowsN
    rw [e, List.filterMap_append]
    congr 1
    by_cases z : k + 1 = (piecesN ws).length
    · rw [if_pos z, full z]
      rw [full z] at el
      show List.filterMap rowOf [(n, blocksF n f n (piecesN ws))] = _
      have : rowOf (n, blocksF n f n (piecesN ws)) = some (n, ws) := by
        unfold rowOf
        rw [if_pos (show lastL (blocksF n f n (piecesN ws)) = 0 by rw [el]; omega), fd, rowN_pieces]
      simp [this]
    · rw [if_neg z]
      have : rowOf (n, (blocksF n f n (piecesN ws)).take (k + 1)) = none := by
        unfold rowOf
        rw [if_neg (show ¬ lastL ((blocksF n f n (piecesN ws)).take (k + 1)) = 0 by rw [el]; omega)]
      simp [this]
  · unfold cutN
    rw [e, List.filterMap_append]
    congr 1
    by_cases z : k + 1 < (piecesN ws).length
    · rw [if_pos z]
      have : cutOf (n, (blocksF n f n (piecesN ws)).take (k + 1)) = some n := by
        unfold cutOf
        rw [if_pos (show 0 < lastL ((blocksF n f n (piecesN ws)).take (k + 1)) by rw [el]; omega)]
      simp [this]
    · rw [if_neg z]
      have : cutOf (n, (blocksF n f n (piecesN ws)).take (k + 1)) = none := by
        unfold cutOf
        rw [if_neg (show ¬ 0 < lastL ((blocksF n f n (piecesN ws)).take (k + 1)) by rw [el]; omega)]
      simp [this]
theorem rowsN_len (bss : List (List Int)) : (rowsN bss).length ≤ bss.length := Nat.le_trans (List.length_filterMap_le _ _) (groups_len bss)
theorem cutN_len (bss : List (List Int)) : (cutN bss).length ≤ bss.length := Nat.le_trans (List.length_filterMap_le _ _) (groups_len bss)
theorem datas_le : ∀ (bss : List (List Int)), (datas bss).length ≤ 3 * bss.length
  | [] => Nat.le_refl 0
  | b :: bss => by
    have ih := datas_le bss
    show (((b.drop 4).take 3) ++ datas bss).length ≤ _
    rw [List.length_append, List.length_take, List.length_cons]
    omega
theorem rowsN_row {bss : List (List Int)} {x : Int × List Int} (h : x ∈ rowsN bss) : x.2.length ≤ 3 * bss.length := by
  obtain ⟨g, hg, e⟩ := List.mem_filterMap.mp h
  unfold rowOf at e
  split at e
  · obtain rfl := Option.some.inj e
    have h1 := (groups_in bss g hg).2.1
    have h2 := datas_le g.2
    show ((datas g.2).drop 1 |>.take _).length ≤ _
    rw [List.length_take, List.length_drop]
    omega
  · cases e
theorem okD_rows {xs : List (Int × List Int)} (h : xs.length ≤ 1000) (h2 : ∀ x ∈ xs, x.2.length ≤ 1000) : okD 3 (.list (xs.map dRow)) := by
  refine ⟨by rw [List.length_map]; exact h, fun d hd => ?_⟩
  obtain ⟨x, hx, rfl⟩ := List.mem_map.mp hd
  refine ⟨by simp, fun e he => ?_⟩
  rcases List.mem_cons.mp he with rfl | he
  · exact okD_int
  · obtain rfl := List.mem_singleton.mp he
    exact okD_dI (h2 x hx)
theorem tellable_of {n : Int} {bss : List (List Int)} (h : K11 n bss) (l : bss.length ≤ 100) : Tellable bss := ⟨h.l8, l, h.ok⟩
end RL
namespace RL
open PySem PySem.Spec PyProof.Rows L2
abbrev lawLevel : Nat := 5
theorem flat01 (b : Bool) (x : V) : (List.replicate (if b = true then (1 : Int) else 0).toNat [x]).flatten = if b = true then [x] else [] := by cases b <;> rfl
section
variable {P : Program} {w : World} {K : PySem.W.Frag} {mg : Str → Option Value} {base : Heap}
theorem fn_law (T : Tx K mg) {fd : FuncData} (F : FunD K "law" "law" (defArgs s_law) (defBody s_law) (defScope s_law) [] [] (a_law K) fd) : FnOk P w K mg base (L2.CX P w) 5 (a_law K) fd p_law (sp_law K) := by
  have G_l_taken := ok_taken (P := P) (w := w) (base := base) T
  have G_l_row_of := ok_rowof (P := P) (w := w) (base := base) T
  have G_l_pieces := ok_lpieces (P := P) (w := w) (base := base) T
  have G_l_mark := ok_lmark (P := P) (w := w) (base := base) T
  have G_rows_in := ok_rows_in (P := P) (w := w) (base := base) T
  have G_cut_in := ok_cut_in (P := P) (w := w) (base := base) T
  have G_l_alike := ok_alike (P := P) (w := w) (base := base) T 3
  refine fnok_of F sc_law (fun vs H Q E h => ?_) (fun cdv A outer s H vs Q E hr tk po h => ?_)
  · obtain ⟨a, ns, rfl, _⟩ := h
    rfl
  · obtain ⟨a, sc, rfl, hS, q⟩ := h
    have hu64 := hr.units
    refine ⟨_, (pss_cons (ps_set (i := 1) sc_law.nd rfl (Or.inl rfl) (pe_lst (pa_cons (pv 0) (pa_cons pe_int (pa_cons pe_int pa_nil)))))
    (pss_cons (ps_for po rfl (pi_range1 (by rfl) T.b_range (pa_cons pe_int pa_nil)) (pg_name (i := 2) sc_law.nd rfl (Or.inl rfl))
    (pss_cons (ps_set (i := 3) sc_law.nd rfl (Or.inl rfl) (pe_op op_add pe_int (pe_callO G_l_taken (hr.mono (by first | decide | omega)) T.g_l_taken (passAt tk) (pa_cons (pv 1) (pa_cons pe_int pa_nil)))))
    (pss_cons (ps_set (i := 4) sc_law.nd rfl (Or.inl rfl) (pe_lst pa_nil))
    (pss_cons (ps_set (i := 5) sc_law.nd rfl (Or.inl rfl) (pe_lst pa_nil))
    (pss_cons (ps_set (i := 6) sc_law.nd rfl (Or.inl rfl) (pe_lst pa_nil))
    (pss_cons (ps_for po rfl (pi_range1 (by rfl) T.b_range (pa_cons (pe_callO G_l_taken (hr.mono (by first | decide | omega)) T.g_l_taken (passAt tk) (pa_cons (pv 1) (pa_cons pe_int pa_nil))) pa_nil)) (pg_name (i := 7) sc_law.nd rfl (Or.inl rfl))
    (pss_cons (ps_set (i := 8) sc_law.nd rfl (Or.inl rfl) (pe_callO G_l_row_of (hr.mono (by first | decide | omega)) T.g_l_row_of (passAt tk) (pa_cons (pv 1) pa_nil)))
    (pss_cons (ps_set (i := 9) sc_law.nd rfl (Or.inl rfl) (pe_callO G_l_pieces (hr.mono (by first | decide | omega)) T.g_l_pieces (passAt tk) (pa_cons (pv 8) pa_nil)))
    (pss_cons (ps_set (i := 10) sc_law.nd rfl (Or.inl rfl) (pe_ix ix_list (pe_lst (pa_cons (pe_callB call_len_seq (by rfl) T.b_len PySem.boot_len (pa_cons (pv 9) pa_nil)) (pa_cons (pe_op op_add pe_int (pe_callO G_l_taken (hr.mono (by first | decide | omega)) T.g_l_taken (passAt tk) (pa_cons (pv 1) (pa_cons (pe_callB call_len_seq (by rfl) T.b_len PySem.boot_len (pa_cons (pv 9) pa_nil)) pa_nil)))) pa_nil))) (pe_callO G_l_taken (hr.mono (by first | decide | omega)) T.g_l_taken (passAt tk) (pa_cons (pv 1) (pa_cons pe_int pa_nil))) (fun _ _ => rfl)))
    (pss_one (ps_if (pt_cmpR op_eq (pe_callO G_l_taken (hr.mono (by first | decide | omega)) T.g_l_taken (passAt tk) (pa_cons (pv 1) (pa_cons pe_int pa_nil))) pe_int (nomark _))
    (pss_cons (ps_expr (pe_bm PySem.F.plainAttrs_list PySem.F.slot_list_append PySem.F.type_list_append mt_append (pv 4) (pa_cons (pe_callO G_l_mark (hr.mono (by first | decide | omega)) T.g_l_mark (passAt tk) (pa_cons (pv 3) (pa_cons (pe_op op_sub (pv 3) pe_int) (pa_cons pe_int pa_nil)))) pa_nil)))
    (pss_one (ps_set (i := 3) sc_law.nd rfl (Or.inl rfl) (pe_op op_add (pv 3) pe_int))))
    (pss_cons (ps_set (i := 5) sc_law.nd rfl (Or.inl rfl) (pe_op op_cat (pv 5) (pe_op op_rep (pe_lst (pa_cons (pe_tup (pa_cons (pv 3) (pa_cons (pv 8) pa_nil))) pa_nil)) (pe_callTy call_int1 (by rfl) T.b_int boot_int (pa_cons (pe_cmpR op_eq (pv 10) (pe_callB call_len_seq (by rfl) T.b_len PySem.boot_len (pa_cons (pv 9) pa_nil)) (nomark _)) pa_nil)))))
    (pss_cons (ps_set (i := 6) sc_law.nd rfl (Or.inl rfl) (pe_op op_cat (pv 6) (pe_op op_rep (pe_lst (pa_cons (pv 3) pa_nil)) (pe_callTy call_int1 (by rfl) T.b_int boot_int (pa_cons (pe_cmpR op_lt (pv 10) (pe_callB call_len_seq (by rfl) T.b_len PySem.boot_len (pa_cons (pv 9) pa_nil)) (nomark _)) pa_nil)))))
    (pss_cons (ps_for po rfl (pi_range1 (by rfl) T.b_range (pa_cons (pv 10) pa_nil)) (pg_name (i := 11) sc_law.nd rfl (Or.inl rfl))
    (pss_one (ps_expr (pe_bm PySem.F.plainAttrs_list PySem.F.slot_list_append PySem.F.type_list_append mt_append (pv 4) (pa_cons (pe_op op_cat (pe_op op_cat (pe_lst (pa_cons (pe_op op_add (pv 3) (pv 11)) (pa_cons pe_int (pa_cons (pv 3) (pa_cons (pe_op op_sub (pe_op op_sub (pe_callB call_len_seq (by rfl) T.b_len PySem.boot_len (pa_cons (pv 9) pa_nil)) pe_int) (pv 11)) pa_nil))))) (pe_ix ix_list (pv 9) (pv 11) (fun _ _ => rfl))) (pe_lst (pa_cons (pe_op op_add (pv 3) (pv 11)) pa_nil))) pa_nil)))))
    (pss_one (ps_set (i := 3) sc_law.nd rfl (Or.inl rfl) (pe_op op_add (pv 3) (pv 10)))))))))))))
    (C8.pss_cut (ps_if (pt_cmpR op_eq (pe_callO G_l_taken (hr.mono (by first | decide | omega)) T.g_l_taken (passAt tk) (pa_cons (pv 1) (pa_cons pe_int pa_nil))) pe_int (nomark _))
    (pss_one (ps_expr (pe_bm PySem.F.plainAttrs_list PySem.F.slot_list_append PySem.F.type_list_append mt_append (pv 4) (pa_cons (pe_callO G_l_mark (hr.mono (by first | decide | omega)) T.g_l_mark (passAt tk) (pa_cons (pv 3) (pa_cons (pe_op op_sub (pv 3) pe_int) (pa_cons pe_int pa_nil)))) pa_nil))))
    pss_nil)
    (pss_cons (ps_setLc (i := 12) (own := [("_law_words", 8)]) rfl sc_law.nd rfl rfl (sw_true rfl rfl rfl (by decide +kernel)) (pi_list (pv 4)) (blkOk_by (own := [("_law_words", 8)]) (N := n_law) (sc := defScope s_law) (by decide +kernel)) (fun _ _ _ _ _ => (pg_name (i := 8) sc_law.nd rfl (Or.inl rfl))) (fun _ _ _ _ _ => pts_nil) (fun _ _ _ _ _ => (pe_callTy (call_list_of_q K rfl) (by rfl) T.b_list boot_list (pa_cons (pv 8) pa_nil))))
    (pss_cons (ps_set (i := 13) sc_law.nd rfl (Or.inl rfl) (pe_callO G_rows_in (hr.mono (by first | decide | omega)) T.g_rows_in (passAt tk) (pa_cons (pv 12) pa_nil)))
    (pss_cons (ps_set (i := 14) sc_law.nd rfl (Or.inl rfl) (pe_callO G_cut_in (hr.mono (by first | decide | omega)) T.g_cut_in (passAt tk) (pa_cons (pv 12) pa_nil)))
    (pss_cons (ps_if (PW.pt (pw_or (pt_not (pt_val (pe_callO G_l_alike (hr.mono (by first | decide | omega)) T.g_l_alike (passAt tk) (pa_cons (pv 13) (pa_cons (pv 5) pa_nil))))) (pw_or (pt_not (pt_val (pe_callO G_l_alike (hr.mono (by first | decide | omega)) T.g_l_alike (passAt tk) (pa_cons (pv 14) (pa_cons (pv 6) pa_nil))))) (pw_or1 (pt_cmpR (op_neD hu64) (pv 12) (pv 4) (nomark _))))))
    (pss_one (ps_ret pe_bl))
    pss_nil)
    (pss_cons (ps_expr (pe_bm PySem.F.plainAttrs_list PySem.F.slot_list_append PySem.F.type_list_append mt_append (pv 13) (pa_cons (pe_tup (pa_cons pe_int (pa_cons (pe_lst pa_nil) pa_nil))) pa_nil)))
    (pss_cons (ps_expr (pe_bm PySem.F.plainAttrs_list PySem.F.slot_list_append PySem.F.type_list_append mt_append (pv 14) (pa_cons pe_int pa_nil)))
    (pss_one (ps_if (PW.pt (pw_or (pt_not (pt_val (pe_callO G_l_alike (hr.mono (by first | decide | omega)) T.g_l_alike (passAt tk) (pa_cons (pe_callO G_rows_in (hr.mono (by first | decide | omega)) T.g_rows_in (passAt tk) (pa_cons (pv 12) pa_nil)) (pa_cons (pv 5) pa_nil))))) (pw_or1 (pt_not (pt_val (pe_callO G_l_alike (hr.mono (by first | decide | omega)) T.g_l_alike (passAt tk) (pa_cons (pe_callO G_cut_in (hr.mono (by first | decide | omega)) T.g_cut_in (passAt tk) (pa_cons (pv 12) pa_nil)) (pa_cons (pv 6) pa_nil))))))))
    (pss_one (ps_ret pe_bl))
    pss_nil)))))))))))))))
    (pss_one (ps_ret pe_bl)))), ?_⟩
    have ro0 : RowOk K H a 0 := ⟨⟨sc, hS⟩, Int.le_refl 0⟩
    refine ⟨_, rfl, szl (by simp), fun r hr0 => ?_⟩
    have h1 := (Hs.start H).newM (o := rowO a 0 0) hr0
    refine ⟨4, rfl, by decide, by decide, for_range (lo := 0) (fun i σ H' => ∃ I' i' m' z2 z3 z4 z5 z6 z7 z8 z9 z10 z11 z12 z13 z14, σ = [some (.ref a), some (.ref r), z2, z3, z4, z5, z6, z7, z8, z9, z10, z11, z12, z13, z14] ∧ Hs [(r, rowO a i' m')] I' H' ∧ RowOk K I' a i')
      ⟨H, 0, 0, none, none, none, none, none, none, none, none, none, none, none, none, none, rfl, h1, ro0⟩ ?_ ?_⟩
    · clear h1 ro0 hS
      rintro i σ H1 hi ⟨I0, i0, m0, z2, z3, z4, z5, z6, z7, z8, z9, z10, z11, z12, z13, z14, rfl, h, ro⟩
      dsimp only [List.set]
      refine ⟨_, rfl, r, a, i0, m0, 1000, _, I0, rfl, h, ro, by decide, fun H2 i2 m2 v2 h2 ro2 lo2 hi2 => ⟨4, v2, rfl, rfl, ?_⟩⟩
      dsimp only [List.set]
      refine ⟨szl (by simp), fun bl hbl => ?_⟩
      have h3 := h2.newM (o := .lst []) hbl
      dsimp only [List.set]
      refine ⟨szl (by simp), fun du hdu => ?_⟩
      have h4 := h3.newM (o := .lst []) hdu
      dsimp only [List.set]
      refine ⟨szl (by simp), fun cu hcu => ?_⟩
      have h5 := h4.newM (o := .lst (([] : List Int).map V.int)) hcu
      have sc1 := same_upd (o := .lst (([] : List Int).map V.int)) h5.fr0
      have h6 := h5.frz
      have sd1 := same_upd (o := .lst []) h6.fr0
      have h7 := h6.frz
      dsimp only [List.set]
      refine ⟨_, rfl, r, a, i2, m2, 13, _, _, rfl, h7.m1, (ro2.mono sc1).mono sd1, by decide, fun H8 i8 m8 v8 h8 ro8 lo8 hi8 => ?_⟩
      refine ⟨v8, rfl, by omega, by omega, for_range (lo := 0) (fun k σ H' => ∃ I' i' m' n bss xs du cu z7 z8 z9 z10 z11 z12 z13 z14, σ = [some (.ref a), some (.ref r), some (.int (0 + (i : Nat))), some (.int n), some (.ref bl), some (.ref du), some (.ref cu), z7, z8, z9, z10, z11, z12, z13, z14] ∧
          Hs [(r, rowO a i' m'), (bl, .lst xs)] I' H' ∧ RowOk K I' a i' ∧ RpA I' xs (bss.map dI) ∧ Rp I' (.ref du) (.list ((rowsN bss).map dRow)) ∧ Rp I' (.ref cu) (dI (cutN bss)) ∧ K11 n bss ∧ bss.length ≤ 4 * k)
        ⟨_, i8, m8, 4 + v2, [], [], du, cu, _, _, _, _, _, _, _, _, rfl, h8, ro8, .nil, .lst upd_same .nil, Rp.dI_mk (ns := []) (sd1 _ _ upd_same), K11.nil (by omega), Nat.le_refl _⟩ ?_ ?_⟩
      · clear h8 h7 h6 h5 h4 h3 h2 h ro8 sc1 sd1 hcu hdu hbl
        rintro k σ H1 hk ⟨I0, i0, m0, n, bss, xs, du, cu, z7, z8, z9, z10, z11, z12, z13, z14, rfl, h, ro, rx, rdu, rcu, k11, bl4⟩
        dsimp only [List.set]
        -- words, some
        refine ⟨_, rfl, r, a, i0, m0, _, I0, rfl, h, ro, fun H2 i2 m2 wd ws h2 ro2 hg => ?_⟩
        have hwl : ws.length ≤ 11 := hg.1
        have pl := piecesN_len ws
        dsimp only [List.set]
        refine ⟨_, rfl, wd, ws, _, I0, rfl, h2, h2.g0, by omega, fun H3 sm as ha h3 s3 => ?_⟩
        obtain ⟨I3, S3, h3, rd⟩ := h3.frzII ha
        have S4 := same_upd (o := .lst (ws.map V.int)) h3.fr0
        have h4 := h3.frz
        have ew : (upd I3 wd (.lst (ws.map V.int))) wd = some (.lst (ws.map V.int)) := upd_same
        have rd4 := rd.mono S4
        have ro4 := (ro2.mono S3).mono S4
        have S34 := S3.trans S4
        clear rd h3 h2 h S3
        generalize upd I3 wd (.lst (ws.map V.int)) = I4 at S4 h4 ew rd4 ro4 S34
        replace rx := rx.mono S34
        replace rdu := rdu.mono S34
        replace rcu := rcu.mono S34
        obtain ⟨d', vs, e, hv, hvs⟩ := rd4.lstI
        cases e
        have lv : vs.length = (piecesN ws).length := by rw [hvs.length, List.length_map]
        dsimp only [List.set]
        -- many
        refine ⟨_, rfl, sm, vs, rfl, .inl (h4.sq hv), _, rfl, _, rfl, sm, vs, rfl, .inl (h4.sq hv), r, a, i2, m2, _, _, I4, rfl, h4, ro4, by omega, fun H5 i5 m5 v5 h5 ro5 lo5 hi5 => ⟨1, v5, rfl, rfl, szl (by simp), fun p hp => ?_⟩⟩
        have h6 := (h5.newM (o := .lst [.int vs.length, .int (1 + v5)]) hp).m1
        refine ⟨_, rfl, r, a, i5, m5, 2, _, I4, rfl, h6, ro5, by decide, fun H7 i7 m7 v7 h7 ro7 lo7 hi7 => ?_⟩
        obtain ⟨x, ex, hx⟩ := at2 (x := .int vs.length) (y := .int (1 + v5)) lo7 hi7
        obtain ⟨mn, rfl, hmn⟩ : ∃ mn : Nat, x = .int ((mn + 1 : Nat) : Int) ∧ mn < (piecesN ws).length := by
          rcases hx with e | e
          · exact ⟨vs.length - 1, by rw [e]; congr 1; omega, by omega⟩
          · exact ⟨v5.toNat, by rw [e]; congr 1; omega, by omega⟩
        refine ⟨p, _, _, _, rfl, rfl, sqm h7.g1, ex, ?_⟩
        have h8 := h7.m1.drop
        dsimp only [List.set]
        refine ⟨_, rfl, r, a, i7, m7, 4, _, I4, rfl, h8, ro7, by decide, fun H9 i9 m9 v9 h9 ro9 lo9 hi9 => ⟨rfl, _, rfl, if_d (fun c => ?_) (fun c => ?_)⟩⟩
        · -- a mark
          refine ⟨_, rfl, .inl ⟨rfl, _, sqm h9.g1⟩, _, rfl, _, rfl, n, 1, rfl, rfl, _, _, _, _, I4, rfl, h9, fun H10 p h10 s10 => ?_⟩
          have lx := rx.length
          refine ⟨bl, _, _, rfl, rfl, h10.g2, szlt (by rw [lx, List.length_map]; have : (k : Int) < 13 := by omega
                                                       omega), ?_⟩
          have h11 := h10.set2 (o' := .lst (xs ++ [.ref p]))
          have S11 := same_upd (o := .lst ((mkB n (n - 1) 0 0 [0, 0, 0]).map V.int)) h11.fr0
          have h12 := h11.frz
          dsimp only [List.set]
          refine ⟨_, rfl, n, 1, rfl, rfl, ?_⟩
          obtain ⟨a1, a2, a3⟩ := k11.mark (f := n - 1) (l := 0)
          refine ⟨_, i9, m9, n + 1, bss ++ [mkB n (n - 1) 0 0 [0, 0, 0]], _, du, cu, _, _, _, _, _, _, _, _, rfl, h12, ro9.mono S11, ?_, ?_, ?_, a1, by simp; omega⟩
          · rw [List.map_append]
            exact (rx.mono S11).snoc (Rp.dI_mk upd_same)
          · rw [a2]
            exact rdu.mono S11
          · rw [a3]
            exact rcu.mono S11
        · obtain ⟨a1, a2, a3⟩ := k11.row (f := 3) hmn
          -- due
          obtain ⟨du', ys, e, hys, rys⟩ := rdu.lstI
          cases e
          have ly := rys.length
          have lr := rowsN_len bss
          have lc := cutN_len bss
          obtain ⟨cu', e, hcs⟩ := rcu.dI_inv
          cases e
          refine ⟨_, rfl, _, rfl, _, rfl, szl (by simp), fun t ht => ⟨szl (by simp), fun l1 hl1 => ?_⟩⟩
          have h10 := h9.newM (o := .tup [.int n, .ref wd]) ht
          have S10 := same_upd (o := .tup [.int n, .ref wd]) h10.fr0
          have h11 := h10.frz
          have et : (upd I4 t (.tup [.int n, .ref wd])) t = some (.tup [.int n, .ref wd]) := upd_same
          generalize upd I4 t (.tup [.int n, .ref wd]) = I5 at S10 h11 et
          have h12 := h11.junk (o := .lst [.ref t]) hl1
          refine ⟨_, rfl, _, rfl, sm, vs, rfl, .inl (h12.sq (S10 _ _ hv)), rfl, .inr ⟨_, rfl, ?_⟩⟩
          refine ⟨l1, _, [.ref t], rfl, rfl, upd_same, by split <;> decide, by split <;> decide, szl (by split <;> simp), fun l2 hl2 => ?_⟩
          have h13 := h12.junk (o := .lst (List.replicate (if decide (V.int ((mn + 1 : Nat) : Int) = V.int (vs.length : Int)) = true then (1 : Int) else 0).toNat [V.ref t]).flatten) hl2
          refine ⟨du, l2, ys, _, rfl, rfl, h13.i (S10 _ _ hys), upd_same, szl (by rw [flat01]; rw [ly, List.length_map]; split <;> simp <;> omega), fun du2 hdu2 => ?_⟩
          have h14 := h13.newM (o := .lst (ys ++ (List.replicate (if decide (V.int ((mn + 1 : Nat) : Int) = V.int (vs.length : Int)) = true then (1 : Int) else 0).toNat [V.ref t]).flatten)) hdu2
          have S14 := same_upd (o := .lst (ys ++ (List.replicate (if decide (V.int ((mn + 1 : Nat) : Int) = V.int (vs.length : Int)) = true then (1 : Int) else 0).toNat [V.ref t]).flatten)) h14.fr0
          have h15 := h14.frz
          have rdu2 : Rp _ (.ref du2) (.list ((rowsN (bss ++ (blocksF n 3 n (piecesN ws)).take (mn + 1))).map dRow)) := .lst (upd_same (H := I5) (a := du2) (o := .lst (ys ++ (List.replicate (if decide (V.int ((mn + 1 : Nat) : Int) = V.int (vs.length : Int)) = true then (1 : Int) else 0).toNat [V.ref t]).flatten))) (by
            suffices hJ : ∀ J : Hp, Same I5 J → RpA J (ys ++ (List.replicate (if decide (V.int ((mn + 1 : Nat) : Int) = V.int (vs.length : Int)) = true then (1 : Int) else 0).toNat [V.ref t]).flatten) ((rowsN (bss ++ (blocksF n 3 n (piecesN ws)).take (mn + 1))).map dRow) from hJ _ S14
            intro J SJ
            rw [flat01, a2, List.map_append]
            refine ((rys.mono S10).mono SJ).append ?_
            by_cases z : mn + 1 = (piecesN ws).length
            · rw [if_pos z, if_pos (decide_eq_true (by rw [lv, z]))]
              exact .cons (.tup (SJ _ _ et) (.cons (.int _) (.cons (Rp.dI_mk (SJ _ _ (S10 _ _ ew))) .nil))) .nil
            · rw [if_neg z, if_neg (by
                rw [decide_eq_true_eq, lv]
                intro y
                have := V.int.inj y
                omega)]
              exact .nil)
          clear h9 h10 h11 h12 h13 h14
          have S15 := S10.trans S14
          generalize upd I5 du2 (.lst (ys ++ (List.replicate (if decide (V.int ((mn + 1 : Nat) : Int) = V.int (vs.length : Int)) = true then (1 : Int) else 0).toNat [V.ref t]).flatten)) = I6 at S14 h15 rdu2 S15
          dsimp only [List.set]
          -- cut
          refine ⟨_, rfl, _, rfl, szl (by simp), fun l1 hl1 => ?_⟩
          have h12 := h15.junk (o := .lst [.int n]) hl1
          refine ⟨_, rfl, _, rfl, sm, vs, rfl, .inl (h12.sq (S15 _ _ hv)), _, _, rfl, rfl, .inr ⟨_, rfl, ?_⟩⟩
          refine ⟨l1, _, [.int n], rfl, rfl, upd_same, by split <;> decide, by split <;> decide, szl (by split <;> simp), fun l2 hl2 => ?_⟩
          have h13 := h12.junk (o := .lst (List.replicate (if decide (((mn + 1 : Nat) : Int) < (vs.length : Int)) = true then (1 : Int) else 0).toNat [V.int n]).flatten) hl2
          refine ⟨cu, l2, _, _, rfl, rfl, h13.i (S15 _ _ hcs), upd_same, szl (by rw [flat01, List.length_map]; split <;> simp <;> omega), fun cu2 hcu2 => ?_⟩
          have h14 := (h13.newM (o := .lst ((cutN bss).map V.int ++ (List.replicate (if decide (((mn + 1 : Nat) : Int) < (vs.length : Int)) = true then (1 : Int) else 0).toNat [V.int n]).flatten)) hcu2).cast (o' := .lst ((cutN (bss ++ (blocksF n 3 n (piecesN ws)).take (mn + 1))).map V.int)) (by
            rw [flat01, a3, List.map_append]
            congr 2
            by_cases z : mn + 1 < (piecesN ws).length
            · rw [if_pos z, if_pos (decide_eq_true (by omega))]
              rfl
            · rw [if_neg z, if_neg (by
                rw [decide_eq_true_eq]
                omega)]
              rfl)
          have S16 := same_upd (o := .lst ((cutN (bss ++ (blocksF n 3 n (piecesN ws)).take (mn + 1))).map V.int)) h14.fr0
          have h16 := h14.frz
          have ecu : (upd I6 cu2 (.lst ((cutN (bss ++ (blocksF n 3 n (piecesN ws)).take (mn + 1))).map V.int))) cu2 = _ := upd_same
          have S17 := S15.trans S16
          clear h12 h13 h14
          generalize upd I6 cu2 (.lst ((cutN (bss ++ (blocksF n 3 n (piecesN ws)).take (mn + 1))).map V.int)) = I7 at S16 h16 ecu S17
          replace rdu2 := rdu2.mono S16
          replace rx := rx.mono S17
          replace hv := S17 _ _ hv
          replace hvs := hvs.mono S17
          dsimp only [List.set]
          -- the blocks
          refine ⟨_, rfl, _, rfl, by omega, by omega, for_range (lo := 0) (fun j σ H' => ∃ I' xs' z11, σ = [some (.ref a), some (.ref r), some (.int (0 + (i : Nat))), some (.int n), some (.ref bl), some (.ref du2), some (.ref cu2), some (.int (0 + (k : Nat))), some (.ref wd), some (.ref sm), some (.int ((mn + 1 : Nat) : Int)), z11, z12, z13, z14] ∧
              Hs [(r, rowO a i9 m9), (bl, .lst xs')] I' H' ∧ Same I7 I' ∧ RpA I' xs' ((bss ++ (blocksF n 3 n (piecesN ws)).take j).map dI))
            ⟨I7, xs, _, rfl, h16, Same.refl _, by simpa using rx⟩ ?_ ?_⟩
          · rintro j σ H1 hj ⟨I8, xs', z, rfl, h, S8, rx'⟩
            have hj2 : j < (piecesN ws).length := by omega
            obtain ⟨v, ev, rv⟩ := hvs.get (i := j) (d := dI (piecesN ws)[j]) (by rw [List.getElem?_map, List.getElem?_eq_getElem hj2]; rfl)
            obtain ⟨x, rfl, ex⟩ := rv.dI_inv
            have hd3 : (piecesN ws)[j].length = 3 := piecesN_mem (List.getElem_mem hj2)
            have ex := S8 _ _ ex
            have hv8 := S8 _ _ hv
            have lx := rx'.length
            rw [List.length_map, List.length_append, List.length_take] at lx
            dsimp only [List.set]
            refine ⟨_, rfl, .inl ⟨rfl, _, sqm h.g1⟩, _, rfl, _, rfl, _, _, rfl, rfl, _, rfl, _, rfl, sm, vs, rfl, .inl (h.sq hv8), _, 1, rfl, rfl, _, rfl, _, _, rfl, rfl, szl (by simp), fun q1 hq1 => ?_⟩
            refine ⟨_, rfl, _, rfl, sm, vs, _, .ref x, rfl, rfl, sqm (same_upd hq1 _ _ (h.i hv8)), at_of (by omega) ev, ?_⟩
            refine ⟨q1, x, _, _, rfl, rfl, upd_same, same_upd hq1 _ _ (h.i ex), szl (by simp; omega), fun q2 hq2 => ?_⟩
            refine ⟨_, rfl, _, rfl, _, _, rfl, rfl, szl (by simp), fun q3 hq3 => ?_⟩
            refine ⟨q2, q3, _, _, rfl, rfl, same_upd hq3 _ _ upd_same, upd_same, szl (by simp; omega), fun q4 hq4 => ?_⟩
            have h2 := ((((h.junk hq1).junk hq2).junk hq3).newM (o := .lst ([V.int (n + (0 + (j : Int))), V.int 3, V.int n, V.int ((vs.length : Int) - 1 - (0 + (j : Int)))] ++ (piecesN ws)[j].map V.int ++ [V.int (n + (0 + (j : Int)))])) hq4).cast (congrArg HO.lst (mkB_v _ _ _ _ _).symm)
            refine ⟨bl, _, _, rfl, rfl, h2.g2, szlt (by omega), ?_⟩
            have h3 := h2.set2 (o' := .lst (xs' ++ [.ref q4]))
            have S9 := same_upd (o := .lst ((mkB (n + (0 + (j : Int))) 3 n ((vs.length : Int) - 1 - (0 + (j : Int))) (piecesN ws)[j]).map V.int)) h3.fr0
            refine ⟨_, _, _, rfl, h3.frz, S8.trans S9, ?_⟩
            have ek : (blocksF n 3 n (piecesN ws)).take (j + 1) = (blocksF n 3 n (piecesN ws)).take j ++ [mkB (n + (0 + (j : Int))) 3 n ((vs.length : Int) - 1 - (0 + (j : Int))) (piecesN ws)[j]] := by
              rw [List.take_add_one, blocksF_get (List.getElem?_eq_getElem hj2), lv, Int.zero_add, show (((piecesN ws).length : Int) - 1 - (j : Int)) = (((piecesN ws).length - 1 - j : Nat) : Int) by omega]
              rfl
            rw [ek, ← List.append_assoc, List.map_append]
            exact (rx'.mono S9).snoc (Rp.dI_mk upd_same)
          · rintro σ H1 ⟨I8, xs', z, rfl, h, S8, rx'⟩
            have en : ((mn + 1 : Nat) : Int).toNat = mn + 1 := by omega
            rw [en] at rx'
            dsimp only [List.set]
            refine ⟨_, rfl, _, rfl, _, _, rfl, rfl, ?_⟩
            exact ⟨I8, i9, m9, n + ((mn + 1 : Nat) : Int), _, xs', du2, cu2, _, _, _, _, _, _, _, _, rfl, h, ((ro9.mono S17).mono S8), rx', rdu2.mono S8, Rp.dI_mk (S8 _ _ ecu), a1, by
              rw [List.length_append, List.length_take]
              omega⟩
      · clear h8 h7 h6 h5 h4 h3 h2 h ro8 sc1 sd1 hcu hdu hbl
        rintro σ H1 ⟨I0, i0, m0, n, bss, xs, du, cu, z7, z8, z9, z10, z11, z12, z13, z14, rfl, h, ro, rx, rdu, rcu, k11, bl4⟩
        have bl48 : bss.length ≤ 48 := by
          have : v8.toNat ≤ 12 := by omega
          omega
        clear bl4
        dsimp only [List.set]
        -- perhaps a farewell
        have lx := rx.length
        rw [List.length_map] at lx
        have okR : okD 3 (.list ((rowsN bss).map dRow)) := okD_rows (by have := rowsN_len bss; omega) (fun x hx => by have := rowsN_row hx; omega)
        have okC : okD 3 (dI (cutN bss)) := okD_dI (by have := cutN_len bss; omega)
        refine ⟨fun σ' H3 => ∃ I3 i3 m3 bs xs', σ' = [some (.ref a), some (.ref r), some (.int (0 + (i : Nat))), some (.int n), some (.ref bl), some (.ref du), some (.ref cu), z7, z8, z9, z10, z11, z12, z13, z14] ∧ Hs [(r, rowO a i3 m3), (bl, .lst xs')] I3 H3 ∧ RowOk K I3 a i3 ∧ Same I0 I3 ∧ RpA I3 xs' (bs.map dI) ∧ rowsN bs = rowsN bss ∧ cutN bs = cutN bss ∧ Tellable bs ∧ bs.length ≤ 49, ?_, ?_⟩
        · refine ⟨_, rfl, r, a, i0, m0, 3, _, I0, rfl, h, ro, by decide, fun H2 i2 m2 v2 h2 ro2 lo2 hi2 => ⟨rfl, _, rfl, if_d (fun c => ?_) (fun c => ?_)⟩⟩
          · refine ⟨_, rfl, .inl ⟨rfl, _, sqm h2.g1⟩, _, rfl, _, rfl, n, 1, rfl, rfl, _, _, _, _, I0, rfl, h2, fun H10 p h10 s10 => ?_⟩
            refine ⟨bl, _, _, rfl, rfl, h10.g2, szlt (by omega), ?_⟩
            have h11 := h10.set2 (o' := .lst (xs ++ [.ref p]))
            have S11 := same_upd (o := .lst ((mkB n (n - 1) 0 1 [0, 0, 0]).map V.int)) h11.fr0
            obtain ⟨a1, a2, a3⟩ := k11.mark (f := n - 1) (l := 1)
            exact ⟨_, i2, m2, bss ++ [mkB n (n - 1) 0 1 [0, 0, 0]], _, rfl, h11.frz, ro2.mono S11, S11, (by rw [List.map_append]; exact (rx.mono S11).snoc (Rp.dI_mk upd_same)), a2, a3, tellable_of a1 (by simp; omega), by simp; omega⟩
          · exact ⟨I0, i2, m2, bss, xs, rfl, h2, ro2, Same.refl _, rx, rfl, rfl, tellable_of k11 (by omega), by omega⟩
        · rintro σ' H3 ⟨I3, i3, m3, bs, xs', rfl, h, ro, S3, rx, eR, eC, tl, bl49⟩
          rw [← eR] at rdu okR
          rw [← eC] at rcu okC
          replace rdu := rdu.mono S3
          replace rcu := rcu.mono S3
          have lx := rx.length
          rw [List.length_map] at lx
          -- handed
          refine ⟨_, rfl, bl, rfl, ⟨_, sqm h.g1⟩, fun D hD => ?_⟩
          refine lc_list (K := K) (a := bl) (xs := xs') (fun i H' => ∃ ys, ys.length = i ∧ Hs ((D, .lst (ys.map V.ref)) :: (pts ys (bs.take i) ++ [(r, rowO a i3 m3), (bl, .lst xs')])) I3 H') ⟨[], rfl, h.newM hD⟩
            (fun i H' _ ⟨ys, _, h'⟩ => sqm (h'.gm (.tail _ (List.mem_append_right _ (.tail _ (.head _)))))) ?_ ?_
          · rintro j x H1 hx ⟨ys, hy, h1⟩
            obtain ⟨dd, hdi, rxx⟩ := rx.getV hx
            rw [List.getElem?_map] at hdi
            cases hbi : bs[j]? with
            | none =>
              rw [hbi] at hdi
              cases hdi
            | some b0 =>
              rw [hbi] at hdi
              obtain rfl : dI b0 = dd := Option.some.inj hdi
              obtain ⟨y, rfl, ey⟩ := rxx.dI_inv
              have jl : j < bs.length := (List.getElem?_eq_some_iff.mp hbi).1
              refine ⟨rfl, _, rfl, y, _, rfl, .inl (h1.sq ey), fun p hp => ?_⟩
              have h2 := h1.newM (o := .lst (b0.map V.int)) hp
              refine ⟨_, h2.g1, szlt (by rw [List.length_map]; omega), ys ++ [p], by rw [List.length_append, hy]; rfl, ?_⟩
              rw [List.take_add_one, hbi, show (some b0).toList = [b0] from rfl, pts_snoc (by rw [List.length_take]; omega), List.append_assoc, List.map_append]
              exact (h2.set1.m1.perm ((List.perm_middle).symm.cons _))
          · rintro H1 ⟨ys, hy, h1⟩
            rw [List.take_of_length_le (Nat.le_of_eq lx.symm)] at h1
            obtain ⟨I4, S4, h2, rD⟩ := h1.frzII (by rw [hy, lx])
            replace rdu := rdu.mono S4
            replace rcu := rcu.mono S4
            replace rx := rx.mono S4
            have okB : okD 3 (dII bs) := okD_dII (by omega) (fun b hb => by rw [tl.l8 b hb]; decide)
            dsimp only [List.set]
            -- found, told
            refine ⟨_, rfl, D, bs, _, I4, rfl, h2, rD, tl, fun I5 H5 f fx S5 h5 rf => ?_⟩
            dsimp only [List.set]
            refine ⟨_, rfl, D, bs, _, I5, rfl, h5, rD.mono S5, tl, fun H6 t h6 => ?_⟩
            dsimp only [List.set]
            refine ⟨_, rfl, _, rfl, .ref f, .ref du, _, rfl, Rp.lst h6.g1 (rf.mono h6.im), h6.rp (rdu.mono S5), okR, fun H7 s7 => ⟨true, rfl, ?_⟩⟩
            refine ⟨_, rfl, _, rfl, .ref t, .ref cu, _, rfl, Rp.dI_mk (s7 _ _ h6.g0), (h6.rp (rcu.mono S5)).mono s7, okC, fun H8 s8 => ⟨true, rfl, ?_⟩⟩
            have h8 := (h6.grow s7).grow s8
            refine ⟨_, rfl, _, rfl, dII bs, dII bs, (h8.rp (rD.mono S5)).dp, (Rp.lst h8.g3 ((rx.mono S5).mono h8.im)).dp, shaped_of okB (by decide), shaped_of okB (by decide), _, rfl, if_f (by rw [eqv_rfl okB] <;> rfl) ?_⟩
            -- found.append((1, [])), told.append(1)
            refine ⟨_, rfl, .inl ⟨rfl, _, sqm h8.g1⟩, szl (by simp), fun e1 he1 => ⟨szl (by simp), fun e2 he2 => ?_⟩⟩
            have h9 := (h8.junk (o := .lst []) he1).junk (o := .tup [.int 1, .ref e1]) he2
            have lf := rf.length
            rw [List.length_map] at lf
            have rl := rowsN_len bs
            have cl := cutN_len bs
            refine ⟨f, _, _, rfl, rfl, h9.g1, szlt (by omega), ?_⟩
            have h10 := h9.set1 (o' := .lst (fx ++ [.ref e2]))
            refine ⟨_, rfl, .inl ⟨rfl, _, sqm h10.g0⟩, t, _, _, rfl, rfl, h10.g0, szlt (by rw [List.length_map]; omega), ?_⟩
            have h11 := (h10.set0 (o' := .lst ((cutN bs).map V.int ++ [.int 1]))).drop.drop
            -- again
            refine ⟨_, rfl, D, bs, _, I5, rfl, h11, rD.mono S5, tl, fun I12 H12 f2 fx2 S12 h12 rf2 => ?_⟩
            refine ⟨_, rfl, .ref f2, .ref du, _, rfl, Rp.lst h12.g0 (rf2.mono h12.im), h12.rp ((rdu.mono S5).mono S12), okR, fun H13 s13 => ⟨true, rfl, ?_⟩⟩
            have h13 := (h12.grow s13).drop
            refine ⟨_, rfl, D, bs, _, I12, rfl, h13, (rD.mono S5).mono S12, tl, fun H14 t2 h14 => ?_⟩
            refine ⟨_, rfl, .ref t2, .ref cu, _, rfl, Rp.dI_mk h14.g0, h14.rp ((rcu.mono S5).mono S12), okC, fun H15 s15 => ⟨true, rfl, ?_⟩⟩
            have h15 := (h14.grow s15).drop
            exact ⟨I12, i3, m3, _, _, _, _, _, _, _, _, _, _, _, _, _, rfl, h15.one, (((ro.mono S4).mono S5).mono S12)⟩
    · rintro σ H1 ⟨I', i', m', z2, z3, z4, z5, z6, z7, z8, z9, z10, z11, z12, z13, z14, rfl, h, ro⟩
      exact q _
end
end RL
namespace RL
open PySem PySem.Spec PyProof.Rows L2
abbrev Rw : PySem.W.OpenRow := PySem.W.OpenLaw.row PySem.Challenge.rw_ringlog_k11_rows_that_stand_and_that_are
abbrev hk : PySem.W.Hook := He.hookD 6 fa fn
def ob (s : PySem.W.SharedT) : He.AlD := He.obsDG 6 fa fn (HandSHeadRun.getT s)
theorem ob_eq (s : PySem.W.SharedT) : ob s = hk.obs s.abs := He.obsDG_eq (HandSHeadRun.getT_eq s)
theorem run (w : World) : HandSHeadRun.RunEq Rw (PySem.W.view Rw.prog [13]) hk ob 20000 ["words_of", "in_groups", "rows_in", "cut_in", "_law_taken", "_law_row_of", "_law_pieces", "_law_mark", "_law_alike", "DATA"] w := by
  intro os
  kernel_rfl
theorem facts {P : Program} {w : World} {K : PySem.W.Frag} {h : Heap} {mg : Str → Option Value} {f : Addr} (X : K.In h) (G : h.Ns mainGlobals mg) (hfa : mg ("law" : Str) = some (.ref f)) (c : He.SaysD fa fn K) :
    ∃ fd : FuncData, (∀ (s : Shared) (v : Value), BindsTo s fd ⟨[v], []⟩ [("_law_script", v)]) ∧ ∀ base : Heap, K.In base → base.Ns mainGlobals mg → FnOk P w K mg base CX0 lawLevel f fd ["_law_script"] (sp_law K) := by
  have T := Tx.of X G c
  obtain ⟨fd, F⟩ := T.d_law
  have e := hfa.symm.trans T.g_law
  cases e
  have b := FunD.bindsA (ps := ["_law_script"]) F fun _ _ _ _ _ _ us hl => match us, hl with | [_], _ => rfl
  exact ⟨fd, fun s v => b s [v] rfl, fun base _ _ => fn_cx0 (fn_law T F) fun _ _ _ _ h => h⟩
end RL
open PySem PySem.W PySem.Calls PyProof.Rows
set_option maxRecDepth 100000 in
set_option maxHeartbeats 0 in
theorem PySem.Challenge.cw_ringlog_k11_rows_that_stand_and_that_are_holds : PySem.Challenge.rw_ringlog_k11_rows_that_stand_and_that_are.Holds := by
  w_on; o_law
  refine HandSHeadRun.head_any (r := OpenLaw.row PySem.Challenge.rw_ringlog_k11_rows_that_stand_and_that_are) (q := view (OpenLaw.row PySem.Challenge.rw_ringlog_k11_rows_that_stand_and_that_are).prog [13]) (H := RL.hk) (ob := RL.ob) (M := 20000) (loose := ["words_of", "in_groups", "rows_in", "cut_in", "_law_taken", "_law_row_of", "_law_pieces", "_law_mark", "_law_alike", "DATA"]) (d := HandSHeadRun.topDef (OpenLaw.row PySem.Challenge.rw_ringlog_k11_rows_that_stand_and_that_are).prog 13) (kwd := []) RL.ob_eq
    (by kernel_rfl) (fun s => by kernel_rfl) RL.run (by kernel_rfl) (by kernel_rfl) (by kernel_rfl) (by rfl) (by first | assumption | decide +kernel) (by decide +kernel) ⟨rfl, rfl, rfl, rfl, rfl, by decide +kernel⟩ ?hw ?hc
  case hw => w_witness2
  case hc =>
    refine L2.walk_ofE (l := PySem.Challenge.rw_ringlog_k11_rows_that_stand_and_that_are) (n := 63) (k := RL.lawLevel) (x := "_law_script") (CX := L2.CX0) rfl (by decide) (by kernel_rfl) ⟨rfl, by decide, by decide⟩ ?F (fun _ _ _ _ z => z)
    intro w mg fa h Y G hmg0
    obtain ⟨K, KX, c⟩ := Y
    have hmg : mg ("law" : PySem.Str) = some (.ref fa) := by
      have e : (HandSHeadRun.topDef (OpenLaw.row PySem.Challenge.rw_ringlog_k11_rows_that_stand_and_that_are).prog 13).name = ("law" : PySem.Str) := by kernel_rfl
      rw [← e]
      exact hmg0
    obtain ⟨fd, hb, hF⟩ := RL.facts (P := (PySem.Challenge.rw_ringlog_k11_rows_that_stand_and_that_are).prog) (w := w) KX G hmg c
    exact ⟨K, fd, RL.sp_law K, KX, hb, fun H a ns hl _ hS => ⟨a, ns, rfl, hS, fun _ => rfl⟩, hF⟩

import PyProof.Rows.All
import Wide.All
import OpenK.AllK
import Wide.FinOn
import HandS.ForMost
import HandS.ForExc
import HandS.IsInst
import HandS.SetKeys
import HandS.TryMany
import HandS.Deep
import HandS.Defaults
import HandS.HeadHook2
import HandS.Head2
import HandS.HeadEnd
import PySem.Challenge.RW_ringlog_k10_rows_in_pieces
set_option Elab.async false
set_option linter.all false
set_option maxRecDepth 100000
set_option maxHeartbeats 4000000
/-! RL0: frozen data (Rp), the symbolic heap (Hs: mutable points L, frozen part I), and their lemmas. -/
namespace RL
open PySem PySem.Spec PyProof.Rows L2

/-! ### frozen data -/
mutual
inductive Rp (I : Hp) : V → PyData → Prop
  | non : Rp I .non .none
  | bl (b : Bool) : Rp I (.bl b) (.bool b)
  | int (i : Int) : Rp I (.int i) (.int i)
  | str (x : Str) : Rp I (.str x) (.str x)
  | lst {a : Addr} {xs : List V} {ds : List PyData} : I a = some (.lst xs) → RpA I xs ds → Rp I (.ref a) (.list ds)
  | tup {a : Addr} {xs : List V} {ds : List PyData} : I a = some (.tup xs) → RpA I xs ds → Rp I (.ref a) (.tuple ds)
inductive RpA (I : Hp) : List V → List PyData → Prop
  | nil : RpA I [] []
  | cons {v : V} {vs : List V} {d : PyData} {ds : List PyData} : Rp I v d → RpA I vs ds → RpA I (v :: vs) (d :: ds)
end

section
variable {I I' : Hp} {K : PySem.W.Frag}
mutual
theorem Rp.mono (s : Same I I') : ∀ {d : PyData} {v : V}, Rp I v d → Rp I' v d
  | .none, _, h => by cases h; exact .non
  | .bool b, _, h => by cases h; exact .bl b
  | .int i, _, h => by cases h; exact .int i
  | .str x, _, h => by cases h; exact .str x
  | .list ds, _, h => by
    cases h with
    | lst e r => exact .lst (s _ _ e) (RpA.mono s r)
  | .tuple ds, _, h => by
    cases h with
    | tup e r => exact .tup (s _ _ e) (RpA.mono s r)
  | .dict _, _, h => by cases h
theorem RpA.mono (s : Same I I') : ∀ {ds : List PyData} {vs : List V}, RpA I vs ds → RpA I' vs ds
  | [], _, h => by cases h; exact .nil
  | d :: ds, _, h => by
    cases h with
    | cons h1 h2 => exact .cons (Rp.mono s h1) (RpA.mono s h2)
end
mutual
theorem Rp.dp : ∀ {d : PyData} {v : V}, Rp I v d → Dp K I v d
  | .none, _, h => by cases h; exact .non
  | .bool b, _, h => by cases h; exact .bl b
  | .int i, _, h => by cases h; exact .int i
  | .str x, _, h => by cases h; exact .str x
  | .list ds, _, h => by
    cases h with
    | lst e r => exact .lst (.inl (.inl e)) (RpA.dp r)
  | .tuple ds, _, h => by
    cases h with
    | tup e r => exact .tup (.inl (.inl e)) (RpA.dp r)
  | .dict _, _, h => by cases h
theorem RpA.dp : ∀ {ds : List PyData} {vs : List V}, RpA I vs ds → DpAll K I vs ds
  | [], _, h => by cases h; exact .nil
  | d :: ds, _, h => by
    cases h with
    | cons h1 h2 => exact .cons (Rp.dp h1) (RpA.dp h2)
end
theorem RpA.length : ∀ {ds : List PyData} {vs : List V}, RpA I vs ds → vs.length = ds.length
  | [], _, h => by cases h; rfl
  | d :: ds, _, h => by
    cases h with
    | cons h1 h2 => simp [RpA.length h2]
theorem RpA.get : ∀ {ds : List PyData} {vs : List V} {i : Nat} {d : PyData}, RpA I vs ds → ds[i]? = some d → ∃ v, vs[i]? = some v ∧ Rp I v d
  | [], _, i, d, h, e => by simp at e
  | c :: ds, _, 0, d, h, e => by
    cases h with
    | cons h1 h2 =>
      simp at e
      subst e
      exact ⟨_, rfl, h1⟩
  | c :: ds, _, i + 1, d, h, e => by
    cases h with
    | cons h1 h2 =>
      obtain ⟨v, q, r⟩ := RpA.get (i := i) h2 (by simpa using e)
      exact ⟨v, by simpa using q, r⟩
theorem RpA.getV : ∀ {ds : List PyData} {vs : List V} {i : Nat} {v : V}, RpA I vs ds → vs[i]? = some v → ∃ d, ds[i]? = some d ∧ Rp I v d
  | [], _, i, v, h, e => by cases h; simp at e
  | c :: ds, _, 0, v, h, e => by
    cases h with
    | cons h1 h2 =>
      simp at e
      subst e
      exact ⟨_, rfl, h1⟩
  | c :: ds, _, i + 1, v, h, e => by
    cases h with
    | cons h1 h2 =>
      obtain ⟨d, q, r⟩ := RpA.getV (i := i) h2 (by simpa using e)
      exact ⟨d, by simpa using q, r⟩
theorem RpA.append : ∀ {ds es : List PyData} {vs ws : List V}, RpA I vs ds → RpA I ws es → RpA I (vs ++ ws) (ds ++ es)
  | [], _, _, _, h, g => by cases h; exact g
  | d :: ds, _, _, _, h, g => by
    cases h with
    | cons h1 h2 => exact .cons h1 (RpA.append h2 g)
theorem RpA.take : ∀ {ds : List PyData} {vs : List V} (n : Nat), RpA I vs ds → RpA I (vs.take n) (ds.take n)
  | _, _, 0, _ => by simpa using RpA.nil
  | [], _, n + 1, h => by cases h; simpa using RpA.nil
  | d :: ds, _, n + 1, h => by
    cases h with
    | cons h1 h2 => simpa using RpA.cons h1 (RpA.take n h2)
theorem RpA.drop : ∀ {ds : List PyData} {vs : List V} (n : Nat), RpA I vs ds → RpA I (vs.drop n) (ds.drop n)
  | _, _, 0, h => by simpa using h
  | [], _, n + 1, h => by cases h; simpa using RpA.nil
  | d :: ds, _, n + 1, h => by
    cases h with
    | cons h1 h2 => simpa using RpA.drop n h2
theorem RpA.set : ∀ {ds : List PyData} {vs : List V} {v : V} {d : PyData} (n : Nat), RpA I vs ds → Rp I v d → RpA I (vs.set n v) (ds.set n d)
  | [], _, _, _, n, h, _ => by cases h; simpa using RpA.nil
  | c :: ds, _, _, _, 0, h, g => by
    cases h with
    | cons h1 h2 => simpa using RpA.cons g h2
  | c :: ds, _, _, _, n + 1, h, g => by
    cases h with
    | cons h1 h2 => simpa using RpA.cons h1 (RpA.set n h2 g)
theorem RpA.snoc {ds : List PyData} {vs : List V} {v : V} {d : PyData} (h : RpA I vs ds) (g : Rp I v d) : RpA I (vs ++ [v]) (ds ++ [d]) := h.append (.cons g .nil)
/-- lists of ints -/
theorem RpA.ints : ∀ (ns : List Int), RpA I (ns.map V.int) (ns.map PyData.int)
  | [] => .nil
  | n :: ns => .cons (.int n) (RpA.ints ns)
theorem RpA.intsV : ∀ {ns : List Int} {vs : List V}, RpA I vs (ns.map PyData.int) → vs = ns.map V.int
  | [], _, h => by cases h; rfl
  | n :: ns, _, h => by
    cases h with
    | cons h1 h2 =>
      cases h1
      rw [RpA.intsV h2] <;> rfl
end
/-- a list of ints, of lists of ints -/
def dI (ns : List Int) : PyData := .list (ns.map .int)
def dII (nss : List (List Int)) : PyData := .list (nss.map dI)
theorem Rp.lstI {I : Hp} {v : V} {ds : List PyData} (h : Rp I v (.list ds)) : ∃ a vs, v = .ref a ∧ I a = some (.lst vs) ∧ RpA I vs ds := by
  cases h with
  | lst e r => exact ⟨_, _, rfl, e, r⟩
theorem Rp.tupI {I : Hp} {v : V} {ds : List PyData} (h : Rp I v (.tuple ds)) : ∃ a vs, v = .ref a ∧ I a = some (.tup vs) ∧ RpA I vs ds := by
  cases h with
  | tup e r => exact ⟨_, _, rfl, e, r⟩
theorem Rp.dI_inv {I : Hp} {v : V} {ns : List Int} (h : Rp I v (dI ns)) : ∃ a, v = .ref a ∧ I a = some (.lst (ns.map V.int)) := by
  obtain ⟨a, vs, e, h1, h2⟩ := Rp.lstI h
  rw [RpA.intsV h2] at h1
  exact ⟨a, e, h1⟩
theorem Rp.dI_mk {I : Hp} {a : Addr} {ns : List Int} (h : I a = some (.lst (ns.map V.int))) : Rp I (.ref a) (dI ns) := .lst h (RpA.ints ns)
theorem Rp.intI {I : Hp} {v : V} {i : Int} (h : Rp I v (.int i)) : v = .int i := by cases h; rfl
theorem Rp.strI {I : Hp} {v : V} {x : Str} (h : Rp I v (.str x)) : v = .str x := by cases h; rfl
theorem Rp.boolI {I : Hp} {v : V} {b : Bool} (h : Rp I v (.bool b)) : v = .bl b := by cases h; rfl
theorem Rp.noneI {I : Hp} {v : V} (h : Rp I v .none) : v = .non := by cases h; rfl

/-! ### the symbolic heap -/
abbrev ML := List (Addr × HO)
structure Hs (L : ML) (I H : Hp) : Prop where
  im : Same I H
  mu : ∀ x ∈ L, H x.1 = some x.2
  dj : ∀ x ∈ L, I x.1 = none
  nd : (L.map Prod.fst).Nodup
theorem same_upd {I : Hp} {p : Addr} {o : HO} (h : I p = none) : Same I (upd I p o) := fun b u e => by
  rw [upd_ne (ne_of_none e h)]
  exact e
theorem same_mut {H H' : Hp} {p : Addr} {o : HO} (e : Same H H') (h : H p = none) : Same H (upd H' p o) := fun b u hb => by
  rw [upd_ne (ne_of_none hb h)]
  exact e b u hb
theorem Hs.start (H : Hp) : Hs [] H H := ⟨Same.refl H, (fun _ h => nomatch h), (fun _ h => nomatch h), List.nodup_nil⟩
section
variable {L L' R : ML} {I H H' : Hp} {p q : Addr} {o o' u : HO} {x y z : Addr × HO}
theorem Hs.fr (h : Hs L I H) (hp : H p = none) : I p = none := h.im.free hp
theorem Hs.perm (h : Hs L I H) (e : L.Perm L') : Hs L' I H :=
  ⟨h.im, fun x hx => h.mu x (e.mem_iff.mpr hx), fun x hx => h.dj x (e.mem_iff.mpr hx), (e.map Prod.fst).nodup_iff.mp h.nd⟩
theorem Hs.grow (h : Hs L I H) (s : Same H H') : Hs L I H' := ⟨h.im.trans s, fun x hx => s _ _ (h.mu x hx), h.dj, h.nd⟩
theorem Hs.notin (h : Hs L I H) (hp : H p = none) : p ∉ L.map Prod.fst := fun hm => by
  obtain ⟨x, hx, e⟩ := List.mem_map.mp hm
  have := h.mu x hx
  rw [e, hp] at this
  cases this
theorem Hs.junk (h : Hs L I H) (hp : H p = none) : Hs L I (upd H p o) := h.grow (same_upd hp)
theorem Hs.newM (h : Hs L I H) (hp : H p = none) : Hs ((p, o) :: L) I (upd H p o) := by
  have s : Same H (upd H p o) := same_upd hp
  refine ⟨h.im.trans s, fun x hx => ?_, fun x hx => ?_, ?_⟩
  · rcases List.mem_cons.mp hx with rfl | hx
    · exact upd_same
    · exact s _ _ (h.mu x hx)
  · rcases List.mem_cons.mp hx with rfl | hx
    · exact h.fr hp
    · exact h.dj x hx
  · exact List.nodup_cons.mpr ⟨h.notin hp, h.nd⟩
theorem Hs.drop (h : Hs (x :: L) I H) : Hs L I H := ⟨h.im, fun y hy => h.mu y (.tail _ hy), fun y hy => h.dj y (.tail _ hy), (List.nodup_cons.mp h.nd).2⟩
theorem Hs.frz (h : Hs ((p, o) :: L) I H) : Hs L (upd I p o) H := by
  refine ⟨fun b u e => ?_, fun y hy => h.mu y (.tail _ hy), fun y hy => ?_, (List.nodup_cons.mp h.nd).2⟩
  · by_cases hb : b = p
    · subst hb
      rw [upd_same] at e
      rw [← e]
      exact h.mu _ (.head _)
    · rw [upd_ne hb] at e
      exact h.im b u e
  · rw [upd_ne fun e => (List.nodup_cons.mp h.nd).1 (List.mem_map.mpr ⟨y, hy, e⟩)]
    exact h.dj y (.tail _ hy)
theorem Hs.cast (h : Hs ((p, o) :: L) I H) (e : o = o') : Hs ((p, o') :: L) I H := e ▸ h
theorem Hs.fr0 (h : Hs ((p, o) :: L) I H) : I p = none := h.dj _ (.head _)
theorem Hs.newI (h : Hs L I H) (hp : H p = none) : Hs L (upd I p o) (upd H p o) := (h.newM hp).frz
/-- a new frozen object -/
theorem Hs.put (h : Hs L I H) (hp : H p = none) (o : HO) : ∃ I', Same I I' ∧ I' p = some o ∧ Hs L I' (upd H p o) := ⟨_, same_upd (h.fr hp), upd_same, h.newI hp⟩
theorem Hs.ne (h : Hs L I H) (hx : I p = some o) (hy : (q, u) ∈ L) : p ≠ q := fun e => by
  subst e
  have := h.dj _ hy
  rw [hx] at this
  cases this
theorem Hs.set0 (h : Hs ((p, o) :: L) I H) : Hs ((p, o') :: L) I (upd H p o') := by
  have nd := List.nodup_cons.mp h.nd
  have ne : ∀ y ∈ L, y.1 ≠ p := fun y hy e => nd.1 (List.mem_map.mpr ⟨y, hy, e⟩)
  refine ⟨fun b u e => ?_, fun y hy => ?_, fun y hy => ?_, h.nd⟩
  · rw [upd_ne (h.ne e (.head _))]
    exact h.im b u e
  · rcases List.mem_cons.mp hy with rfl | hy
    · exact upd_same
    · rw [upd_ne (ne y hy)]
      exact h.mu y (.tail _ hy)
  · rcases List.mem_cons.mp hy with rfl | hy
    · exact h.fr0
    · exact h.dj y (.tail _ hy)
/-- the i-th point to the front -/
theorem Hs.m1 {a x : Addr × HO} (h : Hs (a :: x :: L) I H) : Hs (x :: a :: L) I H := h.perm (.swap _ _ _)
theorem Hs.m2 {a b x : Addr × HO} (h : Hs (a :: b :: x :: L) I H) : Hs (x :: a :: b :: L) I H := (h.perm (.cons _ (.swap _ _ _))).m1
theorem Hs.m3 {a b c x : Addr × HO} (h : Hs (a :: b :: c :: x :: L) I H) : Hs (x :: a :: b :: c :: L) I H := (h.perm (.cons _ (.cons _ (.swap _ _ _)))).m2
theorem Hs.m4 {a b c d x : Addr × HO} (h : Hs (a :: b :: c :: d :: x :: L) I H) : Hs (x :: a :: b :: c :: d :: L) I H := (h.perm (.cons _ (.cons _ (.cons _ (.swap _ _ _))))).m3
theorem Hs.m5 {a b c d e x : Addr × HO} (h : Hs (a :: b :: c :: d :: e :: x :: L) I H) : Hs (x :: a :: b :: c :: d :: e :: L) I H := (h.perm (.cons _ (.cons _ (.cons _ (.cons _ (.swap _ _ _)))))).m4
theorem Hs.n1 {a x : Addr × HO} (h : Hs (x :: a :: L) I H) : Hs (a :: x :: L) I H := h.m1
theorem Hs.n2 {a b x : Addr × HO} (h : Hs (x :: a :: b :: L) I H) : Hs (a :: b :: x :: L) I H := h.m1.perm (.cons _ (.swap _ _ _))
theorem Hs.n3 {a b c x : Addr × HO} (h : Hs (x :: a :: b :: c :: L) I H) : Hs (a :: b :: c :: x :: L) I H := h.n2.perm (.cons _ (.cons _ (.swap _ _ _)))
theorem Hs.n4 {a b c d x : Addr × HO} (h : Hs (x :: a :: b :: c :: d :: L) I H) : Hs (a :: b :: c :: d :: x :: L) I H := h.n3.perm (.cons _ (.cons _ (.cons _ (.swap _ _ _))))
theorem Hs.n5 {a b c d e x : Addr × HO} (h : Hs (x :: a :: b :: c :: d :: e :: L) I H) : Hs (a :: b :: c :: d :: e :: x :: L) I H := h.n4.perm (.cons _ (.cons _ (.cons _ (.cons _ (.swap _ _ _)))))
theorem Hs.set1 {a : Addr × HO} (h : Hs (a :: (p, o) :: L) I H) : Hs (a :: (p, o') :: L) I (upd H p o') := h.m1.set0.n1
theorem Hs.set2 {a b : Addr × HO} (h : Hs (a :: b :: (p, o) :: L) I H) : Hs (a :: b :: (p, o') :: L) I (upd H p o') := h.m2.set0.n2
theorem Hs.set3 {a b c : Addr × HO} (h : Hs (a :: b :: c :: (p, o) :: L) I H) : Hs (a :: b :: c :: (p, o') :: L) I (upd H p o') := h.m3.set0.n3
theorem Hs.set4 {a b c d : Addr × HO} (h : Hs (a :: b :: c :: d :: (p, o) :: L) I H) : Hs (a :: b :: c :: d :: (p, o') :: L) I (upd H p o') := h.m4.set0.n4
theorem Hs.set5 {a b c d e : Addr × HO} (h : Hs (a :: b :: c :: d :: e :: (p, o) :: L) I H) : Hs (a :: b :: c :: d :: e :: (p, o') :: L) I (upd H p o') := h.m5.set0.n5
theorem Hs.g0 (h : Hs ((p, o) :: L) I H) : H p = some o := h.mu _ (.head _)
theorem Hs.g1 {a : Addr × HO} (h : Hs (a :: (p, o) :: L) I H) : H p = some o := h.drop.g0
theorem Hs.g2 {a b : Addr × HO} (h : Hs (a :: b :: (p, o) :: L) I H) : H p = some o := h.drop.g1
theorem Hs.g3 {a b c : Addr × HO} (h : Hs (a :: b :: c :: (p, o) :: L) I H) : H p = some o := h.drop.g2
theorem Hs.g4 {a b c d : Addr × HO} (h : Hs (a :: b :: c :: d :: (p, o) :: L) I H) : H p = some o := h.drop.g3
theorem Hs.g5 {a b c d e : Addr × HO} (h : Hs (a :: b :: c :: d :: e :: (p, o) :: L) I H) : H p = some o := h.drop.g4
/-- picking -/
inductive Pick (y : Addr × HO) : ML → ML → Prop
  | here {L : ML} : Pick y (y :: L) L
  | there {x : Addr × HO} {L L1 : ML} : Pick y L L1 → Pick y (x :: L) (x :: L1)
theorem Pick.perm (h : Pick y L L') : L.Perm (y :: L') := by
  induction h with
  | here => exact .refl _
  | there h ih => exact (ih.cons _).trans (.swap _ _ _)
theorem pick {L1 : ML} (h : Pick y L L1) (e : L1.Perm L') : L.Perm (y :: L') := h.perm.trans (e.cons _)
/-- reading -/
theorem Hs.i (h : Hs L I H) (e : I p = some o) : H p = some o := h.im _ _ e
theorem Hs.sq {K : PySem.W.Frag} {xs : List V} (h : Hs L I H) (e : I p = some (.lst xs)) : SqL K H p xs := .inl (.inl (h.im _ _ e))
theorem Hs.st {K : PySem.W.Frag} {xs : List V} (h : Hs L I H) (e : I p = some (.tup xs)) : SqT K H p xs := .inl (.inl (h.im _ _ e))
theorem Hs.sl {K : PySem.W.Frag} {xs : List V} (h : Hs L I H) (e : SqL K I p xs) : SqL K H p xs := h.im.seq e
theorem sqm {K : PySem.W.Frag} {xs : List V} (e : H p = some (.lst xs)) : SqL K H p xs := .inl (.inl e)
theorem sqt {K : PySem.W.Frag} {xs : List V} (e : H p = some (.tup xs)) : SqT K H p xs := .inl (.inl e)
theorem Hs.rp {v : V} {d : PyData} (h : Hs L I H) (e : Rp I v d) : Rp H v d := e.mono h.im
end
theorem szl {n : Nat} (h : n ≤ 100000) : n ≤ sizeLine := Nat.le_trans h (by decide)
theorem szlt {n : Nat} (h : n < 100000) : n < sizeLine := Nat.lt_of_lt_of_le h (by decide)
theorem if_t {c : Bool} {A B : Prop} (hc : c = true) (h : A) : if c = true then A else B := by
  rw [if_pos hc]
  exact h
theorem if_f {c : Bool} {A B : Prop} (hc : c = false) (h : B) : if c = true then A else B := by
  rw [hc, if_neg Bool.false_ne_true]
  exact h
theorem if_d {c A B : Prop} [Decidable c] (h1 : c → A) (h2 : ¬ c → B) : if decide c = true then A else B := by
  by_cases h : c
  · rw [if_pos (decide_eq_true h)]
    exact h1 h
  · rw [if_neg (by simpa using h)]
    exact h2 h
theorem if_nd {c A B : Prop} [Decidable c] (h1 : c → B) (h2 : ¬ c → A) : if (!decide c) = true then A else B := by
  by_cases h : c
  · rw [if_neg (by simpa using h)]
    exact h1 h
  · rw [if_pos (by simpa using h)]
    exact h2 h
theorem if_b {c : Bool} {A B : Prop} (h1 : c = true → A) (h2 : c = false → B) : if c = true then A else B := by
  cases c with
  | true => exact if_t rfl (h1 rfl)
  | false => exact if_f rfl (h2 rfl)

/-! ### data of a bounded depth -/
/-- data of depth at most n, its lists of at most 1000 items, its texts of signs -/
def okD : Nat → PyData → Prop
  | _, .none => True
  | _, .bool _ => True
  | _, .int _ => True
  | _, .str x => PyData.strOk x = true
  | 0, .list _ => False
  | 0, .tuple _ => False
  | n + 1, .list ds => ds.length ≤ 1000 ∧ ∀ d ∈ ds, okD n d
  | n + 1, .tuple ds => ds.length ≤ 1000 ∧ ∀ d ∈ ds, okD n d
  | _, .dict _ => False
theorem okD_int {n : Nat} {i : Int} : okD n (.int i) := by cases n <;> trivial
theorem okD_none {n : Nat} : okD n .none := by cases n <;> trivial
theorem okD_bool {n : Nat} {b : Bool} : okD n (.bool b) := by cases n <;> trivial
theorem okD_str {n : Nat} {x : Str} (h : PyData.strOk x = true) : okD n (.str x) := by cases n <;> exact h
theorem okD_mono : ∀ {n m : Nat} {d : PyData}, n ≤ m → okD n d → okD m d
  | n, m, .none, _, _ => okD_none
  | n, m, .bool _, _, _ => okD_bool
  | n, m, .int _, _, _ => okD_int
  | 0, m, .str _, _, h => okD_str h
  | n + 1, m, .str _, _, h => okD_str h
  | n + 1, m + 1, .list ds, l, h => ⟨h.1, fun d hd => okD_mono (Nat.le_of_succ_le_succ l) (h.2 d hd)⟩
  | n + 1, m + 1, .tuple ds, l, h => ⟨h.1, fun d hd => okD_mono (Nat.le_of_succ_le_succ l) (h.2 d hd)⟩
  | 0, _, .list _, _, h => h.elim
  | 0, _, .tuple _, _, h => h.elim
  | n + 1, 0, _, l, _ => absurd l (by omega)
  | 0, _, .dict _, _, h => by cases h
theorem okD_dI {n : Nat} {ns : List Int} (h : ns.length ≤ 1000) : okD (n + 1) (dI ns) := by
  refine ⟨by rw [List.length_map]; exact h, fun d hd => ?_⟩
  obtain ⟨i, _, rfl⟩ := List.mem_map.mp hd
  exact okD_int
theorem okD_dII {n : Nat} {nss : List (List Int)} (h : nss.length ≤ 1000) (h2 : ∀ ns ∈ nss, ns.length ≤ 1000) : okD (n + 2) (dII nss) := by
  refine ⟨by rw [List.length_map]; exact h, fun d hd => ?_⟩
  obtain ⟨i, hi, rfl⟩ := List.mem_map.mp hd
  exact okD_dI (h2 i hi)
theorem canLayAll_of : ∀ {ds : List PyData}, (∀ d ∈ ds, d.canLay0 = true) → PyData.canLayAll0 ds = true
  | [], _ => rfl
  | d :: ds, h => by
    rw [PyData.canLayAll0, h d (.head _), canLayAll_of fun e he => h e (.tail _ he)]
    rfl
theorem depthAll_of : ∀ {ds : List PyData} {n : Nat}, (∀ d ∈ ds, d.depth ≤ n) → PyData.depthAll ds ≤ n
  | [], n, _ => Nat.zero_le n
  | d :: ds, n, h => by
    rw [PyData.depthAll]
    have h1 := h d (.head _)
    have h2 := depthAll_of fun e he => h e (.tail _ he)
    omega
theorem lay_of : ∀ {n : Nat} {d : PyData}, okD n d → d.canLay0 = true ∧ d.depth ≤ n
  | n, .none, _ => ⟨rfl, Nat.zero_le n⟩
  | n, .bool _, _ => ⟨rfl, Nat.zero_le n⟩
  | n, .int _, _ => ⟨rfl, Nat.zero_le n⟩
  | 0, .str _, h => ⟨h, Nat.zero_le 0⟩
  | n + 1, .str _, h => ⟨h, Nat.zero_le _⟩
  | n + 1, .list ds, h => by
    have k := fun d hd => lay_of (h.2 d hd)
    refine ⟨by rw [PyData.canLay0]; exact canLayAll_of fun d hd => (k d hd).1, ?_⟩
    rw [PyData.depth]
    exact Nat.succ_le_succ (depthAll_of fun d hd => (k d hd).2)
  | n + 1, .tuple ds, h => by
    have k := fun d hd => lay_of (h.2 d hd)
    refine ⟨by rw [PyData.canLay0]; exact canLayAll_of fun d hd => (k d hd).1, ?_⟩
    rw [PyData.depth]
    exact Nat.succ_le_succ (depthAll_of fun d hd => (k d hd).2)
  | 0, .list _, h => h.elim
  | 0, .tuple _, h => h.elim
  | 0, .dict _, h => by cases h
  | n + 1, .dict _, h => by cases h
theorem shaped_of {n : Nat} {d : PyData} (h : okD n d) (l : n ≤ 64) : SeqAt.shaped d = true := by
  obtain ⟨h1, h2⟩ := lay_of h
  unfold SeqAt.shaped
  rw [h1, Bool.true_and]
  exact decide_eq_true (Nat.le_trans h2 l)
theorem eqv_rfl {n : Nat} {d : PyData} (h : okD n d) : PyData.eqv d d = true := SeqAt.eqv_refl d (lay_of h).1
/-- a != b, a == b of equal data -/
theorem neD_same {K : PySem.W.Frag} {H : Hp} {Q : VK} {x y : V} {n : Nat} {d : PyData} (hx : Rp H x d) (hy : Rp H y d) (h : okD n d) (l : n ≤ 64) (q : Q (.bl false) H) : rNeD K x y H Q := by
  refine ⟨d, d, hx.dp, hy.dp, shaped_of h l, shaped_of h l, ?_⟩
  rw [eqv_rfl h]
  exact q
theorem eqD_same {K : PySem.W.Frag} {H : Hp} {Q : VK} {x y : V} {n : Nat} {d : PyData} (hx : Rp H x d) (hy : Rp H y d) (h : okD n d) (l : n ≤ 64) (q : Q (.bl true) H) : rEqD K x y H Q := by
  refine ⟨d, d, hx.dp, hy.dp, shaped_of h l, shaped_of h l, ?_⟩
  rw [eqv_rfl h]
  exact q
/-! ### slices -/
theorem cut_to {xs : List V} {k : Int} (h : 0 ≤ k) : cutV xs none (some k) = xs.take k.toNat := by
  obtain ⟨n, rfl⟩ : ∃ n : Nat, k = (n : Int) := ⟨k.toNat, by omega⟩
  unfold cutV
  rw [HT.sIx_none, HT.sIx_nat, List.drop_zero, Nat.sub_zero, Int.toNat_natCast]
  rcases Nat.le_total n xs.length with l | l
  · rw [Nat.min_eq_left l]
  · rw [Nat.min_eq_right l, List.take_length, List.take_of_length_le l]
theorem cut_from {xs : List V} {k : Int} (h : 0 ≤ k) : cutV xs (some k) none = xs.drop k.toNat := by
  obtain ⟨n, rfl⟩ : ∃ n : Nat, k = (n : Int) := ⟨k.toNat, by omega⟩
  unfold cutV
  rw [HT.sIx_none, HT.sIx_nat, Int.toNat_natCast]
  rcases Nat.le_total n xs.length with l | l
  · rw [Nat.min_eq_left l, List.take_of_length_le (by rw [List.length_drop]; omega)]
  · rw [Nat.min_eq_right l, List.drop_length, List.drop_of_length_le l]
    simp
theorem cut_mid {xs : List V} {j k : Int} (h : 0 ≤ j) (h2 : j ≤ k) : cutV xs (some j) (some k) = (xs.drop j.toNat).take (k - j).toNat := by
  obtain ⟨n, rfl⟩ : ∃ n : Nat, j = (n : Int) := ⟨j.toNat, by omega⟩
  obtain ⟨m, rfl⟩ : ∃ m : Nat, k = (m : Int) := ⟨k.toNat, by omega⟩
  unfold cutV
  rw [HT.sIx_nat, HT.sIx_nat, Int.toNat_natCast, show ((m : Int) - (n : Int)).toNat = m - n by omega]
  rcases Nat.le_total n xs.length with l | l
  · rw [Nat.min_eq_left l]
    rcases Nat.le_total m xs.length with l2 | l2
    · rw [Nat.min_eq_left l2]
    · rw [Nat.min_eq_right l2, List.take_of_length_le (by rw [List.length_drop]; omega), List.take_of_length_le (by rw [List.length_drop]; omega)]
  · rw [Nat.min_eq_right l, List.drop_length, List.drop_of_length_le l]
    simp
theorem map_take (ns : List Int) (k : Nat) : (ns.map V.int).take k = (ns.take k).map V.int := List.map_take.symm
theorem map_drop (ns : List Int) (k : Nat) : (ns.map V.int).drop k = (ns.drop k).map V.int := List.map_drop.symm
theorem map_snoc (ns : List Int) (z : Int) : (ns ++ [z]).map V.int = ns.map V.int ++ [V.int z] := by simp
theorem at2 {x y : V} {j : Int} (h0 : 0 ≤ j) (h1 : j < 2) : ∃ v, atI [x, y] j = some v ∧ (v = x ∨ v = y) := by
  rcases (by omega : j = 0 ∨ j = 1) with rfl | rfl
  · exact ⟨x, rfl, .inl rfl⟩
  · exact ⟨y, rfl, .inr rfl⟩
theorem at3 {x y z : V} {j : Int} (h0 : 0 ≤ j) (h1 : j < 3) : ∃ v, atI [x, y, z] j = some v ∧ (v = x ∨ v = y ∨ v = z) := by
  rcases (by omega : j = 0 ∨ j = 1 ∨ j = 2) with rfl | rfl | rfl
  · exact ⟨x, rfl, .inl rfl⟩
  · exact ⟨y, rfl, .inr (.inl rfl)⟩
  · exact ⟨z, rfl, .inr (.inr rfl)⟩

/-! ### many points -/
/-- lists of ints at addresses -/
def pts (as : List Addr) (nss : List (List Int)) : ML := as.zip (nss.map fun ns => HO.lst (ns.map V.int))
theorem pts_snoc {as : List Addr} {nss : List (List Int)} {q : Addr} {ns : List Int} (h : as.length = nss.length) : pts (as ++ [q]) (nss ++ [ns]) = pts as nss ++ [(q, HO.lst (ns.map V.int))] := by
  unfold pts
  rw [List.map_append, List.zip_append (by rw [List.length_map]; exact h)]
  rfl
/-- they are frozen -/
theorem Hs.frzs {L : ML} : ∀ {as : List Addr} {nss : List (List Int)} {I H : Hp}, as.length = nss.length → Hs (pts as nss ++ L) I H → ∃ I', Same I I' ∧ Hs L I' H ∧ RpA I' (as.map V.ref) (nss.map dI)
  | [], [], I, H, _, h => ⟨I, Same.refl I, h, .nil⟩
  | a :: as, [], _, _, e, _ => by cases e
  | [], n :: nss, _, _, e, _ => by cases e
  | a :: as, n :: nss, I, H, e, h => by
    have h1 : Hs ((a, HO.lst (n.map V.int)) :: (pts as nss ++ L)) I H := h
    have s1 := same_upd (o := HO.lst (n.map V.int)) h1.fr0
    obtain ⟨I', s2, h2, r⟩ := Hs.frzs (L := L) (by simpa using e) h1.frz
    exact ⟨I', s1.trans s2, h2, .cons (Rp.dI_mk (s2 _ _ upd_same)) r⟩
theorem Hs.m_app {x : Addr × HO} {A L : ML} {I H : Hp} (h : Hs (x :: (A ++ L)) I H) : Hs (A ++ (x :: L)) I H := h.perm (List.perm_middle).symm
theorem Hs.app_m {x : Addr × HO} {A L : ML} {I H : Hp} (h : Hs (A ++ (x :: L)) I H) : Hs (x :: (A ++ L)) I H := h.perm List.perm_middle
theorem Hs.gm {L : ML} {I H : Hp} {p : Addr} {o : HO} (h : Hs L I H) (m : (p, o) ∈ L) : H p = some o := h.mu _ m
theorem Hs.dropl {A L : ML} {I H : Hp} (h : Hs (A ++ L) I H) : Hs L I H := by
  induction A with
  | nil => exact h
  | cons x A ih => exact ih h.drop

theorem rpa_pts {H : Hp} : ∀ {as : List Addr} {nss : List (List Int)}, as.length = nss.length → (∀ x ∈ pts as nss, H x.1 = some x.2) → RpA H (as.map V.ref) (nss.map dI)
  | [], [], _, _ => .nil
  | a :: as, [], e, _ => by cases e
  | [], n :: nss, e, _ => by cases e
  | a :: as, n :: nss, e, h => .cons (Rp.dI_mk (h (a, HO.lst (n.map V.int)) (.head _))) (rpa_pts (by simpa using e) fun x hx => h x (.tail _ hx))
/-- a list of lists that stand as points -/
theorem Hs.rpII {L : ML} {I H : Hp} {p : Addr} {as : List Addr} {nss : List (List Int)} (h : Hs ((p, .lst (as.map V.ref)) :: (pts as nss ++ L)) I H) (e : as.length = nss.length) : Rp H (.ref p) (dII nss) :=
  .lst h.g0 (rpa_pts e fun x hx => h.mu x (.tail _ (List.mem_append_left _ hx)))
theorem Hs.frzII {L : ML} {I H : Hp} {p : Addr} {as : List Addr} {nss : List (List Int)} (h : Hs ((p, .lst (as.map V.ref)) :: (pts as nss ++ L)) I H) (e : as.length = nss.length) : ∃ I', Same I I' ∧ Hs L I' H ∧ Rp I' (.ref p) (dII nss) := by
  obtain ⟨I1, s1, h1, r1⟩ := Hs.frzs e h.m_app
  have s2 := same_upd (o := .lst (as.map V.ref)) h1.fr0
  exact ⟨_, s1.trans s2, h1.frz, .lst upd_same (r1.mono s2)⟩

theorem Hs.rot {A L : ML} {I H : Hp} {x y : Addr × HO} (h : Hs (x :: (A ++ (y :: L))) I H) : Hs (y :: x :: (A ++ L)) I H := (h.perm ((List.perm_middle).cons _)).m1

theorem Hs.one {L : ML} {I H : Hp} {x : Addr × HO} (h : Hs (x :: L) I H) : Hs [x] I H := (h.perm (List.perm_append_comm (l₁ := [x]) (l₂ := L))).dropl
end RL
/-! RL1: a def's promise in one word (Ok), its calls, methods, makes, raises; rules that lacked. -/
namespace RL
open PySem PySem.Spec PyProof.Rows L2

/-- the def at f keeps sp, binds its parameters ps, stands -/
structure Ok (P : Program) (w : World) (K : PySem.W.Frag) (mg : Str → Option Value) (base : Heap) (k : Nat) (f : Addr) (ps : List Str) (sp : Sp) : Prop where
  ex : ∃ fd : FuncData, FnOk P w K mg base (L2.CX P w) k f fd ps sp ∧ Binds K fd ps []
  kp : PySem.W.keepIn K (.ref f) = true
section
variable {P : Program} {w : World} {K : PySem.W.Frag} {mg : Str → Option Value} {base : Heap}
theorem Ok.mono {j k : Nat} {f : Addr} {ps : List Str} {sp : Sp} (G : Ok P w K mg base j f ps sp) (h : j ≤ k) : Ok P w K mg base k f ps sp := by
  obtain ⟨fd, F, b⟩ := G.ex
  exact ⟨⟨fd, F.mono h, b⟩, G.kp⟩
theorem Ok.imp {k : Nat} {f : Addr} {ps : List Str} {sp sp' : Sp} (G : Ok P w K mg base k f ps sp) (h : ∀ vs H Q E, sp' vs H Q E → sp vs H Q E) : Ok P w K mg base k f ps sp' := by
  obtain ⟨fd, F, b⟩ := G.ex
  exact ⟨⟨fd, F.imp h, b⟩, G.kp⟩
/-- the def st of the text at f -/
abbrev Df (K : PySem.W.Frag) (x qual : Str) (st : Stmt) (f : Addr) : Prop := ∃ fd, FunD K x qual (defArgs st) (defBody st) (defScope st) [] [] f fd
theorem ok_of {x qual : Str} {st : Stmt} {f : Addr} {N ps : List Str} {k : Nat} {sp : Sp} (F : Df K x qual st f) (S : FnScope N ps (defScope st))
    (bd : ∀ (kV doc pm : Value) (an : Option Addr) (cdv ct : Value) (us : List Value), us.length = ps.length → bindArgs (PySem.W.fnOf x qual (defArgs st) (defBody st) (defScope st) .none kV doc pm an cdv ct) ⟨us, []⟩ = pure (ps.zip us))
    (len : ∀ vs H Q E, sp vs H Q E → vs.length = ps.length)
    (hbody : ∀ (cdv : Value) (A : Around) (outer : List Env) (s : Shared) (H : Hp) (vs : List V) (Q : VK) (E : XK), Room k (A.deeper (envOfC qual (defScope st) s.heap.objs.size f cdv)) →
      Takes (cxOf (L2.CX P w) P w K mg base N qual (defScope st) f cdv A outer s H E) (fun cls d _ H' => E cls d H') →
      PassesOwn (model P w) (A.deeper (envOfC qual (defScope st) s.heap.objs.size f cdv)) (envOfC qual (defScope st) s.heap.objs.size f cdv) (cxOf (L2.CX P w) P w K mg base N qual (defScope st) f cdv A outer s H E).xe → sp vs H Q E →
      ∃ t, PSs (cxOf (L2.CX P w) P w K mg base N qual (defScope st) f cdv A outer s H E) (defBody st) t ∧ t { nx := fun _ H' => Q .non H', rt := Q } (start N vs) H) : Ok P w K mg base (k + 1) f ps sp := by
  obtain ⟨fd, F⟩ := F
  exact ⟨⟨fd, F.ok S len fun cdv A outer s H vs Q E hr h => hbody cdv A outer s H vs Q E hr (takes_of rfl rfl rfl rfl) (passes_of (X := cxOf (L2.CX P w) P w K mg base N qual (defScope st) f cdv A outer s H E) rfl) h, F.bindsN bd⟩, F.kp⟩
end

theorem fnok_of {P : Program} {w : World} {K : PySem.W.Frag} {mg : Str → Option Value} {base : Heap} {x qual : Str} {st : Stmt} {f : Addr} {fd : FuncData} {N ps : List Str} {k : Nat} {sp : Sp} (F : FunD K x qual (defArgs st) (defBody st) (defScope st) [] [] f fd) (S : FnScope N ps (defScope st))
    (len : ∀ vs H Q E, sp vs H Q E → vs.length = ps.length)
    (hbody : ∀ (cdv : Value) (A : Around) (outer : List Env) (s : Shared) (H : Hp) (vs : List V) (Q : VK) (E : XK), Room k (A.deeper (envOfC qual (defScope st) s.heap.objs.size f cdv)) →
      Takes (cxOf (L2.CX P w) P w K mg base N qual (defScope st) f cdv A outer s H E) (fun cls d _ H' => E cls d H') →
      PassesOwn (model P w) (A.deeper (envOfC qual (defScope st) s.heap.objs.size f cdv)) (envOfC qual (defScope st) s.heap.objs.size f cdv) (cxOf (L2.CX P w) P w K mg base N qual (defScope st) f cdv A outer s H E).xe → sp vs H Q E →
      ∃ t, PSs (cxOf (L2.CX P w) P w K mg base N qual (defScope st) f cdv A outer s H E) (defBody st) t ∧ t { nx := fun _ H' => Q .non H', rt := Q } (start N vs) H) : FnOk P w K mg base (L2.CX P w) (k + 1) f fd ps sp :=
  F.ok S len fun cdv A outer s H vs Q E hr h => hbody cdv A outer s H vs Q E hr (takes_of rfl rfl rfl rfl) (passes_of (X := cxOf (L2.CX P w) P w K mg base N qual (defScope st) f cdv A outer s H E) rfl) h

/-! ### calls -/
def tMethO (C : Addr) (m : Str) (sp : Sp) (E : L2.St → XK) (ta : TE) (t : TA) : TE := fun σ H Q => ta σ H fun x H1 => ∃ a dx fs, x = .ref a ∧ H1 a = some (.ins C dx fs) ∧ fs.lookup m = none ∧ t σ H1 fun vs H2 => sp (x :: vs) H2 Q (E σ)
def tMakeO (C : Addr) (sp : Sp) (E : L2.St → XK) (t : TA) : TE := fun σ H Q => t σ H fun vs H1 => ∀ x dx, H1 x = none → H1 dx = none → dx ≠ x →
  sp (.ref x :: vs) (upd (upd H1 dx (.own x)) x (.ins C dx [])) (fun v H2 => v = .non ∧ Q (.ref x) H2) (E σ)
/-- nothing is let out -/
theorem passN {X : Cx} (σ : L2.St) : PassesAt (L2.CX X.prog X.w) X σ E0 := fun _ _ _ _ _ _ h => by
  obtain ⟨_, _, _, _, _, _, _, _, _, _, _, _, z⟩ := h
  exact z.elim
section
variable {X : Cx} {k : Nat} {f C : Addr} {ps : List Str} {sp : Sp} {E : L2.St → XK} {x m : Str} {p pos apos : Pos} {e o : Expr} {es : List Expr} {ta : TE} {t : TA}
theorem pe_callO (G : Ok X.prog X.w X.K X.mg X.base k f ps sp) (hr : Room k X.A) (hm : X.mg x = some (.ref f)) (hx : ∀ σ, PassesAt (L2.CX X.prog X.w) X σ (E σ))
    (ha : PA X (e :: es) t) (hg : Gl X x := by rfl) (hdb : (x == ("__debug__" : Str)) = false := by decide) (he : starEach (e :: es) X.env = (false, eval e X.env) :: starEach es X.env := by rfl) (hpl : (backTo pos (starEach es X.env)).any (·.1) = false := by rfl) :
    PE X (.Call (.Name x p) (e :: es) [] pos) (tCallS sp E t) := by
  obtain ⟨fd, F, hb⟩ := G.ex
  exact pe_callS F hr hg hm G.kp hb hx ha hdb he hpl
theorem pe_methO {pl : Sem Bool} (he : PE X o ta) (c : Cls X.K C) (hm : Meth X.K C m f) (G : Ok X.prog X.w X.K X.mg X.base k f ps sp) (hr : Room k X.A) (hx : ∀ σ, PassesAt (L2.CX X.prog X.w) X σ (E σ)) (ha : PA X (e :: es) t)
    (hst : starEach (e :: es) X.env = (false, eval e X.env) :: starEach es X.env := by rfl) (hpl : (backTo pos (starEach es X.env)).any (·.1) = false := by rfl)
    (ht : eval (.Call (.Attribute o m apos) (e :: es) [] pos) X.env = (do
      let ov ← eval o X.env
      standAt apos.atName
      let (f, first) ← holding [ov] (getMethod ov m pl)
      callWith pos f first (backTo pos (starEach (e :: es) X.env)) (backToKw pos (keywordEach [] X.env))) := by rfl) :
    PE X (.Call (.Attribute o m apos) (e :: es) [] pos) (tMethO C m sp E ta t) := by
  obtain ⟨fd, F, hb⟩ := G.ex
  refine ⟨fun pins s σ H Q I h => ?_⟩
  refine PySem.W.methodCall_KW (pl := pl) (thn (he.run pins s σ H _ I h) fun u s1 ⟨x, H1, I1, rx, a, dx, fs, ex, ea, l, q⟩ => ?_) ht
  subst ex
  obtain rfl : u = Value.ref a := rx
  refine getmeth_ok I1 ea c hm l ?_
  refine PySem.W.callWith_K (first := [.ref a]) (h₀ := X.base) I.ok.mod.kin hm.kp (thn (ha.run pos pins s1 σ H1 _ I1 q) fun us s2 ⟨vs, H2, I2, r, q2⟩ => ⟨I2.kIn, ?_⟩) hst hpl
  exact run_fnS (us := .ref a :: us) (vs := .ref a :: vs) F hr hb (hx σ) I2 (.cons rfl r) q2
theorem pe_methO0 {pl : Sem Bool} (he : PE X o ta) (c : Cls X.K C) (hm : Meth X.K C m f) (G : Ok X.prog X.w X.K X.mg X.base k f ps sp) (hr : Room k X.A) (hx : ∀ σ, PassesAt (L2.CX X.prog X.w) X σ (E σ))
    (ht : eval (.Call (.Attribute o m apos) [] [] pos) X.env = (do
      let ov ← eval o X.env
      standAt apos.atName
      let (f, first) ← holding [ov] (getMethod ov m pl)
      callWith pos f first (backTo pos (starEach [] X.env)) (backToKw pos (keywordEach [] X.env))) := by rfl) :
    PE X (.Call (.Attribute o m apos) [] [] pos) (tMethO C m sp E ta tNil) := by
  obtain ⟨fd, F, hb⟩ := G.ex
  refine ⟨fun pins s σ H Q I h => ?_⟩
  refine PySem.W.methodCall_KW (pl := pl) (thn (he.run pins s σ H _ I h) fun u s1 ⟨x, H1, I1, rx, a, dx, fs, ex, ea, l, q⟩ => ?_) ht
  subst ex
  obtain rfl : u = Value.ref a := rx
  refine getmeth_ok I1 ea c hm l ?_
  exact PySem.W.callWith_K0 (first := [.ref a]) I1.kIn hm.kp (run_fnS (us := [.ref a]) (vs := [.ref a]) F hr hb (hx σ) I1 (.cons rfl .nil) q)
theorem run_makeS {fd : FuncData} {pins : List (Addr × Obj)} {σ : L2.St} {H : Hp} {s : Shared} {Q : VK} {us : List Value} {vs : List V} (M : Mk X.K C f) (F : FnOk X.prog X.w X.K X.mg X.base (L2.CX X.prog X.w) k f fd ps sp) (hr : Room (k + 1) X.A) (hb : Binds X.K fd ps [])
    (hx : PassesAt (L2.CX X.prog X.w) X σ (E σ)) (I : Inv X pins σ H s) (r : Vals vs us)
    (h : ∀ x dx, H x = none → H dx = none → dx ≠ x → sp (.ref x :: vs) (upd (upd H dx (.own x)) x (.ins C dx [])) (fun v H2 => v = .non ∧ Q (.ref x) H2) (E σ)) :
    wpAny (model X.prog X.w) X.A (call (.ref C) us) (EP X pins σ Q) X.xe s := by
  have hq := h (s.heap.objs.size + 1) s.heap.objs.size (I.hok.fresh (Nat.le_succ _)) (I.hok.fresh (Nat.le_refl _)) (Nat.ne_of_lt (Nat.lt_succ_self _))
  have I2 := Inv.made (C := C) I
  have r2 : Vals (V.ref (s.heap.objs.size + 1) :: vs) (Value.ref (s.heap.objs.size + 1) :: us) := .cons rfl r
  have hl : (Value.ref (s.heap.objs.size + 1) :: us).length = ps.length := by
    have e := r2.length
    rw [F.len _ _ _ _ hq] at e
    exact e.symm
  have hb2 := hb { s with heap := (s.heap.push PySem.W.emptyDict).push (PySem.W.instObj C s.heap.objs.size) } (Value.ref (s.heap.objs.size + 1) :: us) I2.kIn (by rw [List.append_nil]; exact hl)
  rw [List.append_nil] at hb2
  refine wpAny_call (make_map (f := f) I.kIn M.makes M.init (beq_iff_eq.mp M.fn) (codeAny_mono (F.run _ X.stack _ _ ⟨Value.ref (s.heap.objs.size + 1) :: us, []⟩ (Value.ref (s.heap.objs.size + 1) :: us) _ _ (E σ) (hr.make C us [])
    (I2.env0.make C us []) hb2 r2 hq) fun r s' hq' => ?_))
  cases r with
  | error e => exact hx pins _ _ e s' I2 hq'
  | ok fl =>
    cases fl with
    | ret u =>
      obtain ⟨v, H', I3, rv, ev, q3⟩ := I2.after hq'
      subst ev
      exact ⟨rv, ⟨V.ref (s.heap.objs.size + 1), H', I3, rfl, q3⟩⟩
    | next => exact False.elim hq'
    | brk => exact False.elim hq'
    | cont => exact False.elim hq'
theorem pe_makeO (M : Mk X.K C f) (G : Ok X.prog X.w X.K X.mg X.base k f ps sp) (hr : Room (k + 1) X.A) (hm : X.mg x = some (.ref C)) (hx : ∀ σ, PassesAt (L2.CX X.prog X.w) X σ (E σ))
    (ha : PA X (e :: es) t) (hg : Gl X x := by rfl) (hdb : (x == ("__debug__" : Str)) = false := by decide) (he : starEach (e :: es) X.env = (false, eval e X.env) :: starEach es X.env := by rfl) (hpl : (backTo pos (starEach es X.env)).any (·.1) = false := by rfl) :
    PE X (.Call (.Name x p) (e :: es) [] pos) (tMakeO C sp E t) := by
  obtain ⟨fd, F, hb⟩ := G.ex
  refine ⟨fun pins s σ H Q I h => ?_⟩
  refine wpAny_Call_Name_kw (ld_glob I hg hm ?_ hdb)
  refine PySem.W.callWith_K (h₀ := X.base) I.ok.mod.kin M.kp (thn (ha.run pos pins s σ H _ I h) fun us s1 ⟨vs, H1, I1, r, q⟩ => ⟨I1.kIn, ?_⟩) he hpl
  exact run_makeS M F hr hb (hx σ) I1 r q
end

/-! ### isinstance -/
theorem kb_NoneType_bool {K : PySem.W.Frag} : PySem.W.kitOne K (.type "NoneType") (.type "bool") = some false := kit_ty (by decide +kernel)
theorem kb_NoneType_int {K : PySem.W.Frag} : PySem.W.kitOne K (.type "NoneType") (.type "int") = some false := kit_ty (by decide +kernel)
theorem kb_NoneType_str {K : PySem.W.Frag} : PySem.W.kitOne K (.type "NoneType") (.type "str") = some false := kit_ty (by decide +kernel)
theorem kb_NoneType_list {K : PySem.W.Frag} : PySem.W.kitOne K (.type "NoneType") (.type "list") = some false := kit_ty (by decide +kernel)
theorem kb_NoneType_tuple {K : PySem.W.Frag} : PySem.W.kitOne K (.type "NoneType") (.type "tuple") = some false := kit_ty (by decide +kernel)
theorem kb_bool_bool {K : PySem.W.Frag} : PySem.W.kitOne K (.type "bool") (.type "bool") = some true := kit_ty (by decide +kernel)
theorem kb_bool_int {K : PySem.W.Frag} : PySem.W.kitOne K (.type "bool") (.type "int") = some true := kit_ty (by decide +kernel)
theorem kb_bool_str {K : PySem.W.Frag} : PySem.W.kitOne K (.type "bool") (.type "str") = some false := kit_ty (by decide +kernel)
theorem kb_bool_list {K : PySem.W.Frag} : PySem.W.kitOne K (.type "bool") (.type "list") = some false := kit_ty (by decide +kernel)
theorem kb_bool_tuple {K : PySem.W.Frag} : PySem.W.kitOne K (.type "bool") (.type "tuple") = some false := kit_ty (by decide +kernel)
theorem kb_int_bool {K : PySem.W.Frag} : PySem.W.kitOne K (.type "int") (.type "bool") = some false := kit_ty (by decide +kernel)
theorem kb_int_int {K : PySem.W.Frag} : PySem.W.kitOne K (.type "int") (.type "int") = some true := kit_ty (by decide +kernel)
theorem kb_int_str {K : PySem.W.Frag} : PySem.W.kitOne K (.type "int") (.type "str") = some false := kit_ty (by decide +kernel)
theorem kb_int_list {K : PySem.W.Frag} : PySem.W.kitOne K (.type "int") (.type "list") = some false := kit_ty (by decide +kernel)
theorem kb_int_tuple {K : PySem.W.Frag} : PySem.W.kitOne K (.type "int") (.type "tuple") = some false := kit_ty (by decide +kernel)
theorem kb_str_bool {K : PySem.W.Frag} : PySem.W.kitOne K (.type "str") (.type "bool") = some false := kit_ty (by decide +kernel)
theorem kb_str_int {K : PySem.W.Frag} : PySem.W.kitOne K (.type "str") (.type "int") = some false := kit_ty (by decide +kernel)
theorem kb_str_str {K : PySem.W.Frag} : PySem.W.kitOne K (.type "str") (.type "str") = some true := kit_ty (by decide +kernel)
theorem kb_str_list {K : PySem.W.Frag} : PySem.W.kitOne K (.type "str") (.type "list") = some false := kit_ty (by decide +kernel)
theorem kb_str_tuple {K : PySem.W.Frag} : PySem.W.kitOne K (.type "str") (.type "tuple") = some false := kit_ty (by decide +kernel)
theorem kb_list_bool {K : PySem.W.Frag} : PySem.W.kitOne K (.type "list") (.type "bool") = some false := kit_ty (by decide +kernel)
theorem kb_list_int {K : PySem.W.Frag} : PySem.W.kitOne K (.type "list") (.type "int") = some false := kit_ty (by decide +kernel)
theorem kb_list_str {K : PySem.W.Frag} : PySem.W.kitOne K (.type "list") (.type "str") = some false := kit_ty (by decide +kernel)
theorem kb_list_list {K : PySem.W.Frag} : PySem.W.kitOne K (.type "list") (.type "list") = some true := kit_ty (by decide +kernel)
theorem kb_list_tuple {K : PySem.W.Frag} : PySem.W.kitOne K (.type "list") (.type "tuple") = some false := kit_ty (by decide +kernel)
theorem kb_tuple_bool {K : PySem.W.Frag} : PySem.W.kitOne K (.type "tuple") (.type "bool") = some false := kit_ty (by decide +kernel)
theorem kb_tuple_int {K : PySem.W.Frag} : PySem.W.kitOne K (.type "tuple") (.type "int") = some false := kit_ty (by decide +kernel)
theorem kb_tuple_str {K : PySem.W.Frag} : PySem.W.kitOne K (.type "tuple") (.type "str") = some false := kit_ty (by decide +kernel)
theorem kb_tuple_list {K : PySem.W.Frag} : PySem.W.kitOne K (.type "tuple") (.type "list") = some false := kit_ty (by decide +kernel)
theorem kb_tuple_tuple {K : PySem.W.Frag} : PySem.W.kitOne K (.type "tuple") (.type "tuple") = some true := kit_ty (by decide +kernel)
theorem kit2 {K : PySem.W.Frag} {t b c : Value} {r1 r2 : Bool} (h1 : PySem.W.kitOne K t b = some r1) (h2 : PySem.W.kitOne K t c = some r2) : PySem.W.kitAny K t [b, c] = some (r1 || r2) := by
  refine kitAny_cons h1 (fun e => ?_) (fun e => by rw [e] <;> rfl)
  rw [e]
  refine kitAny_cons h2 (fun e => ?_) (fun e => by rw [e] <;> rfl)
  rw [e]
  rfl
/-- what raises nothing -/
theorem fn_cx0 {P : Program} {w : World} {K : PySem.W.Frag} {mg : Str → Option Value} {base : Heap} {k : Nat} {f : Addr} {fd : FuncData} {ps : List Str} {sp : Sp} (F : FnOk P w K mg base (L2.CX P w) k f fd ps sp) (h : ∀ vs H Q E, sp vs H Q E → sp vs H Q E0) : FnOk P w K mg base CX0 k f fd ps sp := by
  refine ⟨F.len, fun A outer s H args us vs Q E hr he hb hv hs => codeAny_mono (F.run A outer s H args us vs Q E0 hr he hb hv (h _ _ _ _ hs)) fun r s' hq => ?_⟩
  cases r with
  | error e =>
    obtain ⟨_, _, _, _, _, _, _, _, _, _, _, _, z⟩ := hq
    exact z.elim
  | ok fl => cases fl <;> exact hq
/-- a promise that no one asks -/
def spNever : Sp := fun _ _ _ _ => False
theorem ok_never {P : Program} {w : World} {K : PySem.W.Frag} {mg : Str → Option Value} {base : Heap} {x qual : Str} {st : Stmt} {f : Addr} {ps : List Str} {k : Nat} (F : Df K x qual st f)
    (bd : ∀ (kV doc pm : Value) (an : Option Addr) (cdv ct : Value) (us : List Value), us.length = ps.length → bindArgs (PySem.W.fnOf x qual (defArgs st) (defBody st) (defScope st) .none kV doc pm an cdv ct) ⟨us, []⟩ = pure (ps.zip us)) : Ok P w K mg base k f ps spNever := by
  obtain ⟨fd, F⟩ := F
  exact ⟨⟨fd, ⟨fun _ _ _ _ h => h.elim, fun _ _ _ _ _ _ _ _ _ _ _ _ _ h => h.elim⟩, F.bindsN bd⟩, F.kp⟩

/-! ### the rules with their written part named (for use within comprehensions) -/
section
variable {X : Cx}
theorem ix_list_q (K : PySem.W.Frag) (h : X.K = K) : IxR X (rIxL K) := h ▸ ix_list
theorem ix_tup_q (K : PySem.W.Frag) (h : X.K = K) : IxR X (rIxT K) := h ▸ ix_tup
theorem ix_seq_q (K : PySem.W.Frag) (h : X.K = K) : IxR X (rIx K) := h ▸ ix_seq
theorem sl_list_q (K : PySem.W.Frag) (h : X.K = K) : SlR X (rSlL K) := h ▸ sl_list
theorem sl_tup_q (K : PySem.W.Frag) (h : X.K = K) : SlR X (rSlT K) := h ▸ sl_tup
theorem call_len_seq_q (K : PySem.W.Frag) (h : X.K = K) : CallR X (.builtin "len") (fun xs H Q => ∃ p ys, xs = [.ref p] ∧ (SqL K H p ys ∨ SqT K H p ys) ∧ Q (.int ys.length) H) := h ▸ call_len_seq
theorem call_list_of_q (K : PySem.W.Frag) (h : X.K = K) : CallR X (.type "list") (fun xs H Q => ∃ p ys, xs = [.ref p] ∧ (SqL K H p ys ∨ SqT K H p ys) ∧ ∀ l, H l = none → Q (.ref l) (upd H l (.lst ys))) := h ▸ call_list_of
theorem call_tuple_of_q (K : PySem.W.Frag) (h : X.K = K) : CallR X (.type "tuple") (fun xs H Q => ∃ p ys, xs = [.ref p] ∧ ((SqL K H p ys ∧ ∀ l, H l = none → Q (.ref l) (upd H l (.tup ys))) ∨ (SqT K H p ys ∧ Q (.ref p) H))) := h ▸ call_tuple_of
theorem op_in_seq_q (K : PySem.W.Frag) (h : X.K = K) : OpR X (compareOp .In) (rIn K false) := h ▸ op_in_seq
theorem op_notIn_seq_q (K : PySem.W.Frag) (h : X.K = K) : OpR X (compareOp .NotIn) (rIn K true) := h ▸ op_notIn_seq
theorem op_eqD_q (K : PySem.W.Frag) (h : X.K = K) (hu : X.A.units + 64 < cLine) : OpR X (compareOp .Eq) (rEqD K) := h ▸ op_eqD hu
theorem op_neD_q (K : PySem.W.Frag) (h : X.K = K) (hu : X.A.units + 64 < cLine) : OpR X (compareOp .NotEq) (rNeD K) := h ▸ op_neD hu
theorem op_inD_q (K : PySem.W.Frag) (h : X.K = K) (hu : X.A.units + 65 < cLine) : OpR X (compareOp .In) (rInD K) := h ▸ op_inD hu
theorem op_notInD_q (K : PySem.W.Frag) (h : X.K = K) (hu : X.A.units + 65 < cLine) : OpR X (compareOp .NotIn) (rNotInD K) := h ▸ op_notInD hu
theorem cr_sum_q (K : PySem.W.Frag) (h : X.K = K) (hc : X.calm = true) : CallR X (.builtin "sum") (rSum K) := h ▸ cr_sum hc
theorem call_isi_q (K : PySem.W.Frag) (h : X.K = K) : CallR X (.builtin "isinstance") (rIsi K) := h ▸ call_isi
theorem call_isiT_q (K : PySem.W.Frag) (h : X.K = K) : CallR X (.builtin "isinstance") (rIsiT K) := h ▸ call_isiT
theorem pe_fld_q (K : PySem.W.Frag) (h : X.K = K) {e : Expr} {ta : TE} {f : Str} {pos : Pos} (he : PE X e ta) (hb : attributeBase e f X.env (eval e X.env) = eval e X.env) : PE X (.Attribute e f pos) (tFld K ta f) := h ▸ pe_fld he hb
theorem pg_tup_q (K : PySem.W.Frag) (h : X.K = K) {es : List Expr} {k : Nat} {t : TGs} {n : Nat} {pos : Pos} (hc : X.calm = true) (hg : PGs X es t)
    (hn : (assignEach es X.env).length = n := by rfl) (hst : (assignEach es X.env).findIdx? (·.1) = none := by rfl) : PG X (.Tuple es k pos) (gTup K n t) := h ▸ pg_tup hc hg hn hst
theorem pi_list_q (K : PySem.W.Frag) (h : X.K = K) {tg l : Expr} {tl : TE} (hl : PE X l tl) : PI X tg l (iList K tl) := h ▸ pi_list hl
theorem pi_tup_q (K : PySem.W.Frag) (h : X.K = K) {tg l : Expr} {tl : TE} (hl : PE X l tl) : PI X tg l (iTup K tl) := h ▸ pi_tup hl
theorem pe_bm0_q (K : PySem.W.Frag) (h : X.K = K) {T : String} {name : Str} {id : String} {o : Expr} {to : TE} {apos cpos : Pos} {r : V → List V → Hp → VK → Prop} (pa : PlainAttrs T) (slot : Slot T name id) (hty : typeOf (.builtin id) = pure (.type "method_descriptor")) (hm : MtR X id r) (ho : PE X o to)
    (hbase : attributeBase o name X.env (eval o X.env) = eval o X.env := by rfl) (hline : (apos.endLine == cpos.line) = true := by rfl) : PE X (.Call (.Attribute o name apos) [] [] cpos) (tBM0 K T r to) := h ▸ pe_bm0 pa slot hty hm ho hbase hline
theorem pe_bm_q (K : PySem.W.Frag) (h : X.K = K) {T : String} {name : Str} {id : String} {o e : Expr} {es : List Expr} {to : TE} {t : TA} {apos cpos : Pos} {r : V → List V → Hp → VK → Prop} (pa : PlainAttrs T) (slot : Slot T name id) (hty : typeOf (.builtin id) = pure (.type "method_descriptor")) (hm : MtR X id r) (ho : PE X o to) (ha : PA X (e :: es) t)
    (hbase : attributeBase o name X.env (eval o X.env) = eval o X.env := by rfl)
    (hfew : ((backTo cpos (starEach (e :: es) X.env)).all (fun x => !x.1) && (backToKw cpos (keywordEach [] X.env)).all (fun x => x.1.isSome)
      && decide ((e :: es).length + ([] : List Keyword).length + (if ([] : List Keyword).isEmpty then 0 else 1) < 30)) = true := by rfl)
    (hline : (apos.endLine == cpos.line) = true := by rfl) (hs : starEach (e :: es) X.env = (false, eval e X.env) :: starEach es X.env := by rfl) (hplain : (backTo cpos (starEach es X.env)).any (·.1) = false := by rfl) :
    PE X (.Call (.Attribute o name apos) (e :: es) [] cpos) (tBM K T r to t) := h ▸ pe_bm pa slot hty hm ho ha hbase hfew hline hs hplain
end

/-! ### a comprehension over turns that are known -/
theorem lc_of {J : It} {n : Nat} {item : Nat → V} {g : TG} {tt : TT} {te : TE} {vs : List Nat} {σ : L2.St} {H1 : Hp} {D : Addr} {Qd : Hp → Prop} (Pv : Nat → Hp → Prop) (hgo : ∀ i H, i < n → J.go i H) (hy : ∀ i H x H', J.yld i H x H' → H' = H ∧ x = item i)
    (hst : ∀ i H, n ≤ i → J.stop i H) (h0 : Pv 0 (upd H1 D (.lst [])))
    (hs : ∀ i H, i < n → Pv i H → g (item i) (wipe σ vs) H fun σ2 H2 => wipe σ2 vs = wipe σ vs ∧ tt σ2 H2 fun b H3 =>
      if b = true then te σ2 H3 fun y H4 => ∃ acc, H4 D = some (.lst acc) ∧ acc.length < sizeLine ∧ Pv (i + 1) (upd H4 D (.lst (acc ++ [y]))) else Pv (i + 1) H3) (hd : ∀ H, Pv n H → Qd H) :
    ∃ W : Nat → Nat → Hp → Prop, (∃ m, W 0 m (upd H1 D (.lst []))) ∧ ∀ i m H, W i m H →
      (J.stop i H ∧ Qd H) ∨ (J.go i H ∧ ∃ Nx : Hp → Prop, (∀ H', Nx H' → ∃ m', m' < m ∧ W (i + 1) m' H') ∧ ∀ x H', J.yld i H x H' → g x (wipe σ vs) H' fun σ2 H2 => wipe σ2 vs = wipe σ vs ∧ tt σ2 H2 fun b H3 =>
        if b = true then te σ2 H3 fun y H4 => ∃ acc, H4 D = some (.lst acc) ∧ acc.length < sizeLine ∧ Nx (upd H4 D (.lst (acc ++ [y]))) else Nx H3) := by
  refine ⟨fun i m H => m = n - i ∧ i ≤ n ∧ Pv i H, ⟨n, rfl, Nat.zero_le _, h0⟩, ?_⟩
  rintro i m H ⟨rfl, hi, p⟩
  rcases Nat.lt_or_ge i n with hlt | hge
  · refine .inr ⟨hgo i H hlt, Pv (i + 1), fun H' p' => ⟨n - (i + 1), by omega, rfl, hlt, p'⟩, fun x H' y => ?_⟩
    obtain ⟨rfl, rfl⟩ := hy i H x H' y
    exact hs i _ hlt p
  · obtain rfl : i = n := Nat.le_antisymm hi hge
    exact .inl ⟨hst _ _ hge, hd H p⟩
/-- over range(lo, .., c) -/
theorem lc_rangeC {lo c : Int} {n : Nat} {g : TG} {tt : TT} {te : TE} {vs : List Nat} {σ : L2.St} {H1 : Hp} {D : Addr} {Qd : Hp → Prop} (Pv : Nat → Hp → Prop) (h0 : Pv 0 (upd H1 D (.lst [])))
    (hs : ∀ i H, i < n → Pv i H → g (.int (lo + (i : Nat) * c)) (wipe σ vs) H fun σ2 H2 => wipe σ2 vs = wipe σ vs ∧ tt σ2 H2 fun b H3 =>
      if b = true then te σ2 H3 fun y H4 => ∃ acc, H4 D = some (.lst acc) ∧ acc.length < sizeLine ∧ Pv (i + 1) (upd H4 D (.lst (acc ++ [y]))) else Pv (i + 1) H3) (hd : ∀ H, Pv n H → Qd H) :
    ∃ W : Nat → Nat → Hp → Prop, (∃ m, W 0 m (upd H1 D (.lst []))) ∧ ∀ i m H, W i m H →
      ((Itc lo c n).stop i H ∧ Qd H) ∨ ((Itc lo c n).go i H ∧ ∃ Nx : Hp → Prop, (∀ H', Nx H' → ∃ m', m' < m ∧ W (i + 1) m' H') ∧ ∀ x H', (Itc lo c n).yld i H x H' → g x (wipe σ vs) H' fun σ2 H2 => wipe σ2 vs = wipe σ vs ∧ tt σ2 H2 fun b H3 =>
        if b = true then te σ2 H3 fun y H4 => ∃ acc, H4 D = some (.lst acc) ∧ acc.length < sizeLine ∧ Nx (upd H4 D (.lst (acc ++ [y]))) else Nx H3) :=
  lc_of (item := fun i => .int (lo + (i : Nat) * c)) Pv (fun _ _ h => h) (fun _ _ _ _ h => h) (fun _ _ h => h) h0 hs hd
theorem rgc3 {m : Int} (h : 0 ≤ m) (h2 : m ≤ 100000) : RgC 0 m 3 ((m.toNat + 2) / 3) := by
  have e : Builtin.Range.rangeSize 0 m 3 = (((m.toNat + 2) / 3 : Nat) : Int) := by
    rw [PyProof.Rows.rangeSize_pos (by decide) h]
    omega
  refine ⟨by decide, by decide, ?_, e⟩
  unfold Builtin.Range.small
  rw [e]
  simp only [Builtin.Range.rangeFitsLong, Bool.and_eq_true, Bool.or_eq_true, decide_eq_true_eq, beq_iff_eq, show (3 : Int) > 0 by decide, if_true]
  omega
end RL
namespace RL
open PySem PySem.Spec PyProof.Rows L2
def top (i : Nat) : Stmt := PySem.Challenge.pw_ringlog_k10_rows_in_pieces.main.body.getD i (.Pass ⟨0, 0, 0, 0⟩)
abbrev s_made : Stmt := top 2
abbrev n_made : List Str := ["number", "floor", "begin", "left", "data"]
abbrev p_made : List Str := ["number", "floor", "begin", "left", "data"]
theorem sc_made : FnScope n_made p_made (defScope s_made) := ⟨rfl, rfl, rfl, by decide +kernel, rfl, by decide +kernel, by decide +kernel⟩
theorem bd_made (kV doc pm : Value) (an : Option Addr) (cdv ct : Value) (us : List Value) (hl : us.length = p_made.length) : bindArgs (PySem.W.fnOf "made" "made" (defArgs s_made) (defBody s_made) (defScope s_made) .none kV doc pm an cdv ct) ⟨us, []⟩ = pure (p_made.zip us) := match us, hl with | [_, _, _, _, _], _ => rfl
abbrev a_made (K : PySem.W.Frag) : Addr := He.ga K "made"
def dd_made : He.DefD := ⟨("made", none), "made", "made", defArgs s_made, defBody s_made, defScope s_made, [], []⟩
abbrev s_pieces : Stmt := top 3
abbrev n_pieces : List Str := ["row", "data", "at"]
abbrev p_pieces : List Str := ["row"]
theorem sc_pieces : FnScope n_pieces p_pieces (defScope s_pieces) := ⟨rfl, rfl, rfl, by decide +kernel, rfl, by decide +kernel, by decide +kernel⟩
theorem bd_pieces (kV doc pm : Value) (an : Option Addr) (cdv ct : Value) (us : List Value) (hl : us.length = p_pieces.length) : bindArgs (PySem.W.fnOf "pieces" "pieces" (defArgs s_pieces) (defBody s_pieces) (defScope s_pieces) .none kV doc pm an cdv ct) ⟨us, []⟩ = pure (p_pieces.zip us) := match us, hl with | [_], _ => rfl
abbrev a_pieces (K : PySem.W.Frag) : Addr := He.ga K "pieces"
def dd_pieces : He.DefD := ⟨("pieces", none), "pieces", "pieces", defArgs s_pieces, defBody s_pieces, defScope s_pieces, [], []⟩
abbrev s_length_of : Stmt := top 4
abbrev n_length_of : List Str := ["row"]
abbrev p_length_of : List Str := ["row"]
theorem sc_length_of : FnScope n_length_of p_length_of (defScope s_length_of) := ⟨rfl, rfl, rfl, by decide +kernel, rfl, by decide +kernel, by decide +kernel⟩
theorem bd_length_of (kV doc pm : Value) (an : Option Addr) (cdv ct : Value) (us : List Value) (hl : us.length = p_length_of.length) : bindArgs (PySem.W.fnOf "length_of" "length_of" (defArgs s_length_of) (defBody s_length_of) (defScope s_length_of) .none kV doc pm an cdv ct) ⟨us, []⟩ = pure (p_length_of.zip us) := match us, hl with | [_], _ => rfl
abbrev a_length_of (K : PySem.W.Frag) : Addr := He.ga K "length_of"
def dd_length_of : He.DefD := ⟨("length_of", none), "length_of", "length_of", defArgs s_length_of, defBody s_length_of, defScope s_length_of, [], []⟩
abbrev s_words_of : Stmt := top 5
abbrev n_words_of : List Str := ["some", "data", "words"]
abbrev p_words_of : List Str := ["some"]
theorem sc_words_of : FnScope n_words_of p_words_of (defScope s_words_of) := ⟨rfl, rfl, rfl, by decide +kernel, rfl, by decide +kernel, by decide +kernel⟩
theorem bd_words_of (kV doc pm : Value) (an : Option Addr) (cdv ct : Value) (us : List Value) (hl : us.length = p_words_of.length) : bindArgs (PySem.W.fnOf "words_of" "words_of" (defArgs s_words_of) (defBody s_words_of) (defScope s_words_of) .none kV doc pm an cdv ct) ⟨us, []⟩ = pure (p_words_of.zip us) := match us, hl with | [_], _ => rfl
abbrev a_words_of (K : PySem.W.Frag) : Addr := He.ga K "words_of"
def dd_words_of : He.DefD := ⟨("words_of", none), "words_of", "words_of", defArgs s_words_of, defBody s_words_of, defScope s_words_of, [], []⟩
abbrev s_l_taken : Stmt := top 7
abbrev n_l_taken : List Str := ["_law_row", "_law_many", "_law_cell"]
abbrev p_l_taken : List Str := ["_law_row", "_law_many"]
theorem sc_l_taken : FnScope n_l_taken p_l_taken (defScope s_l_taken) := ⟨rfl, rfl, rfl, by decide +kernel, rfl, by decide +kernel, by decide +kernel⟩
theorem bd_l_taken (kV doc pm : Value) (an : Option Addr) (cdv ct : Value) (us : List Value) (hl : us.length = p_l_taken.length) : bindArgs (PySem.W.fnOf "_law_taken" "_law_taken" (defArgs s_l_taken) (defBody s_l_taken) (defScope s_l_taken) .none kV doc pm an cdv ct) ⟨us, []⟩ = pure (p_l_taken.zip us) := match us, hl with | [_, _], _ => rfl
abbrev a_l_taken (K : PySem.W.Frag) : Addr := He.ga K "_law_taken"
def dd_l_taken : He.DefD := ⟨("_law_taken", none), "_law_taken", "_law_taken", defArgs s_l_taken, defBody s_l_taken, defScope s_l_taken, [], []⟩
abbrev s_l_row_of : Stmt := top 8
abbrev n_l_row_of : List Str := ["_law_row", "_law_found", "_law_k"]
abbrev p_l_row_of : List Str := ["_law_row"]
theorem sc_l_row_of : FnScope n_l_row_of p_l_row_of (defScope s_l_row_of) := ⟨rfl, rfl, rfl, by decide +kernel, rfl, by decide +kernel, by decide +kernel⟩
theorem bd_l_row_of (kV doc pm : Value) (an : Option Addr) (cdv ct : Value) (us : List Value) (hl : us.length = p_l_row_of.length) : bindArgs (PySem.W.fnOf "_law_row_of" "_law_row_of" (defArgs s_l_row_of) (defBody s_l_row_of) (defScope s_l_row_of) .none kV doc pm an cdv ct) ⟨us, []⟩ = pure (p_l_row_of.zip us) := match us, hl with | [_], _ => rfl
abbrev a_l_row_of (K : PySem.W.Frag) : Addr := He.ga K "_law_row_of"
def dd_l_row_of : He.DefD := ⟨("_law_row_of", none), "_law_row_of", "_law_row_of", defArgs s_l_row_of, defBody s_l_row_of, defScope s_l_row_of, [], []⟩
abbrev s_l_pieces : Stmt := top 9
abbrev n_l_pieces : List Str := ["_law_words", "_law_data", "_law_at"]
abbrev p_l_pieces : List Str := ["_law_words"]
theorem sc_l_pieces : FnScope n_l_pieces p_l_pieces (defScope s_l_pieces) := ⟨rfl, rfl, rfl, by decide +kernel, rfl, by decide +kernel, by decide +kernel⟩
theorem bd_l_pieces (kV doc pm : Value) (an : Option Addr) (cdv ct : Value) (us : List Value) (hl : us.length = p_l_pieces.length) : bindArgs (PySem.W.fnOf "_law_pieces" "_law_pieces" (defArgs s_l_pieces) (defBody s_l_pieces) (defScope s_l_pieces) .none kV doc pm an cdv ct) ⟨us, []⟩ = pure (p_l_pieces.zip us) := match us, hl with | [_], _ => rfl
abbrev a_l_pieces (K : PySem.W.Frag) : Addr := He.ga K "_law_pieces"
def dd_l_pieces : He.DefD := ⟨("_law_pieces", none), "_law_pieces", "_law_pieces", defArgs s_l_pieces, defBody s_l_pieces, defScope s_l_pieces, [], []⟩
abbrev s_l_alike : Stmt := top 10
abbrev n_l_alike : List Str := ["_law_found", "_law_due", "_law_k"]
abbrev p_l_alike : List Str := ["_law_found", "_law_due"]
theorem sc_l_alike : FnScope n_l_alike p_l_alike (defScope s_l_alike) := ⟨rfl, rfl, rfl, by decide +kernel, rfl, by decide +kernel, by decide +kernel⟩
theorem bd_l_alike (kV doc pm : Value) (an : Option Addr) (cdv ct : Value) (us : List Value) (hl : us.length = p_l_alike.length) : bindArgs (PySem.W.fnOf "_law_alike" "_law_alike" (defArgs s_l_alike) (defBody s_l_alike) (defScope s_l_alike) .none kV doc pm an cdv ct) ⟨us, []⟩ = pure (p_l_alike.zip us) := match us, hl with | [_, _], _ => rfl
abbrev a_l_alike (K : PySem.W.Frag) : Addr := He.ga K "_law_alike"
def dd_l_alike : He.DefD := ⟨("_law_alike", none), "_law_alike", "_law_alike", defArgs s_l_alike, defBody s_l_alike, defScope s_l_alike, [], []⟩
abbrev s_law : Stmt := top 11
abbrev n_law : List Str := ["_law_script", "_law_row", "_law_turn", "_law_words", "_law_due", "_law_handed", "_law_found", "_law_begin", "_law_k", "_law_some", "_law_told"]
abbrev p_law : List Str := ["_law_script"]
theorem sc_law : FnScope n_law p_law (defScope s_law) := ⟨rfl, rfl, rfl, by decide +kernel, rfl, by decide +kernel, by decide +kernel⟩
theorem bd_law (kV doc pm : Value) (an : Option Addr) (cdv ct : Value) (us : List Value) (hl : us.length = p_law.length) : bindArgs (PySem.W.fnOf "law" "law" (defArgs s_law) (defBody s_law) (defScope s_law) .none kV doc pm an cdv ct) ⟨us, []⟩ = pure (p_law.zip us) := match us, hl with | [_], _ => rfl
abbrev a_law (K : PySem.W.Frag) : Addr := He.ga K "law"
def dd_law : He.DefD := ⟨("law", none), "law", "law", defArgs s_law, defBody s_law, defScope s_law, [], []⟩
structure Tx (K : PySem.W.Frag) (mg : Str → Option Value) : Prop where
  d_made : Df K "made" "made" s_made (a_made K)
  g_made : mg "made" = some (.ref (a_made K))
  d_pieces : Df K "pieces" "pieces" s_pieces (a_pieces K)
  g_pieces : mg "pieces" = some (.ref (a_pieces K))
  d_length_of : Df K "length_of" "length_of" s_length_of (a_length_of K)
  g_length_of : mg "length_of" = some (.ref (a_length_of K))
  d_words_of : Df K "words_of" "words_of" s_words_of (a_words_of K)
  g_words_of : mg "words_of" = some (.ref (a_words_of K))
  d_l_taken : Df K "_law_taken" "_law_taken" s_l_taken (a_l_taken K)
  g_l_taken : mg "_law_taken" = some (.ref (a_l_taken K))
  d_l_row_of : Df K "_law_row_of" "_law_row_of" s_l_row_of (a_l_row_of K)
  g_l_row_of : mg "_law_row_of" = some (.ref (a_l_row_of K))
  d_l_pieces : Df K "_law_pieces" "_law_pieces" s_l_pieces (a_l_pieces K)
  g_l_pieces : mg "_law_pieces" = some (.ref (a_l_pieces K))
  d_l_alike : Df K "_law_alike" "_law_alike" s_l_alike (a_l_alike K)
  g_l_alike : mg "_law_alike" = some (.ref (a_l_alike K))
  d_law : Df K "law" "law" s_law (a_law K)
  g_law : mg "law" = some (.ref (a_law K))
  i_DATA : ∃ t, mg "DATA" = some (.int 3 t)
  b_bool : mg "bool" = none
  b_int : mg "int" = none
  b_isinstance : mg "isinstance" = none
  b_len : mg "len" = none
  b_list : mg "list" = none
  b_range : mg "range" = none
  b_str : mg "str" = none
  b_tuple : mg "tuple" = none
def fa : List He.Fa := [.glo "made", .glo "pieces", .glo "length_of", .glo "words_of", .glo "_law_taken", .glo "_law_row_of", .glo "_law_pieces", .glo "_law_alike", .glo "law", .int "DATA" 3, .free "bool", .free "int", .free "isinstance", .free "len", .free "list", .free "range", .free "str", .free "tuple"]
def fn : List He.DefD := [dd_made, dd_pieces, dd_length_of, dd_words_of, dd_l_taken, dd_l_row_of, dd_l_pieces, dd_l_alike, dd_law]
theorem Tx.of {K : PySem.W.Frag} {h : Heap} {mg : Str → Option Value} (X : K.In h) (G : h.Ns mainGlobals mg) (c : He.SaysD fa fn K) : Tx K mg where
  d_made := c.def_ 0 (d := dd_made) rfl
  g_made := He.glo_ok X G (c.fact 0 (f := .glo "made") rfl)
  d_pieces := c.def_ 1 (d := dd_pieces) rfl
  g_pieces := He.glo_ok X G (c.fact 1 (f := .glo "pieces") rfl)
  d_length_of := c.def_ 2 (d := dd_length_of) rfl
  g_length_of := He.glo_ok X G (c.fact 2 (f := .glo "length_of") rfl)
  d_words_of := c.def_ 3 (d := dd_words_of) rfl
  g_words_of := He.glo_ok X G (c.fact 3 (f := .glo "words_of") rfl)
  d_l_taken := c.def_ 4 (d := dd_l_taken) rfl
  g_l_taken := He.glo_ok X G (c.fact 4 (f := .glo "_law_taken") rfl)
  d_l_row_of := c.def_ 5 (d := dd_l_row_of) rfl
  g_l_row_of := He.glo_ok X G (c.fact 5 (f := .glo "_law_row_of") rfl)
  d_l_pieces := c.def_ 6 (d := dd_l_pieces) rfl
  g_l_pieces := He.glo_ok X G (c.fact 6 (f := .glo "_law_pieces") rfl)
  d_l_alike := c.def_ 7 (d := dd_l_alike) rfl
  g_l_alike := He.glo_ok X G (c.fact 7 (f := .glo "_law_alike") rfl)
  d_law := c.def_ 8 (d := dd_law) rfl
  g_law := He.glo_ok X G (c.fact 8 (f := .glo "law") rfl)
  i_DATA := He.int_ok X G (c.fact 9 (f := .int "DATA" 3) rfl)
  b_bool := He.free_ok X G (c.fact 10 (f := .free "bool") rfl)
  b_int := He.free_ok X G (c.fact 11 (f := .free "int") rfl)
  b_isinstance := He.free_ok X G (c.fact 12 (f := .free "isinstance") rfl)
  b_len := He.free_ok X G (c.fact 13 (f := .free "len") rfl)
  b_list := He.free_ok X G (c.fact 14 (f := .free "list") rfl)
  b_range := He.free_ok X G (c.fact 15 (f := .free "range") rfl)
  b_str := He.free_ok X G (c.fact 16 (f := .free "str") rfl)
  b_tuple := He.free_ok X G (c.fact 17 (f := .free "tuple") rfl)
end RL
namespace RL
open PySem PySem.Spec PyProof.Rows L2
/-- the law's promise: a list of ints is handed in, True comes out -/
def sp_law (K : PySem.W.Frag) : Sp := fun vs H Q _ => ∃ (a : Addr) (ns : List Int), vs = [.ref a] ∧ SqL K H a (ns.map V.int) ∧ ∀ H', Q (.bl true) H'
end RL
namespace RL
open PySem PySem.Spec PyProof.Rows L2
/-- what the law draws from: the script's list, how far, the mix -/
abbrev rowO (a : Addr) (i m : Int) : HO := .lst [.ref a, .int i, .int m]
structure RowOk (K : PySem.W.Frag) (I : Hp) (a : Addr) (i : Int) : Prop where
  sc : ∃ ns : List Int, SqL K I a (ns.map V.int)
  le : 0 ≤ i
theorem RowOk.mono {K : PySem.W.Frag} {I I' : Hp} {a : Addr} {i : Int} (s : Same I I') (h : RowOk K I a i) : RowOk K I' a i := by
  obtain ⟨⟨ns, q⟩, l⟩ := h
  exact ⟨⟨ns, s.seq q⟩, l⟩
theorem RowOk.to {K : PySem.W.Frag} {I : Hp} {a : Addr} {i j : Int} (h : RowOk K I a i) (l : 0 ≤ j) : RowOk K I a j := ⟨h.sc, l⟩
/-- a draw below k: any -/
def sp_taken (K : PySem.W.Frag) : Sp := fun vs H Q _ => ∃ (r a : Addr) (i m k : Int) (L : ML) (I : Hp), vs = [.ref r, .int k] ∧ Hs ((r, rowO a i m) :: L) I H ∧ RowOk K I a i ∧ 0 < k ∧
  ∀ H' i' m' v, Hs ((r, rowO a i' m') :: L) I H' → RowOk K I a i' → 0 ≤ v → v < k → Q (.int v) H'
section
variable {P : Program} {w : World} {K : PySem.W.Frag} {mg : Str → Option Value} {base : Heap}
theorem ok_taken (T : Tx K mg) : Ok P w K mg base 1 (a_l_taken K) p_l_taken (sp_taken K) := by
  refine ok_of T.d_l_taken sc_l_taken bd_l_taken (fun vs H Q E h => ?_) (fun cdv A outer s H vs Q E hr tk po h => ?_)
  · obtain ⟨r, a, i, m, k, L, I, rfl, _⟩ := h
    rfl
  · obtain ⟨r, a, i, m, k, L, I, rfl, h, ⟨⟨ns, hS⟩, hi⟩, hk, q⟩ := h
    refine ⟨_, (pss_cons (ps_asg (pe_op op_add (pe_ix ix_list (pv 0) pe_int (fun _ _ => rfl)) pe_int) (pg_sub (pv 0) pe_int set_list))
    (pss_cons (ps_if (pt_cmpR op_gt (pe_ix ix_list (pv 0) pe_int (fun _ _ => rfl)) (pe_callB call_len_seq (by rfl) T.b_len PySem.boot_len (pa_cons (pe_ix ix_list (pv 0) pe_int (fun _ _ => rfl)) pa_nil)) (nomark _))
    (pss_cons (ps_asg (pe_op op_mod (pe_op op_add (pe_op op_mul (pe_ix ix_list (pv 0) pe_int (fun _ _ => rfl)) pe_int) pe_int) pe_int) (pg_sub (pv 0) pe_int set_list))
    (pss_one (ps_ret (pe_op op_mod (pe_op op_fdiv (pe_ix ix_list (pv 0) pe_int (fun _ _ => rfl)) pe_int) (pv 1)))))
    pss_nil)
    (pss_cons (ps_set (i := 2) sc_l_taken.nd rfl (Or.inl rfl) (pe_ix ix_list (pe_ix ix_list (pv 0) pe_int (fun _ _ => rfl)) (pe_op op_sub (pe_ix ix_list (pv 0) pe_int (fun _ _ => rfl)) pe_int) (fun _ _ => rfl)))
    (pss_cons (ps_asg (pe_op op_mod (pe_op op_add (pe_op op_add (pe_op op_mul (pe_ix ix_list (pv 0) pe_int (fun _ _ => rfl)) pe_int) (pv 2)) pe_int) pe_int) (pg_sub (pv 0) pe_int set_list))
    (pss_one (ps_ret (pe_op op_mod (pv 2) (pv 1)))))))), ?_⟩
    have h1 := h.set0 (o' := rowO a (i + 1) m)
    -- row[1] = row[1] + 1
    refine ⟨_, rfl, r, [.ref a, .int i, .int m], 1, .int i, rfl, rfl, sqm h.g0, rfl, i, 1, rfl, rfl, _, rfl, r, _, 1, 1, rfl, rfl, h.g0, rfl, ?_⟩
    -- row[1] > len(row[0])
    refine ⟨_, rfl, r, _, 1, .int (i + 1), rfl, rfl, sqm h1.g0, rfl, _, rfl, r, _, 0, .ref a, rfl, rfl, sqm h1.g0, rfl, a, ns.map V.int, rfl, .inl (h1.sl hS), i + 1, _, rfl, rfl, _, rfl, if_d (fun c => ?_) (fun c => ?_)⟩
    · have h2 := h1.set0 (o' := rowO a (i + 1) ((m * 48271 + 11) % 2147483647))
      refine ⟨_, rfl, r, _, 2, .int m, rfl, rfl, sqm h1.g0, rfl, m, 48271, rfl, rfl, .inr ⟨by decide, by decide⟩, _, 11, rfl, rfl, _, 2147483647, rfl, rfl, (by show (0 : Int) < 2147483647; decide), _, rfl, r, _, 2, 2, rfl, rfl, h1.g0, rfl, ?_⟩
      refine ⟨_, rfl, r, _, 2, .int ((m * 48271 + 11) % 2147483647), rfl, rfl, sqm h2.g0, rfl, _, 7, rfl, rfl, ⟨by decide, by decide⟩, _, rfl, _, k, rfl, rfl, hk, ?_⟩
      exact q _ _ _ _ h2 ⟨⟨ns, hS⟩, by omega⟩ (Int.emod_nonneg _ (by omega)) (Int.emod_lt_of_pos _ hk)
    · have hl : (i + 1 - 1).toNat < ns.length := by
        rw [List.length_map] at c
        omega
      have e1 : (i + 1 - 1 : Int) = (((i + 1 - 1).toNat : Nat) : Int) := by omega
      have hz : (ns.map V.int)[(i + 1 - 1).toNat]? = some (.int ns[(i + 1 - 1).toNat]) := by
        rw [List.getElem?_map, List.getElem?_eq_getElem hl]
        rfl
      have h2 := h1.set0 (o' := rowO a (i + 1) ((m * 48271 + ns[(i + 1 - 1).toNat] + 11) % 2147483647))
      refine ⟨_, rfl, r, _, 0, .ref a, rfl, rfl, sqm h1.g0, rfl, _, rfl, r, _, 1, .int (i + 1), rfl, rfl, sqm h1.g0, rfl, _, 1, rfl, rfl, a, _, _, _, rfl, rfl, h1.sl hS, at_of e1 hz, ?_⟩
      refine ⟨_, rfl, r, _, 2, .int m, rfl, rfl, sqm h1.g0, rfl, m, 48271, rfl, rfl, .inr ⟨by decide, by decide⟩, _, rfl, _, _, rfl, rfl, _, 11, rfl, rfl, _, 2147483647, rfl, rfl, (by show (0 : Int) < 2147483647; decide), _, rfl, r, _, 2, 2, rfl, rfl, h1.g0, rfl, ?_⟩
      refine ⟨_, rfl, _, rfl, _, k, rfl, rfl, hk, ?_⟩
      exact q _ _ _ _ h2 ⟨⟨ns, hS⟩, by omega⟩ (Int.emod_nonneg _ (by omega)) (Int.emod_lt_of_pos _ hk)
end
end RL
namespace RL
open PySem PySem.Spec PyProof.Rows L2
/-- a row's words -/
def goodRow (ns : List Int) : Prop := ns.length ≤ 11 ∧ ∀ n ∈ ns, 0 ≤ n ∧ n ≤ 999999999
def sp_rowof (K : PySem.W.Frag) : Sp := fun vs H Q _ => ∃ (r a : Addr) (i m : Int) (L : ML) (I : Hp), vs = [.ref r] ∧ Hs ((r, rowO a i m) :: L) I H ∧ RowOk K I a i ∧
  ∀ H' i' m' p ns, Hs ((p, .lst (ns.map V.int)) :: (r, rowO a i' m') :: L) I H' → RowOk K I a i' → goodRow ns → Q (.ref p) H'
section
variable {P : Program} {w : World} {K : PySem.W.Frag} {mg : Str → Option Value} {base : Heap}
theorem ok_rowof (T : Tx K mg) : Ok P w K mg base 2 (a_l_row_of K) p_l_row_of (sp_rowof K) := by
  have G_l_taken := ok_taken (P := P) (w := w) (base := base) T
  refine ok_of T.d_l_row_of sc_l_row_of bd_l_row_of (fun vs H Q E h => ?_) (fun cdv A outer s H vs Q E hr tk po h => ?_)
  · obtain ⟨r, a, i, m, L, I, rfl, _⟩ := h
    rfl
  · obtain ⟨r, a, i, m, L, I, rfl, h, ro, q⟩ := h
    refine ⟨_, (pss_cons (ps_set (i := 1) sc_l_row_of.nd rfl (Or.inl rfl) (pe_lst pa_nil))
    (pss_cons (ps_for po rfl (pi_range1 (by rfl) T.b_range (pa_cons (pe_callO G_l_taken (hr.mono (by first | decide | omega)) T.g_l_taken (passAt tk) (pa_cons (pv 0) (pa_cons (pe_ix ix_list (pe_lst (pa_cons pe_int (pa_cons pe_int pa_nil))) (pe_callO G_l_taken (hr.mono (by first | decide | omega)) T.g_l_taken (passAt tk) (pa_cons (pv 0) (pa_cons pe_int pa_nil))) (fun _ _ => rfl)) pa_nil))) pa_nil)) (pg_name (i := 2) sc_l_row_of.nd rfl (Or.inl rfl))
    (pss_one (ps_expr (pe_bm PySem.F.plainAttrs_list PySem.F.slot_list_append PySem.F.type_list_append mt_append (pv 1) (pa_cons (pe_callO G_l_taken (hr.mono (by first | decide | omega)) T.g_l_taken (passAt tk) (pa_cons (pv 0) (pa_cons (pe_ix ix_list (pe_lst (pa_cons pe_int (pa_cons pe_int (pa_cons pe_int pa_nil)))) (pe_callO G_l_taken (hr.mono (by first | decide | omega)) T.g_l_taken (passAt tk) (pa_cons (pv 0) (pa_cons pe_int pa_nil))) (fun _ _ => rfl)) pa_nil))) pa_nil)))))
    (pss_one (ps_ret (pv 1))))), ?_⟩
    refine ⟨szl (by simp), fun f hf => ?_⟩
    have h1 := h.newM (o := .lst (([] : List Int).map V.int)) hf
    -- how many
    refine ⟨_, rfl, szl (by simp), fun p hp => ?_⟩
    have h2 := (h1.newM (o := .lst (([4, 12] : List Int).map V.int)) hp).m2
    refine ⟨_, rfl, r, a, i, m, 2, _, I, rfl, h2, ro, by decide, fun H3 i3 m3 v3 h3 ro3 lo3 hi3 => ?_⟩
    obtain ⟨x, ex, hx⟩ := at2 (x := .int 4) (y := .int 12) lo3 hi3
    obtain ⟨c, rfl, hc⟩ : ∃ c, x = .int c ∧ 0 < c ∧ c ≤ 12 := by
      rcases hx with e | e
      · exact ⟨4, e, by decide, by decide⟩
      · exact ⟨12, e, by decide, by decide⟩
    refine ⟨p, _, _, _, rfl, rfl, sqm h3.g1, ex, ?_⟩
    refine ⟨r, a, i3, m3, c, _, I, rfl, h3, ro3, hc.1, fun H4 i4 m4 v4 h4 ro4 lo4 hi4 => ?_⟩
    have h4 := h4.m1.drop
    refine ⟨v4, rfl, by omega, by omega, for_range (lo := 0) (fun j σ H' => ∃ i' m' ns z, σ = [some (.ref r), some (.ref f), z] ∧ Hs ((r, rowO a i' m') :: (f, .lst (ns.map V.int)) :: L) I H' ∧ RowOk K I a i' ∧ ns.length = j ∧ ∀ n ∈ ns, 0 ≤ n ∧ n ≤ 999999999)
      ⟨i4, m4, [], none, rfl, h4, ro4, rfl, (fun _ h => nomatch h)⟩ ?_ ?_⟩
    · rintro j σ H5 hj ⟨i5, m5, ns, z, rfl, h5, ro5, hl, hb⟩
      refine ⟨_, rfl, .inl ⟨rfl, _, sqm h5.g1⟩, _, rfl, szl (by simp), fun p hp => ?_⟩
      have h6 := (h5.newM (o := .lst (([3, 100, 1000000000] : List Int).map V.int)) hp).m1
      refine ⟨_, rfl, r, a, i5, m5, 3, _, I, rfl, h6, ro5, by decide, fun H7 i7 m7 v7 h7 ro7 lo7 hi7 => ?_⟩
      obtain ⟨x, ex, hx⟩ := at3 (x := .int 3) (y := .int 100) (z := .int 1000000000) lo7 hi7
      obtain ⟨c, rfl, hc⟩ : ∃ c, x = .int c ∧ 0 < c ∧ c ≤ 1000000000 := by
        rcases hx with e | e | e
        · exact ⟨3, e, by decide, by decide⟩
        · exact ⟨100, e, by decide, by decide⟩
        · exact ⟨1000000000, e, by decide, by decide⟩
      refine ⟨p, _, _, _, rfl, rfl, sqm h7.g1, ex, ?_⟩
      refine ⟨r, a, i7, m7, c, _, I, rfl, h7, ro7, hc.1, fun H8 i8 m8 v8 h8 ro8 lo8 hi8 => ?_⟩
      have h8 := h8.m1.drop
      refine ⟨f, _, _, rfl, rfl, h8.g1, szlt (by rw [List.length_map]; omega), i8, m8, ns ++ [v8], _, rfl, ?_, ro8, by simp [hl], ?_⟩
      · rw [map_snoc]
        exact h8.set1
      · intro n hn
        rcases List.mem_append.mp hn with hn | hn
        · exact hb n hn
        · rw [List.mem_singleton.mp hn]
          omega
    · rintro σ H5 ⟨i5, m5, ns, z, rfl, h5, ro5, hl, hb⟩
      exact ⟨_, rfl, q _ _ _ f ns h5.m1 ro5 ⟨by omega, hb⟩⟩
end
end RL
namespace RL
open PySem PySem.Spec PyProof.Rows L2
/-- alike things: True -/
def sp_alike (n : Nat) : Sp := fun vs H Q _ => ∃ (x y : V) (d : PyData), vs = [x, y] ∧ Rp H x d ∧ Rp H y d ∧ okD n d ∧ ∀ H', Same H H' → Q (.bl true) H'
section
variable {P : Program} {w : World} {K : PySem.W.Frag} {mg : Str → Option Value} {base : Heap}
theorem ok_alike_step (T : Tx K mg) {n : Nat} {sp0 : Sp} (G_l_alike : Ok P w K mg base n (a_l_alike K) p_l_alike sp0) (h0 : ∀ m, n = m + 1 → sp0 = sp_alike m) : Ok P w K mg base (n + 1) (a_l_alike K) p_l_alike (sp_alike n) := by
  refine ok_of T.d_l_alike sc_l_alike bd_l_alike (fun vs H Q E h => ?_) (fun cdv A outer s H vs Q E hr tk po h => ?_)
  · obtain ⟨x, y, d, rfl, _⟩ := h
    rfl
  · obtain ⟨x, y, d, rfl, hx, hy, hd, q⟩ := h
    have hu64 := hr.units
    have hr0 : Room n _ := hr
    refine ⟨_, (pss_cons (ps_if (PW.pt (pw_or (pt_val (pe_callB call_isi (by rfl) T.b_isinstance boot_isinstance (pa_cons (pv 1) (pa_cons (pe_bltn (v := .ty "tuple") (by rfl) T.b_tuple boot_tuple rfl) pa_nil)))) (pw_or1 (pt_val (pe_callB call_isi (by rfl) T.b_isinstance boot_isinstance (pa_cons (pv 1) (pa_cons (pe_bltn (v := .ty "list") (by rfl) T.b_list boot_list rfl) pa_nil)))))))
    (pss_cons (ps_if (PW.pt (pw_or (pt_cmpR op_ne (pe_callB call_isi (by rfl) T.b_isinstance boot_isinstance (pa_cons (pv 0) (pa_cons (pe_bltn (v := .ty "tuple") (by rfl) T.b_tuple boot_tuple rfl) pa_nil))) (pe_callB call_isi (by rfl) T.b_isinstance boot_isinstance (pa_cons (pv 1) (pa_cons (pe_bltn (v := .ty "tuple") (by rfl) T.b_tuple boot_tuple rfl) pa_nil))) (nomark _)) (pw_or1 (pt_not (pt_val (pe_callB call_isiT (by rfl) T.b_isinstance boot_isinstance (pa_cons (pv 0) (pa_cons (pe_tup (pa_cons (pe_bltn (v := .ty "tuple") (by rfl) T.b_tuple boot_tuple rfl) (pa_cons (pe_bltn (v := .ty "list") (by rfl) T.b_list boot_list rfl) pa_nil))) pa_nil))))))))
    (pss_one (ps_ret pe_bl))
    pss_nil)
    (pss_cons (ps_if (pt_cmpR op_ne (pe_callB call_len_seq (by rfl) T.b_len PySem.boot_len (pa_cons (pv 0) pa_nil)) (pe_callB call_len_seq (by rfl) T.b_len PySem.boot_len (pa_cons (pv 1) pa_nil)) (nomark _))
    (pss_one (ps_ret pe_bl))
    pss_nil)
    (pss_one (ps_ret (pe_cmpR (op_eqD hu64) (pe_lc (own := [("_law_k", 2)]) rfl sc_l_alike.nd (pi_range1 (by rfl) T.b_range (pa_cons (pe_callB call_len_seq (by rfl) T.b_len PySem.boot_len (pa_cons (pv 1) pa_nil)) pa_nil)) (blkOk_by (own := [("_law_k", 2)]) (N := n_l_alike) (sc := defScope s_l_alike) (by decide +kernel)) (fun _ _ _ _ _ => (pg_name (i := 2) sc_l_alike.nd rfl (Or.inl rfl))) (fun _ _ _ _ _ => (pts_one (pt_not (pt_val (pe_callO G_l_alike (hr.mono (by first | decide | omega)) T.g_l_alike passN (pa_cons (pe_ix (ix_seq_q K rfl) (pv 0) (pv 2) (fun _ _ => rfl)) (pa_cons (pe_ix (ix_seq_q K rfl) (pv 1) (pv 2) (fun _ _ => rfl)) pa_nil))))))) (fun _ _ _ _ _ => (pv 2))) (pe_lst pa_nil) (nomark _))))))
    pss_nil)
    (pss_cons (ps_if (PW.pt (pw_or (pt_cmp (pc_isN (pv 1)) rfl) (pw_or1 (pt_cmp (pc_isN (pv 0)) rfl))))
    (pss_one (ps_ret (pe_and (pe_cmp (pc_isN (pv 1)) rfl) (pe_one (pe_cmp (pc_isN (pv 0)) rfl)))))
    pss_nil)
    (pss_cons (ps_if (PW.pt (pw_or (pt_val (pe_callB call_isi (by rfl) T.b_isinstance boot_isinstance (pa_cons (pv 1) (pa_cons (pe_bltn (v := .ty "bool") (by rfl) T.b_bool boot_bool rfl) pa_nil)))) (pw_or1 (pt_val (pe_callB call_isi (by rfl) T.b_isinstance boot_isinstance (pa_cons (pv 0) (pa_cons (pe_bltn (v := .ty "bool") (by rfl) T.b_bool boot_bool rfl) pa_nil)))))))
    (pss_one (ps_ret (pe_and (pe_callB call_isi (by rfl) T.b_isinstance boot_isinstance (pa_cons (pv 1) (pa_cons (pe_bltn (v := .ty "bool") (by rfl) T.b_bool boot_bool rfl) pa_nil))) (pe_and (pe_callB call_isi (by rfl) T.b_isinstance boot_isinstance (pa_cons (pv 0) (pa_cons (pe_bltn (v := .ty "bool") (by rfl) T.b_bool boot_bool rfl) pa_nil))) (pe_one (pe_cmpR op_eq (pv 0) (pv 1) (nomark _)))))))
    pss_nil)
    (pss_cons (ps_if (pt_val (pe_callB call_isi (by rfl) T.b_isinstance boot_isinstance (pa_cons (pv 1) (pa_cons (pe_bltn (v := .ty "str") (by rfl) T.b_str boot_str rfl) pa_nil))))
    (pss_one (ps_ret (pe_and (pe_callB call_isi (by rfl) T.b_isinstance boot_isinstance (pa_cons (pv 0) (pa_cons (pe_bltn (v := .ty "str") (by rfl) T.b_str boot_str rfl) pa_nil))) (pe_one (pe_cmpR op_eq (pv 0) (pv 1) (nomark _))))))
    pss_nil)
    (pss_one (ps_ret (pe_and (pe_callB call_isi (by rfl) T.b_isinstance boot_isinstance (pa_cons (pv 0) (pa_cons (pe_bltn (v := .ty "int") (by rfl) T.b_int boot_int rfl) pa_nil))) (pe_one (pe_cmpR op_eq (pv 0) (pv 1) (nomark _)))))))))), ?_⟩
    cases d with
    | none =>
      cases hx
      cases hy
      refine ⟨_, rfl, ?_⟩
      refine ⟨_, _, .type "NoneType", .type "tuple", false, rfl, .ty _, .base .non, kb_NoneType_tuple, ?_⟩
      refine ⟨false, rfl, if_f rfl ⟨_, rfl, ?_⟩⟩
      refine ⟨_, _, .type "NoneType", .type "list", false, rfl, .ty _, .base .non, kb_NoneType_list, ?_⟩
      refine ⟨false, rfl, if_f rfl ?_⟩
      refine ⟨_, rfl, _, rfl, if_t rfl ⟨_, rfl, _, rfl, if_t rfl ⟨_, rfl, q _ (Same.refl _)⟩⟩⟩
    | bool b =>
      cases hx
      cases hy
      refine ⟨_, rfl, ?_⟩
      refine ⟨_, _, .type "bool", .type "tuple", false, rfl, .ty _, .base (.bl b), kb_bool_tuple, ?_⟩
      refine ⟨false, rfl, if_f rfl ⟨_, rfl, ?_⟩⟩
      refine ⟨_, _, .type "bool", .type "list", false, rfl, .ty _, .base (.bl b), kb_bool_list, ?_⟩
      refine ⟨false, rfl, if_f rfl ?_⟩
      refine ⟨_, rfl, _, rfl, if_f rfl ⟨_, rfl, _, rfl, if_f rfl ?_⟩⟩
      refine ⟨_, rfl, ?_⟩
      refine ⟨_, _, .type "bool", .type "bool", true, rfl, .ty _, .base (.bl b), kb_bool_bool, ?_⟩
      refine ⟨true, rfl, if_t rfl (if_t rfl ⟨_, rfl, ?_⟩)⟩
      refine ⟨_, _, .type "bool", .type "bool", true, rfl, .ty _, .base (.bl b), kb_bool_bool, ?_⟩
      refine ⟨true, rfl, if_t rfl ⟨_, rfl, ?_⟩⟩
      refine ⟨_, _, .type "bool", .type "bool", true, rfl, .ty _, .base (.bl b), kb_bool_bool, ?_⟩
      refine ⟨true, rfl, if_t rfl ⟨_, rfl, _, rfl, rfl, ?_⟩⟩
      rw [decide_eq_true rfl]
      exact q _ (Same.refl _)
    | int i =>
      cases hx
      cases hy
      refine ⟨_, rfl, ?_⟩
      refine ⟨_, _, .type "int", .type "tuple", false, rfl, .ty _, .base (.int i), kb_int_tuple, ?_⟩
      refine ⟨false, rfl, if_f rfl ⟨_, rfl, ?_⟩⟩
      refine ⟨_, _, .type "int", .type "list", false, rfl, .ty _, .base (.int i), kb_int_list, ?_⟩
      refine ⟨false, rfl, if_f rfl ?_⟩
      refine ⟨_, rfl, _, rfl, if_f rfl ⟨_, rfl, _, rfl, if_f rfl ?_⟩⟩
      refine ⟨_, rfl, ?_⟩
      refine ⟨_, _, .type "int", .type "bool", false, rfl, .ty _, .base (.int i), kb_int_bool, ?_⟩
      refine ⟨false, rfl, if_f rfl ⟨_, rfl, ?_⟩⟩
      refine ⟨_, _, .type "int", .type "bool", false, rfl, .ty _, .base (.int i), kb_int_bool, ?_⟩
      refine ⟨false, rfl, if_f rfl ?_⟩
      refine ⟨_, rfl, ?_⟩
      refine ⟨_, _, .type "int", .type "str", false, rfl, .ty _, .base (.int i), kb_int_str, ?_⟩
      refine ⟨false, rfl, if_f rfl ⟨_, rfl, ?_⟩⟩
      refine ⟨_, _, .type "int", .type "int", true, rfl, .ty _, .base (.int i), kb_int_int, ?_⟩
      refine ⟨true, rfl, if_t rfl ⟨_, rfl, _, rfl, rfl, ?_⟩⟩
      rw [decide_eq_true rfl]
      exact q _ (Same.refl _)
    | str z =>
      cases hx
      cases hy
      refine ⟨_, rfl, ?_⟩
      refine ⟨_, _, .type "str", .type "tuple", false, rfl, .ty _, .base (.str z), kb_str_tuple, ?_⟩
      refine ⟨false, rfl, if_f rfl ⟨_, rfl, ?_⟩⟩
      refine ⟨_, _, .type "str", .type "list", false, rfl, .ty _, .base (.str z), kb_str_list, ?_⟩
      refine ⟨false, rfl, if_f rfl ?_⟩
      refine ⟨_, rfl, _, rfl, if_f rfl ⟨_, rfl, _, rfl, if_f rfl ?_⟩⟩
      refine ⟨_, rfl, ?_⟩
      refine ⟨_, _, .type "str", .type "bool", false, rfl, .ty _, .base (.str z), kb_str_bool, ?_⟩
      refine ⟨false, rfl, if_f rfl ⟨_, rfl, ?_⟩⟩
      refine ⟨_, _, .type "str", .type "bool", false, rfl, .ty _, .base (.str z), kb_str_bool, ?_⟩
      refine ⟨false, rfl, if_f rfl ?_⟩
      refine ⟨_, rfl, ?_⟩
      refine ⟨_, _, .type "str", .type "str", true, rfl, .ty _, .base (.str z), kb_str_str, ?_⟩
      refine ⟨true, rfl, if_t rfl ⟨_, rfl, ?_⟩⟩
      refine ⟨_, _, .type "str", .type "str", true, rfl, .ty _, .base (.str z), kb_str_str, ?_⟩
      refine ⟨true, rfl, if_t rfl ⟨_, rfl, _, rfl, rfl, ?_⟩⟩
      rw [decide_eq_true rfl]
      exact q _ (Same.refl _)
    | dict kvs => cases n <;> cases hd
    | list ds =>
      obtain ⟨m, rfl⟩ : ∃ m, n = m + 1 := by
        cases n with
        | zero => cases hd
        | succ m => exact ⟨m, rfl⟩
      obtain rfl := h0 m rfl
      obtain ⟨hl, hd⟩ := hd
      obtain ⟨a, xs, rfl, ha, hxs⟩ := hx.lstI
      obtain ⟨b, ys, rfl, hb, hys⟩ := hy.lstI
      have lx := hxs.length
      have ly := hys.length
      refine ⟨_, rfl, ?_⟩
      refine ⟨_, _, .type "list", .type "tuple", false, rfl, .ty _, .base (.lst hb), kb_list_tuple, ?_⟩
      refine ⟨false, rfl, if_f rfl ⟨_, rfl, ?_⟩⟩
      refine ⟨_, _, .type "list", .type "list", true, rfl, .ty _, .base (.lst hb), kb_list_list, ?_⟩
      refine ⟨true, rfl, if_t rfl ?_⟩
      -- of one kind
      refine ⟨_, rfl, ?_⟩
      refine ⟨_, _, .type "list", .type "tuple", false, rfl, .ty _, .base (.lst ha), kb_list_tuple, ?_⟩
      refine ⟨_, rfl, ?_⟩
      refine ⟨_, _, .type "list", .type "tuple", false, rfl, .ty _, .base (.lst hb), kb_list_tuple, ?_⟩
      refine ⟨rfl, _, rfl, if_f rfl ⟨_, rfl, szl (by decide), fun t ht => ?_⟩⟩
      have sT : Same H (upd H t (.tup [.ty "tuple", .ty "list"])) := same_upd ht
      refine ⟨_, t, _, .type "list", [.type "tuple", .type "list"], true, rfl, upd_same, .cons (.ty _) (.cons (.ty _) .nil), .base (.lst (sT _ _ ha)), kit2 kb_list_tuple kb_list_list, _, rfl, if_f rfl ?_⟩
      -- of one length
      refine ⟨_, rfl, a, xs, rfl, .inl (sqm (sT _ _ ha)), _, rfl, b, ys, rfl, .inl (sqm (sT _ _ hb)), rfl, _, rfl, if_nd (fun _ => ?_) (fun c => absurd (by rw [lx, ly]) c)⟩
      refine ⟨_, rfl, b, ys, rfl, .inl (sqm (sT _ _ hb)), _, rfl, by omega, by omega, fun D nD => ?_⟩
      have sD : Same (upd H t (.tup [.ty "tuple", .ty "list"])) (upd (upd H t (.tup [.ty "tuple", .ty "list"])) D (.lst [])) := same_upd nD
      refine lc_range (lo := 0) (fun i H' => Same (upd (upd H t (.tup [.ty "tuple", .ty "list"])) D (.lst [])) H') (Same.refl _) ?_ ?_
      · intro i H1 hi s1
        have hi2 : i < ds.length := by
          rw [← ly]
          exact hi
        obtain ⟨vx, ex, rx⟩ := hxs.get (List.getElem?_eq_getElem hi2)
        obtain ⟨vy, ey, ry⟩ := hys.get (List.getElem?_eq_getElem hi2)
        have sA : Same H H1 := (sT.trans sD).trans s1
        refine ⟨rfl, _, rfl, _, rfl, .inl ⟨a, xs, _, vx, rfl, rfl, sqm (sA _ _ ha), at_of (by omega) ex, _, rfl, _, rfl, .inl ⟨b, ys, _, vy, rfl, rfl, sqm (sA _ _ hb), at_of (by omega) ey, ?_⟩⟩⟩
        refine ⟨vx, vy, ds[i], rfl, rx.mono sA, ry.mono sA, hd _ (List.getElem_mem hi2), fun H2 s2 => ⟨true, rfl, if_f rfl (s1.trans s2)⟩⟩
      · intro H1 s1
        refine ⟨szl (by decide), fun p hp => ?_⟩
        have eD : (upd H1 p (.lst [])) D = some (.lst []) := (same_upd hp) _ _ (s1 _ _ upd_same)
        refine ⟨.list [], .list [], .lst (sqm eD) .nil, .lst (sqm upd_same) .nil, by decide +kernel, by decide +kernel, ?_⟩
        exact q _ (((sT.trans sD).trans s1).trans (same_upd hp))
    | tuple ds =>
      obtain ⟨m, rfl⟩ : ∃ m, n = m + 1 := by
        cases n with
        | zero => cases hd
        | succ m => exact ⟨m, rfl⟩
      obtain rfl := h0 m rfl
      obtain ⟨hl, hd⟩ := hd
      obtain ⟨a, xs, rfl, ha, hxs⟩ := hx.tupI
      obtain ⟨b, ys, rfl, hb, hys⟩ := hy.tupI
      have lx := hxs.length
      have ly := hys.length
      refine ⟨_, rfl, ?_⟩
      refine ⟨_, _, .type "tuple", .type "tuple", true, rfl, .ty _, .base (.tup hb), kb_tuple_tuple, ?_⟩
      refine ⟨true, rfl, if_t rfl (if_t rfl ?_)⟩
      refine ⟨_, rfl, ?_⟩
      refine ⟨_, _, .type "tuple", .type "tuple", true, rfl, .ty _, .base (.tup ha), kb_tuple_tuple, ?_⟩
      refine ⟨_, rfl, ?_⟩
      refine ⟨_, _, .type "tuple", .type "tuple", true, rfl, .ty _, .base (.tup hb), kb_tuple_tuple, ?_⟩
      refine ⟨rfl, _, rfl, if_f rfl ⟨_, rfl, szl (by decide), fun t ht => ?_⟩⟩
      have sT : Same H (upd H t (.tup [.ty "tuple", .ty "list"])) := same_upd ht
      refine ⟨_, t, _, .type "tuple", [.type "tuple", .type "list"], true, rfl, upd_same, .cons (.ty _) (.cons (.ty _) .nil), .base (.tup (sT _ _ ha)), kit2 kb_tuple_tuple kb_tuple_list, _, rfl, if_f rfl ?_⟩
      refine ⟨_, rfl, a, xs, rfl, .inr (sqt (sT _ _ ha)), _, rfl, b, ys, rfl, .inr (sqt (sT _ _ hb)), rfl, _, rfl, if_nd (fun _ => ?_) (fun c => absurd (by rw [lx, ly]) c)⟩
      refine ⟨_, rfl, b, ys, rfl, .inr (sqt (sT _ _ hb)), _, rfl, by omega, by omega, fun D nD => ?_⟩
      have sD : Same (upd H t (.tup [.ty "tuple", .ty "list"])) (upd (upd H t (.tup [.ty "tuple", .ty "list"])) D (.lst [])) := same_upd nD
      refine lc_range (lo := 0) (fun i H' => Same (upd (upd H t (.tup [.ty "tuple", .ty "list"])) D (.lst [])) H') (Same.refl _) ?_ ?_
      · intro i H1 hi s1
        have hi2 : i < ds.length := by
          rw [← ly]
          exact hi
        obtain ⟨vx, ex, rx⟩ := hxs.get (List.getElem?_eq_getElem hi2)
        obtain ⟨vy, ey, ry⟩ := hys.get (List.getElem?_eq_getElem hi2)
        have sA : Same H H1 := (sT.trans sD).trans s1
        refine ⟨rfl, _, rfl, _, rfl, .inr (.inl ⟨a, xs, _, vx, rfl, rfl, sqt (sA _ _ ha), at_of (by omega) ex, _, rfl, _, rfl, .inr (.inl ⟨b, ys, _, vy, rfl, rfl, sqt (sA _ _ hb), at_of (by omega) ey, ?_⟩)⟩)⟩
        refine ⟨vx, vy, ds[i], rfl, rx.mono sA, ry.mono sA, hd _ (List.getElem_mem hi2), fun H2 s2 => ⟨true, rfl, if_f rfl (s1.trans s2)⟩⟩
      · intro H1 s1
        refine ⟨szl (by decide), fun p hp => ?_⟩
        have eD : (upd H1 p (.lst [])) D = some (.lst []) := (same_upd hp) _ _ (s1 _ _ upd_same)
        refine ⟨.list [], .list [], .lst (sqm eD) .nil, .lst (sqm upd_same) .nil, by decide +kernel, by decide +kernel, ?_⟩
        exact q _ (((sT.trans sD).trans s1).trans (same_upd hp))
theorem ok_alike (T : Tx K mg) : ∀ n, Ok P w K mg base (n + 1) (a_l_alike K) p_l_alike (sp_alike n)
  | 0 => ok_alike_step T (ok_never T.d_l_alike bd_l_alike) (fun m e => by cases e)
  | n + 1 => ok_alike_step T (ok_alike T n) (fun m e => by cases e; rfl)
end
end RL
namespace RL
open PySem PySem.Spec PyProof.Rows L2
/-- a block's words -/
def mkB (n f b l : Int) (ds : List Int) : List Int := n :: f :: b :: l :: (ds ++ [n])
theorem mkB_v (n f b l : Int) (ds : List Int) : (mkB n f b l ds).map V.int = [V.int n, V.int f, V.int b, V.int l] ++ ds.map V.int ++ [V.int n] := by simp [mkB]
def kindN (ws : List Int) (p m : Int) : Str :=
  if ws.headD 0 = 0 ∧ ws.getLastD 0 = 0 then "empty" else if ws.headD 0 = ws.getLastD 0 ∧ m ≤ ws.headD 0 ∧ ws.headD 0 % m = p then "whole" else "torn"
theorem mkB_len (n f b l : Int) (ds : List Int) : (mkB n f b l ds).length = ds.length + 5 := by simp [mkB]
/-- the ends of a list of ints -/
theorem at_0 {ws : List Int} (h : ws ≠ []) : atI (ws.map V.int) 0 = some (.int (ws.headD 0)) := by
  cases ws with
  | nil => exact absurd rfl h
  | cons x r => exact atI_nat (j := 0) rfl
theorem at_last {ws : List Int} (h : ws ≠ []) : atI (ws.map V.int) (-1) = some (.int (ws.getLastD 0)) := by
  have e : ws.getLastD 0 = ws.getLast h := by
    rw [List.getLastD_eq_getLast?, List.getLast?_eq_some_getLast h]
    rfl
  rw [e]
  have hz : ws.map V.int = ws.dropLast.map V.int ++ [V.int (ws.getLast h)] := by
    rw [← List.map_singleton, ← List.map_append, List.dropLast_concat_getLast]
  rw [hz]
  exact atI_last _ _
end RL
namespace RL
open PySem PySem.Spec PyProof.Rows L2
def sp_made : Sp := fun vs H Q _ => ∃ (n f b l : Int) (d : Addr) (ds : List Int) (L : ML) (I : Hp), vs = [.int n, .int f, .int b, .int l, .ref d] ∧ Hs L I H ∧ H d = some (.lst (ds.map V.int)) ∧ ds.length ≤ 1000 ∧
  ∀ H' p, Hs ((p, .lst ((mkB n f b l ds).map V.int)) :: L) I H' → Same H H' → Q (.ref p) H'
section
variable {P : Program} {w : World} {K : PySem.W.Frag} {mg : Str → Option Value} {base : Heap}
theorem ok_made (T : Tx K mg) : Ok P w K mg base 1 (a_made K) p_made sp_made := by
  refine ok_of T.d_made sc_made bd_made (fun vs H Q E h => ?_) (fun cdv A outer s H vs Q E hr tk po h => ?_)
  · obtain ⟨n, f, b, l, d, ds, L, I, rfl, _⟩ := h
    rfl
  · obtain ⟨n, f, b, l, d, ds, L, I, rfl, h, hd, hl, q⟩ := h
    refine ⟨_, (pss_one (ps_ret (pe_op op_cat (pe_op op_cat (pe_lst (pa_cons (pv 0) (pa_cons (pv 1) (pa_cons (pv 2) (pa_cons (pv 3) pa_nil))))) (pe_callTy call_list_of (by rfl) T.b_list boot_list (pa_cons (pv 4) pa_nil))) (pe_lst (pa_cons (pv 0) pa_nil))))), ?_⟩
    refine ⟨_, rfl, _, rfl, _, rfl, _, rfl, szl (by simp), fun p1 hp1 => ?_⟩
    refine ⟨_, rfl, d, ds.map V.int, rfl, .inl (sqm (same_upd hp1 _ _ hd)), fun p2 hp2 => ?_⟩
    refine ⟨p1, p2, _, _, rfl, rfl, same_upd hp2 _ _ upd_same, upd_same, szl (by simp; omega), fun p3 hp3 => ?_⟩
    refine ⟨_, rfl, szl (by simp), fun p4 hp4 => ?_⟩
    refine ⟨p3, p4, _, _, rfl, rfl, same_upd hp4 _ _ upd_same, upd_same, szl (by simp; omega), fun p5 hp5 => ?_⟩
    refine q _ p5 ?_ ((((same_upd hp1).trans (same_upd hp2)).trans (same_upd hp3)).trans ((same_upd hp4).trans (same_upd hp5)))
    rw [mkB_v]
    exact ((((h.junk hp1).junk hp2).junk hp3).junk hp4).newM hp5
end
end RL
namespace RL
open PySem PySem.Spec PyProof.Rows L2
/-! a row in pieces -/
def dataN (ws : List Int) : List Int := ((ws.length : Int) :: ws) ++ [0, 0]
def pieceAt (d : List Int) (i : Nat) : List Int := (d.drop (3 * i)).take 3
def piecesN (ws : List Int) : List (List Int) := (List.range ((ws.length + 3) / 3)).map (pieceAt (dataN ws))
theorem dataN_len (ws : List Int) : (dataN ws).length = ws.length + 3 := by simp [dataN]
theorem piecesN_len (ws : List Int) : (piecesN ws).length = (ws.length + 3) / 3 := by simp [piecesN]
theorem piecesN_get {ws : List Int} {i : Nat} (h : i < (ws.length + 3) / 3) : (piecesN ws)[i]? = some (pieceAt (dataN ws) i) := by
  unfold piecesN
  rw [List.getElem?_map, List.getElem?_range h]
  rfl
theorem piece_len {ws : List Int} {i : Nat} (h : i < (ws.length + 3) / 3) : (pieceAt (dataN ws) i).length = 3 := by
  unfold pieceAt
  rw [List.length_take, List.length_drop, dataN_len]
  omega
theorem piecesN_mem {ws ds : List Int} (h : ds ∈ piecesN ws) : ds.length = 3 := by
  obtain ⟨i, hi, rfl⟩ := List.mem_map.mp h
  exact piece_len (List.mem_range.mp hi)
theorem piecesN_take {ws : List Int} {i : Nat} (h : i < (ws.length + 3) / 3) : (piecesN ws).take (i + 1) = (piecesN ws).take i ++ [pieceAt (dataN ws) i] := by
  rw [List.take_add_one, piecesN_get h]
  rfl
/-- the pieces together -/
theorem flat_pieces (d : List Int) : ∀ n, ((List.range n).map (pieceAt d)).flatten = d.take (3 * n)
  | 0 => by simp
  | n + 1 => by
    rw [List.range_succ, List.map_append, List.flatten_append, flat_pieces d n]
    show d.take (3 * n) ++ ((d.drop (3 * n)).take 3 ++ []) = _
    rw [List.append_nil, show 3 * (n + 1) = 3 * n + 3 by omega, List.take_add]
/-- the row of its blocks' data -/
def rowN (d : List Int) : List Int := (d.drop 1).take (d.headD 0).toNat
theorem rowN_pieces (ws : List Int) : rowN (piecesN ws).flatten = ws := by
  unfold piecesN
  rw [flat_pieces]
  obtain ⟨k, hk, hl⟩ : ∃ k, 3 * ((ws.length + 3) / 3) = k + 1 ∧ ws.length ≤ k := ⟨3 * ((ws.length + 3) / 3) - 1, by omega, by omega⟩
  rw [hk]
  unfold rowN dataN
  simp only [List.cons_append, List.take_succ_cons, List.drop_succ_cons, List.drop_zero, List.headD_cons, Int.toNat_natCast]
  rw [List.take_take, Nat.min_eq_left hl]
  simp
/-- padded with noughts to a multiple of three -/
theorem pad_piece {ws zs : List Int} {i : Nat} (hz : zs <+: [0, 0]) (h : 3 * i + 3 ≤ ws.length + 1 + zs.length) : ((((ws.length : Int) :: ws) ++ zs).drop (3 * i)).take 3 = pieceAt (dataN ws) i := by
  obtain ⟨t, ht⟩ := hz
  unfold pieceAt dataN
  have e : (((ws.length : Int) :: ws) ++ [0, 0] : List Int) = ((((ws.length : Int) :: ws) ++ zs) ++ t) := by rw [← ht, List.append_assoc]
  have hl : ((((ws.length : Int) :: ws) ++ zs)).length = ws.length + 1 + zs.length := by
    simp only [List.length_append, List.length_cons]
  rw [e]
  generalize ((((ws.length : Int) :: ws) ++ zs)) = A at hl
  rw [List.drop_append_of_le_length (by omega), List.take_append_of_le_length (by rw [List.length_drop]; omega)]
/-- a row's blocks: numbers from n on, floor f, begin b -/
def blocksF (n f b : Int) : List (List Int) → List (List Int)
  | [] => []
  | d :: r => mkB n f b (r.length : Int) d :: blocksF (n + 1) f b r
theorem blocksF_len : ∀ (n f b : Int) (ds : List (List Int)), (blocksF n f b ds).length = ds.length
  | _, _, _, [] => rfl
  | n, f, b, d :: r => by
    show (blocksF (n + 1) f b r).length + 1 = r.length + 1
    rw [blocksF_len]
theorem blocksF_get : ∀ {n f b : Int} {ds : List (List Int)} {k : Nat} {d : List Int}, ds[k]? = some d → (blocksF n f b ds)[k]? = some (mkB (n + k) f b ((ds.length - 1 - k : Nat) : Int) d)
  | n, f, b, [], k, d, h => by simp at h
  | n, f, b, e :: r, 0, d, h => by
    obtain rfl : e = d := by simpa using h
    show some (mkB n f b (r.length : Int) e) = _
    simp
  | n, f, b, e :: r, k + 1, d, h => by
    have ih := blocksF_get (n := n + 1) (f := f) (b := b) (ds := r) (k := k) (d := d) (by simpa using h)
    show (blocksF (n + 1) f b r)[k]? = _
    rw [ih, show n + 1 + (k : Int) = n + ((k + 1 : Nat) : Int) by omega, show (r.length - 1 - k : Nat) = ((e :: r).length - 1 - (k + 1) : Nat) by simp only [List.length_cons]; omega]
theorem blocksF_mem : ∀ {n f b : Int} {ds : List (List Int)} {x : List Int}, x ∈ blocksF n f b ds → ∃ k l d, d ∈ ds ∧ x = mkB k f b l d
  | n, f, b, d :: r, x, h => by
    rcases List.mem_cons.mp h with rfl | h
    · exact ⟨_, _, d, .head _, rfl⟩
    · obtain ⟨k, l, e, he, q⟩ := blocksF_mem h
      exact ⟨k, l, e, .tail _ he, q⟩
/-- the data of some blocks -/
def datas (bss : List (List Int)) : List Int := (bss.map fun b => (b.drop 4).take 3).flatten
theorem mkB_data {n f b l : Int} {d : List Int} (h : d.length = 3) : ((mkB n f b l d).drop 4).take 3 = d := by
  unfold mkB
  simp only [List.drop_succ_cons, List.drop_zero]
  rw [← h, List.take_left']
  rfl
theorem datas_blocksF : ∀ {n f b : Int} {ds : List (List Int)}, (∀ d ∈ ds, d.length = 3) → datas (blocksF n f b ds) = ds.flatten
  | n, f, b, [], _ => rfl
  | n, f, b, d :: r, h => by
    have ih := datas_blocksF (n := n + 1) (f := f) (b := b) (ds := r) fun e he => h e (.tail _ he)
    show ((mkB n f b (r.length : Int) d).drop 4).take 3 ++ datas (blocksF (n + 1) f b r) = d ++ r.flatten
    rw [ih, mkB_data (h d (.head _))]
theorem flat_head {ws : List Int} : (piecesN ws).flatten ≠ [] ∧ (piecesN ws).flatten.headD 0 = (ws.length : Int) := by
  unfold piecesN
  rw [flat_pieces]
  obtain ⟨k, hk⟩ : ∃ k, 3 * ((ws.length + 3) / 3) = k + 1 := ⟨3 * ((ws.length + 3) / 3) - 1, by omega⟩
  rw [hk]
  unfold dataN
  simp
end RL
namespace RL
open PySem PySem.Spec PyProof.Rows L2
def sp_lpieces : Sp := fun vs H Q _ => ∃ (c : Addr) (ws : List Int) (L : ML) (I : Hp), vs = [.ref c] ∧ Hs L I H ∧ H c = some (.lst (ws.map V.int)) ∧ ws.length ≤ 1000 ∧
  ∀ H' p as, as.length = (piecesN ws).length → Hs ((p, .lst (as.map V.ref)) :: (pts as (piecesN ws) ++ L)) I H' → Same H H' → Q (.ref p) H'
theorem dataN_v (ws : List Int) : [V.int ((ws.map V.int).length : Nat)] ++ ws.map V.int ++ [V.int 0, V.int 0] = (dataN ws).map V.int := by simp [dataN]
section
variable {P : Program} {w : World} {K : PySem.W.Frag} {mg : Str → Option Value} {base : Heap}
theorem ok_lpieces (T : Tx K mg) : Ok P w K mg base 1 (a_l_pieces K) p_l_pieces sp_lpieces := by
  refine ok_of T.d_l_pieces sc_l_pieces bd_l_pieces (fun vs H Q E h => ?_) (fun cdv A outer s H vs Q E hr tk po h => ?_)
  · obtain ⟨c, ws, L, I, rfl, _⟩ := h
    rfl
  · obtain ⟨c, ws, L, I, rfl, h, hc, hl, q⟩ := h
    refine ⟨_, (pss_cons (ps_set (i := 1) sc_l_pieces.nd rfl (Or.inr rfl) (pe_op op_cat (pe_op op_cat (pe_lst (pa_cons (pe_callB call_len_seq (by rfl) T.b_len PySem.boot_len (pa_cons (pv 0) pa_nil)) pa_nil)) (pv 0)) (pe_lst (pa_cons pe_int (pa_cons pe_int pa_nil)))))
    (pss_one (ps_ret (pe_lc (own := [("_law_at", 2)]) rfl sc_l_pieces.nd (pi_range3 (by rfl) T.b_range (pa_cons pe_int (pa_cons (pe_op op_add (pe_callB call_len_seq (by rfl) T.b_len PySem.boot_len (pa_cons (pv 0) pa_nil)) pe_int) (pa_cons pe_int pa_nil)))) (blkOk_by (own := [("_law_at", 2)]) (N := n_l_pieces) (sc := defScope s_l_pieces) (by decide +kernel)) (fun _ _ _ _ _ => (pg_name (i := 2) sc_l_pieces.nd rfl (Or.inl rfl))) (fun _ _ _ _ _ => pts_nil) (fun _ _ _ _ _ => (pe_slice (sl_list_q K rfl) (pv 1) (po_some (pv 2)) (po_some (pe_op op_add (pv 2) pe_int)))))))), ?_⟩
    -- data
    refine ⟨_, rfl, c, _, rfl, .inl (sqm hc), szl (by simp), fun p1 hp1 => ?_⟩
    refine ⟨_, rfl, p1, c, _, _, rfl, rfl, upd_same, same_upd hp1 _ _ hc, szl (by simp; omega), fun p2 hp2 => ?_⟩
    refine ⟨szl (by simp), fun p3 hp3 => ?_⟩
    refine ⟨p2, p3, _, _, rfl, rfl, same_upd hp3 _ _ upd_same, upd_same, szl (by simp; omega), fun d hd => ?_⟩
    have h1 := ((((h.junk hp1).junk hp2).junk hp3).newM hd).cast (congrArg HO.lst (dataN_v ws))
    have s1 : Same H _ := (((same_upd hp1).trans (same_upd hp2)).trans (same_upd hp3)).trans (same_upd (o := .lst ([V.int ((ws.map V.int).length : Nat)] ++ ws.map V.int ++ [V.int 0, V.int 0])) hd)
    -- the slices
    have hc1 := s1 _ _ hc
    refine ⟨_, rfl, c, ws.map V.int, rfl, .inl (sqm hc1), _, 1, rfl, rfl, 0, _, 3, _, rfl, rgc3 (by omega) (by rw [List.length_map]; omega), fun D hD => ?_⟩
    have en : ((((ws.map V.int).length : Int) + 1).toNat + 2) / 3 = (ws.length + 3) / 3 := by
      rw [List.length_map]
      omega
    rw [en]
    refine lc_rangeC (fun i H' => ∃ as, as.length = i ∧ Hs ((D, .lst (as.map V.ref)) :: (pts as ((piecesN ws).take i) ++ ((d, .lst ((dataN ws).map V.int)) :: L))) I H' ∧ Same H H') ⟨[], rfl, h1.newM hD, s1.trans (same_upd hD)⟩ ?_ ?_
    · rintro i H1 hi ⟨as, ha, h2, s2⟩
      have hdd := h2.gm (p := d) (.tail _ (List.mem_append_right _ (.head _)))
      refine ⟨rfl, _, rfl, _, rfl, _, rfl, _, rfl, _, 3, rfl, rfl, _, rfl, d, _, rfl, sqm hdd, fun x hx => ?_⟩
      have e0 : (0 : Int) + (i : Nat) * 3 = ((3 * i : Nat) : Int) := by omega
      have h3 := (h2.newM (o := .lst (cutV ((dataN ws).map V.int) (some (0 + (i : Nat) * 3)) (some (0 + (i : Nat) * 3 + 3)))) hx).cast (o' := .lst ((pieceAt (dataN ws) i).map V.int)) (by
        rw [e0, cut_mid (by omega) (by omega), map_drop, map_take]
        unfold pieceAt
        congr 3
        omega)
      refine ⟨_, h3.g1, szlt (by rw [List.length_map, ha]; omega), as ++ [x], by rw [List.length_append, ha]; rfl, ?_, ?_⟩
      · rw [piecesN_take hi, pts_snoc (by rw [List.length_take, piecesN_len, ha]; omega), List.append_assoc, List.map_append]
        exact (h3.set1.m1.perm ((List.perm_middle).symm.cons _))
      · exact same_mut (s2.trans (same_upd hx)) (s1.free hD)
    · rintro H1 ⟨as, ha, h2, s2⟩
      have e1 : (piecesN ws).take ((ws.length + 3) / 3) = piecesN ws := List.take_of_length_le (by rw [piecesN_len]; exact Nat.le_refl _)
      rw [e1] at h2
      refine q H1 D as (by rw [piecesN_len]; exact ha) ?_ s2
      exact (h2.perm ((List.perm_middle).cons _)).m1.drop
end
end RL
namespace RL
open PySem PySem.Spec PyProof.Rows L2
def sp_words_of : Sp := fun vs H Q _ => ∃ (c : Addr) (bss : List (List Int)) (L : ML) (I : Hp), vs = [.ref c] ∧ Hs L I H ∧ Rp H (.ref c) (dII bss) ∧ bss.length ≤ 100 ∧ (∀ b ∈ bss, b.length ≤ 100) ∧ datas bss ≠ [] ∧ 0 ≤ (datas bss).headD 0 ∧
  ∀ H' p, Hs ((p, .lst ((rowN (datas bss)).map V.int)) :: L) I H' → Same H H' → Q (.ref p) H'
theorem datas_take {bss : List (List Int)} {i : Nat} {b : List Int} (h : bss[i]? = some b) : datas (bss.take (i + 1)) = datas (bss.take i) ++ (b.drop 4).take 3 := by
  unfold datas
  rw [List.take_add_one, h, List.map_append, List.flatten_append]
  simp
theorem datas_len : ∀ (bss : List (List Int)), (datas bss).length ≤ 3 * bss.length
  | [] => Nat.le_refl 0
  | b :: bss => by
    have ih := datas_len bss
    show (((b.drop 4).take 3) ++ datas bss).length ≤ _
    rw [List.length_append, List.length_take, List.length_cons]
    omega
section
variable {P : Program} {w : World} {K : PySem.W.Frag} {mg : Str → Option Value} {base : Heap}
theorem ok_words_of (T : Tx K mg) : Ok P w K mg base 1 (a_words_of K) p_words_of sp_words_of := by
  refine ok_of T.d_words_of sc_words_of bd_words_of (fun vs H Q E h => ?_) (fun cdv A outer s H vs Q E hr tk po h => ?_)
  · obtain ⟨c, bss, L, I, rfl, _⟩ := h
    rfl
  · obtain ⟨c, bss, L, I, rfl, h, hc, hl, hb, hd, hd0, q⟩ := h
    obtain ⟨t3, ht3⟩ := T.i_DATA
    refine ⟨_, (pss_cons (ps_set (i := 1) sc_words_of.nd rfl (Or.inl rfl) (pe_lst pa_nil))
    (pss_cons (ps_for po rfl (pi_list (pv 0)) (pg_name (i := 2) sc_words_of.nd rfl (Or.inl rfl))
    (pss_one (ps_set (i := 1) sc_words_of.nd rfl (Or.inl rfl) (pe_op op_cat (pv 1) (pe_slice sl_list (pv 2) (po_some pe_int) (po_some (pe_op op_add pe_int (pe_glob (v := .int 3) rfl T.i_DATA.choose_spec ⟨_, rfl⟩))))))))
    (pss_one (ps_ret (pe_slice sl_list (pv 1) (po_some pe_int) (po_some (pe_op op_add pe_int (pe_ix ix_list (pv 1) pe_int (fun _ _ => rfl))))))))), ?_⟩
    obtain ⟨c', vs, e, hcv, hr2⟩ := hc.lstI
    cases e
    refine ⟨szl (by simp), fun p0 hp0 => ?_⟩
    refine ⟨_, rfl, c, rfl, ⟨_, sqm (same_upd hp0 _ _ hcv)⟩, for_list (xs := vs) (fun i σ H' => ∃ p z, σ = [some (.ref c), some (.ref p), z] ∧ Same H H' ∧ H' p = some (.lst ((datas (bss.take i)).map V.int)))
      ⟨p0, none, rfl, same_upd hp0, upd_same⟩ (fun i σ H' _ ⟨_, _, _, s', _⟩ => sqm (s' _ _ hcv)) ?_ ?_⟩
    · rintro i x σ H1 hx ⟨p, z, rfl, s1, hp⟩
      obtain ⟨d, hdi, rx⟩ := hr2.getV hx
      rw [List.getElem?_map] at hdi
      cases hbi : bss[i]? with
      | none =>
        rw [hbi] at hdi
        cases hdi
      | some b =>
        rw [hbi] at hdi
        obtain rfl : dI b = d := Option.some.inj hdi
        obtain ⟨y, rfl, hy⟩ := rx.dI_inv
        have hbl := hb b (List.mem_of_getElem? hbi)
        refine ⟨_, rfl, _, rfl, 4, rfl, 4, 3, rfl, rfl, _, rfl, y, _, rfl, sqm (s1 _ _ hy), fun p2 hp2 => ?_⟩
        have e1 : cutV (b.map V.int) (some 4) (some (4 + 3)) = ((b.drop 4).take 3).map V.int := by
          rw [cut_mid (by decide) (by decide), map_drop, map_take]
          rfl
        refine ⟨p, p2, _, _, rfl, rfl, same_upd hp2 _ _ hp, upd_same, szl (by
          have l1 := datas_len (bss.take i)
          have l2 := cutV_length (b.map V.int) (some 4) (some (4 + 3))
          rw [List.length_take] at l1
          rw [List.length_map] at l2
          rw [List.length_map]
          show _ + (cutV (b.map V.int) (some 4) (some (4 + 3))).length ≤ 100000
          omega), fun p3 hp3 => ?_⟩
        refine ⟨p3, _, rfl, (s1.trans (same_upd hp2)).trans (same_upd hp3), ?_⟩
        rw [datas_take hbi, List.map_append, ← e1]
        exact upd_same
    · rintro σ H1 ⟨p, z, rfl, s1, hp⟩
      have el : vs.length = bss.length := by rw [hr2.length, List.length_map]
      rw [List.take_of_length_le (Nat.le_of_eq el.symm)] at hp
      refine ⟨_, rfl, 1, rfl, _, rfl, p, _, 0, _, rfl, rfl, sqm hp, at_0 hd, 1, _, rfl, rfl, _, rfl, p, _, rfl, sqm hp, fun p4 hp4 => ?_⟩
      refine q _ p4 (((h.grow s1).newM hp4).cast ?_) (s1.trans (same_upd hp4))
      rw [cut_mid (by decide) (by omega), map_drop, map_take]
      unfold rowN
      rw [show (1 + (datas bss).headD 0 - 1).toNat = ((datas bss).headD 0).toNat by omega]
      rfl
end
end RL
namespace RL
open PySem PySem.Spec PyProof.Rows L2
def sp_pieces : Sp := fun vs H Q _ => ∃ (c : Addr) (ws : List Int) (L : ML) (I : Hp), vs = [.ref c] ∧ Hs L I H ∧ H c = some (.lst (ws.map V.int)) ∧ ws.length ≤ 1000 ∧
  ∀ H' p as, as.length = (piecesN ws).length → Hs ((p, .lst (as.map V.ref)) :: (pts as (piecesN ws) ++ L)) I H' → Same H H' → Q (.ref p) H'
theorem data_v (ws zs : List Int) : [V.int ((ws.map V.int).length : Nat)] ++ ws.map V.int ++ zs.map V.int = ((((ws.length : Int) :: ws) ++ zs)).map V.int := by simp
section
variable {P : Program} {w : World} {K : PySem.W.Frag} {mg : Str → Option Value} {base : Heap}
theorem ok_pieces (T : Tx K mg) : Ok P w K mg base 1 (a_pieces K) p_pieces sp_pieces := by
  refine ok_of T.d_pieces sc_pieces bd_pieces (fun vs H Q E h => ?_) (fun cdv A outer s H vs Q E hr tk po h => ?_)
  · obtain ⟨c, ws, L, I, rfl, _⟩ := h
    rfl
  · obtain ⟨c, ws, L, I, rfl, h, hc, hl, q⟩ := h
    obtain ⟨t3, ht3⟩ := T.i_DATA
    refine ⟨_, (pss_cons (ps_set (i := 1) sc_pieces.nd rfl (Or.inr rfl) (pe_op op_cat (pe_lst (pa_cons (pe_callB call_len_seq (by rfl) T.b_len PySem.boot_len (pa_cons (pv 0) pa_nil)) pa_nil)) (pe_callTy call_list_of (by rfl) T.b_list boot_list (pa_cons (pv 0) pa_nil))))
    (pss_cons (ps_set (i := 1) sc_pieces.nd rfl (Or.inr rfl) (pe_op op_cat (pv 1) (pe_op op_rep (pe_lst (pa_cons pe_int pa_nil)) (pe_op op_mod (pe_un un_neg (pe_callB call_len_seq (by rfl) T.b_len PySem.boot_len (pa_cons (pv 1) pa_nil))) (pe_glob (v := .int 3) rfl T.i_DATA.choose_spec ⟨_, rfl⟩)))))
    (pss_one (ps_ret (pe_lc (own := [("at", 2)]) rfl sc_pieces.nd (pi_range3 (by rfl) T.b_range (pa_cons pe_int (pa_cons (pe_callB call_len_seq (by rfl) T.b_len PySem.boot_len (pa_cons (pv 1) pa_nil)) (pa_cons (pe_glob (v := .int 3) rfl T.i_DATA.choose_spec ⟨_, rfl⟩) pa_nil)))) (blkOk_by (own := [("at", 2)]) (N := n_pieces) (sc := defScope s_pieces) (by decide +kernel)) (fun _ _ _ _ _ => (pg_name (i := 2) sc_pieces.nd rfl (Or.inl rfl))) (fun _ _ _ _ _ => pts_nil) (fun _ _ _ _ _ => (pe_slice (sl_list_q K rfl) (pv 1) (po_some (pv 2)) (po_some (pe_op op_add (pv 2) (pe_glob (v := .int 3) rfl T.i_DATA.choose_spec ⟨_, rfl⟩)))))))))), ?_⟩
    -- data = [len(row)] + list(row)
    refine ⟨_, rfl, c, _, rfl, .inl (sqm hc), szl (by simp), fun p1 hp1 => ?_⟩
    refine ⟨_, rfl, c, _, rfl, .inl (sqm (same_upd hp1 _ _ hc)), fun p2 hp2 => ?_⟩
    refine ⟨p1, p2, _, _, rfl, rfl, same_upd hp2 _ _ upd_same, upd_same, szl (by simp; omega), fun p3 hp3 => ?_⟩
    have s1 : Same H _ := ((same_upd hp1).trans (same_upd hp2)).trans (same_upd (o := .lst ([V.int ((ws.map V.int).length : Nat)] ++ ws.map V.int)) hp3)
    -- data = data + [0] * (-len(data) % 3)
    refine ⟨_, rfl, szl (by simp), fun p4 hp4 => ?_⟩
    refine ⟨_, rfl, p3, _, rfl, .inl (sqm (same_upd hp4 _ _ upd_same)), _, rfl, _, 3, rfl, rfl, (by show (0 : Int) < 3; decide), ?_⟩
    have hz2 : 0 ≤ (-(([V.int ((ws.map V.int).length : Nat)] ++ ws.map V.int).length : Int)) % 3 ∧ (-(([V.int ((ws.map V.int).length : Nat)] ++ ws.map V.int).length : Int)) % 3 < 3 := by omega
    have hz3 : 3 ∣ ws.length + 1 + ((-(([V.int ((ws.map V.int).length : Nat)] ++ ws.map V.int).length : Int)) % 3).toNat := by
      simp only [List.length_append, List.length_singleton, List.length_map]
      omega
    show rRep _ (.int ((-(([V.int ((ws.map V.int).length : Nat)] ++ ws.map V.int).length : Int)) % 3)) _ _
    generalize (-(([V.int ((ws.map V.int).length : Nat)] ++ ws.map V.int).length : Int)) % 3 = z at hz2 hz3
    obtain ⟨zs, hzs, hzl, hpre⟩ : ∃ zs : List Int, (List.replicate z.toNat [V.int 0]).flatten = zs.map V.int ∧ zs.length = z.toNat ∧ zs <+: [0, 0] := by
      rcases (by omega : z = 0 ∨ z = 1 ∨ z = 2) with rfl | rfl | rfl
      · exact ⟨[], rfl, rfl, ⟨[0, 0], rfl⟩⟩
      · exact ⟨[0], rfl, rfl, ⟨[0], rfl⟩⟩
      · exact ⟨[0, 0], rfl, rfl, ⟨[], rfl⟩⟩
    refine ⟨p4, z, [.int 0], rfl, rfl, upd_same, by omega, by omega, szl (by simp; omega), fun p5 hp5 => ?_⟩
    refine ⟨p3, p5, _, _, rfl, rfl, same_upd hp5 _ _ (same_upd hp4 _ _ upd_same), upd_same, szl (by rw [hzs]; simp; omega), fun d hd => ?_⟩
    have h1 := (((((((h.junk hp1).junk hp2).junk hp3).junk hp4).junk hp5).newM (o := .lst ([V.int ((ws.map V.int).length : Nat)] ++ ws.map V.int ++ (List.replicate z.toNat [V.int 0]).flatten)) hd).cast (o' := .lst ((((ws.length : Int) :: ws) ++ zs).map V.int)) (by rw [hzs]; exact congrArg HO.lst (data_v ws zs)))
    have s2 : Same H _ := ((s1.trans (same_upd hp4)).trans (same_upd hp5)).trans (same_upd (o := .lst ([V.int ((ws.map V.int).length : Nat)] ++ ws.map V.int ++ (List.replicate z.toNat [V.int 0]).flatten)) hd)
    have hdd := h1.g0
    have ld : (((ws.length : Int) :: ws) ++ zs).length = ws.length + 1 + z.toNat := by
      simp only [List.length_append, List.length_cons, hzl]
    -- the slices
    refine ⟨_, rfl, d, _, rfl, .inl (sqm hdd), 0, _, 3, _, rfl, rgc3 (by omega) (by rw [List.length_map]; omega), fun D hD => ?_⟩
    have en : ((((((ws.length : Int) :: ws) ++ zs).map V.int).length : Int).toNat + 2) / 3 = (ws.length + 3) / 3 := by
      rw [List.length_map, ld]
      omega
    rw [en]
    refine lc_rangeC (fun i H' => ∃ as, as.length = i ∧ Hs ((D, .lst (as.map V.ref)) :: (pts as ((piecesN ws).take i) ++ ((d, .lst ((((ws.length : Int) :: ws) ++ zs).map V.int)) :: L))) I H' ∧ Same H H') ⟨[], rfl, h1.newM hD, s2.trans (same_upd hD)⟩ ?_ ?_
    · rintro i H1 hi ⟨as, ha, h2, s3⟩
      have hdd := h2.gm (p := d) (.tail _ (List.mem_append_right _ (.head _)))
      refine ⟨rfl, _, rfl, _, rfl, _, rfl, _, rfl, _, 3, rfl, rfl, _, rfl, d, _, rfl, sqm hdd, fun x hx => ?_⟩
      have e0 : (0 : Int) + (i : Nat) * 3 = ((3 * i : Nat) : Int) := by omega
      have h3 := (h2.newM (o := .lst (cutV ((((ws.length : Int) :: ws) ++ zs).map V.int) (some (0 + (i : Nat) * 3)) (some (0 + (i : Nat) * 3 + 3)))) hx).cast (o' := .lst ((pieceAt (dataN ws) i).map V.int)) (by
        rw [e0, cut_mid (by omega) (by omega), map_drop, map_take, ← pad_piece hpre (by rw [hzl]; omega)]
        congr 3
        omega)
      refine ⟨_, h3.g1, szlt (by rw [List.length_map, ha]; omega), as ++ [x], by rw [List.length_append, ha]; rfl, ?_, ?_⟩
      · rw [piecesN_take hi, pts_snoc (by rw [List.length_take, piecesN_len, ha]; omega), List.append_assoc, List.map_append]
        exact (h3.set1.m1.perm ((List.perm_middle).symm.cons _))
      · exact same_mut (s3.trans (same_upd hx)) (s2.free hD)
    · rintro H1 ⟨as, ha, h2, s3⟩
      have e1 : (piecesN ws).take ((ws.length + 3) / 3) = piecesN ws := List.take_of_length_le (by rw [piecesN_len]; exact Nat.le_refl _)
      rw [e1] at h2
      refine q H1 D as (by rw [piecesN_len]; exact ha) ?_ s3
      exact (h2.perm ((List.perm_middle).cons _)).m1.drop
end
end RL
namespace RL
open PySem PySem.Spec PyProof.Rows L2
def lenB (ws : List Int) : Int := ((ws.length + 3) / 3 : Nat)
def sp_length_of : Sp := fun vs H Q _ => ∃ (c : Addr) (ws : List Int) (L : ML) (I : Hp), vs = [.ref c] ∧ Hs L I H ∧ H c = some (.lst (ws.map V.int)) ∧ ws.length ≤ 1000 ∧
  ∀ H', Hs L I H' → Same H H' → Q (.int (lenB ws)) H'
section
variable {P : Program} {w : World} {K : PySem.W.Frag} {mg : Str → Option Value} {base : Heap}
theorem ok_length_of (T : Tx K mg) : Ok P w K mg base 2 (a_length_of K) p_length_of sp_length_of := by
  have G_pieces := ok_pieces (P := P) (w := w) (base := base) T
  refine ok_of T.d_length_of sc_length_of bd_length_of (fun vs H Q E h => ?_) (fun cdv A outer s H vs Q E hr tk po h => ?_)
  · obtain ⟨c, ws, L, I, rfl, _⟩ := h
    rfl
  · obtain ⟨c, ws, L, I, rfl, h, hc, hl, q⟩ := h
    refine ⟨_, (pss_one (ps_ret (pe_callB call_len_seq (by rfl) T.b_len PySem.boot_len (pa_cons (pe_callO G_pieces (hr.mono (by first | decide | omega)) T.g_pieces (passAt tk) (pa_cons (pv 0) pa_nil)) pa_nil)))), ?_⟩
    refine ⟨_, rfl, c, ws, L, I, rfl, h, hc, hl, fun H' p as ha h' s' => ?_⟩
    refine ⟨p, _, rfl, .inl (sqm h'.g0), ?_⟩
    rw [List.length_map, ha, piecesN_len]
    exact q H' h'.drop.dropl s'
end
end RL
namespace RL
open PySem PySem.Spec PyProof.Rows L2
abbrev lawLevel : Nat := 4
section
variable {P : Program} {w : World} {K : PySem.W.Frag} {mg : Str → Option Value} {base : Heap}
theorem fn_law (T : Tx K mg) {fd : FuncData} (F : FunD K "law" "law" (defArgs s_law) (defBody s_law) (defScope s_law) [] [] (a_law K) fd) : FnOk P w K mg base (L2.CX P w) 4 (a_law K) fd p_law (sp_law K) := by
  have G_l_taken := ok_taken (P := P) (w := w) (base := base) T
  have G_l_row_of := ok_rowof (P := P) (w := w) (base := base) T
  have G_l_pieces := ok_lpieces (P := P) (w := w) (base := base) T
  have G_pieces := ok_pieces (P := P) (w := w) (base := base) T
  have G_made := ok_made (P := P) (w := w) (base := base) T
  have G_length_of := ok_length_of (P := P) (w := w) (base := base) T
  have G_words_of := ok_words_of (P := P) (w := w) (base := base) T
  have G_l_alike := ok_alike (P := P) (w := w) (base := base) T 2
  refine fnok_of F sc_law (fun vs H Q E h => ?_) (fun cdv A outer s H vs Q E hr tk po h => ?_)
  · obtain ⟨a, ns, rfl, _⟩ := h
    rfl
  · obtain ⟨a, sc, rfl, hS, q⟩ := h
    have hu64 := hr.units
    refine ⟨_, (pss_cons (ps_set (i := 1) sc_law.nd rfl (Or.inl rfl) (pe_lst (pa_cons (pv 0) (pa_cons pe_int (pa_cons pe_int pa_nil)))))
    (pss_cons (ps_for po rfl (pi_range1 (by rfl) T.b_range (pa_cons pe_int pa_nil)) (pg_name (i := 2) sc_law.nd rfl (Or.inl rfl))
    (pss_cons (ps_set (i := 3) sc_law.nd rfl (Or.inl rfl) (pe_callO G_l_row_of (hr.mono (by first | decide | omega)) T.g_l_row_of (passAt tk) (pa_cons (pv 1) pa_nil)))
    (pss_cons (ps_set (i := 4) sc_law.nd rfl (Or.inr rfl) (pe_callO G_l_pieces (hr.mono (by first | decide | omega)) T.g_l_pieces (passAt tk) (pa_cons (pv 3) pa_nil)))
    (pss_cons (ps_set (i := 5) sc_law.nd rfl (Or.inl rfl) (pe_callTy call_list_of (by rfl) T.b_list boot_list (pa_cons (pv 3) pa_nil)))
    (pss_cons (ps_set (i := 6) sc_law.nd rfl (Or.inl rfl) (pe_callO G_pieces (hr.mono (by first | decide | omega)) T.g_pieces (passAt tk) (pa_cons (pv 5) pa_nil)))
    (pss_cons (ps_if (PW.pt (pw_or (pt_not (pt_val (pe_callO G_l_alike (hr.mono (by first | decide | omega)) T.g_l_alike (passAt tk) (pa_cons (pv 6) (pa_cons (pv 4) pa_nil))))) (pw_or (pt_cmpR (op_neD hu64) (pv 5) (pv 3) (nomark _)) (pw_or1 (pt_not (pt_val (pe_callO G_l_alike (hr.mono (by first | decide | omega)) T.g_l_alike (passAt tk) (pa_cons (pe_callO G_length_of (hr.mono (by first | decide | omega)) T.g_length_of (passAt tk) (pa_cons (pv 5) pa_nil)) (pa_cons (pe_callB call_len_seq (by rfl) T.b_len PySem.boot_len (pa_cons (pv 4) pa_nil)) pa_nil)))))))))
    (pss_one (ps_ret pe_bl))
    pss_nil)
    (pss_cons (ps_set (i := 7) sc_law.nd rfl (Or.inr rfl) (pe_op op_add pe_int (pe_callO G_l_taken (hr.mono (by first | decide | omega)) T.g_l_taken (passAt tk) (pa_cons (pv 1) (pa_cons pe_int pa_nil)))))
    (pss_cons (ps_setLc (i := 9) (own := [("_law_k", 8)]) rfl sc_law.nd rfl rfl (sw_true rfl rfl rfl (by decide +kernel)) (pi_range1 (by rfl) T.b_range (pa_cons (pe_callB call_len_seq (by rfl) T.b_len PySem.boot_len (pa_cons (pv 4) pa_nil)) pa_nil)) (blkOk_by (own := [("_law_k", 8)]) (N := n_law) (sc := defScope s_law) (by decide +kernel)) (fun _ _ _ _ _ => (pg_name (i := 8) sc_law.nd rfl (Or.inl rfl))) (fun _ _ _ _ _ => pts_nil) (fun _ _ _ _ _ => (pe_callO G_made (hr.mono (by first | decide | omega)) T.g_made passN (pa_cons (pe_op op_add (pv 7) (pv 8)) (pa_cons (pe_op op_sub (pv 7) pe_int) (pa_cons (pv 7) (pa_cons (pe_op op_sub (pe_op op_sub (pe_callB (call_len_seq_q K rfl) (by rfl) T.b_len PySem.boot_len (pa_cons (pv 4) pa_nil)) pe_int) (pv 8)) (pa_cons (pe_ix (ix_list_q K rfl) (pv 4) (pv 8) (fun _ _ => rfl)) pa_nil))))))))
    (pss_cons (ps_set (i := 10) sc_law.nd rfl (Or.inl rfl) (pe_callO G_words_of (hr.mono (by first | decide | omega)) T.g_words_of (passAt tk) (pa_cons (pv 9) pa_nil)))
    (pss_cons (ps_if (pt_not (pt_val (pe_callO G_l_alike (hr.mono (by first | decide | omega)) T.g_l_alike (passAt tk) (pa_cons (pv 10) (pa_cons (pv 3) pa_nil)))))
    (pss_one (ps_ret pe_bl))
    pss_nil)
    (pss_cons (ps_expr (pe_bm0 PySem.F.plainAttrs_list PySem.F.slot_list_clear PySem.F.type_list_clear mt_clear (pe_ix ix_list (pv 6) pe_int (fun _ _ => rfl))))
    (pss_cons (ps_expr (pe_bm0 PySem.F.plainAttrs_list PySem.F.slot_list_clear PySem.F.type_list_clear mt_clear (pv 6)))
    (pss_cons (ps_expr (pe_bm PySem.F.plainAttrs_list PySem.F.slot_list_append PySem.F.type_list_append mt_append (pv 10) (pa_cons pe_int pa_nil)))
    (pss_one (ps_if (PW.pt (pw_or (pt_not (pt_val (pe_callO G_l_alike (hr.mono (by first | decide | omega)) T.g_l_alike (passAt tk) (pa_cons (pe_callO G_pieces (hr.mono (by first | decide | omega)) T.g_pieces (passAt tk) (pa_cons (pv 3) pa_nil)) (pa_cons (pv 4) pa_nil))))) (pw_or1 (pt_not (pt_val (pe_callO G_l_alike (hr.mono (by first | decide | omega)) T.g_l_alike (passAt tk) (pa_cons (pe_callO G_words_of (hr.mono (by first | decide | omega)) T.g_words_of (passAt tk) (pa_cons (pv 9) pa_nil)) (pa_cons (pv 3) pa_nil))))))))
    (pss_one (ps_ret pe_bl))
    pss_nil)))))))))))))))
    (pss_one (ps_ret pe_bl)))), ?_⟩
    have ro0 : RowOk K H a 0 := ⟨⟨sc, hS⟩, Int.le_refl 0⟩
    refine ⟨_, rfl, szl (by simp), fun r hr0 => ?_⟩
    have h1 := (Hs.start H).newM (o := rowO a 0 0) hr0
    refine ⟨12, rfl, by decide, by decide, for_range (lo := 0) (fun i σ H' => ∃ I' i' m' z2 z3 z4 z5 z6 z7 z8 z9 z10, σ = [some (.ref a), some (.ref r), z2, z3, z4, z5, z6, z7, z8, z9, z10] ∧ Hs [(r, rowO a i' m')] I' H' ∧ RowOk K I' a i')
      ⟨H, 0, 0, none, none, none, none, none, none, none, none, none, rfl, h1, ro0⟩ ?_ ?_⟩
    · clear h1 ro0 hS
      rintro i σ H1 hi ⟨I0, i0, m0, z2, z3, z4, z5, z6, z7, z8, z9, z10, rfl, h, ro⟩
      dsimp only [List.set]
      -- words
      refine ⟨_, rfl, r, a, i0, m0, _, I0, rfl, h, ro, fun H2 i2 m2 wd ws h2 ro2 hg => ?_⟩
      have hwl : ws.length ≤ 11 := hg.1
      have pl := piecesN_len ws
      have okP : okD 2 (dII (piecesN ws)) := okD_dII (by omega) (fun d hd => by rw [piecesN_mem hd]; decide)
      have okW : okD 2 (dI ws) := okD_dI (by omega)
      dsimp only [List.set]
      -- due
      refine ⟨_, rfl, wd, ws, _, I0, rfl, h2, h2.g0, by omega, fun H3 d as ha h3 s3 => ?_⟩
      obtain ⟨I3, S3, h3, rd⟩ := h3.frzII ha
      have S4 := same_upd (o := .lst (ws.map V.int)) h3.fr0
      have h4 := h3.frz
      have ew : (upd I3 wd (.lst (ws.map V.int))) wd = some (.lst (ws.map V.int)) := upd_same
      have rd4 := rd.mono S4
      have ro4 := (ro2.mono S3).mono S4
      clear rd h3 h2 h S3
      generalize upd I3 wd (.lst (ws.map V.int)) = I4 at S4 h4 ew rd4 ro4
      obtain ⟨d', vs, e, hv, hvs⟩ := rd4.lstI
      cases e
      have lv : vs.length = (piecesN ws).length := by rw [hvs.length, List.length_map]
      dsimp only [List.set]
      -- handed, found
      refine ⟨_, rfl, wd, _, rfl, .inl (h4.sq ew), fun hd hhd => ?_⟩
      have h5 := (h4.newM (o := .lst (ws.map V.int)) hhd).m1
      dsimp only [List.set]
      refine ⟨_, rfl, hd, ws, _, I4, rfl, h5, h5.g1, by omega, fun H6 f fs hf h6 s6 => ?_⟩
      dsimp only [List.set]
      refine ⟨_, rfl, _, rfl, .ref f, .ref d, dII (piecesN ws), rfl, h6.rpII hf, h6.rp rd4, okP, fun H7 s7 => ⟨true, rfl, ?_⟩⟩
      have h7 := h6.grow s7
      have eh7 := h7.gm (p := hd) (.tail _ (List.mem_append_right _ (.tail _ (.head _))))
      refine ⟨_, rfl, _, rfl, dI ws, dI ws, (Rp.dI_mk eh7).dp, (Rp.dI_mk (h7.i ew)).dp, shaped_of okW (by decide), shaped_of okW (by decide), ?_⟩
      rw [eqv_rfl okW]
      refine ⟨_, rfl, ?_⟩
      refine ⟨_, rfl, hd, ws, _, I4, rfl, h7, eh7, by omega, fun H8 h8 s8 => ?_⟩
      refine ⟨_, rfl, d, vs, rfl, .inl (h8.sq hv), _, _, .int (lenB ws), rfl, .int _, ?_, okD_int, fun H9 s9 => ⟨true, rfl, ?_⟩⟩
      · rw [lv, pl]
        exact .int _
      have h9 := (h8.grow s9).rot
      -- begin
      dsimp only [List.set]
      refine ⟨_, rfl, r, a, i2, m2, 1000, _, I4, rfl, h9, ro4, by decide, fun H10 i10 m10 v10 h10 ro10 lo10 hi10 => ⟨4, v10, rfl, rfl, ?_⟩⟩
      dsimp only [List.set]
      -- some
      refine ⟨_, rfl, d, vs, rfl, .inl (h10.sq hv), _, rfl, by omega, by omega, fun D hD => ?_⟩
      refine lc_range (lo := 0) (fun k H' => ∃ qs, qs.length = k ∧ Hs ((D, .lst (qs.map V.ref)) :: (pts qs ((blocksF (4 + v10) (4 + v10 - 1) (4 + v10) (piecesN ws)).take k) ++ ((r, rowO a i10 m10) :: (f, .lst (fs.map V.ref)) :: (pts fs (piecesN ws) ++ [(hd, .lst (ws.map V.int))])))) I4 H')
        ⟨[], rfl, h10.newM hD⟩ ?_ ?_
      · rintro k H11 hk ⟨qs, hq, h11⟩
        have hk2 : k < (piecesN ws).length := by
          rw [← lv]
          omega
        obtain ⟨v, ev, rv⟩ := hvs.get (i := k) (d := dI (piecesN ws)[k]) (by rw [List.getElem?_map, List.getElem?_eq_getElem hk2]; rfl)
        obtain ⟨x, rfl, ex⟩ := rv.dI_inv
        have hd3 : (piecesN ws)[k].length = 3 := piecesN_mem (List.getElem_mem hk2)
        refine ⟨rfl, _, rfl, _, rfl, _, _, rfl, rfl, _, rfl, _, 1, rfl, rfl, _, rfl, _, rfl, d, vs, rfl, .inl (h11.sq hv), _, 1, rfl, rfl, _, rfl, _, _, rfl, rfl, _, rfl, _, rfl, d, vs, _, .ref x, rfl, rfl, h11.sq hv, at_of (by omega) ev, ?_⟩
        refine ⟨_, _, _, _, x, (piecesN ws)[k], _, I4, rfl, h11, h11.i ex, by omega, fun H12 p h12 s12 => ?_⟩
        refine ⟨_, h12.g1, szlt (by rw [List.length_map]; omega), qs ++ [p], by rw [List.length_append, hq]; rfl, ?_⟩
        have ek : (blocksF (4 + v10) (4 + v10 - 1) (4 + v10) (piecesN ws)).take (k + 1) = (blocksF (4 + v10) (4 + v10 - 1) (4 + v10) (piecesN ws)).take k ++ [mkB (4 + v10 + (0 + (k : Int))) (4 + v10 - 1) (4 + v10) ((vs.length : Int) - 1 - (0 + (k : Int))) (piecesN ws)[k]] := by
          rw [List.take_add_one, blocksF_get (List.getElem?_eq_getElem hk2), lv, Int.zero_add, show (((piecesN ws).length : Int) - 1 - (k : Int)) = (((piecesN ws).length - 1 - k : Nat) : Int) by omega]
          rfl
        rw [ek, pts_snoc (by rw [List.length_take, blocksF_len, hq]; omega), List.append_assoc, List.map_append]
        exact (h12.set1.m1.perm ((List.perm_middle).symm.cons _))
      · rintro H11 ⟨qs, hq, h11⟩
        have eb : (blocksF (4 + v10) (4 + v10 - 1) (4 + v10) (piecesN ws)).take vs.length = blocksF (4 + v10) (4 + v10 - 1) (4 + v10) (piecesN ws) := List.take_of_length_le (by rw [blocksF_len, lv]; exact Nat.le_refl _)
        have hq2 : qs.length = vs.length := by omega
        rw [show ((vs.length : Int)).toNat = vs.length by omega, eb] at h11
        have eq_ : qs.length = (blocksF (4 + v10) (4 + v10 - 1) (4 + v10) (piecesN ws)).length := by rw [hq2, blocksF_len, lv]
        obtain ⟨I5, S5, h12, rD⟩ := h11.frzII eq_
        generalize hbl : blocksF (4 + v10) (4 + v10 - 1) (4 + v10) (piecesN ws) = bl at rD
        have bl1 : bl.length ≤ 100 := by rw [← hbl, blocksF_len]; omega
        have bl2 : ∀ b ∈ bl, b.length ≤ 100 := by
          intro b hb
          rw [← hbl] at hb
          obtain ⟨_, _, e, he, rfl⟩ := blocksF_mem hb
          rw [mkB_len, piecesN_mem he]
          decide
        have bl3 : datas bl = (piecesN ws).flatten := by
          rw [← hbl]
          exact datas_blocksF fun _ h => piecesN_mem h
        have bl4 : rowN (datas bl) = ws := by rw [bl3, rowN_pieces]
        have fh := flat_head (ws := ws)
        clear h11
        dsimp only [List.set]
        -- told
        refine ⟨_, rfl, D, bl, _, I5, rfl, h12, h12.rp rD, bl1, bl2, by rw [bl3]; exact fh.1, by rw [bl3, fh.2]; omega, fun H13 t h13 s13 => ?_⟩
        rw [bl4] at h13
        dsimp only [List.set]
        refine ⟨_, rfl, _, rfl, .ref t, .ref wd, dI ws, rfl, Rp.dI_mk h13.g0, Rp.dI_mk (h13.i (S5 _ _ ew)), okW, fun H14 s14 => ⟨true, rfl, ?_⟩⟩
        have h14 := h13.grow s14
        -- found[0].clear()
        obtain ⟨f0, fs', rfl⟩ : ∃ f0 fs', fs = f0 :: fs' := by
          cases fs with
          | nil =>
            rw [pl] at hf
            exact absurd hf (by show ¬ 0 = _; omega)
          | cons x y => exact ⟨x, y, rfl⟩
        obtain ⟨d0, ds', ep⟩ : ∃ d0 ds', piecesN ws = d0 :: ds' := by
          cases e : piecesN ws with
          | nil =>
            rw [e] at pl
            exact absurd pl (by show ¬ 0 = _; omega)
          | cons x y => exact ⟨x, y, rfl⟩
        rw [ep] at h14
        have h14 : Hs ((t, .lst (ws.map V.int)) :: (r, rowO a i10 m10) :: (f, .lst ((f0 :: fs').map V.ref)) :: (f0, .lst (d0.map V.int)) :: (pts fs' ds' ++ [(hd, .lst (ws.map V.int))])) I5 H14 := h14
        refine ⟨_, rfl, f, _, 0, .ref f0, rfl, rfl, sqm h14.g2, atI_nat (j := 0) rfl, .inl ⟨rfl, _, sqm h14.g3⟩, f0, _, rfl, rfl, h14.g3, ?_⟩
        have h15 := h14.set3 (o' := .lst [])
        refine ⟨_, rfl, .inl ⟨rfl, _, sqm h15.g2⟩, f, _, rfl, rfl, h15.g2, ?_⟩
        have h16 := h15.set2 (o' := .lst [])
        refine ⟨_, rfl, .inl ⟨rfl, _, sqm h16.g0⟩, t, _, _, rfl, rfl, h16.g0, szlt (by rw [List.length_map]; omega), ?_⟩
        have h17 := (h16.set0 (o' := .lst (ws.map V.int ++ [.int 5]))).drop
        -- again
        refine ⟨_, rfl, wd, ws, _, I5, rfl, h17, h17.i (S5 _ _ ew), by omega, fun H18 f8 fs8 hf8 h18 s18 => ?_⟩
        refine ⟨_, rfl, .ref f8, .ref d, dII (piecesN ws), rfl, h18.rpII hf8, h18.rp (rd4.mono S5), okP, fun H19 s19 => ⟨true, rfl, ?_⟩⟩
        have h19 := (h18.grow s19).drop.dropl
        refine ⟨_, rfl, D, bl, _, I5, rfl, h19, h19.rp rD, bl1, bl2, by rw [bl3]; exact fh.1, by rw [bl3, fh.2]; omega, fun H20 t2 h20 s20 => ?_⟩
        rw [bl4] at h20
        refine ⟨_, rfl, .ref t2, .ref wd, dI ws, rfl, Rp.dI_mk h20.g0, Rp.dI_mk (h20.i (S5 _ _ ew)), okW, fun H21 s21 => ⟨true, rfl, ?_⟩⟩
        have h21 := h20.grow s21
        exact ⟨I5, i10, m10, _, _, _, _, _, _, _, _, _, rfl, h21.drop.one, ro10.mono S5⟩
    · rintro σ H1 ⟨I', i', m', z2, z3, z4, z5, z6, z7, z8, z9, z10, rfl, h, ro⟩
      exact q _
end
end RL
namespace RL
open PySem PySem.Spec PyProof.Rows L2
abbrev Rw : PySem.W.OpenRow := PySem.W.OpenLaw.row PySem.Challenge.rw_ringlog_k10_rows_in_pieces
abbrev hk : PySem.W.Hook := He.hookD 6 fa fn
def ob (s : PySem.W.SharedT) : He.AlD := He.obsDG 6 fa fn (HandSHeadRun.getT s)
theorem ob_eq (s : PySem.W.SharedT) : ob s = hk.obs s.abs := He.obsDG_eq (HandSHeadRun.getT_eq s)
theorem run (w : World) : HandSHeadRun.RunEq Rw (PySem.W.view Rw.prog [11]) hk ob 20000 ["made", "pieces", "length_of", "words_of", "_law_taken", "_law_row_of", "_law_pieces", "_law_alike", "DATA"] w := by
  intro os
  kernel_rfl
theorem facts {P : Program} {w : World} {K : PySem.W.Frag} {h : Heap} {mg : Str → Option Value} {f : Addr} (X : K.In h) (G : h.Ns mainGlobals mg) (hfa : mg ("law" : Str) = some (.ref f)) (c : He.SaysD fa fn K) :
    ∃ fd : FuncData, (∀ (s : Shared) (v : Value), BindsTo s fd ⟨[v], []⟩ [("_law_script", v)]) ∧ ∀ base : Heap, K.In base → base.Ns mainGlobals mg → FnOk P w K mg base CX0 lawLevel f fd ["_law_script"] (sp_law K) := by
  have T := Tx.of X G c
  obtain ⟨fd, F⟩ := T.d_law
  have e := hfa.symm.trans T.g_law
  cases e
  have b := FunD.bindsA (ps := ["_law_script"]) F fun _ _ _ _ _ _ us hl => match us, hl with | [_], _ => rfl
  exact ⟨fd, fun s v => b s [v] rfl, fun base _ _ => fn_cx0 (fn_law T F) fun _ _ _ _ h => h⟩
end RL
open PySem PySem.W PySem.Calls PyProof.Rows
set_option maxRecDepth 100000 in
set_option maxHeartbeats 0 in
theorem PySem.Challenge.cw_ringlog_k10_rows_in_pieces_holds : PySem.Challenge.rw_ringlog_k10_rows_in_pieces.Holds := by
  w_on; o_law
  refine HandSHeadRun.head_any (r := OpenLaw.row PySem.Challenge.rw_ringlog_k10_rows_in_pieces) (q := view (OpenLaw.row PySem.Challenge.rw_ringlog_k10_rows_in_pieces).prog [11]) (H := RL.hk) (ob := RL.ob) (M := 20000) (loose := ["made", "pieces", "length_of", "words_of", "_law_taken", "_law_row_of", "_law_pieces", "_law_alike", "DATA"]) (d := HandSHeadRun.topDef (OpenLaw.row PySem.Challenge.rw_ringlog_k10_rows_in_pieces).prog 11) (kwd := []) RL.ob_eq
    (by kernel_rfl) (fun s => by kernel_rfl) RL.run (by kernel_rfl) (by kernel_rfl) (by kernel_rfl) (by rfl) (by first | assumption | decide +kernel) (by decide +kernel) ⟨rfl, rfl, rfl, rfl, rfl, by decide +kernel⟩ ?hw ?hc
  case hw => w_witness2
  case hc =>
    refine L2.walk_ofE (l := PySem.Challenge.rw_ringlog_k10_rows_in_pieces) (n := 63) (k := RL.lawLevel) (x := "_law_script") (CX := L2.CX0) rfl (by decide) (by kernel_rfl) ⟨rfl, by decide, by decide⟩ ?F (fun _ _ _ _ z => z)
    intro w mg fa h Y G hmg0
    obtain ⟨K, KX, c⟩ := Y
    have hmg : mg ("law" : PySem.Str) = some (.ref fa) := by
      have e : (HandSHeadRun.topDef (OpenLaw.row PySem.Challenge.rw_ringlog_k10_rows_in_pieces).prog 11).name = ("law" : PySem.Str) := by kernel_rfl
      rw [← e]
      exact hmg0
    obtain ⟨fd, hb, hF⟩ := RL.facts (P := (PySem.Challenge.rw_ringlog_k10_rows_in_pieces).prog) (w := w) KX G hmg c
    exact ⟨K, fd, RL.sp_law K, KX, hb, fun H a ns hl _ hS => ⟨a, ns, rfl, hS, fun _ => rfl⟩, hF⟩

import PyProof.Rows.All
import Wide.All
import OpenK.AllK
import Wide.FinOn
import HandS.ForMost
import HandS.ForExc
import HandS.IsInst
import HandS.SetKeys
import HandS.TryMany
import HandS.ExcCtx
import HandS.HotCalls
import HandS.Deep
import HandS.Codes
import HandS.Defaults
import HandS.HeadHook2
import HandS.Head2
import HandS.HeadEnd
import PySem.Challenge.RW_ringlog_k04_whole_the_newest_in_few_read
set_option Elab.async false
set_option linter.all false
set_option maxRecDepth 100000
set_option maxHeartbeats 4000000
/-! RL0: frozen data (Rp), the symbolic heap (Hs: mutable points L, frozen part I), and their lemmas. -/
namespace RL
open PySem PySem.Spec PyProof.Rows L2

/-! ### frozen data -/
mutual
inductive Rp (I : Hp) : V → PyData → Prop
  | non : Rp I .non .none
  | bl (b : Bool) : Rp I (.bl b) (.bool b)
  | int (i : Int) : Rp I (.int i) (.int i)
  | str (x : Str) : Rp I (.str x) (.str x)
  | lst {a : Addr} {xs : List V} {ds : List PyData} : I a = some (.lst xs) → RpA I xs ds → Rp I (.ref a) (.list ds)
  | tup {a : Addr} {xs : List V} {ds : List PyData} : I a = some (.tup xs) → RpA I xs ds → Rp I (.ref a) (.tuple ds)
inductive RpA (I : Hp) : List V → List PyData → Prop
  | nil : RpA I [] []
  | cons {v : V} {vs : List V} {d : PyData} {ds : List PyData} : Rp I v d → RpA I vs ds → RpA I (v :: vs) (d :: ds)
end

section
variable {I I' : Hp} {K : PySem.W.Frag}
mutual
theorem Rp.mono (s : Same I I') : ∀ {d : PyData} {v : V}, Rp I v d → Rp I' v d
  | .none, _, h => by cases h; exact .non
  | .bool b, _, h => by cases h; exact .bl b
  | .int i, _, h => by cases h; exact .int i
  | .str x, _, h => by cases h; exact .str x
  | .list ds, _, h => by
    cases h with
    | lst e r => exact .lst (s _ _ e) (RpA.mono s r)
  | .tuple ds, _, h => by
    cases h with
    | tup e r => exact .tup (s _ _ e) (RpA.mono s r)
  | .dict _, _, h => by cases h
theorem RpA.mono (s : Same I I') : ∀ {ds : List PyData} {vs : List V}, RpA I vs ds → RpA I' vs ds
  | [], _, h => by cases h; exact .nil
  | d :: ds, _, h => by
    cases h with
    | cons h1 h2 => exact .cons (Rp.mono s h1) (RpA.mono s h2)
end
mutual
theorem Rp.dp : ∀ {d : PyData} {v : V}, Rp I v d → Dp K I v d
  | .none, _, h => by cases h; exact .non
  | .bool b, _, h => by cases h; exact .bl b
  | .int i, _, h => by cases h; exact .int i
  | .str x, _, h => by cases h; exact .str x
  | .list ds, _, h => by
    cases h with
    | lst e r => exact .lst (.inl (.inl e)) (RpA.dp r)
  | .tuple ds, _, h => by
    cases h with
    | tup e r => exact .tup (.inl (.inl e)) (RpA.dp r)
  | .dict _, _, h => by cases h
theorem RpA.dp : ∀ {ds : List PyData} {vs : List V}, RpA I vs ds → DpAll K I vs ds
  | [], _, h => by cases h; exact .nil
  | d :: ds, _, h => by
    cases h with
    | cons h1 h2 => exact .cons (Rp.dp h1) (RpA.dp h2)
end
theorem RpA.length : ∀ {ds : List PyData} {vs : List V}, RpA I vs ds → vs.length = ds.length
  | [], _, h => by cases h; rfl
  | d :: ds, _, h => by
    cases h with
    | cons h1 h2 => simp [RpA.length h2]
theorem RpA.get : ∀ {ds : List PyData} {vs : List V} {i : Nat} {d : PyData}, RpA I vs ds → ds[i]? = some d → ∃ v, vs[i]? = some v ∧ Rp I v d
  | [], _, i, d, h, e => by simp at e
  | c :: ds, _, 0, d, h, e => by
    cases h with
    | cons h1 h2 =>
      simp at e
      subst e
      exact ⟨_, rfl, h1⟩
  | c :: ds, _, i + 1, d, h, e => by
    cases h with
    | cons h1 h2 =>
      obtain ⟨v, q, r⟩ := RpA.get (i := i) h2 (by simpa using e)
      exact ⟨v, by simpa using q, r⟩
theorem RpA.getV : ∀ {ds : List PyData} {vs : List V} {i : Nat} {v : V}, RpA I vs ds → vs[i]? = some v → ∃ d, ds[i]? = some d ∧ Rp I v d
  | [], _, i, v, h, e => by cases h; simp at e
  | c :: ds, _, 0, v, h, e => by
    cases h with
    | cons h1 h2 =>
      simp at e
      subst e
      exact ⟨_, rfl, h1⟩
  | c :: ds, _, i + 1, v, h, e => by
    cases h with
    | cons h1 h2 =>
      obtain ⟨d, q, r⟩ := RpA.getV (i := i) h2 (by simpa using e)
      exact ⟨d, by simpa using q, r⟩
theorem RpA.append : ∀ {ds es : List PyData} {vs ws : List V}, RpA I vs ds → RpA I ws es → RpA I (vs ++ ws) (ds ++ es)
  | [], _, _, _, h, g => by cases h; exact g
  | d :: ds, _, _, _, h, g => by
    cases h with
    | cons h1 h2 => exact .cons h1 (RpA.append h2 g)
theorem RpA.take : ∀ {ds : List PyData} {vs : List V} (n : Nat), RpA I vs ds → RpA I (vs.take n) (ds.take n)
  | _, _, 0, _ => by simpa using RpA.nil
  | [], _, n + 1, h => by cases h; simpa using RpA.nil
  | d :: ds, _, n + 1, h => by
    cases h with
    | cons h1 h2 => simpa using RpA.cons h1 (RpA.take n h2)
theorem RpA.drop : ∀ {ds : List PyData} {vs : List V} (n : Nat), RpA I vs ds → RpA I (vs.drop n) (ds.drop n)
  | _, _, 0, h => by simpa using h
  | [], _, n + 1, h => by cases h; simpa using RpA.nil
  | d :: ds, _, n + 1, h => by
    cases h with
    | cons h1 h2 => simpa using RpA.drop n h2
theorem RpA.set : ∀ {ds : List PyData} {vs : List V} {v : V} {d : PyData} (n : Nat), RpA I vs ds → Rp I v d → RpA I (vs.set n v) (ds.set n d)
  | [], _, _, _, n, h, _ => by cases h; simpa using RpA.nil
  | c :: ds, _, _, _, 0, h, g => by
    cases h with
    | cons h1 h2 => simpa using RpA.cons g h2
  | c :: ds, _, _, _, n + 1, h, g => by
    cases h with
    | cons h1 h2 => simpa using RpA.cons h1 (RpA.set n h2 g)
theorem RpA.snoc {ds : List PyData} {vs : List V} {v : V} {d : PyData} (h : RpA I vs ds) (g : Rp I v d) : RpA I (vs ++ [v]) (ds ++ [d]) := h.append (.cons g .nil)
/-- lists of ints -/
theorem RpA.ints : ∀ (ns : List Int), RpA I (ns.map V.int) (ns.map PyData.int)
  | [] => .nil
  | n :: ns => .cons (.int n) (RpA.ints ns)
theorem RpA.intsV : ∀ {ns : List Int} {vs : List V}, RpA I vs (ns.map PyData.int) → vs = ns.map V.int
  | [], _, h => by cases h; rfl
  | n :: ns, _, h => by
    cases h with
    | cons h1 h2 =>
      cases h1
      rw [RpA.intsV h2] <;> rfl
end
/-- a list of ints, of lists of ints -/
def dI (ns : List Int) : PyData := .list (ns.map .int)
def dII (nss : List (List Int)) : PyData := .list (nss.map dI)
theorem Rp.lstI {I : Hp} {v : V} {ds : List PyData} (h : Rp I v (.list ds)) : ∃ a vs, v = .ref a ∧ I a = some (.lst vs) ∧ RpA I vs ds := by
  cases h with
  | lst e r => exact ⟨_, _, rfl, e, r⟩
theorem Rp.tupI {I : Hp} {v : V} {ds : List PyData} (h : Rp I v (.tuple ds)) : ∃ a vs, v = .ref a ∧ I a = some (.tup vs) ∧ RpA I vs ds := by
  cases h with
  | tup e r => exact ⟨_, _, rfl, e, r⟩
theorem Rp.dI_inv {I : Hp} {v : V} {ns : List Int} (h : Rp I v (dI ns)) : ∃ a, v = .ref a ∧ I a = some (.lst (ns.map V.int)) := by
  obtain ⟨a, vs, e, h1, h2⟩ := Rp.lstI h
  rw [RpA.intsV h2] at h1
  exact ⟨a, e, h1⟩
theorem Rp.dI_mk {I : Hp} {a : Addr} {ns : List Int} (h : I a = some (.lst (ns.map V.int))) : Rp I (.ref a) (dI ns) := .lst h (RpA.ints ns)
theorem Rp.intI {I : Hp} {v : V} {i : Int} (h : Rp I v (.int i)) : v = .int i := by cases h; rfl
theorem Rp.strI {I : Hp} {v : V} {x : Str} (h : Rp I v (.str x)) : v = .str x := by cases h; rfl
theorem Rp.boolI {I : Hp} {v : V} {b : Bool} (h : Rp I v (.bool b)) : v = .bl b := by cases h; rfl
theorem Rp.noneI {I : Hp} {v : V} (h : Rp I v .none) : v = .non := by cases h; rfl

/-! ### the symbolic heap -/
abbrev ML := List (Addr × HO)
structure Hs (L : ML) (I H : Hp) : Prop where
  im : Same I H
  mu : ∀ x ∈ L, H x.1 = some x.2
  dj : ∀ x ∈ L, I x.1 = none
  nd : (L.map Prod.fst).Nodup
theorem same_upd {I : Hp} {p : Addr} {o : HO} (h : I p = none) : Same I (upd I p o) := fun b u e => by
  rw [upd_ne (ne_of_none e h)]
  exact e
theorem same_mut {H H' : Hp} {p : Addr} {o : HO} (e : Same H H') (h : H p = none) : Same H (upd H' p o) := fun b u hb => by
  rw [upd_ne (ne_of_none hb h)]
  exact e b u hb
theorem Hs.start (H : Hp) : Hs [] H H := ⟨Same.refl H, (fun _ h => nomatch h), (fun _ h => nomatch h), List.nodup_nil⟩
section
variable {L L' R : ML} {I H H' : Hp} {p q : Addr} {o o' u : HO} {x y z : Addr × HO}
theorem Hs.fr (h : Hs L I H) (hp : H p = none) : I p = none := h.im.free hp
theorem Hs.perm (h : Hs L I H) (e : L.Perm L') : Hs L' I H :=
  ⟨h.im, fun x hx => h.mu x (e.mem_iff.mpr hx), fun x hx => h.dj x (e.mem_iff.mpr hx), (e.map Prod.fst).nodup_iff.mp h.nd⟩
theorem Hs.grow (h : Hs L I H) (s : Same H H') : Hs L I H' := ⟨h.im.trans s, fun x hx => s _ _ (h.mu x hx), h.dj, h.nd⟩
theorem Hs.notin (h : Hs L I H) (hp : H p = none) : p ∉ L.map Prod.fst := fun hm => by
  obtain ⟨x, hx, e⟩ := List.mem_map.mp hm
  have := h.mu x hx
  rw [e, hp] at this
  cases this
theorem Hs.junk (h : Hs L I H) (hp : H p = none) : Hs L I (upd H p o) := h.grow (same_upd hp)
theorem Hs.newM (h : Hs L I H) (hp : H p = none) : Hs ((p, o) :: L) I (upd H p o) := by
  have s : Same H (upd H p o) := same_upd hp
  refine ⟨h.im.trans s, fun x hx => ?_, fun x hx => ?_, ?_⟩
  · rcases List.mem_cons.mp hx with rfl | hx
    · exact upd_same
    · exact s _ _ (h.mu x hx)
  · rcases List.mem_cons.mp hx with rfl | hx
    · exact h.fr hp
    · exact h.dj x hx
  · exact List.nodup_cons.mpr ⟨h.notin hp, h.nd⟩
theorem Hs.drop (h : Hs (x :: L) I H) : Hs L I H := ⟨h.im, fun y hy => h.mu y (.tail _ hy), fun y hy => h.dj y (.tail _ hy), (List.nodup_cons.mp h.nd).2⟩
theorem Hs.frz (h : Hs ((p, o) :: L) I H) : Hs L (upd I p o) H := by
  refine ⟨fun b u e => ?_, fun y hy => h.mu y (.tail _ hy), fun y hy => ?_, (List.nodup_cons.mp h.nd).2⟩
  · by_cases hb : b = p
    · subst hb
      rw [upd_same] at e
      rw [← e]
      exact h.mu _ (.head _)
    · rw [upd_ne hb] at e
      exact h.im b u e
  · rw [upd_ne fun e => (List.nodup_cons.mp h.nd).1 (List.mem_map.mpr ⟨y, hy, e⟩)]
    exact h.dj y (.tail _ hy)
theorem Hs.cast (h : Hs ((p, o) :: L) I H) (e : o = o') : Hs ((p, o') :: L) I H := e ▸ h
theorem Hs.fr0 (h : Hs ((p, o) :: L) I H) : I p = none := h.dj _ (.head _)
theorem Hs.newI (h : Hs L I H) (hp : H p = none) : Hs L (upd I p o) (upd H p o) := (h.newM hp).frz
/-- a new frozen object -/
theorem Hs.put (h : Hs L I H) (hp : H p = none) (o : HO) : ∃ I', Same I I' ∧ I' p = some o ∧ Hs L I' (upd H p o) := ⟨_, same_upd (h.fr hp), upd_same, h.newI hp⟩
theorem Hs.ne (h : Hs L I H) (hx : I p = some o) (hy : (q, u) ∈ L) : p ≠ q := fun e => by
  subst e
  have := h.dj _ hy
  rw [hx] at this
  cases this
theorem Hs.set0 (h : Hs ((p, o) :: L) I H) : Hs ((p, o') :: L) I (upd H p o') := by
  have nd := List.nodup_cons.mp h.nd
  have ne : ∀ y ∈ L, y.1 ≠ p := fun y hy e => nd.1 (List.mem_map.mpr ⟨y, hy, e⟩)
  refine ⟨fun b u e => ?_, fun y hy => ?_, fun y hy => ?_, h.nd⟩
  · rw [upd_ne (h.ne e (.head _))]
    exact h.im b u e
  · rcases List.mem_cons.mp hy with rfl | hy
    · exact upd_same
    · rw [upd_ne (ne y hy)]
      exact h.mu y (.tail _ hy)
  · rcases List.mem_cons.mp hy with rfl | hy
    · exact h.fr0
    · exact h.dj y (.tail _ hy)
/-- the i-th point to the front -/
theorem Hs.m1 {a x : Addr × HO} (h : Hs (a :: x :: L) I H) : Hs (x :: a :: L) I H := h.perm (.swap _ _ _)
theorem Hs.m2 {a b x : Addr × HO} (h : Hs (a :: b :: x :: L) I H) : Hs (x :: a :: b :: L) I H := (h.perm (.cons _ (.swap _ _ _))).m1
theorem Hs.m3 {a b c x : Addr × HO} (h : Hs (a :: b :: c :: x :: L) I H) : Hs (x :: a :: b :: c :: L) I H := (h.perm (.cons _ (.cons _ (.swap _ _ _)))).m2
theorem Hs.m4 {a b c d x : Addr × HO} (h : Hs (a :: b :: c :: d :: x :: L) I H) : Hs (x :: a :: b :: c :: d :: L) I H := (h.perm (.cons _ (.cons _ (.cons _ (.swap _ _ _))))).m3
theorem Hs.m5 {a b c d e x : Addr × HO} (h : Hs (a :: b :: c :: d :: e :: x :: L) I H) : Hs (x :: a :: b :: c :: d :: e :: L) I H := (h.perm (.cons _ (.cons _ (.cons _ (.cons _ (.swap _ _ _)))))).m4
theorem Hs.n1 {a x : Addr × HO} (h : Hs (x :: a :: L) I H) : Hs (a :: x :: L) I H := h.m1
theorem Hs.n2 {a b x : Addr × HO} (h : Hs (x :: a :: b :: L) I H) : Hs (a :: b :: x :: L) I H := h.m1.perm (.cons _ (.swap _ _ _))
theorem Hs.n3 {a b c x : Addr × HO} (h : Hs (x :: a :: b :: c :: L) I H) : Hs (a :: b :: c :: x :: L) I H := h.n2.perm (.cons _ (.cons _ (.swap _ _ _)))
theorem Hs.n4 {a b c d x : Addr × HO} (h : Hs (x :: a :: b :: c :: d :: L) I H) : Hs (a :: b :: c :: d :: x :: L) I H := h.n3.perm (.cons _ (.cons _ (.cons _ (.swap _ _ _))))
theorem Hs.n5 {a b c d e x : Addr × HO} (h : Hs (x :: a :: b :: c :: d :: e :: L) I H) : Hs (a :: b :: c :: d :: e :: x :: L) I H := h.n4.perm (.cons _ (.cons _ (.cons _ (.cons _ (.swap _ _ _)))))
theorem Hs.set1 {a : Addr × HO} (h : Hs (a :: (p, o) :: L) I H) : Hs (a :: (p, o') :: L) I (upd H p o') := h.m1.set0.n1
theorem Hs.set2 {a b : Addr × HO} (h : Hs (a :: b :: (p, o) :: L) I H) : Hs (a :: b :: (p, o') :: L) I (upd H p o') := h.m2.set0.n2
theorem Hs.set3 {a b c : Addr × HO} (h : Hs (a :: b :: c :: (p, o) :: L) I H) : Hs (a :: b :: c :: (p, o') :: L) I (upd H p o') := h.m3.set0.n3
theorem Hs.set4 {a b c d : Addr × HO} (h : Hs (a :: b :: c :: d :: (p, o) :: L) I H) : Hs (a :: b :: c :: d :: (p, o') :: L) I (upd H p o') := h.m4.set0.n4
theorem Hs.set5 {a b c d e : Addr × HO} (h : Hs (a :: b :: c :: d :: e :: (p, o) :: L) I H) : Hs (a :: b :: c :: d :: e :: (p, o') :: L) I (upd H p o') := h.m5.set0.n5
theorem Hs.g0 (h : Hs ((p, o) :: L) I H) : H p = some o := h.mu _ (.head _)
theorem Hs.g1 {a : Addr × HO} (h : Hs (a :: (p, o) :: L) I H) : H p = some o := h.drop.g0
theorem Hs.g2 {a b : Addr × HO} (h : Hs (a :: b :: (p, o) :: L) I H) : H p = some o := h.drop.g1
theorem Hs.g3 {a b c : Addr × HO} (h : Hs (a :: b :: c :: (p, o) :: L) I H) : H p = some o := h.drop.g2
theorem Hs.g4 {a b c d : Addr × HO} (h : Hs (a :: b :: c :: d :: (p, o) :: L) I H) : H p = some o := h.drop.g3
theorem Hs.g5 {a b c d e : Addr × HO} (h : Hs (a :: b :: c :: d :: e :: (p, o) :: L) I H) : H p = some o := h.drop.g4
/-- picking -/
inductive Pick (y : Addr × HO) : ML → ML → Prop
  | here {L : ML} : Pick y (y :: L) L
  | there {x : Addr × HO} {L L1 : ML} : Pick y L L1 → Pick y (x :: L) (x :: L1)
theorem Pick.perm (h : Pick y L L') : L.Perm (y :: L') := by
  induction h with
  | here => exact .refl _
  | there h ih => exact (ih.cons _).trans (.swap _ _ _)
theorem pick {L1 : ML} (h : Pick y L L1) (e : L1.Perm L') : L.Perm (y :: L') := h.perm.trans (e.cons _)
/-- reading -/
theorem Hs.i (h : Hs L I H) (e : I p = some o) : H p = some o := h.im _ _ e
theorem Hs.sq {K : PySem.W.Frag} {xs : List V} (h : Hs L I H) (e : I p = some (.lst xs)) : SqL K H p xs := .inl (.inl (h.im _ _ e))
theorem Hs.st {K : PySem.W.Frag} {xs : List V} (h : Hs L I H) (e : I p = some (.tup xs)) : SqT K H p xs := .inl (.inl (h.im _ _ e))
theorem Hs.sl {K : PySem.W.Frag} {xs : List V} (h : Hs L I H) (e : SqL K I p xs) : SqL K H p xs := h.im.seq e
theorem sqm {K : PySem.W.Frag} {xs : List V} (e : H p = some (.lst xs)) : SqL K H p xs := .inl (.inl e)
theorem sqt {K : PySem.W.Frag} {xs : List V} (e : H p = some (.tup xs)) : SqT K H p xs := .inl (.inl e)
theorem Hs.rp {v : V} {d : PyData} (h : Hs L I H) (e : Rp I v d) : Rp H v d := e.mono h.im
end
theorem szl {n : Nat} (h : n ≤ 100000) : n ≤ sizeLine := Nat.le_trans h (by decide)
theorem szlt {n : Nat} (h : n < 100000) : n < sizeLine := Nat.lt_of_lt_of_le h (by decide)
theorem if_t {c : Bool} {A B : Prop} (hc : c = true) (h : A) : if c = true then A else B := by
  rw [if_pos hc]
  exact h
theorem if_f {c : Bool} {A B : Prop} (hc : c = false) (h : B) : if c = true then A else B := by
  rw [hc, if_neg Bool.false_ne_true]
  exact h
theorem if_d {c A B : Prop} [Decidable c] (h1 : c → A) (h2 : ¬ c → B) : if decide c = true then A else B := by
  by_cases h : c
  · rw [if_pos (decide_eq_true h)]
    exact h1 h
  · rw [if_neg (by simpa using h)]
    exact h2 h
theorem if_nd {c A B : Prop} [Decidable c] (h1 : c → B) (h2 : ¬ c → A) : if (!decide c) = true then A else B := by
  by_cases h : c
  · rw [if_neg (by simpa using h)]
    exact h1 h
  · rw [if_pos (by simpa using h)]
    exact h2 h
theorem if_b {c : Bool} {A B : Prop} (h1 : c = true → A) (h2 : c = false → B) : if c = true then A else B := by
  cases c with
  | true => exact if_t rfl (h1 rfl)
  | false => exact if_f rfl (h2 rfl)

/-! ### data of a bounded depth -/
/-- data of depth at most n, its lists of at most 1000 items, its texts of signs -/
def okD : Nat → PyData → Prop
  | _, .none => True
  | _, .bool _ => True
  | _, .int _ => True
  | _, .str x => PyData.strOk x = true
  | 0, .list _ => False
  | 0, .tuple _ => False
  | n + 1, .list ds => ds.length ≤ 1000 ∧ ∀ d ∈ ds, okD n d
  | n + 1, .tuple ds => ds.length ≤ 1000 ∧ ∀ d ∈ ds, okD n d
  | _, .dict _ => False
theorem okD_int {n : Nat} {i : Int} : okD n (.int i) := by cases n <;> trivial
theorem okD_none {n : Nat} : okD n .none := by cases n <;> trivial
theorem okD_bool {n : Nat} {b : Bool} : okD n (.bool b) := by cases n <;> trivial
theorem okD_str {n : Nat} {x : Str} (h : PyData.strOk x = true) : okD n (.str x) := by cases n <;> exact h
theorem okD_mono : ∀ {n m : Nat} {d : PyData}, n ≤ m → okD n d → okD m d
  | n, m, .none, _, _ => okD_none
  | n, m, .bool _, _, _ => okD_bool
  | n, m, .int _, _, _ => okD_int
  | 0, m, .str _, _, h => okD_str h
  | n + 1, m, .str _, _, h => okD_str h
  | n + 1, m + 1, .list ds, l, h => ⟨h.1, fun d hd => okD_mono (Nat.le_of_succ_le_succ l) (h.2 d hd)⟩
  | n + 1, m + 1, .tuple ds, l, h => ⟨h.1, fun d hd => okD_mono (Nat.le_of_succ_le_succ l) (h.2 d hd)⟩
  | 0, _, .list _, _, h => h.elim
  | 0, _, .tuple _, _, h => h.elim
  | n + 1, 0, _, l, _ => absurd l (by omega)
  | 0, _, .dict _, _, h => by cases h
theorem okD_dI {n : Nat} {ns : List Int} (h : ns.length ≤ 1000) : okD (n + 1) (dI ns) := by
  refine ⟨by rw [List.length_map]; exact h, fun d hd => ?_⟩
  obtain ⟨i, _, rfl⟩ := List.mem_map.mp hd
  exact okD_int
theorem okD_dII {n : Nat} {nss : List (List Int)} (h : nss.length ≤ 1000) (h2 : ∀ ns ∈ nss, ns.length ≤ 1000) : okD (n + 2) (dII nss) := by
  refine ⟨by rw [List.length_map]; exact h, fun d hd => ?_⟩
  obtain ⟨i, hi, rfl⟩ := List.mem_map.mp hd
  exact okD_dI (h2 i hi)
theorem canLayAll_of : ∀ {ds : List PyData}, (∀ d ∈ ds, d.canLay0 = true) → PyData.canLayAll0 ds = true
  | [], _ => rfl
  | d :: ds, h => by
    rw [PyData.canLayAll0, h d (.head _), canLayAll_of fun e he => h e (.tail _ he)]
    rfl
theorem depthAll_of : ∀ {ds : List PyData} {n : Nat}, (∀ d ∈ ds, d.depth ≤ n) → PyData.depthAll ds ≤ n
  | [], n, _ => Nat.zero_le n
  | d :: ds, n, h => by
    rw [PyData.depthAll]
    have h1 := h d (.head _)
    have h2 := depthAll_of fun e he => h e (.tail _ he)
    omega
theorem lay_of : ∀ {n : Nat} {d : PyData}, okD n d → d.canLay0 = true ∧ d.depth ≤ n
  | n, .none, _ => ⟨rfl, Nat.zero_le n⟩
  | n, .bool _, _ => ⟨rfl, Nat.zero_le n⟩
  | n, .int _, _ => ⟨rfl, Nat.zero_le n⟩
  | 0, .str _, h => ⟨h, Nat.zero_le 0⟩
  | n + 1, .str _, h => ⟨h, Nat.zero_le _⟩
  | n + 1, .list ds, h => by
    have k := fun d hd => lay_of (h.2 d hd)
    refine ⟨by rw [PyData.canLay0]; exact canLayAll_of fun d hd => (k d hd).1, ?_⟩
    rw [PyData.depth]
    exact Nat.succ_le_succ (depthAll_of fun d hd => (k d hd).2)
  | n + 1, .tuple ds, h => by
    have k := fun d hd => lay_of (h.2 d hd)
    refine ⟨by rw [PyData.canLay0]; exact canLayAll_of fun d hd => (k d hd).1, ?_⟩
    rw [PyData.depth]
    exact Nat.succ_le_succ (depthAll_of fun d hd => (k d hd).2)
  | 0, .list _, h => h.elim
  | 0, .tuple _, h => h.elim
  | 0, .dict _, h => by cases h
  | n + 1, .dict _, h => by cases h
theorem shaped_of {n : Nat} {d : PyData} (h : okD n d) (l : n ≤ 64) : SeqAt.shaped d = true := by
  obtain ⟨h1, h2⟩ := lay_of h
  unfold SeqAt.shaped
  rw [h1, Bool.true_and]
  exact decide_eq_true (Nat.le_trans h2 l)
theorem eqv_rfl {n : Nat} {d : PyData} (h : okD n d) : PyData.eqv d d = true := SeqAt.eqv_refl d (lay_of h).1
/-- a != b, a == b of equal data -/
theorem neD_same {K : PySem.W.Frag} {H : Hp} {Q : VK} {x y : V} {n : Nat} {d : PyData} (hx : Rp H x d) (hy : Rp H y d) (h : okD n d) (l : n ≤ 64) (q : Q (.bl false) H) : rNeD K x y H Q := by
  refine ⟨d, d, hx.dp, hy.dp, shaped_of h l, shaped_of h l, ?_⟩
  rw [eqv_rfl h]
  exact q
theorem eqD_same {K : PySem.W.Frag} {H : Hp} {Q : VK} {x y : V} {n : Nat} {d : PyData} (hx : Rp H x d) (hy : Rp H y d) (h : okD n d) (l : n ≤ 64) (q : Q (.bl true) H) : rEqD K x y H Q := by
  refine ⟨d, d, hx.dp, hy.dp, shaped_of h l, shaped_of h l, ?_⟩
  rw [eqv_rfl h]
  exact q
/-! ### slices -/
theorem cut_to {xs : List V} {k : Int} (h : 0 ≤ k) : cutV xs none (some k) = xs.take k.toNat := by
  obtain ⟨n, rfl⟩ : ∃ n : Nat, k = (n : Int) := ⟨k.toNat, by omega⟩
  unfold cutV
  rw [HT.sIx_none, HT.sIx_nat, List.drop_zero, Nat.sub_zero, Int.toNat_natCast]
  rcases Nat.le_total n xs.length with l | l
  · rw [Nat.min_eq_left l]
  · rw [Nat.min_eq_right l, List.take_length, List.take_of_length_le l]
theorem cut_from {xs : List V} {k : Int} (h : 0 ≤ k) : cutV xs (some k) none = xs.drop k.toNat := by
  obtain ⟨n, rfl⟩ : ∃ n : Nat, k = (n : Int) := ⟨k.toNat, by omega⟩
  unfold cutV
  rw [HT.sIx_none, HT.sIx_nat, Int.toNat_natCast]
  rcases Nat.le_total n xs.length with l | l
  · rw [Nat.min_eq_left l, List.take_of_length_le (by rw [List.length_drop]; omega)]
  · rw [Nat.min_eq_right l, List.drop_length, List.drop_of_length_le l]
    simp
theorem cut_mid {xs : List V} {j k : Int} (h : 0 ≤ j) (h2 : j ≤ k) : cutV xs (some j) (some k) = (xs.drop j.toNat).take (k - j).toNat := by
  obtain ⟨n, rfl⟩ : ∃ n : Nat, j = (n : Int) := ⟨j.toNat, by omega⟩
  obtain ⟨m, rfl⟩ : ∃ m : Nat, k = (m : Int) := ⟨k.toNat, by omega⟩
  unfold cutV
  rw [HT.sIx_nat, HT.sIx_nat, Int.toNat_natCast, show ((m : Int) - (n : Int)).toNat = m - n by omega]
  rcases Nat.le_total n xs.length with l | l
  · rw [Nat.min_eq_left l]
    rcases Nat.le_total m xs.length with l2 | l2
    · rw [Nat.min_eq_left l2]
    · rw [Nat.min_eq_right l2, List.take_of_length_le (by rw [List.length_drop]; omega), List.take_of_length_le (by rw [List.length_drop]; omega)]
  · rw [Nat.min_eq_right l, List.drop_length, List.drop_of_length_le l]
    simp
theorem map_take (ns : List Int) (k : Nat) : (ns.map V.int).take k = (ns.take k).map V.int := List.map_take.symm
theorem map_drop (ns : List Int) (k : Nat) : (ns.map V.int).drop k = (ns.drop k).map V.int := List.map_drop.symm
theorem map_snoc (ns : List Int) (z : Int) : (ns ++ [z]).map V.int = ns.map V.int ++ [V.int z] := by simp
theorem at2 {x y : V} {j : Int} (h0 : 0 ≤ j) (h1 : j < 2) : ∃ v, atI [x, y] j = some v ∧ (v = x ∨ v = y) := by
  rcases (by omega : j = 0 ∨ j = 1) with rfl | rfl
  · exact ⟨x, rfl, .inl rfl⟩
  · exact ⟨y, rfl, .inr rfl⟩
theorem at3 {x y z : V} {j : Int} (h0 : 0 ≤ j) (h1 : j < 3) : ∃ v, atI [x, y, z] j = some v ∧ (v = x ∨ v = y ∨ v = z) := by
  rcases (by omega : j = 0 ∨ j = 1 ∨ j = 2) with rfl | rfl | rfl
  · exact ⟨x, rfl, .inl rfl⟩
  · exact ⟨y, rfl, .inr (.inl rfl)⟩
  · exact ⟨z, rfl, .inr (.inr rfl)⟩

/-! ### many points -/
/-- lists of ints at addresses -/
def pts (as : List Addr) (nss : List (List Int)) : ML := as.zip (nss.map fun ns => HO.lst (ns.map V.int))
theorem pts_snoc {as : List Addr} {nss : List (List Int)} {q : Addr} {ns : List Int} (h : as.length = nss.length) : pts (as ++ [q]) (nss ++ [ns]) = pts as nss ++ [(q, HO.lst (ns.map V.int))] := by
  unfold pts
  rw [List.map_append, List.zip_append (by rw [List.length_map]; exact h)]
  rfl
/-- they are frozen -/
theorem Hs.frzs {L : ML} : ∀ {as : List Addr} {nss : List (List Int)} {I H : Hp}, as.length = nss.length → Hs (pts as nss ++ L) I H → ∃ I', Same I I' ∧ Hs L I' H ∧ RpA I' (as.map V.ref) (nss.map dI)
  | [], [], I, H, _, h => ⟨I, Same.refl I, h, .nil⟩
  | a :: as, [], _, _, e, _ => by cases e
  | [], n :: nss, _, _, e, _ => by cases e
  | a :: as, n :: nss, I, H, e, h => by
    have h1 : Hs ((a, HO.lst (n.map V.int)) :: (pts as nss ++ L)) I H := h
    have s1 := same_upd (o := HO.lst (n.map V.int)) h1.fr0
    obtain ⟨I', s2, h2, r⟩ := Hs.frzs (L := L) (by simpa using e) h1.frz
    exact ⟨I', s1.trans s2, h2, .cons (Rp.dI_mk (s2 _ _ upd_same)) r⟩
theorem Hs.m_app {x : Addr × HO} {A L : ML} {I H : Hp} (h : Hs (x :: (A ++ L)) I H) : Hs (A ++ (x :: L)) I H := h.perm (List.perm_middle).symm
theorem Hs.app_m {x : Addr × HO} {A L : ML} {I H : Hp} (h : Hs (A ++ (x :: L)) I H) : Hs (x :: (A ++ L)) I H := h.perm List.perm_middle
theorem Hs.gm {L : ML} {I H : Hp} {p : Addr} {o : HO} (h : Hs L I H) (m : (p, o) ∈ L) : H p = some o := h.mu _ m
theorem Hs.dropl {A L : ML} {I H : Hp} (h : Hs (A ++ L) I H) : Hs L I H := by
  induction A with
  | nil => exact h
  | cons x A ih => exact ih h.drop

theorem rpa_pts {H : Hp} : ∀ {as : List Addr} {nss : List (List Int)}, as.length = nss.length → (∀ x ∈ pts as nss, H x.1 = some x.2) → RpA H (as.map V.ref) (nss.map dI)
  | [], [], _, _ => .nil
  | a :: as, [], e, _ => by cases e
  | [], n :: nss, e, _ => by cases e
  | a :: as, n :: nss, e, h => .cons (Rp.dI_mk (h (a, HO.lst (n.map V.int)) (.head _))) (rpa_pts (by simpa using e) fun x hx => h x (.tail _ hx))
/-- a list of lists that stand as points -/
theorem Hs.rpII {L : ML} {I H : Hp} {p : Addr} {as : List Addr} {nss : List (List Int)} (h : Hs ((p, .lst (as.map V.ref)) :: (pts as nss ++ L)) I H) (e : as.length = nss.length) : Rp H (.ref p) (dII nss) :=
  .lst h.g0 (rpa_pts e fun x hx => h.mu x (.tail _ (List.mem_append_left _ hx)))
theorem Hs.frzII {L : ML} {I H : Hp} {p : Addr} {as : List Addr} {nss : List (List Int)} (h : Hs ((p, .lst (as.map V.ref)) :: (pts as nss ++ L)) I H) (e : as.length = nss.length) : ∃ I', Same I I' ∧ Hs L I' H ∧ Rp I' (.ref p) (dII nss) := by
  obtain ⟨I1, s1, h1, r1⟩ := Hs.frzs e h.m_app
  have s2 := same_upd (o := .lst (as.map V.ref)) h1.fr0
  exact ⟨_, s1.trans s2, h1.frz, .lst upd_same (r1.mono s2)⟩

theorem Hs.rot {A L : ML} {I H : Hp} {x y : Addr × HO} (h : Hs (x :: (A ++ (y :: L))) I H) : Hs (y :: x :: (A ++ L)) I H := (h.perm ((List.perm_middle).cons _)).m1

theorem Hs.one {L : ML} {I H : Hp} {x : Addr × HO} (h : Hs (x :: L) I H) : Hs [x] I H := (h.perm (List.perm_append_comm (l₁ := [x]) (l₂ := L))).dropl
end RL
/-! RL1: a def's promise in one word (Ok), its calls, methods, makes, raises; rules that lacked. -/
namespace RL
open PySem PySem.Spec PyProof.Rows L2

/-- the def at f keeps sp, binds its parameters ps, stands -/
structure Ok (P : Program) (w : World) (K : PySem.W.Frag) (mg : Str → Option Value) (base : Heap) (k : Nat) (f : Addr) (ps : List Str) (sp : Sp) : Prop where
  ex : ∃ fd : FuncData, FnOk P w K mg base (L2N.CX P w) k f fd ps sp ∧ Binds K fd ps []
  kp : PySem.W.keepIn K (.ref f) = true
section
variable {P : Program} {w : World} {K : PySem.W.Frag} {mg : Str → Option Value} {base : Heap}
theorem Ok.mono {j k : Nat} {f : Addr} {ps : List Str} {sp : Sp} (G : Ok P w K mg base j f ps sp) (h : j ≤ k) : Ok P w K mg base k f ps sp := by
  obtain ⟨fd, F, b⟩ := G.ex
  exact ⟨⟨fd, F.mono h, b⟩, G.kp⟩
theorem Ok.imp {k : Nat} {f : Addr} {ps : List Str} {sp sp' : Sp} (G : Ok P w K mg base k f ps sp) (h : ∀ vs H Q E, sp' vs H Q E → sp vs H Q E) : Ok P w K mg base k f ps sp' := by
  obtain ⟨fd, F, b⟩ := G.ex
  exact ⟨⟨fd, F.imp h, b⟩, G.kp⟩
/-- the def st of the text at f -/
abbrev Df (K : PySem.W.Frag) (x qual : Str) (st : Stmt) (f : Addr) : Prop := ∃ fd, FunD K x qual (defArgs st) (defBody st) (defScope st) [] [] f fd
theorem ok_of {x qual : Str} {st : Stmt} {f : Addr} {N ps : List Str} {k : Nat} {sp : Sp} (F : Df K x qual st f) (S : FnScope N ps (defScope st))
    (bd : ∀ (kV doc pm : Value) (an : Option Addr) (cdv ct : Value) (us : List Value), us.length = ps.length → bindArgs (PySem.W.fnOf x qual (defArgs st) (defBody st) (defScope st) .none kV doc pm an cdv ct) ⟨us, []⟩ = pure (ps.zip us))
    (len : ∀ vs H Q E, sp vs H Q E → vs.length = ps.length)
    (hbody : ∀ (cdv : Value) (A : Around) (outer : List Env) (s : Shared) (H : Hp) (vs : List V) (Q : VK) (E : XK), Room k (A.deeper (envOfC qual (defScope st) s.heap.objs.size f cdv)) →
      L2N.Takes (cxOf (L2N.CX P w) P w K mg base N qual (defScope st) f cdv A outer s H E) (fun cls d _ H' => E cls d H') →
      PassesOwn (model P w) (A.deeper (envOfC qual (defScope st) s.heap.objs.size f cdv)) (envOfC qual (defScope st) s.heap.objs.size f cdv) (cxOf (L2N.CX P w) P w K mg base N qual (defScope st) f cdv A outer s H E).xe → sp vs H Q E →
      ∃ t, PSs (cxOf (L2N.CX P w) P w K mg base N qual (defScope st) f cdv A outer s H E) (defBody st) t ∧ t { nx := fun _ H' => Q .non H', rt := Q } (start N vs) H) : Ok P w K mg base (k + 1) f ps sp := by
  obtain ⟨fd, F⟩ := F
  exact ⟨⟨fd, F.ok S len fun cdv A outer s H vs Q E hr h => hbody cdv A outer s H vs Q E hr (L2N.takes_of rfl rfl rfl rfl) (passes_of (X := cxOf (L2N.CX P w) P w K mg base N qual (defScope st) f cdv A outer s H E) rfl) h, F.bindsN bd⟩, F.kp⟩
end

theorem fnok_of {P : Program} {w : World} {K : PySem.W.Frag} {mg : Str → Option Value} {base : Heap} {x qual : Str} {st : Stmt} {f : Addr} {fd : FuncData} {N ps : List Str} {k : Nat} {sp : Sp} (F : FunD K x qual (defArgs st) (defBody st) (defScope st) [] [] f fd) (S : FnScope N ps (defScope st))
    (len : ∀ vs H Q E, sp vs H Q E → vs.length = ps.length)
    (hbody : ∀ (cdv : Value) (A : Around) (outer : List Env) (s : Shared) (H : Hp) (vs : List V) (Q : VK) (E : XK), Room k (A.deeper (envOfC qual (defScope st) s.heap.objs.size f cdv)) →
      L2N.Takes (cxOf (L2N.CX P w) P w K mg base N qual (defScope st) f cdv A outer s H E) (fun cls d _ H' => E cls d H') →
      PassesOwn (model P w) (A.deeper (envOfC qual (defScope st) s.heap.objs.size f cdv)) (envOfC qual (defScope st) s.heap.objs.size f cdv) (cxOf (L2N.CX P w) P w K mg base N qual (defScope st) f cdv A outer s H E).xe → sp vs H Q E →
      ∃ t, PSs (cxOf (L2N.CX P w) P w K mg base N qual (defScope st) f cdv A outer s H E) (defBody st) t ∧ t { nx := fun _ H' => Q .non H', rt := Q } (start N vs) H) : FnOk P w K mg base (L2N.CX P w) (k + 1) f fd ps sp :=
  F.ok S len fun cdv A outer s H vs Q E hr h => hbody cdv A outer s H vs Q E hr (L2N.takes_of rfl rfl rfl rfl) (passes_of (X := cxOf (L2N.CX P w) P w K mg base N qual (defScope st) f cdv A outer s H E) rfl) h

/-! ### calls -/
def tMethO (C : Addr) (m : Str) (sp : Sp) (E : L2.St → XK) (ta : TE) (t : TA) : TE := fun σ H Q => ta σ H fun x H1 => ∃ a dx fs, x = .ref a ∧ H1 a = some (.ins C dx fs) ∧ fs.lookup m = none ∧ t σ H1 fun vs H2 => sp (x :: vs) H2 Q (E σ)
def tMakeO (C : Addr) (sp : Sp) (E : L2.St → XK) (t : TA) : TE := fun σ H Q => t σ H fun vs H1 => ∀ x dx, H1 x = none → H1 dx = none → dx ≠ x →
  sp (.ref x :: vs) (upd (upd H1 dx (.own x)) x (.ins C dx [])) (fun v H2 => v = .non ∧ Q (.ref x) H2) (E σ)
/-- nothing is let out -/
theorem passN {X : Cx} (σ : L2.St) : PassesAt (L2N.CX X.prog X.w) X σ E0 := fun _ _ _ _ _ _ h => by
  obtain ⟨_, _, _, _, _, _, _, _, _, _, _, _, z⟩ := h
  exact z.elim
section
variable {X : Cx} {k : Nat} {f C : Addr} {ps : List Str} {sp : Sp} {E : L2.St → XK} {x m : Str} {p pos apos : Pos} {e o : Expr} {es : List Expr} {ta : TE} {t : TA}
theorem pe_callO (G : Ok X.prog X.w X.K X.mg X.base k f ps sp) (hr : Room k X.A) (hm : X.mg x = some (.ref f)) (hx : ∀ σ, PassesAt (L2N.CX X.prog X.w) X σ (E σ))
    (ha : PA X (e :: es) t) (hg : Gl X x := by rfl) (hdb : (x == ("__debug__" : Str)) = false := by decide) (he : starEach (e :: es) X.env = (false, eval e X.env) :: starEach es X.env := by rfl) (hpl : (backTo pos (starEach es X.env)).any (·.1) = false := by rfl) :
    PE X (.Call (.Name x p) (e :: es) [] pos) (tCallS sp E t) := by
  obtain ⟨fd, F, hb⟩ := G.ex
  exact pe_callS F hr hg hm G.kp hb hx ha hdb he hpl
theorem pe_methO {pl : Sem Bool} (he : PE X o ta) (c : Cls X.K C) (hm : Meth X.K C m f) (G : Ok X.prog X.w X.K X.mg X.base k f ps sp) (hr : Room k X.A) (hx : ∀ σ, PassesAt (L2N.CX X.prog X.w) X σ (E σ)) (ha : PA X (e :: es) t)
    (hst : starEach (e :: es) X.env = (false, eval e X.env) :: starEach es X.env := by rfl) (hpl : (backTo pos (starEach es X.env)).any (·.1) = false := by rfl)
    (ht : eval (.Call (.Attribute o m apos) (e :: es) [] pos) X.env = (do
      let ov ← eval o X.env
      standAt apos.atName
      let (f, first) ← holding [ov] (getMethod ov m pl)
      callWith pos f first (backTo pos (starEach (e :: es) X.env)) (backToKw pos (keywordEach [] X.env))) := by rfl) :
    PE X (.Call (.Attribute o m apos) (e :: es) [] pos) (tMethO C m sp E ta t) := by
  obtain ⟨fd, F, hb⟩ := G.ex
  refine ⟨fun pins s σ H Q I h => ?_⟩
  refine PySem.W.methodCall_KW (pl := pl) (thn (he.run pins s σ H _ I h) fun u s1 ⟨x, H1, I1, rx, a, dx, fs, ex, ea, l, q⟩ => ?_) ht
  subst ex
  obtain rfl : u = Value.ref a := rx
  refine getmeth_ok I1 ea c hm l ?_
  refine PySem.W.callWith_K (first := [.ref a]) (h₀ := X.base) I.ok.mod.kin hm.kp (thn (ha.run pos pins s1 σ H1 _ I1 q) fun us s2 ⟨vs, H2, I2, r, q2⟩ => ⟨I2.kIn, ?_⟩) hst hpl
  exact run_fnS (us := .ref a :: us) (vs := .ref a :: vs) F hr hb (hx σ) I2 (.cons rfl r) q2
theorem pe_methO0 {pl : Sem Bool} (he : PE X o ta) (c : Cls X.K C) (hm : Meth X.K C m f) (G : Ok X.prog X.w X.K X.mg X.base k f ps sp) (hr : Room k X.A) (hx : ∀ σ, PassesAt (L2N.CX X.prog X.w) X σ (E σ))
    (ht : eval (.Call (.Attribute o m apos) [] [] pos) X.env = (do
      let ov ← eval o X.env
      standAt apos.atName
      let (f, first) ← holding [ov] (getMethod ov m pl)
      callWith pos f first (backTo pos (starEach [] X.env)) (backToKw pos (keywordEach [] X.env))) := by rfl) :
    PE X (.Call (.Attribute o m apos) [] [] pos) (tMethO C m sp E ta tNil) := by
  obtain ⟨fd, F, hb⟩ := G.ex
  refine ⟨fun pins s σ H Q I h => ?_⟩
  refine PySem.W.methodCall_KW (pl := pl) (thn (he.run pins s σ H _ I h) fun u s1 ⟨x, H1, I1, rx, a, dx, fs, ex, ea, l, q⟩ => ?_) ht
  subst ex
  obtain rfl : u = Value.ref a := rx
  refine getmeth_ok I1 ea c hm l ?_
  exact PySem.W.callWith_K0 (first := [.ref a]) I1.kIn hm.kp (run_fnS (us := [.ref a]) (vs := [.ref a]) F hr hb (hx σ) I1 (.cons rfl .nil) q)
theorem run_makeS {fd : FuncData} {pins : List (Addr × Obj)} {σ : L2.St} {H : Hp} {s : Shared} {Q : VK} {us : List Value} {vs : List V} (M : Mk X.K C f) (F : FnOk X.prog X.w X.K X.mg X.base (L2N.CX X.prog X.w) k f fd ps sp) (hr : Room (k + 1) X.A) (hb : Binds X.K fd ps [])
    (hx : PassesAt (L2N.CX X.prog X.w) X σ (E σ)) (I : Inv X pins σ H s) (r : Vals vs us)
    (h : ∀ x dx, H x = none → H dx = none → dx ≠ x → sp (.ref x :: vs) (upd (upd H dx (.own x)) x (.ins C dx [])) (fun v H2 => v = .non ∧ Q (.ref x) H2) (E σ)) :
    wpAny (model X.prog X.w) X.A (call (.ref C) us) (EP X pins σ Q) X.xe s := by
  have hq := h (s.heap.objs.size + 1) s.heap.objs.size (I.hok.fresh (Nat.le_succ _)) (I.hok.fresh (Nat.le_refl _)) (Nat.ne_of_lt (Nat.lt_succ_self _))
  have I2 := Inv.made (C := C) I
  have r2 : Vals (V.ref (s.heap.objs.size + 1) :: vs) (Value.ref (s.heap.objs.size + 1) :: us) := .cons rfl r
  have hl : (Value.ref (s.heap.objs.size + 1) :: us).length = ps.length := by
    have e := r2.length
    rw [F.len _ _ _ _ hq] at e
    exact e.symm
  have hb2 := hb { s with heap := (s.heap.push PySem.W.emptyDict).push (PySem.W.instObj C s.heap.objs.size) } (Value.ref (s.heap.objs.size + 1) :: us) I2.kIn (by rw [List.append_nil]; exact hl)
  rw [List.append_nil] at hb2
  refine wpAny_call (make_map (f := f) I.kIn M.makes M.init (beq_iff_eq.mp M.fn) (codeAny_mono (F.run _ X.stack _ _ ⟨Value.ref (s.heap.objs.size + 1) :: us, []⟩ (Value.ref (s.heap.objs.size + 1) :: us) _ _ (E σ) (hr.make C us [])
    (I2.env0.make C us []) hb2 r2 hq) fun r s' hq' => ?_))
  cases r with
  | error e => exact hx pins _ _ e s' I2 hq'
  | ok fl =>
    cases fl with
    | ret u =>
      obtain ⟨v, H', I3, rv, ev, q3⟩ := I2.after hq'
      subst ev
      exact ⟨rv, ⟨V.ref (s.heap.objs.size + 1), H', I3, rfl, q3⟩⟩
    | next => exact False.elim hq'
    | brk => exact False.elim hq'
    | cont => exact False.elim hq'
theorem pe_makeO (M : Mk X.K C f) (G : Ok X.prog X.w X.K X.mg X.base k f ps sp) (hr : Room (k + 1) X.A) (hm : X.mg x = some (.ref C)) (hx : ∀ σ, PassesAt (L2N.CX X.prog X.w) X σ (E σ))
    (ha : PA X (e :: es) t) (hg : Gl X x := by rfl) (hdb : (x == ("__debug__" : Str)) = false := by decide) (he : starEach (e :: es) X.env = (false, eval e X.env) :: starEach es X.env := by rfl) (hpl : (backTo pos (starEach es X.env)).any (·.1) = false := by rfl) :
    PE X (.Call (.Name x p) (e :: es) [] pos) (tMakeO C sp E t) := by
  obtain ⟨fd, F, hb⟩ := G.ex
  refine ⟨fun pins s σ H Q I h => ?_⟩
  refine wpAny_Call_Name_kw (ld_glob I hg hm ?_ hdb)
  refine PySem.W.callWith_K (h₀ := X.base) I.ok.mod.kin M.kp (thn (ha.run pos pins s σ H _ I h) fun us s1 ⟨vs, H1, I1, r, q⟩ => ⟨I1.kIn, ?_⟩) he hpl
  exact run_makeS M F hr hb (hx σ) I1 r q
end

/-! ### isinstance -/
theorem kb_NoneType_bool {K : PySem.W.Frag} : PySem.W.kitOne K (.type "NoneType") (.type "bool") = some false := kit_ty (by decide +kernel)
theorem kb_NoneType_int {K : PySem.W.Frag} : PySem.W.kitOne K (.type "NoneType") (.type "int") = some false := kit_ty (by decide +kernel)
theorem kb_NoneType_str {K : PySem.W.Frag} : PySem.W.kitOne K (.type "NoneType") (.type "str") = some false := kit_ty (by decide +kernel)
theorem kb_NoneType_list {K : PySem.W.Frag} : PySem.W.kitOne K (.type "NoneType") (.type "list") = some false := kit_ty (by decide +kernel)
theorem kb_NoneType_tuple {K : PySem.W.Frag} : PySem.W.kitOne K (.type "NoneType") (.type "tuple") = some false := kit_ty (by decide +kernel)
theorem kb_bool_bool {K : PySem.W.Frag} : PySem.W.kitOne K (.type "bool") (.type "bool") = some true := kit_ty (by decide +kernel)
theorem kb_bool_int {K : PySem.W.Frag} : PySem.W.kitOne K (.type "bool") (.type "int") = some true := kit_ty (by decide +kernel)
theorem kb_bool_str {K : PySem.W.Frag} : PySem.W.kitOne K (.type "bool") (.type "str") = some false := kit_ty (by decide +kernel)
theorem kb_bool_list {K : PySem.W.Frag} : PySem.W.kitOne K (.type "bool") (.type "list") = some false := kit_ty (by decide +kernel)
theorem kb_bool_tuple {K : PySem.W.Frag} : PySem.W.kitOne K (.type "bool") (.type "tuple") = some false := kit_ty (by decide +kernel)
theorem kb_int_bool {K : PySem.W.Frag} : PySem.W.kitOne K (.type "int") (.type "bool") = some false := kit_ty (by decide +kernel)
theorem kb_int_int {K : PySem.W.Frag} : PySem.W.kitOne K (.type "int") (.type "int") = some true := kit_ty (by decide +kernel)
theorem kb_int_str {K : PySem.W.Frag} : PySem.W.kitOne K (.type "int") (.type "str") = some false := kit_ty (by decide +kernel)
theorem kb_int_list {K : PySem.W.Frag} : PySem.W.kitOne K (.type "int") (.type "list") = some false := kit_ty (by decide +kernel)
theorem kb_int_tuple {K : PySem.W.Frag} : PySem.W.kitOne K (.type "int") (.type "tuple") = some false := kit_ty (by decide +kernel)
theorem kb_str_bool {K : PySem.W.Frag} : PySem.W.kitOne K (.type "str") (.type "bool") = some false := kit_ty (by decide +kernel)
theorem kb_str_int {K : PySem.W.Frag} : PySem.W.kitOne K (.type "str") (.type "int") = some false := kit_ty (by decide +kernel)
theorem kb_str_str {K : PySem.W.Frag} : PySem.W.kitOne K (.type "str") (.type "str") = some true := kit_ty (by decide +kernel)
theorem kb_str_list {K : PySem.W.Frag} : PySem.W.kitOne K (.type "str") (.type "list") = some false := kit_ty (by decide +kernel)
theorem kb_str_tuple {K : PySem.W.Frag} : PySem.W.kitOne K (.type "str") (.type "tuple") = some false := kit_ty (by decide +kernel)
theorem kb_list_bool {K : PySem.W.Frag} : PySem.W.kitOne K (.type "list") (.type "bool") = some false := kit_ty (by decide +kernel)
theorem kb_list_int {K : PySem.W.Frag} : PySem.W.kitOne K (.type "list") (.type "int") = some false := kit_ty (by decide +kernel)
theorem kb_list_str {K : PySem.W.Frag} : PySem.W.kitOne K (.type "list") (.type "str") = some false := kit_ty (by decide +kernel)
theorem kb_list_list {K : PySem.W.Frag} : PySem.W.kitOne K (.type "list") (.type "list") = some true := kit_ty (by decide +kernel)
theorem kb_list_tuple {K : PySem.W.Frag} : PySem.W.kitOne K (.type "list") (.type "tuple") = some false := kit_ty (by decide +kernel)
theorem kb_tuple_bool {K : PySem.W.Frag} : PySem.W.kitOne K (.type "tuple") (.type "bool") = some false := kit_ty (by decide +kernel)
theorem kb_tuple_int {K : PySem.W.Frag} : PySem.W.kitOne K (.type "tuple") (.type "int") = some false := kit_ty (by decide +kernel)
theorem kb_tuple_str {K : PySem.W.Frag} : PySem.W.kitOne K (.type "tuple") (.type "str") = some false := kit_ty (by decide +kernel)
theorem kb_tuple_list {K : PySem.W.Frag} : PySem.W.kitOne K (.type "tuple") (.type "list") = some false := kit_ty (by decide +kernel)
theorem kb_tuple_tuple {K : PySem.W.Frag} : PySem.W.kitOne K (.type "tuple") (.type "tuple") = some true := kit_ty (by decide +kernel)
theorem kb_float_bool {K : PySem.W.Frag} : PySem.W.kitOne K (.type "float") (.type "bool") = some false := kit_ty (by decide +kernel)
theorem kb_float_int {K : PySem.W.Frag} : PySem.W.kitOne K (.type "float") (.type "int") = some false := kit_ty (by decide +kernel)
theorem kb_float_str {K : PySem.W.Frag} : PySem.W.kitOne K (.type "float") (.type "str") = some false := kit_ty (by decide +kernel)
theorem kb_float_list {K : PySem.W.Frag} : PySem.W.kitOne K (.type "float") (.type "list") = some false := kit_ty (by decide +kernel)
theorem kb_float_tuple {K : PySem.W.Frag} : PySem.W.kitOne K (.type "float") (.type "tuple") = some false := kit_ty (by decide +kernel)
theorem kb_dict_bool {K : PySem.W.Frag} : PySem.W.kitOne K (.type "dict") (.type "bool") = some false := kit_ty (by decide +kernel)
theorem kb_dict_int {K : PySem.W.Frag} : PySem.W.kitOne K (.type "dict") (.type "int") = some false := kit_ty (by decide +kernel)
theorem kb_dict_str {K : PySem.W.Frag} : PySem.W.kitOne K (.type "dict") (.type "str") = some false := kit_ty (by decide +kernel)
theorem kb_dict_list {K : PySem.W.Frag} : PySem.W.kitOne K (.type "dict") (.type "list") = some false := kit_ty (by decide +kernel)
theorem kb_dict_tuple {K : PySem.W.Frag} : PySem.W.kitOne K (.type "dict") (.type "tuple") = some false := kit_ty (by decide +kernel)
theorem kit2 {K : PySem.W.Frag} {t b c : Value} {r1 r2 : Bool} (h1 : PySem.W.kitOne K t b = some r1) (h2 : PySem.W.kitOne K t c = some r2) : PySem.W.kitAny K t [b, c] = some (r1 || r2) := by
  refine kitAny_cons h1 (fun e => ?_) (fun e => by rw [e] <;> rfl)
  rw [e]
  refine kitAny_cons h2 (fun e => ?_) (fun e => by rw [e] <;> rfl)
  rw [e]
  rfl
/-- what raises nothing -/
theorem fn_cx0 {P : Program} {w : World} {K : PySem.W.Frag} {mg : Str → Option Value} {base : Heap} {k : Nat} {f : Addr} {fd : FuncData} {ps : List Str} {sp : Sp} (F : FnOk P w K mg base (L2N.CX P w) k f fd ps sp) (h : ∀ vs H Q E, sp vs H Q E → sp vs H Q E0) : FnOk P w K mg base CX0 k f fd ps sp := by
  refine ⟨F.len, fun A outer s H args us vs Q E hr he hb hv hs => codeAny_mono (F.run A outer s H args us vs Q E0 hr he hb hv (h _ _ _ _ hs)) fun r s' hq => ?_⟩
  cases r with
  | error e =>
    obtain ⟨_, _, _, _, _, _, _, _, _, _, _, _, z⟩ := hq
    exact z.elim
  | ok fl => cases fl <;> exact hq
/-- a promise that no one asks -/
def spNever : Sp := fun _ _ _ _ => False
theorem ok_never {P : Program} {w : World} {K : PySem.W.Frag} {mg : Str → Option Value} {base : Heap} {x qual : Str} {st : Stmt} {f : Addr} {ps : List Str} {k : Nat} (F : Df K x qual st f)
    (bd : ∀ (kV doc pm : Value) (an : Option Addr) (cdv ct : Value) (us : List Value), us.length = ps.length → bindArgs (PySem.W.fnOf x qual (defArgs st) (defBody st) (defScope st) .none kV doc pm an cdv ct) ⟨us, []⟩ = pure (ps.zip us)) : Ok P w K mg base k f ps spNever := by
  obtain ⟨fd, F⟩ := F
  exact ⟨⟨fd, ⟨fun _ _ _ _ h => h.elim, fun _ _ _ _ _ _ _ _ _ _ _ _ _ h => h.elim⟩, F.bindsN bd⟩, F.kp⟩

/-! ### the rules with their written part named (for use within comprehensions) -/
section
variable {X : Cx}
theorem ix_list_q (K : PySem.W.Frag) (h : X.K = K) : IxR X (rIxL K) := h ▸ ix_list
theorem ix_tup_q (K : PySem.W.Frag) (h : X.K = K) : IxR X (rIxT K) := h ▸ ix_tup
theorem ix_seq_q (K : PySem.W.Frag) (h : X.K = K) : IxR X (rIx K) := h ▸ ix_seq
theorem sl_list_q (K : PySem.W.Frag) (h : X.K = K) : SlR X (rSlL K) := h ▸ sl_list
theorem sl_tup_q (K : PySem.W.Frag) (h : X.K = K) : SlR X (rSlT K) := h ▸ sl_tup
theorem call_len_seq_q (K : PySem.W.Frag) (h : X.K = K) : CallR X (.builtin "len") (fun xs H Q => ∃ p ys, xs = [.ref p] ∧ (SqL K H p ys ∨ SqT K H p ys) ∧ Q (.int ys.length) H) := h ▸ call_len_seq
theorem call_list_of_q (K : PySem.W.Frag) (h : X.K = K) : CallR X (.type "list") (fun xs H Q => ∃ p ys, xs = [.ref p] ∧ (SqL K H p ys ∨ SqT K H p ys) ∧ ∀ l, H l = none → Q (.ref l) (upd H l (.lst ys))) := h ▸ call_list_of
theorem call_tuple_of_q (K : PySem.W.Frag) (h : X.K = K) : CallR X (.type "tuple") (fun xs H Q => ∃ p ys, xs = [.ref p] ∧ ((SqL K H p ys ∧ ∀ l, H l = none → Q (.ref l) (upd H l (.tup ys))) ∨ (SqT K H p ys ∧ Q (.ref p) H))) := h ▸ call_tuple_of
theorem op_in_seq_q (K : PySem.W.Frag) (h : X.K = K) : OpR X (compareOp .In) (rIn K false) := h ▸ op_in_seq
theorem op_notIn_seq_q (K : PySem.W.Frag) (h : X.K = K) : OpR X (compareOp .NotIn) (rIn K true) := h ▸ op_notIn_seq
theorem op_eqD_q (K : PySem.W.Frag) (h : X.K = K) (hu : X.A.units + 64 < cLine) : OpR X (compareOp .Eq) (rEqD K) := h ▸ op_eqD hu
theorem op_neD_q (K : PySem.W.Frag) (h : X.K = K) (hu : X.A.units + 64 < cLine) : OpR X (compareOp .NotEq) (rNeD K) := h ▸ op_neD hu
theorem op_inD_q (K : PySem.W.Frag) (h : X.K = K) (hu : X.A.units + 65 < cLine) : OpR X (compareOp .In) (rInD K) := h ▸ op_inD hu
theorem op_notInD_q (K : PySem.W.Frag) (h : X.K = K) (hu : X.A.units + 65 < cLine) : OpR X (compareOp .NotIn) (rNotInD K) := h ▸ op_notInD hu
theorem cr_sum_q (K : PySem.W.Frag) (h : X.K = K) (hc : X.calm = true) : CallR X (.builtin "sum") (rSum K) := h ▸ cr_sum hc
theorem call_isi_q (K : PySem.W.Frag) (h : X.K = K) : CallR X (.builtin "isinstance") (rIsi K) := h ▸ call_isi
theorem call_isiT_q (K : PySem.W.Frag) (h : X.K = K) : CallR X (.builtin "isinstance") (rIsiT K) := h ▸ call_isiT
theorem pe_fld_q (K : PySem.W.Frag) (h : X.K = K) {e : Expr} {ta : TE} {f : Str} {pos : Pos} (he : PE X e ta) (hb : attributeBase e f X.env (eval e X.env) = eval e X.env) : PE X (.Attribute e f pos) (tFld K ta f) := h ▸ pe_fld he hb
theorem pg_tup_q (K : PySem.W.Frag) (h : X.K = K) {es : List Expr} {k : Nat} {t : TGs} {n : Nat} {pos : Pos} (hc : X.calm = true) (hg : PGs X es t)
    (hn : (assignEach es X.env).length = n := by rfl) (hst : (assignEach es X.env).findIdx? (·.1) = none := by rfl) : PG X (.Tuple es k pos) (gTup K n t) := h ▸ pg_tup hc hg hn hst
theorem pi_list_q (K : PySem.W.Frag) (h : X.K = K) {tg l : Expr} {tl : TE} (hl : PE X l tl) : PI X tg l (iList K tl) := h ▸ pi_list hl
theorem pi_tup_q (K : PySem.W.Frag) (h : X.K = K) {tg l : Expr} {tl : TE} (hl : PE X l tl) : PI X tg l (iTup K tl) := h ▸ pi_tup hl
theorem pe_bm0_q (K : PySem.W.Frag) (h : X.K = K) {T : String} {name : Str} {id : String} {o : Expr} {to : TE} {apos cpos : Pos} {r : V → List V → Hp → VK → Prop} (pa : PlainAttrs T) (slot : Slot T name id) (hty : typeOf (.builtin id) = pure (.type "method_descriptor")) (hm : MtR X id r) (ho : PE X o to)
    (hbase : attributeBase o name X.env (eval o X.env) = eval o X.env := by rfl) (hline : (apos.endLine == cpos.line) = true := by rfl) : PE X (.Call (.Attribute o name apos) [] [] cpos) (tBM0 K T r to) := h ▸ pe_bm0 pa slot hty hm ho hbase hline
theorem pe_bm_q (K : PySem.W.Frag) (h : X.K = K) {T : String} {name : Str} {id : String} {o e : Expr} {es : List Expr} {to : TE} {t : TA} {apos cpos : Pos} {r : V → List V → Hp → VK → Prop} (pa : PlainAttrs T) (slot : Slot T name id) (hty : typeOf (.builtin id) = pure (.type "method_descriptor")) (hm : MtR X id r) (ho : PE X o to) (ha : PA X (e :: es) t)
    (hbase : attributeBase o name X.env (eval o X.env) = eval o X.env := by rfl)
    (hfew : ((backTo cpos (starEach (e :: es) X.env)).all (fun x => !x.1) && (backToKw cpos (keywordEach [] X.env)).all (fun x => x.1.isSome)
      && decide ((e :: es).length + ([] : List Keyword).length + (if ([] : List Keyword).isEmpty then 0 else 1) < 30)) = true := by rfl)
    (hline : (apos.endLine == cpos.line) = true := by rfl) (hs : starEach (e :: es) X.env = (false, eval e X.env) :: starEach es X.env := by rfl) (hplain : (backTo cpos (starEach es X.env)).any (·.1) = false := by rfl) :
    PE X (.Call (.Attribute o name apos) (e :: es) [] cpos) (tBM K T r to t) := h ▸ pe_bm pa slot hty hm ho ha hbase hfew hline hs hplain
end

/-! ### a comprehension over turns that are known -/
theorem lc_of {J : It} {n : Nat} {item : Nat → V} {g : TG} {tt : TT} {te : TE} {vs : List Nat} {σ : L2.St} {H1 : Hp} {D : Addr} {Qd : Hp → Prop} (Pv : Nat → Hp → Prop) (hgo : ∀ i H, i < n → J.go i H) (hy : ∀ i H x H', J.yld i H x H' → H' = H ∧ x = item i)
    (hst : ∀ i H, n ≤ i → J.stop i H) (h0 : Pv 0 (upd H1 D (.lst [])))
    (hs : ∀ i H, i < n → Pv i H → g (item i) (wipe σ vs) H fun σ2 H2 => wipe σ2 vs = wipe σ vs ∧ tt σ2 H2 fun b H3 =>
      if b = true then te σ2 H3 fun y H4 => ∃ acc, H4 D = some (.lst acc) ∧ acc.length < sizeLine ∧ Pv (i + 1) (upd H4 D (.lst (acc ++ [y]))) else Pv (i + 1) H3) (hd : ∀ H, Pv n H → Qd H) :
    ∃ W : Nat → Nat → Hp → Prop, (∃ m, W 0 m (upd H1 D (.lst []))) ∧ ∀ i m H, W i m H →
      (J.stop i H ∧ Qd H) ∨ (J.go i H ∧ ∃ Nx : Hp → Prop, (∀ H', Nx H' → ∃ m', m' < m ∧ W (i + 1) m' H') ∧ ∀ x H', J.yld i H x H' → g x (wipe σ vs) H' fun σ2 H2 => wipe σ2 vs = wipe σ vs ∧ tt σ2 H2 fun b H3 =>
        if b = true then te σ2 H3 fun y H4 => ∃ acc, H4 D = some (.lst acc) ∧ acc.length < sizeLine ∧ Nx (upd H4 D (.lst (acc ++ [y]))) else Nx H3) := by
  refine ⟨fun i m H => m = n - i ∧ i ≤ n ∧ Pv i H, ⟨n, rfl, Nat.zero_le _, h0⟩, ?_⟩
  rintro i m H ⟨rfl, hi, p⟩
  rcases Nat.lt_or_ge i n with hlt | hge
  · refine .inr ⟨hgo i H hlt, Pv (i + 1), fun H' p' => ⟨n - (i + 1), by omega, rfl, hlt, p'⟩, fun x H' y => ?_⟩
    obtain ⟨rfl, rfl⟩ := hy i H x H' y
    exact hs i _ hlt p
  · obtain rfl : i = n := Nat.le_antisymm hi hge
    exact .inl ⟨hst _ _ hge, hd H p⟩
/-- over range(lo, .., c) -/
theorem lc_rangeC {lo c : Int} {n : Nat} {g : TG} {tt : TT} {te : TE} {vs : List Nat} {σ : L2.St} {H1 : Hp} {D : Addr} {Qd : Hp → Prop} (Pv : Nat → Hp → Prop) (h0 : Pv 0 (upd H1 D (.lst [])))
    (hs : ∀ i H, i < n → Pv i H → g (.int (lo + (i : Nat) * c)) (wipe σ vs) H fun σ2 H2 => wipe σ2 vs = wipe σ vs ∧ tt σ2 H2 fun b H3 =>
      if b = true then te σ2 H3 fun y H4 => ∃ acc, H4 D = some (.lst acc) ∧ acc.length < sizeLine ∧ Pv (i + 1) (upd H4 D (.lst (acc ++ [y]))) else Pv (i + 1) H3) (hd : ∀ H, Pv n H → Qd H) :
    ∃ W : Nat → Nat → Hp → Prop, (∃ m, W 0 m (upd H1 D (.lst []))) ∧ ∀ i m H, W i m H →
      ((Itc lo c n).stop i H ∧ Qd H) ∨ ((Itc lo c n).go i H ∧ ∃ Nx : Hp → Prop, (∀ H', Nx H' → ∃ m', m' < m ∧ W (i + 1) m' H') ∧ ∀ x H', (Itc lo c n).yld i H x H' → g x (wipe σ vs) H' fun σ2 H2 => wipe σ2 vs = wipe σ vs ∧ tt σ2 H2 fun b H3 =>
        if b = true then te σ2 H3 fun y H4 => ∃ acc, H4 D = some (.lst acc) ∧ acc.length < sizeLine ∧ Nx (upd H4 D (.lst (acc ++ [y]))) else Nx H3) :=
  lc_of (item := fun i => .int (lo + (i : Nat) * c)) Pv (fun _ _ h => h) (fun _ _ _ _ h => h) (fun _ _ h => h) h0 hs hd
theorem rgc3 {m : Int} (h : 0 ≤ m) (h2 : m ≤ 100000) : RgC 0 m 3 ((m.toNat + 2) / 3) := by
  have e : Builtin.Range.rangeSize 0 m 3 = (((m.toNat + 2) / 3 : Nat) : Int) := by
    rw [PyProof.Rows.rangeSize_pos (by decide) h]
    omega
  refine ⟨by decide, by decide, ?_, e⟩
  unfold Builtin.Range.small
  rw [e]
  simp only [Builtin.Range.rangeFitsLong, Bool.and_eq_true, Bool.or_eq_true, decide_eq_true_eq, beq_iff_eq, show (3 : Int) > 0 by decide, if_true]
  omega

/-- over the keys of a locked dict -/
theorem lc_keys {d : Addr} {o : Obj} {kvs : List (Key × V)} {g : TG} {tt : TT} {te : TE} {vs : List Nat} {σ : L2.St} {H1 : Hp} {D : Addr} {Qd : Hp → Prop} (Pv : Nat → Hp → Prop) (hl : ∀ i H, Pv i H → H d = some (.frz o (.dK kvs))) (h0 : Pv 0 (upd H1 D (.lst [])))
    (hs : ∀ i H k v, kvs[i]? = some (k, v) → Pv i H → g (kV k) (wipe σ vs) H fun σ2 H2 => wipe σ2 vs = wipe σ vs ∧ tt σ2 H2 fun b H3 =>
      if b = true then te σ2 H3 fun y H4 => ∃ acc, H4 D = some (.lst acc) ∧ acc.length < sizeLine ∧ Pv (i + 1) (upd H4 D (.lst (acc ++ [y]))) else Pv (i + 1) H3) (hd : ∀ H, Pv kvs.length H → Qd H) :
    ∃ W : Nat → Nat → Hp → Prop, (∃ m, W 0 m (upd H1 D (.lst []))) ∧ ∀ i m H, W i m H →
      ((Itk d o kvs).stop i H ∧ Qd H) ∨ ((Itk d o kvs).go i H ∧ ∃ Nx : Hp → Prop, (∀ H', Nx H' → ∃ m', m' < m ∧ W (i + 1) m' H') ∧ ∀ x H', (Itk d o kvs).yld i H x H' → g x (wipe σ vs) H' fun σ2 H2 => wipe σ2 vs = wipe σ vs ∧ tt σ2 H2 fun b H3 =>
        if b = true then te σ2 H3 fun y H4 => ∃ acc, H4 D = some (.lst acc) ∧ acc.length < sizeLine ∧ Nx (upd H4 D (.lst (acc ++ [y]))) else Nx H3) := by
  refine ⟨fun i m H => m = kvs.length - i ∧ i ≤ kvs.length ∧ Pv i H, ⟨kvs.length, rfl, Nat.zero_le _, h0⟩, ?_⟩
  rintro i m H ⟨rfl, hi, p⟩
  rcases Nat.lt_or_ge i kvs.length with hlt | hge
  · refine .inr ⟨⟨hl i H p, hlt⟩, Pv (i + 1), fun H' p' => ⟨kvs.length - (i + 1), by omega, rfl, hlt, p'⟩, fun x H' y => ?_⟩
    obtain ⟨rfl, k, v, e, rfl⟩ := y
    exact hs i _ k v e p
  · obtain rfl : i = kvs.length := Nat.le_antisymm hi hge
    exact .inl ⟨⟨hl _ H p, hge⟩, hd H p⟩

/-! ### attributes by place -/
theorem lk_at : ∀ {l : List (Str × V)} {f : Str} {v : V} {i : Nat}, (l.map Prod.fst).Nodup → l[i]? = some (f, v) → l.lookup f = some v
  | [], f, v, i, _, h => by simp at h
  | (g, u) :: l, f, v, 0, _, h => by
    obtain ⟨rfl, rfl⟩ : g = f ∧ u = v := by simpa using h
    simp [List.lookup]
  | (g, u) :: l, f, v, i + 1, nd, h => by
    rw [List.map_cons, List.nodup_cons] at nd
    have h2 : l[i]? = some (f, v) := by simpa using h
    have ne : (f == g) = false := by
      refine beq_false_of_ne fun e => nd.1 ?_
      subst e
      exact List.mem_map.mpr ⟨(f, v), List.mem_of_getElem? h2, rfl⟩
    rw [List.lookup_cons, ne]
    exact lk_at nd.2 h2
theorem lk_no : ∀ {l : List (Str × V)} {f : Str}, f ∉ l.map Prod.fst → l.lookup f = none
  | [], f, _ => rfl
  | (g, u) :: l, f, h => by
    rw [List.map_cons, List.mem_cons, not_or] at h
    rw [List.lookup_cons, beq_false_of_ne h.1]
    exact lk_no h.2
theorem putF_at : ∀ {l : List (Str × V)} {f : Str} {u v : V} {i : Nat}, (l.map Prod.fst).Nodup → l[i]? = some (f, u) → putF f v l = l.set i (f, v)
  | [], f, u, v, i, _, h => by simp at h
  | (g, z) :: l, f, u, v, 0, _, h => by
    obtain ⟨rfl, rfl⟩ : g = f ∧ z = u := by simpa using h
    show (if g = g then _ else _) = _
    rw [if_pos rfl]
    rfl
  | (g, z) :: l, f, u, v, i + 1, nd, h => by
    rw [List.map_cons, List.nodup_cons] at nd
    have h2 : l[i]? = some (f, u) := by simpa using h
    have ne : ¬ g = f := by
      rintro rfl
      exact nd.1 (List.mem_map.mpr ⟨(g, u), List.mem_of_getElem? h2, rfl⟩)
    show (if g = f then _ else (g, z) :: putF f v l) = (g, z) :: l.set i (f, v)
    rw [if_neg ne, putF_at nd.2 h2]
theorem putF_new : ∀ {l : List (Str × V)} {f : Str} {v : V}, f ∉ l.map Prod.fst → putF f v l = l ++ [(f, v)]
  | [], f, v, _ => rfl
  | (g, z) :: l, f, v, h => by
    rw [List.map_cons, List.mem_cons, not_or] at h
    show (if g = f then _ else (g, z) :: putF f v l) = (g, z) :: (l ++ [(f, v)])
    rw [if_neg (fun e => h.1 e.symm), putF_new h.2]

/-! ### d.update(e) -/
section
variable {X : Cx} {pins : List (Addr × Obj)} {σ : L2.St} {H : Hp} {s : Shared} {a b : Addr} {A : Around} {E : Value → Shared → Prop}
theorem d_upd {kvs more : List (Key × V)} {Q : Value → Shared → Prop} (I : Inv X pins σ H s) (ea : H a = some (.dK kvs)) (eb : H b = some (.dK more)) (ne : a ≠ b) (hz : kvs.length + more.length ≤ sizeLine)
    (h : ∀ s', Inv X pins σ (upd H a (.dK (mergeK kvs more))) s' → Q .none s') : wpAny (model X.prog X.w) A (call (.builtin "dict.update") [.ref a, .ref b]) Q E s := by
  obtain ⟨_, hd, vs, rel, dd⟩ := dk_of I.hok ea
  obtain ⟨_, hd2, ws, rel2, dd2⟩ := dk_of I.hok eb
  refine call_meetsIn PySem.F.slot_dict_update dd.typeIs PySem.F.entry_dict_update (PySem.F.args_dict_update_2 _ _) (meets_dict_update (mixKind X.prog X.w) a b ne hd2)
    ⟨vs, ws, dd, dd2, by rw [← rel.length, ← rel2.length]; exact hz, fun h' dd' _ hs => h _ ?_⟩
  have hl : (mergeK kvs more).length ≤ sizeLine := Nat.le_trans (length_mergeK more kvs) hz
  have he : ∃ q, h'.get? a = some q := let ⟨q, _, _, hq, _⟩ := dd'; ⟨q, hq⟩
  exact d_write (t' := s.toks) I (by rw [ea]; exact True.intro) hs he (dk_new hl hd (rel2.merge rel) dd')
end
def tDUpd (td te : TE) : TE := fun σ H Q => td σ H fun x H1 => ∃ a, x = .ref a ∧ IsD H1 a ∧ te σ H1 fun y H2 => ∃ (b : Addr) (kvs more : List (Key × V)), y = .ref b ∧ a ≠ b ∧ H2 a = some (.dK kvs) ∧ H2 b = some (.dK more) ∧ kvs.length + more.length ≤ sizeLine ∧
  Q .non (upd H2 a (.dK (mergeK kvs more)))
section
variable {X : Cx} {o e : Expr} {td ty : TE} {apos cpos : Pos}
theorem pe_dupd (ho : PE X o td) (he : PE X e ty) (m : M1 X o "update" apos e cpos) : PE X (.Call (.Attribute o "update" apos) [e] [] cpos) (tDUpd td ty) := by
  refine ⟨fun pins s σ H Q I h => ?_⟩
  refine wpAny_Call_method m.base m.few m.line PySem.F.plainAttrs_dict PySem.F.slot_dict_update PySem.F.type_dict_update (thn (ho.run pins s σ H _ I h) fun u s1 ⟨x, H1, I1, rx, a, ex, d, q1⟩ => ?_)
  subst ex
  obtain rfl : u = Value.ref a := rx
  obtain ⟨t1, t2, _⟩ := isD_at I1 d
  refine ⟨t1, t2, ?_⟩
  rw [m.trees]
  refine Calls.callWith_builtin rfl (Calls.evalArgs_plain (Calls.spliced_cons (thn (he.run pins s1 σ H1 _ I1 q1) fun iv s2 ⟨y, H2, I2, ry, b, kvs, more, ey, ne, ea, eb, hz, q2⟩ => Calls.spliced_nil ?_)))
  subst ey
  obtain rfl : iv = Value.ref b := ry
  exact d_upd I2 ea eb ne hz fun s4 I4 => ⟨.non, _, I4, rfl, q2⟩
end
/-! ### keys by place -/
theorem valV_at : ∀ {l : List (Key × V)} {f : Key} {v : V} {i : Nat}, (l.map Prod.fst).Nodup → l[i]? = some (f, v) → valV l f = some v
  | [], f, v, i, _, h => by simp at h
  | (g, u) :: l, f, v, 0, _, h => by
    obtain ⟨rfl, rfl⟩ : g = f ∧ u = v := by simpa using h
    exact valV_pos (p := (g, u)) rfl
  | (g, u) :: l, f, v, i + 1, nd, h => by
    rw [List.map_cons, List.nodup_cons] at nd
    have h2 : l[i]? = some (f, v) := by simpa using h
    rw [valV_neg (p := (g, u)) (fun e : g = f => nd.1 (e ▸ List.mem_map.mpr ⟨(f, v), List.mem_of_getElem? h2, rfl⟩))]
    exact valV_at nd.2 h2
theorem putK_map {k : Key} {v : V} : ∀ {l : List (Key × V)} {u : V} {i : Nat}, (l.map Prod.fst).Nodup → l[i]? = some (k, u) → (l.map fun kv => if kv.1 = k then (kv.1, v) else kv) = l.set i (k, v)
  | [], u, i, _, h => by simp at h
  | (g, z) :: l, u, 0, nd, h => by
    obtain ⟨rfl, rfl⟩ : g = k ∧ z = u := by simpa using h
    rw [List.map_cons, List.nodup_cons] at nd
    rw [List.map_cons, if_pos rfl, List.set_cons_zero]
    congr 1
    refine (List.map_congr_left fun x hx => ?_).trans (List.map_id l)
    rw [if_neg fun e => nd.1 (List.mem_map.mpr ⟨x, hx, e⟩)]
    rfl
  | (g, z) :: l, u, i + 1, nd, h => by
    rw [List.map_cons, List.nodup_cons] at nd
    have h2 : l[i]? = some (k, u) := by simpa using h
    rw [List.map_cons, List.set_cons_succ, putK_map nd.2 h2, if_neg]
    exact fun e : g = k => nd.1 (e ▸ List.mem_map.mpr ⟨(k, u), List.mem_of_getElem? h2, rfl⟩)
theorem putK_at {l : List (Key × V)} {k : Key} {u v : V} {i : Nat} (nd : (l.map Prod.fst).Nodup) (h : l[i]? = some (k, u)) : putK l k v = l.set i (k, v) := by
  unfold putK
  rw [valV_any, valV_at nd h]
  exact putK_map nd h
theorem mergeK_new : ∀ {more kvs : List (Key × V)}, ((kvs ++ more).map Prod.fst).Nodup → mergeK kvs more = kvs ++ more
  | [], kvs, _ => by
    rw [List.append_nil]
    rfl
  | p :: more, kvs, h => by
    have e : putK kvs p.1 p.2 = kvs ++ [p] := by
      refine putK_new _ ?_
      cases hv : valV kvs p.1 with
      | none => rfl
      | some v =>
        have := (valV_any p.1 kvs)
        rw [hv] at this
        obtain ⟨x, hx, hk⟩ := List.any_eq_true.mp this
        rw [List.map_append, List.nodup_append] at h
        exact absurd (of_decide_eq_true hk) (h.2.2 x.1 (List.mem_map.mpr ⟨x, hx, rfl⟩) p.1 (List.mem_map.mpr ⟨p, .head _, rfl⟩))
    show mergeK (putK kvs p.1 p.2) more = _
    rw [e, mergeK_new (by rw [List.append_assoc]; exact h), List.append_assoc]
    rfl
/-! ### e.f as a target -/
def gFld (K : PySem.W.Frag) (to : TE) (f : Str) : TG := fun v σ H Q => to σ H fun x H1 => ∃ a C dx fs, x = .ref a ∧ H1 a = some (.ins C dx fs) ∧ Cls K C ∧ NoAttr K C f ∧ fs.length < 1000 ∧ Q σ (upd H1 a (.ins C dx (putF f v fs)))
theorem pg_fld {X : Cx} {o : Expr} {to : TE} {f : Str} {pos : Pos} (ho : PE X o to) : PG X (.Attribute o f pos) (gFld X.K to f) := by
  refine ⟨fun pins s σ H v u Q I r h => ?_⟩
  rw [assign_Attribute]
  refine wpAny_bind (wpAny_holding (thn (ho.run pins s σ H _ I h) fun ov s1 ⟨x, H1, I1, r1, a, C, dx, fs, ex, ea, c, n, l, q1⟩ => ?_))
  subst ex
  obtain rfl : ov = Value.ref a := r1
  refine wpAny_bind (wpAny_standAt (wpAny_bind (wpAny_holding (setattr_ok I1 ea c n l r fun s3 I3 => ?_))))
  exact wpAny_release ⟨σ, _, I3, q1⟩
/-! ### calls within an except suite -/
structure OkH (P : Program) (w : World) (K : PySem.W.Frag) (mg : Str → Option Value) (base : Heap) (k : Nat) (f : Addr) (ps : List Str) (sp : Sp) : Prop where
  ex : ∃ fd : FuncData, L2H.FnH P w K mg base (L2N.CX P w) k f fd ps sp ∧ Binds K fd ps []
  kp : PySem.W.keepIn K (.ref f) = true
section
variable {P : Program} {w : World} {K : PySem.W.Frag} {mg : Str → Option Value} {base : Heap}
theorem okH_of {x qual : Str} {st : Stmt} {f : Addr} {N ps : List Str} {k : Nat} {sp : Sp} (F : Df K x qual st f) (S : FnScope N ps (defScope st))
    (bd : ∀ (kV doc pm : Value) (an : Option Addr) (cdv ct : Value) (us : List Value), us.length = ps.length → bindArgs (PySem.W.fnOf x qual (defArgs st) (defBody st) (defScope st) .none kV doc pm an cdv ct) ⟨us, []⟩ = pure (ps.zip us))
    (len : ∀ vs H Q E, sp vs H Q E → vs.length = ps.length)
    (hb : ∀ (cdv : Value) (A : Around) (outer : List Env) (s : Shared) (H : Hp) (vs : List V) (Q : VK) (E : XK) (p : Addr × Obj), L2H.RoomH k (A.deeper (envOfC qual (defScope st) s.heap.objs.size f cdv)) → sp vs H Q E →
      ∃ t, PSs (L2H.cxH (L2N.CX P w) P w K mg base N qual (defScope st) f cdv A outer s H E p) (defBody st) t ∧ t { nx := fun _ H' => Q .non H', rt := Q } (start N vs) H) : OkH P w K mg base (k + 1) f ps sp := by
  obtain ⟨fd, F⟩ := F
  have B := F.bindsN bd
  obtain ⟨oc, od, dV, kV, doc, pm, an, cdv, ct, osl, rfl, lk, hcd, _, _⟩ := F.ex
  exact ⟨⟨_, L2H.fn_ofH lk hcd S len fun A outer s H vs Q E p _ hr hsp => hb cdv A outer s H vs Q E p hr hsp, B⟩, F.kp⟩
end
section
variable {X : Cx} {k : Nat} {f C : Addr} {ps : List Str} {sp : Sp} {E : L2.St → XK} {m : Str} {pos apos : Pos} {o : Expr} {ta : TE}
theorem pe_methH0 {pl : Sem Bool} (he : PE X o ta) (c : Cls X.K C) (hm : Meth X.K C m f) (G : OkH X.prog X.w X.K X.mg X.base k f ps sp) (hr : L2H.RoomH k X.A) (hc : L2H.HotC X) (hx : ∀ σ, PassesAt (L2N.CX X.prog X.w) X σ (E σ))
    (ht : eval (.Call (.Attribute o m apos) [] [] pos) X.env = (do
      let ov ← eval o X.env
      standAt apos.atName
      let (f, first) ← holding [ov] (getMethod ov m pl)
      callWith pos f first (backTo pos (starEach [] X.env)) (backToKw pos (keywordEach [] X.env))) := by rfl) :
    PE X (.Call (.Attribute o m apos) [] [] pos) (tMethO C m sp E ta tNil) := by
  obtain ⟨fd, F, hb⟩ := G.ex
  refine ⟨fun pins s σ H Q I h => ?_⟩
  refine PySem.W.methodCall_KW (pl := pl) (thn (he.run pins s σ H _ I h) fun u s1 ⟨x, H1, I1, rx, a, dx, fs, ex, ea, l, q⟩ => ?_) ht
  subst ex
  obtain rfl : u = Value.ref a := rx
  refine getmeth_ok I1 ea c hm l ?_
  exact PySem.W.callWith_K0 (first := [.ref a]) I1.kIn hm.kp (L2H.run_fnH (us := [.ref a]) (vs := [.ref a]) F hr hc hb (hx σ) I1 (.cons rfl .nil) q)
end
theorem hotC_suite {X : Cx} {a : Addr} {oe : Obj} {cls : Value} {d : Option Addr} {pn : List (Addr × Obj)} (hz : L2N.Zn cls d oe) (hf : ∃ vs, oe.data = .fields vs) : L2H.HotC (X.suite a ((a, oe) :: pn)) := by
  obtain ⟨vs, hv⟩ := hf
  exact ⟨(a, oe), ⟨rfl, vs, hv, hz.2.2 vs hv⟩, .head _⟩
theorem roomH_mark {j k : Nat} {A : Around} {v : Option Value} (hr : Room k A) (h : j ≤ k) : L2H.RoomH j (A.mark v) := ⟨(hr.mono h).dp, (hr.mono h).un⟩
end RL
namespace RL
open PySem PySem.Spec PyProof.Rows L2
/-- a block's words -/
def mkB (n f b l : Int) (ds : List Int) : List Int := n :: f :: b :: l :: (ds ++ [n])
theorem mkB_v (n f b l : Int) (ds : List Int) : (mkB n f b l ds).map V.int = [V.int n, V.int f, V.int b, V.int l] ++ ds.map V.int ++ [V.int n] := by simp [mkB]
def kindN (ws : List Int) (p m : Int) : Str :=
  if ws.headD 0 = 0 ∧ ws.getLastD 0 = 0 then "empty" else if ws.headD 0 = ws.getLastD 0 ∧ m ≤ ws.headD 0 ∧ ws.headD 0 % m = p then "whole" else "torn"
theorem mkB_len (n f b l : Int) (ds : List Int) : (mkB n f b l ds).length = ds.length + 5 := by simp [mkB]
/-- the ends of a list of ints -/
theorem at_0 {ws : List Int} (h : ws ≠ []) : atI (ws.map V.int) 0 = some (.int (ws.headD 0)) := by
  cases ws with
  | nil => exact absurd rfl h
  | cons x r => exact atI_nat (j := 0) rfl
theorem at_last {ws : List Int} (h : ws ≠ []) : atI (ws.map V.int) (-1) = some (.int (ws.getLastD 0)) := by
  have e : ws.getLastD 0 = ws.getLast h := by
    rw [List.getLastD_eq_getLast?, List.getLast?_eq_some_getLast h]
    rfl
  rw [e]
  have hz : ws.map V.int = ws.dropLast.map V.int ++ [V.int (ws.getLast h)] := by
    rw [← List.map_singleton, ← List.map_append, List.dropLast_concat_getLast]
  rw [hz]
  exact atI_last _ _
end RL
namespace RL
open PySem PySem.Spec PyProof.Rows L2
/-! a disk -/
structure DS where
  kept : List (List Int)
  reads : Int
  writes : Int
  left : Option Int
  part : Int
def optV : Option Int → V
  | none => .non
  | some i => .int i
def dskF (k : Addr) (s : DS) : List (Str × V) := [("kept", .ref k), ("read_count", .int s.reads), ("write_count", .int s.writes), ("left", optV s.left), ("part", .int s.part)]
def dKeys : List Str := ["kept", "read_count", "write_count", "left", "part"]
theorem dKeys_nd : dKeys.Nodup := by decide +kernel
section
variable {k : Addr} {s : DS}
theorem dnd : ((dskF k s).map Prod.fst).Nodup := dKeys_nd
theorem df_kept : (dskF k s).lookup ("kept" : Str) = some (.ref k) := lk_at (i := 0) dnd rfl
theorem df_reads : (dskF k s).lookup ("read_count" : Str) = some (.int s.reads) := lk_at (i := 1) dnd rfl
theorem df_writes : (dskF k s).lookup ("write_count" : Str) = some (.int s.writes) := lk_at (i := 2) dnd rfl
theorem df_left : (dskF k s).lookup ("left" : Str) = some (optV s.left) := lk_at (i := 3) dnd rfl
theorem df_part : (dskF k s).lookup ("part" : Str) = some (.int s.part) := lk_at (i := 4) dnd rfl
theorem df_no {m : Str} (h : m ∉ dKeys) : (dskF k s).lookup m = none := lk_no h
theorem dp_kept {j : Addr} : putF ("kept" : Str) (.ref j) (dskF k s) = dskF j s := putF_at (i := 0) dnd rfl
theorem dp_reads {n : Int} : putF ("read_count" : Str) (.int n) (dskF k s) = dskF k { s with reads := n } := putF_at (i := 1) dnd rfl
theorem dp_writes {n : Int} : putF ("write_count" : Str) (.int n) (dskF k s) = dskF k { s with writes := n } := putF_at (i := 2) dnd rfl
theorem dp_leftN : putF ("left" : Str) .non (dskF k s) = dskF k { s with left := none } := putF_at (i := 3) dnd rfl
theorem dp_left {n : Int} : putF ("left" : Str) (.int n) (dskF k s) = dskF k { s with left := some n } := putF_at (i := 3) dnd rfl
theorem dp_part {n : Int} : putF ("part" : Str) (.int n) (dskF k s) = dskF k { s with part := n } := putF_at (i := 4) dnd rfl
end
abbrev dskO (K : PySem.W.Frag) (dx k : Addr) (s : DS) : HO := .ins (He.ga K "Disk") dx (dskF k s)
structure DskOk (I : Hp) (xs : List V) (s : DS) : Prop where
  rp : RpA I xs (s.kept.map dI)
  l8 : ∀ b ∈ s.kept, b.length = 8
  n4 : 4 ≤ s.kept.length
  n64 : s.kept.length ≤ 64
  p0 : 0 ≤ s.part
theorem DskOk.mono {I I' : Hp} {xs : List V} {s : DS} (e : Same I I') (h : DskOk I xs s) : DskOk I' xs s := ⟨h.rp.mono e, h.l8, h.n4, h.n64, h.p0⟩
theorem DskOk.len {I : Hp} {xs : List V} {s : DS} (h : DskOk I xs s) : xs.length = s.kept.length := by rw [h.rp.length, List.length_map]
def freshD (n : Nat) : DS := ⟨List.replicate n (List.replicate 8 0), 0, 0, none, 0⟩
/-- a whole number between two others -/
def isWh : V → Int → Int → Bool
  | .int i, lo, hi => decide (lo ≤ i) && decide (i ≤ hi)
  | _, _, _ => false
theorem isWh_int {i lo hi : Int} (h1 : lo ≤ i) (h2 : i ≤ hi) : isWh (.int i) lo hi = true := by
  show (decide (lo ≤ i) && decide (i ≤ hi)) = true
  rw [decide_eq_true h1, decide_eq_true h2] <;> rfl
theorem isWh_inv {v : V} {lo hi : Int} (h : isWh v lo hi = true) : ∃ i, v = .int i ∧ lo ≤ i ∧ i ≤ hi := by
  cases v with
  | int i =>
    have h2 : (decide (lo ≤ i) && decide (i ≤ hi)) = true := h
    rw [Bool.and_eq_true, decide_eq_true_eq, decide_eq_true_eq] at h2
    exact ⟨i, rfl, h2.1, h2.2⟩
  | _ => cases h
/-- a scalar -/
def scV : V → Bool
  | .non => true
  | .bl _ => true
  | .int _ => true
  | .str x => PyData.strOk x
  | _ => false
def dSc : V → PyData
  | .bl b => .bool b
  | .int i => .int i
  | .str x => .str x
  | _ => .none
theorem scV_rp {I : Hp} {v : V} (h : scV v = true) : Rp I v (dSc v) := by
  cases v with
  | non => exact .non
  | bl b => exact .bl b
  | int i => exact .int i
  | str x => exact .str x
  | _ => cases h
theorem scV_ok {n : Nat} {v : V} (h : scV v = true) : okD n (dSc v) := by
  cases v with
  | non => exact okD_none
  | bl b => exact okD_bool
  | int i => exact okD_int
  | str x => exact okD_str h
  | _ => cases h
theorem rpa_sc {I : Hp} : ∀ {xs : List V}, (∀ x ∈ xs, scV x = true) → RpA I xs (xs.map dSc)
  | [], _ => .nil
  | x :: xs, h => .cons (scV_rp (h x (.head _))) (rpa_sc fun y hy => h y (.tail _ hy))
/-- its class -/
def tyS : V → String
  | .bl _ => "bool"
  | .int _ => "int"
  | .str _ => "str"
  | _ => "NoneType"
theorem scV_ty {K : PySem.W.Frag} {H : Hp} {v : V} (h : scV v = true) : TyOf K H v (.type (tyS v)) := by
  cases v with
  | non => exact .non
  | bl b => exact .bl b
  | int i => exact .int i
  | str x => exact .str x
  | _ => cases h
def allW (xs : List V) (most : Int) : Bool := xs.all fun x => isWh x 0 most
theorem allW_int {ws : List Int} {most : Int} (h : ∀ w ∈ ws, 0 ≤ w ∧ w ≤ most) : allW (ws.map V.int) most = true := by
  unfold allW
  rw [List.all_eq_true]
  intro x hx
  obtain ⟨w, hw, rfl⟩ := List.mem_map.mp hx
  exact isWh_int (h w hw).1 (h w hw).2
theorem allW_inv {xs : List V} {most : Int} (h : allW xs most = true) : ∃ ws : List Int, xs = ws.map V.int ∧ ∀ w ∈ ws, 0 ≤ w ∧ w ≤ most := by
  induction xs with
  | nil => exact ⟨[], rfl, fun _ h => nomatch h⟩
  | cons x xs ih =>
    have h2 : (isWh x 0 most && allW xs most) = true := h
    rw [Bool.and_eq_true] at h2
    obtain ⟨i, rfl, l1, l2⟩ := isWh_inv h2.1
    obtain ⟨ws, rfl, hw⟩ := ih h2.2
    refine ⟨i :: ws, rfl, fun w hw' => ?_⟩
    rcases List.mem_cons.mp hw' with rfl | hw'
    · exact ⟨l1, l2⟩
    · exact hw w hw'
/-- what is handed in as words: its value, the list that it is (or none) -/
inductive Wd (K : PySem.W.Frag) (H : Hp) : V → Option (List V) → Prop
  | lst {a : Addr} {xs : List V} (h : H a = some (.lst xs)) (s : ∀ x ∈ xs, scV x = true) (l : xs.length ≤ 1000) : Wd K H (.ref a) (some xs)
  | no {v : V} {t : String} (h : TyOf K H v (.type t)) (n : t ≠ "list") : Wd K H v none
theorem Wd.ints {K : PySem.W.Frag} {H : Hp} {a : Addr} {ws : List Int} (h : H a = some (.lst (ws.map V.int))) (l : ws.length ≤ 1000) : Wd K H (.ref a) (some (ws.map V.int)) := .lst h (fun x hx => by
  obtain ⟨w, _, rfl⟩ := List.mem_map.mp hx
  rfl) (by rw [List.length_map]; exact l)
/-- eight words -/
def good8 (most : Int) : Option (List V) → Bool
  | some xs => allW xs most && decide (xs.length = 8)
  | none => false
/-- a write of eight words at a place -/
def wrS (s : DS) (i : Nat) (ns : List Int) : DS :=
  match s.left with
  | none => { s with kept := s.kept.set i ns, writes := s.writes + 1 }
  | some j => if j = 0 then { s with kept := s.kept.set i (ns.take s.part.toNat ++ (s.kept.getD i []).drop s.part.toNat), part := 0 } else { s with kept := s.kept.set i ns, left := some (j - 1), writes := s.writes + 1 }
def rdS (s : DS) : DS := { s with reads := s.reads + 1 }
theorem wrS_none {s : DS} {i : Nat} {ns : List Int} (h : s.left = none) : wrS s i ns = { s with kept := s.kept.set i ns, writes := s.writes + 1 } := by
  unfold wrS
  rw [h]
theorem wrS_stop {s : DS} {i : Nat} {ns : List Int} (h : s.left = some 0) : wrS s i ns = { s with kept := s.kept.set i (ns.take s.part.toNat ++ (s.kept.getD i []).drop s.part.toNat), part := 0 } := by
  unfold wrS
  rw [h]
  rfl
theorem wrS_some {s : DS} {i : Nat} {ns : List Int} {j : Int} (h : s.left = some j) (hj : j ≠ 0) : wrS s i ns = { s with kept := s.kept.set i ns, left := some (j - 1), writes := s.writes + 1 } := by
  unfold wrS
  rw [h]
  show (if j = 0 then _ else _) = _
  rw [if_neg hj]
theorem DskOk.put {I : Hp} {xs : List V} {s s' : DS} {i : Nat} {v : V} {ns : List Int} (h : DskOk I xs s) (r : Rp I v (dI ns)) (l : ns.length = 8) (e : s'.kept = s.kept.set i ns) (p : 0 ≤ s'.part) : DskOk I (xs.set i v) s' := by
  refine ⟨?_, ?_, ?_, ?_, p⟩
  · rw [e, List.map_set]
    exact h.rp.set i r
  · rw [e]
    intro b hb
    rcases List.mem_or_eq_of_mem_set hb with hb | rfl
    · exact h.l8 b hb
    · exact l
  · rw [e, List.length_set]
    exact h.n4
  · rw [e, List.length_set]
    exact h.n64
theorem DskOk.same {I : Hp} {xs : List V} {s s' : DS} (h : DskOk I xs s) (e : s'.kept = s.kept) (p : 0 ≤ s'.part) : DskOk I xs s' := by
  refine ⟨?_, ?_, ?_, ?_, p⟩ <;> rw [e]
  · exact h.rp
  · exact h.l8
  · exact h.n4
  · exact h.n64
theorem DskOk.get {I : Hp} {xs : List V} {s : DS} (h : DskOk I xs s) {i : Nat} (hi : i < s.kept.length) : ∃ a, xs[i]? = some (.ref a) ∧ I a = some (.lst ((s.kept.getD i []).map V.int)) ∧ (s.kept.getD i []).length = 8 := by
  obtain ⟨v, e, r⟩ := h.rp.get (i := i) (d := dI (s.kept.getD i [])) (by rw [List.getElem?_map, List.getD_eq_getElem?_getD, List.getElem?_eq_getElem hi]; rfl)
  obtain ⟨a, rfl, ha⟩ := r.dI_inv
  refine ⟨a, e, ha, ?_⟩
  rw [List.getD_eq_getElem?_getD, List.getElem?_eq_getElem hi]
  exact h.l8 _ (List.getElem_mem hi)
theorem ixN_nat {n i : Nat} (h : i < n) : ixN n (i : Int) = some i := by
  unfold ixN
  rw [if_pos (Int.natCast_nonneg i), if_pos (by omega)]
  rfl
theorem atI_n {α : Type} {xs : List α} {i : Nat} {x : α} (h : xs[i]? = some x) : atI xs (i : Int) = some x := by
  have hi : i < xs.length := by
    rcases Nat.lt_or_ge i xs.length with l | l
    · exact l
    · rw [List.getElem?_eq_none l] at h
      cases h
  unfold atI
  rw [ixN_nat hi]
  exact h
theorem good8_int {most : Int} {ns : List Int} (l : ns.length = 8) (h : ∀ n ∈ ns, 0 ≤ n ∧ n ≤ most) : good8 most (some (ns.map V.int)) = true := by
  show (allW (ns.map V.int) most && decide ((ns.map V.int).length = 8)) = true
  rw [allW_int h, decide_eq_true (by rw [List.length_map]; exact l)] <;> rfl
theorem isWh_nat {p : V} {n : Nat} (h : isWh p 0 ((n : Int) - 1) = true) : ∃ i : Nat, p = .int i ∧ i < n := by
  obtain ⟨i, rfl, h1, h2⟩ := isWh_inv h
  exact ⟨i.toNat, by rw [Int.toNat_of_nonneg h1], by omega⟩
theorem freshD_ok {I : Hp} {xs : List V} {n : Nat} (r : RpA I xs (List.replicate n (dI (List.replicate 8 0)))) (h4 : 4 ≤ n) (h64 : n ≤ 64) : DskOk I xs (freshD n) := by
  refine ⟨?_, ?_, ?_, ?_, Int.le_refl 0⟩
  · show RpA I xs ((List.replicate n (List.replicate 8 0)).map dI)
    rw [List.map_replicate]
    exact r
  · intro b hb
    rw [List.eq_of_mem_replicate hb] <;> rfl
  · show 4 ≤ (List.replicate n _).length
    rw [List.length_replicate]
    exact h4
  · show (List.replicate n _).length ≤ 64
    rw [List.length_replicate]
    exact h64
theorem dlen {k : Addr} {s : DS} : (dskF k s).length < 1000 := by
  show 5 < 1000
  decide
def twS (s : DS) : DS := ⟨s.kept, 0, 0, none, 0⟩
theorem upd_none {H : Hp} {x y : Addr} {o : HO} (h : H x = none) (n : y ≠ x) : upd H y o x = none := by
  rw [upd_ne (Ne.symm n)]
  exact h
theorem mapI_inj : ∀ {a b : List Int}, a.map V.int = b.map V.int → a = b
  | [], [], _ => rfl
  | [], _ :: _, h => by cases h
  | _ :: _, [], h => by cases h
  | x :: a, y :: b, h => by
    rw [List.map_cons, List.map_cons] at h
    injection h with h1 h2
    rw [V.int.inj h1, mapI_inj h2]
end RL
namespace RL
open PySem PySem.Spec PyProof.Rows L2
/-! halvings of a number -/
def halv (n : Nat) : Nat := if h : n = 0 then 0 else halv (n / 2) + 1
termination_by n
decreasing_by omega
theorem halv_0 : halv 0 = 0 := by
  unfold halv
  simp
theorem halv_pos {n : Nat} (h : n ≠ 0) : halv n = halv (n / 2) + 1 := by
  rw [halv]
  simp [h]
theorem halv_hi : ∀ n : Nat, n < 2 ^ halv n
  | n => by
    by_cases h : n = 0
    · subst h
      rw [halv_0]
      decide
    · have ih := halv_hi (n / 2)
      rw [halv_pos h, Nat.pow_succ]
      omega
termination_by n => n
decreasing_by omega
theorem halv_lo : ∀ n : Nat, n ≠ 0 → 2 ^ (halv n - 1) ≤ n
  | n, h => by
    rw [halv_pos h, Nat.add_sub_cancel]
    by_cases h2 : n / 2 = 0
    · rw [h2, halv_0]
      show 1 ≤ n
      omega
    · have ih := halv_lo (n / 2) h2
      have e : 2 ^ halv (n / 2) = 2 ^ (halv (n / 2) - 1) * 2 := by
        rw [← Nat.pow_succ]
        congr 1
        rw [halv_pos h2]
        omega
      omega
termination_by n => n
decreasing_by omega
theorem halv_uniq {n j : Nat} (h1 : n < 2 ^ j) (h2 : j = 0 ∨ 2 ^ (j - 1) ≤ n) : j = halv n := by
  rcases Nat.lt_trichotomy j (halv n) with h | h | h
  · have h0 : n ≠ 0 := fun e => by
      rw [e, halv_0] at h
      omega
    have a := halv_lo n h0
    have b : 2 ^ j ≤ 2 ^ (halv n - 1) := Nat.pow_le_pow_right (by decide) (by omega)
    omega
  · exact h
  · have a := halv_hi n
    rcases h2 with h2 | h2
    · omega
    · have b : 2 ^ halv n ≤ 2 ^ (j - 1) := Nat.pow_le_pow_right (by decide) (by omega)
      omega
theorem halv_le {n k : Nat} (h : n < 2 ^ k) : halv n ≤ k := by
  by_cases h0 : n = 0
  · rw [h0, halv_0]
    omega
  · have a := halv_lo n h0
    rcases Nat.lt_or_ge k (halv n) with q | q
    · have b : 2 ^ k ≤ 2 ^ (halv n - 1) := Nat.pow_le_pow_right (by decide) (by omega)
      omega
    · exact q
end RL
namespace RL
open PySem PySem.Spec PyProof.Rows L2
/-! how blocks lie on a disk: their first and last words -/
def blk (ds : List (List Int)) (p : Nat) : List Int := ds.getD p []
def hdW (ds : List (List Int)) (p : Nat) : Int := (blk ds p).headD 0
def laW (ds : List (List Int)) (p : Nat) : Int := (blk ds p).getLastD 0
/-- the greatest number up to N that belongs in a place -/
def numP (n N : Int) (p : Nat) : Int := N - (N - p) % n
def numW (n N : Int) (p : Nat) : Int := if n ≤ numP n N p then numP n N p else 0
structure Lay (ds : List (List Int)) (N : Int) (tn : Option Int) : Prop where
  n4 : 4 ≤ ds.length
  l8 : ∀ b ∈ ds, b.length = 8
  ge : (ds.length : Int) - 1 ≤ N
  wh : ∀ p : Nat, p < ds.length → (p : Int) ≠ (N + 1) % ds.length → hdW ds p = numW ds.length N p
  la : ∀ p : Nat, p < ds.length → laW ds p = numW ds.length N p
  th : ∀ p : Nat, (p : Int) = (N + 1) % ds.length → (tn = none ∧ hdW ds p = numW ds.length N p) ∨ (tn = some (p : Int) ∧ hdW ds p = N + 1)
theorem blk_mem {ds : List (List Int)} {p : Nat} (h : p < ds.length) : blk ds p ∈ ds := by
  unfold blk
  rw [List.getD_eq_getElem?_getD, List.getElem?_eq_getElem h]
  exact List.getElem_mem h
theorem blk_ne {ds : List (List Int)} {p : Nat} (h : p < ds.length) (l8 : ∀ b ∈ ds, b.length = 8) : blk ds p ≠ [] := fun e => by
  have := l8 _ (blk_mem h)
  rw [e] at this
  cases this
theorem numP_mod {n N : Int} {p : Nat} (hn : (p : Int) < n) : numP n N p % n = p := by
  unfold numP
  rw [Int.sub_emod, Int.emod_emod, ← Int.sub_emod, show N - (N - (p : Int)) = p by omega, Int.emod_eq_of_lt (by omega) hn]
theorem numP_le {n N : Int} {p : Nat} (h : 0 < n) : numP n N p ≤ N ∧ N - n < numP n N p := by
  unfold numP
  have h1 := Int.emod_nonneg (N - p) (show n ≠ 0 by omega)
  have h2 := Int.emod_lt_of_pos (N - p) h
  omega
theorem num_uniq {n a b : Int} (h : a % n = b % n) (l1 : a - b < n) (l2 : b - a < n) : a = b := by
  have d : n ∣ a - b := Int.dvd_of_emod_eq_zero (by rw [Int.sub_emod, h, Int.sub_self, Int.zero_emod])
  obtain ⟨c, hc⟩ := d
  rcases Int.lt_trichotomy c 0 with hc0 | rfl | hc0
  · have : n * c ≤ n * (-1) := Int.mul_le_mul_of_nonneg_left (by omega) (by omega)
    omega
  · omega
  · have : n * 1 ≤ n * c := Int.mul_le_mul_of_nonneg_left (by omega) (by omega)
    omega
section
variable {ds : List (List Int)} {N : Int} {tn : Option Int}
theorem kindN_whole {ws : List Int} {p m : Int} (e : ws.headD 0 = ws.getLastD 0) (h : m ≤ ws.headD 0) (h0 : 0 < m) (hp : ws.headD 0 % m = p) : kindN ws p m = "whole" := by
  unfold kindN
  rw [if_neg (by omega), if_pos ⟨e, h, hp⟩]
theorem kindN_empty {ws : List Int} {p m : Int} (e1 : ws.headD 0 = 0) (e2 : ws.getLastD 0 = 0) : kindN ws p m = "empty" := by
  unfold kindN
  rw [if_pos ⟨e1, e2⟩]
theorem kindN_torn {ws : List Int} {p m : Int} (e1 : ws.headD 0 ≠ ws.getLastD 0) : kindN ws p m = "torn" := by
  unfold kindN
  rw [if_neg (by omega), if_neg (fun z => e1 z.1)]
theorem Lay.n0 (L : Lay ds N tn) : (0 : Int) < ds.length := by
  have := L.n4
  omega
/-- a place whose first word is as it belongs -/
theorem Lay.kindG (L : Lay ds N tn) {p : Nat} (hp : p < ds.length) (e : hdW ds p = numW ds.length N p) :
    (ds.length ≤ numP ds.length N p ∧ kindN (blk ds p) p ds.length = "whole" ∧ hdW ds p = numP ds.length N p) ∨ (numP ds.length N p < ds.length ∧ kindN (blk ds p) p ds.length = "empty") := by
  have l := L.la p hp
  have m := numP_mod (n := (ds.length : Int)) (N := N) (p := p) (by omega)
  unfold numW at e l
  by_cases c : (ds.length : Int) ≤ numP ds.length N p
  · rw [if_pos c] at e l
    refine .inl ⟨c, ?_, e⟩
    unfold hdW at e
    unfold laW at l
    exact kindN_whole (by rw [e, l]) (by rw [e]; exact c) L.n0 (by rw [e]; exact m)
  · rw [if_neg c] at e l
    exact .inr ⟨by omega, kindN_empty e l⟩
theorem Lay.kindT (L : Lay ds N tn) {p : Nat} (hp : p < ds.length) (e : hdW ds p = N + 1) : kindN (blk ds p) p ds.length = "torn" := by
  have l := L.la p hp
  have b := numP_le (n := (ds.length : Int)) (N := N) (p := p) L.n0
  have g := L.ge
  have n4 := L.n4
  refine kindN_torn ?_
  unfold hdW at e
  unfold laW at l
  rw [e, l]
  unfold numW
  split <;> omega
theorem numP_at {n N : Int} {p : Nat} {k : Int} (hn : (p : Int) < n) (hk : k % n = p) (l1 : k ≤ N) (l2 : N - n < k) : numP n N p = k := by
  have b := numP_le (n := n) (N := N) (p := p) (by omega)
  exact num_uniq (by rw [numP_mod hn, hk]) (by omega) (by omega)
/-- the round of the newest -/
def isW (ds : List (List Int)) (T : Int) (p : Nat) : Bool := decide (kindN (blk ds p) p ds.length = "whole") && decide (hdW ds p / ds.length = T)
theorem Lay.isW (L : Lay ds N tn) (h0 : kindN (blk ds 0) 0 ds.length = "whole") {p : Nat} (hp : p < ds.length) : isW ds (N / ds.length) p = decide ((p : Int) ≤ N % ds.length) := by
  have n0 := L.n0
  have hN := Int.mul_ediv_add_emod N ds.length
  have hr0 := Int.emod_nonneg N (show (ds.length : Int) ≠ 0 by omega)
  have hr1 := Int.emod_lt_of_pos N n0
  generalize hT : N / ds.length = T at *
  generalize hR : N % ds.length = R at *
  -- the round is not the first one
  have hT1 : ds.length ≤ N := by
    rcases (show N < ds.length ∨ (ds.length : Int) ≤ N by omega) with c | c
    · exfalso
      have e1 : N = ds.length - 1 := by
        have := L.ge
        omega
      have q0 : (((0 : Nat)) : Int) = (N + 1) % ds.length := by
        rw [e1, Int.sub_add_cancel, Int.emod_self]
        rfl
      rcases L.th 0 q0 with ⟨_, e⟩ | ⟨_, e⟩
      · rcases L.kindG (by omega) e with ⟨z, _⟩ | ⟨_, z⟩
        · have := (numP_le (n := (ds.length : Int)) (N := N) (p := 0) n0).1
          omega
        · rw [show ((0 : Nat) : Int) = 0 from rfl, h0] at z
          exact absurd z (by decide +kernel)
      · have z := L.kindT (p := 0) (by omega) e
        rw [show ((0 : Nat) : Int) = 0 from rfl, h0] at z
        exact absurd z (by decide +kernel)
    · exact c
  have hTp : 1 ≤ T := by
    rw [← hT]
    exact (Int.le_ediv_iff_mul_le n0).mpr (by omega)
  by_cases c : (p : Int) ≤ R
  · rw [decide_eq_true c]
    have e1 : numP ds.length N p = ds.length * T + p := by
      refine numP_at (by omega) ?_ (by omega) (by omega)
      rw [Int.add_comm, Int.add_mul_emod_self_left, Int.emod_eq_of_lt (by omega) (by omega)]
    have hm : (ds.length : Int) * 1 ≤ ds.length * T := Int.mul_le_mul_of_nonneg_left hTp (by omega)
    have e2 : hdW ds p = numW ds.length N p := by
      by_cases q : (p : Int) = (N + 1) % ds.length
      · -- only place 0 at the end of a round
        rcases L.th p q with ⟨_, e⟩ | ⟨_, e⟩
        · exact e
        · exfalso
          have hp0 : p = 0 := by
            rcases (show R + 1 < ds.length ∨ (ds.length : Int) ≤ R + 1 by omega) with l | l
            · have : (N + 1) % ds.length = R + 1 := by
                rw [← hN, Int.add_assoc, Int.add_comm, Int.add_mul_emod_self_left, Int.emod_eq_of_lt (by omega) l]
              omega
            · have : (N + 1) % ds.length = 0 := by
                rw [← hN, Int.add_assoc, show R + 1 = (ds.length : Int) by omega, Int.add_emod_right]
                exact Int.mul_emod_right ..
              omega
          subst hp0
          have z := L.kindT (p := 0) (by omega) e
          rw [show ((0 : Nat) : Int) = 0 from rfl, h0] at z
          exact absurd z (by decide +kernel)
      · exact L.wh p hp q
    rcases L.kindG hp e2 with ⟨_, z2, z3⟩ | ⟨z, _⟩
    · unfold RL.isW
      rw [z2, z3, e1, Int.add_comm, Int.add_mul_ediv_left _ _ (by omega), Int.ediv_eq_zero_of_lt (by omega) (by omega), Int.zero_add, decide_eq_true rfl, decide_eq_true rfl]
      rfl
    · omega
  · rw [decide_eq_false c]
    have e1 : numP ds.length N p = ds.length * (T - 1) + p := by
      have : (ds.length : Int) * (T - 1) = ds.length * T - ds.length := by rw [Int.mul_sub, Int.mul_one]
      refine numP_at (by omega) ?_ (by omega) (by omega)
      rw [Int.add_comm, Int.add_mul_emod_self_left, Int.emod_eq_of_lt (by omega) (by omega)]
    have fin : hdW ds p = numW ds.length N p → RL.isW ds T p = false := fun e2 => by
      rcases L.kindG hp e2 with ⟨_, z2, z3⟩ | ⟨_, z⟩
      · unfold RL.isW
        rw [z2, z3, e1, Int.add_comm, Int.add_mul_ediv_left _ _ (by omega), Int.ediv_eq_zero_of_lt (by omega) (by omega), Int.zero_add, decide_eq_false (show ¬ T - 1 = T by omega), Bool.and_false]
      · unfold RL.isW
        rw [z, decide_eq_false (by decide +kernel), Bool.false_and]
    by_cases q : (p : Int) = (N + 1) % ds.length
    · rcases L.th p q with ⟨_, e⟩ | ⟨_, e⟩
      · exact fin e
      · unfold RL.isW
        rw [L.kindT hp e, decide_eq_false (by decide +kernel), Bool.false_and]
    · exact fin (L.wh p hp q)
end
end RL
namespace RL
open PySem PySem.Spec PyProof.Rows L2
def top (i : Nat) : Stmt := PySem.Challenge.pw_ringlog_k04_whole_the_newest_in_few_read.main.body.getD i (.Pass ⟨0, 0, 0, 0⟩)
abbrev s_wall : Stmt := top 0
abbrev n_wall : List Str := ["k"]
abbrev p_wall : List Str := ["k"]
theorem sc_wall : FnScope n_wall p_wall (defScope s_wall) := ⟨rfl, rfl, rfl, by decide +kernel, rfl, by decide +kernel, by decide +kernel⟩
theorem bd_wall (kV doc pm : Value) (an : Option Addr) (cdv ct : Value) (us : List Value) (hl : us.length = p_wall.length) : bindArgs (PySem.W.fnOf "_wall" "_wall" (defArgs s_wall) (defBody s_wall) (defScope s_wall) .none kV doc pm an cdv ct) ⟨us, []⟩ = pure (p_wall.zip us) := match us, hl with | [_], _ => rfl
abbrev a_wall (K : PySem.W.Frag) : Addr := He.ga K "_wall"
def dd_wall : He.DefD := ⟨("_wall", none), "_wall", "_wall", defArgs s_wall, defBody s_wall, defScope s_wall, [], []⟩
abbrev s_kind : Stmt := top 2
abbrev n_kind : List Str := ["words", "place", "many"]
abbrev p_kind : List Str := ["words", "place", "many"]
theorem sc_kind : FnScope n_kind p_kind (defScope s_kind) := ⟨rfl, rfl, rfl, by decide +kernel, rfl, by decide +kernel, by decide +kernel⟩
theorem bd_kind (kV doc pm : Value) (an : Option Addr) (cdv ct : Value) (us : List Value) (hl : us.length = p_kind.length) : bindArgs (PySem.W.fnOf "kind" "kind" (defArgs s_kind) (defBody s_kind) (defScope s_kind) .none kV doc pm an cdv ct) ⟨us, []⟩ = pure (p_kind.zip us) := match us, hl with | [_, _, _], _ => rfl
abbrev a_kind (K : PySem.W.Frag) : Addr := He.ga K "kind"
def dd_kind : He.DefD := ⟨("kind", none), "kind", "kind", defArgs s_kind, defBody s_kind, defScope s_kind, [], []⟩
abbrev s_most_reads : Stmt := top 4
abbrev n_most_reads : List Str := ["many", "found", "wide"]
abbrev p_most_reads : List Str := ["many"]
theorem sc_most_reads : FnScope n_most_reads p_most_reads (defScope s_most_reads) := ⟨rfl, rfl, rfl, by decide +kernel, rfl, by decide +kernel, by decide +kernel⟩
theorem bd_most_reads (kV doc pm : Value) (an : Option Addr) (cdv ct : Value) (us : List Value) (hl : us.length = p_most_reads.length) : bindArgs (PySem.W.fnOf "most_reads" "most_reads" (defArgs s_most_reads) (defBody s_most_reads) (defScope s_most_reads) .none kV doc pm an cdv ct) ⟨us, []⟩ = pure (p_most_reads.zip us) := match us, hl with | [_], _ => rfl
abbrev a_most_reads (K : PySem.W.Frag) : Addr := He.ga K "most_reads"
def dd_most_reads : He.DefD := ⟨("most_reads", none), "most_reads", "most_reads", defArgs s_most_reads, defBody s_most_reads, defScope s_most_reads, [], []⟩
abbrev s_last_of_round : Stmt := top 5
abbrev n_last_of_round : List Str := ["disk", "turn", "many", "low", "high", "middle", "words"]
abbrev p_last_of_round : List Str := ["disk", "turn"]
theorem sc_last_of_round : FnScope n_last_of_round p_last_of_round (defScope s_last_of_round) := ⟨rfl, rfl, rfl, by decide +kernel, rfl, by decide +kernel, by decide +kernel⟩
theorem bd_last_of_round (kV doc pm : Value) (an : Option Addr) (cdv ct : Value) (us : List Value) (hl : us.length = p_last_of_round.length) : bindArgs (PySem.W.fnOf "last_of_round" "last_of_round" (defArgs s_last_of_round) (defBody s_last_of_round) (defScope s_last_of_round) .none kV doc pm an cdv ct) ⟨us, []⟩ = pure (p_last_of_round.zip us) := match us, hl with | [_, _], _ => rfl
abbrev a_last_of_round (K : PySem.W.Frag) : Addr := He.ga K "last_of_round"
def dd_last_of_round : He.DefD := ⟨("last_of_round", none), "last_of_round", "last_of_round", defArgs s_last_of_round, defBody s_last_of_round, defScope s_last_of_round, [], []⟩
abbrev s_newest : Stmt := top 6
abbrev n_newest : List Str := ["disk", "many", "words", "number", "last", "place"]
abbrev p_newest : List Str := ["disk"]
theorem sc_newest : FnScope n_newest p_newest (defScope s_newest) := ⟨rfl, rfl, rfl, by decide +kernel, rfl, by decide +kernel, by decide +kernel⟩
theorem bd_newest (kV doc pm : Value) (an : Option Addr) (cdv ct : Value) (us : List Value) (hl : us.length = p_newest.length) : bindArgs (PySem.W.fnOf "newest" "newest" (defArgs s_newest) (defBody s_newest) (defScope s_newest) .none kV doc pm an cdv ct) ⟨us, []⟩ = pure (p_newest.zip us) := match us, hl with | [_], _ => rfl
abbrev a_newest (K : PySem.W.Frag) : Addr := He.ga K "newest"
def dd_newest : He.DefD := ⟨("newest", none), "newest", "newest", defArgs s_newest, defBody s_newest, defScope s_newest, [], []⟩
abbrev s_is_whole : Stmt := top 19
abbrev n_is_whole : List Str := ["thing", "least", "most"]
abbrev p_is_whole : List Str := ["thing", "least", "most"]
theorem sc_is_whole : FnScope n_is_whole p_is_whole (defScope s_is_whole) := ⟨rfl, rfl, rfl, by decide +kernel, rfl, by decide +kernel, by decide +kernel⟩
theorem bd_is_whole (kV doc pm : Value) (an : Option Addr) (cdv ct : Value) (us : List Value) (hl : us.length = p_is_whole.length) : bindArgs (PySem.W.fnOf "is_whole" "is_whole" (defArgs s_is_whole) (defBody s_is_whole) (defScope s_is_whole) .none kV doc pm an cdv ct) ⟨us, []⟩ = pure (p_is_whole.zip us) := match us, hl with | [_, _, _], _ => rfl
abbrev a_is_whole (K : PySem.W.Frag) : Addr := He.ga K "is_whole"
def dd_is_whole : He.DefD := ⟨("is_whole", none), "is_whole", "is_whole", defArgs s_is_whole, defBody s_is_whole, defScope s_is_whole, [], []⟩
abbrev s_are_words : Stmt := top 20
abbrev n_are_words : List Str := ["things", "most", "thing"]
abbrev p_are_words : List Str := ["things", "most"]
theorem sc_are_words : FnScope n_are_words p_are_words (defScope s_are_words) := ⟨rfl, rfl, rfl, by decide +kernel, rfl, by decide +kernel, by decide +kernel⟩
theorem bd_are_words (kV doc pm : Value) (an : Option Addr) (cdv ct : Value) (us : List Value) (hl : us.length = p_are_words.length) : bindArgs (PySem.W.fnOf "are_words" "are_words" (defArgs s_are_words) (defBody s_are_words) (defScope s_are_words) .none kV doc pm an cdv ct) ⟨us, []⟩ = pure (p_are_words.zip us) := match us, hl with | [_, _], _ => rfl
abbrev a_are_words (K : PySem.W.Frag) : Addr := He.ga K "are_words"
def dd_are_words : He.DefD := ⟨("are_words", none), "are_words", "are_words", defArgs s_are_words, defBody s_are_words, defScope s_are_words, [], []⟩
abbrev s_Disk_init : Stmt := inClass (top 21) 0
abbrev n_Disk_init : List Str := ["self", "many", "place"]
abbrev p_Disk_init : List Str := ["self", "many"]
theorem sc_Disk_init : FnScope n_Disk_init p_Disk_init (defScope s_Disk_init) := ⟨rfl, rfl, rfl, by decide +kernel, rfl, by decide +kernel, by decide +kernel⟩
theorem bd_Disk_init (kV doc pm : Value) (an : Option Addr) (cdv ct : Value) (us : List Value) (hl : us.length = p_Disk_init.length) : bindArgs (PySem.W.fnOf "__init__" "Disk.__init__" (defArgs s_Disk_init) (defBody s_Disk_init) (defScope s_Disk_init) .none kV doc pm an cdv ct) ⟨us, []⟩ = pure (p_Disk_init.zip us) := match us, hl with | [_, _], _ => rfl
abbrev a_Disk_init (K : PySem.W.Frag) : Addr := He.ma K (He.ga K "Disk") "__init__"
def dd_Disk_init : He.DefD := ⟨("Disk", some "__init__"), "__init__", "Disk.__init__", defArgs s_Disk_init, defBody s_Disk_init, defScope s_Disk_init, [], []⟩
abbrev s_Disk_blocks : Stmt := inClass (top 21) 1
abbrev n_Disk_blocks : List Str := ["self"]
abbrev p_Disk_blocks : List Str := ["self"]
theorem sc_Disk_blocks : FnScope n_Disk_blocks p_Disk_blocks (defScope s_Disk_blocks) := ⟨rfl, rfl, rfl, by decide +kernel, rfl, by decide +kernel, by decide +kernel⟩
theorem bd_Disk_blocks (kV doc pm : Value) (an : Option Addr) (cdv ct : Value) (us : List Value) (hl : us.length = p_Disk_blocks.length) : bindArgs (PySem.W.fnOf "blocks" "Disk.blocks" (defArgs s_Disk_blocks) (defBody s_Disk_blocks) (defScope s_Disk_blocks) .none kV doc pm an cdv ct) ⟨us, []⟩ = pure (p_Disk_blocks.zip us) := match us, hl with | [_], _ => rfl
abbrev a_Disk_blocks (K : PySem.W.Frag) : Addr := He.ma K (He.ga K "Disk") "blocks"
def dd_Disk_blocks : He.DefD := ⟨("Disk", some "blocks"), "blocks", "Disk.blocks", defArgs s_Disk_blocks, defBody s_Disk_blocks, defScope s_Disk_blocks, [], []⟩
abbrev s_Disk_must_be : Stmt := inClass (top 21) 2
abbrev n_Disk_must_be : List Str := ["self", "place"]
abbrev p_Disk_must_be : List Str := ["self", "place"]
theorem sc_Disk_must_be : FnScope n_Disk_must_be p_Disk_must_be (defScope s_Disk_must_be) := ⟨rfl, rfl, rfl, by decide +kernel, rfl, by decide +kernel, by decide +kernel⟩
theorem bd_Disk_must_be (kV doc pm : Value) (an : Option Addr) (cdv ct : Value) (us : List Value) (hl : us.length = p_Disk_must_be.length) : bindArgs (PySem.W.fnOf "must_be" "Disk.must_be" (defArgs s_Disk_must_be) (defBody s_Disk_must_be) (defScope s_Disk_must_be) .none kV doc pm an cdv ct) ⟨us, []⟩ = pure (p_Disk_must_be.zip us) := match us, hl with | [_, _], _ => rfl
abbrev a_Disk_must_be (K : PySem.W.Frag) : Addr := He.ma K (He.ga K "Disk") "must_be"
def dd_Disk_must_be : He.DefD := ⟨("Disk", some "must_be"), "must_be", "Disk.must_be", defArgs s_Disk_must_be, defBody s_Disk_must_be, defScope s_Disk_must_be, [], []⟩
abbrev s_Disk_read : Stmt := inClass (top 21) 3
abbrev n_Disk_read : List Str := ["self", "place"]
abbrev p_Disk_read : List Str := ["self", "place"]
theorem sc_Disk_read : FnScope n_Disk_read p_Disk_read (defScope s_Disk_read) := ⟨rfl, rfl, rfl, by decide +kernel, rfl, by decide +kernel, by decide +kernel⟩
theorem bd_Disk_read (kV doc pm : Value) (an : Option Addr) (cdv ct : Value) (us : List Value) (hl : us.length = p_Disk_read.length) : bindArgs (PySem.W.fnOf "read" "Disk.read" (defArgs s_Disk_read) (defBody s_Disk_read) (defScope s_Disk_read) .none kV doc pm an cdv ct) ⟨us, []⟩ = pure (p_Disk_read.zip us) := match us, hl with | [_, _], _ => rfl
abbrev a_Disk_read (K : PySem.W.Frag) : Addr := He.ma K (He.ga K "Disk") "read"
def dd_Disk_read : He.DefD := ⟨("Disk", some "read"), "read", "Disk.read", defArgs s_Disk_read, defBody s_Disk_read, defScope s_Disk_read, [], []⟩
abbrev s_Disk_write : Stmt := inClass (top 21) 4
abbrev n_Disk_write : List Str := ["self", "place", "words"]
abbrev p_Disk_write : List Str := ["self", "place", "words"]
theorem sc_Disk_write : FnScope n_Disk_write p_Disk_write (defScope s_Disk_write) := ⟨rfl, rfl, rfl, by decide +kernel, rfl, by decide +kernel, by decide +kernel⟩
theorem bd_Disk_write (kV doc pm : Value) (an : Option Addr) (cdv ct : Value) (us : List Value) (hl : us.length = p_Disk_write.length) : bindArgs (PySem.W.fnOf "write" "Disk.write" (defArgs s_Disk_write) (defBody s_Disk_write) (defScope s_Disk_write) .none kV doc pm an cdv ct) ⟨us, []⟩ = pure (p_Disk_write.zip us) := match us, hl with | [_, _, _], _ => rfl
abbrev a_Disk_write (K : PySem.W.Frag) : Addr := He.ma K (He.ga K "Disk") "write"
def dd_Disk_write : He.DefD := ⟨("Disk", some "write"), "write", "Disk.write", defArgs s_Disk_write, defBody s_Disk_write, defScope s_Disk_write, [], []⟩
abbrev s_Disk_reads : Stmt := inClass (top 21) 5
abbrev n_Disk_reads : List Str := ["self"]
abbrev p_Disk_reads : List Str := ["self"]
theorem sc_Disk_reads : FnScope n_Disk_reads p_Disk_reads (defScope s_Disk_reads) := ⟨rfl, rfl, rfl, by decide +kernel, rfl, by decide +kernel, by decide +kernel⟩
theorem bd_Disk_reads (kV doc pm : Value) (an : Option Addr) (cdv ct : Value) (us : List Value) (hl : us.length = p_Disk_reads.length) : bindArgs (PySem.W.fnOf "reads" "Disk.reads" (defArgs s_Disk_reads) (defBody s_Disk_reads) (defScope s_Disk_reads) .none kV doc pm an cdv ct) ⟨us, []⟩ = pure (p_Disk_reads.zip us) := match us, hl with | [_], _ => rfl
abbrev a_Disk_reads (K : PySem.W.Frag) : Addr := He.ma K (He.ga K "Disk") "reads"
def dd_Disk_reads : He.DefD := ⟨("Disk", some "reads"), "reads", "Disk.reads", defArgs s_Disk_reads, defBody s_Disk_reads, defScope s_Disk_reads, [], []⟩
abbrev s_Disk_writes : Stmt := inClass (top 21) 6
abbrev n_Disk_writes : List Str := ["self"]
abbrev p_Disk_writes : List Str := ["self"]
theorem sc_Disk_writes : FnScope n_Disk_writes p_Disk_writes (defScope s_Disk_writes) := ⟨rfl, rfl, rfl, by decide +kernel, rfl, by decide +kernel, by decide +kernel⟩
theorem bd_Disk_writes (kV doc pm : Value) (an : Option Addr) (cdv ct : Value) (us : List Value) (hl : us.length = p_Disk_writes.length) : bindArgs (PySem.W.fnOf "writes" "Disk.writes" (defArgs s_Disk_writes) (defBody s_Disk_writes) (defScope s_Disk_writes) .none kV doc pm an cdv ct) ⟨us, []⟩ = pure (p_Disk_writes.zip us) := match us, hl with | [_], _ => rfl
abbrev a_Disk_writes (K : PySem.W.Frag) : Addr := He.ma K (He.ga K "Disk") "writes"
def dd_Disk_writes : He.DefD := ⟨("Disk", some "writes"), "writes", "Disk.writes", defArgs s_Disk_writes, defBody s_Disk_writes, defScope s_Disk_writes, [], []⟩
abbrev s_Disk_stop_after : Stmt := inClass (top 21) 7
abbrev n_Disk_stop_after : List Str := ["self", "count", "part"]
abbrev p_Disk_stop_after : List Str := ["self", "count", "part"]
theorem sc_Disk_stop_after : FnScope n_Disk_stop_after p_Disk_stop_after (defScope s_Disk_stop_after) := ⟨rfl, rfl, rfl, by decide +kernel, rfl, by decide +kernel, by decide +kernel⟩
theorem bd_Disk_stop_after (kV doc pm : Value) (an : Option Addr) (cdv ct : Value) (us : List Value) (hl : us.length = p_Disk_stop_after.length) : bindArgs (PySem.W.fnOf "stop_after" "Disk.stop_after" (defArgs s_Disk_stop_after) (defBody s_Disk_stop_after) (defScope s_Disk_stop_after) .none kV doc pm an cdv ct) ⟨us, []⟩ = pure (p_Disk_stop_after.zip us) := match us, hl with | [_, _, _], _ => rfl
abbrev a_Disk_stop_after (K : PySem.W.Frag) : Addr := He.ma K (He.ga K "Disk") "stop_after"
def dd_Disk_stop_after : He.DefD := ⟨("Disk", some "stop_after"), "stop_after", "Disk.stop_after", defArgs s_Disk_stop_after, defBody s_Disk_stop_after, defScope s_Disk_stop_after, [], []⟩
abbrev s_Disk_go_on : Stmt := inClass (top 21) 8
abbrev n_Disk_go_on : List Str := ["self"]
abbrev p_Disk_go_on : List Str := ["self"]
theorem sc_Disk_go_on : FnScope n_Disk_go_on p_Disk_go_on (defScope s_Disk_go_on) := ⟨rfl, rfl, rfl, by decide +kernel, rfl, by decide +kernel, by decide +kernel⟩
theorem bd_Disk_go_on (kV doc pm : Value) (an : Option Addr) (cdv ct : Value) (us : List Value) (hl : us.length = p_Disk_go_on.length) : bindArgs (PySem.W.fnOf "go_on" "Disk.go_on" (defArgs s_Disk_go_on) (defBody s_Disk_go_on) (defScope s_Disk_go_on) .none kV doc pm an cdv ct) ⟨us, []⟩ = pure (p_Disk_go_on.zip us) := match us, hl with | [_], _ => rfl
abbrev a_Disk_go_on (K : PySem.W.Frag) : Addr := He.ma K (He.ga K "Disk") "go_on"
def dd_Disk_go_on : He.DefD := ⟨("Disk", some "go_on"), "go_on", "Disk.go_on", defArgs s_Disk_go_on, defBody s_Disk_go_on, defScope s_Disk_go_on, [], []⟩
abbrev s_Disk_twin : Stmt := inClass (top 21) 9
abbrev n_Disk_twin : List Str := ["self"]
abbrev p_Disk_twin : List Str := ["self"]
theorem sc_Disk_twin : FnScope n_Disk_twin p_Disk_twin (defScope s_Disk_twin) := ⟨rfl, rfl, rfl, by decide +kernel, rfl, by decide +kernel, by decide +kernel⟩
theorem bd_Disk_twin (kV doc pm : Value) (an : Option Addr) (cdv ct : Value) (us : List Value) (hl : us.length = p_Disk_twin.length) : bindArgs (PySem.W.fnOf "twin" "Disk.twin" (defArgs s_Disk_twin) (defBody s_Disk_twin) (defScope s_Disk_twin) .none kV doc pm an cdv ct) ⟨us, []⟩ = pure (p_Disk_twin.zip us) := match us, hl with | [_], _ => rfl
abbrev a_Disk_twin (K : PySem.W.Frag) : Addr := He.ma K (He.ga K "Disk") "twin"
def dd_Disk_twin : He.DefD := ⟨("Disk", some "twin"), "twin", "Disk.twin", defArgs s_Disk_twin, defBody s_Disk_twin, defScope s_Disk_twin, [], []⟩
abbrev s_l_taken : Stmt := top 23
abbrev n_l_taken : List Str := ["_law_row", "_law_many_here", "_law_cell"]
abbrev p_l_taken : List Str := ["_law_row", "_law_many_here"]
theorem sc_l_taken : FnScope n_l_taken p_l_taken (defScope s_l_taken) := ⟨rfl, rfl, rfl, by decide +kernel, rfl, by decide +kernel, by decide +kernel⟩
theorem bd_l_taken (kV doc pm : Value) (an : Option Addr) (cdv ct : Value) (us : List Value) (hl : us.length = p_l_taken.length) : bindArgs (PySem.W.fnOf "_law_taken" "_law_taken" (defArgs s_l_taken) (defBody s_l_taken) (defScope s_l_taken) .none kV doc pm an cdv ct) ⟨us, []⟩ = pure (p_l_taken.zip us) := match us, hl with | [_, _], _ => rfl
abbrev a_l_taken (K : PySem.W.Frag) : Addr := He.ga K "_law_taken"
def dd_l_taken : He.DefD := ⟨("_law_taken", none), "_law_taken", "_law_taken", defArgs s_l_taken, defBody s_l_taken, defScope s_l_taken, [], []⟩
abbrev s_l_most : Stmt := top 24
abbrev n_l_most : List Str := ["_law_many_here", "_law_found", "_law_left"]
abbrev p_l_most : List Str := ["_law_many_here"]
theorem sc_l_most : FnScope n_l_most p_l_most (defScope s_l_most) := ⟨rfl, rfl, rfl, by decide +kernel, rfl, by decide +kernel, by decide +kernel⟩
theorem bd_l_most (kV doc pm : Value) (an : Option Addr) (cdv ct : Value) (us : List Value) (hl : us.length = p_l_most.length) : bindArgs (PySem.W.fnOf "_law_most" "_law_most" (defArgs s_l_most) (defBody s_l_most) (defScope s_l_most) .none kV doc pm an cdv ct) ⟨us, []⟩ = pure (p_l_most.zip us) := match us, hl with | [_], _ => rfl
abbrev a_l_most (K : PySem.W.Frag) : Addr := He.ga K "_law_most"
def dd_l_most : He.DefD := ⟨("_law_most", none), "_law_most", "_law_most", defArgs s_l_most, defBody s_l_most, defScope s_l_most, [], []⟩
abbrev s_l_alike : Stmt := top 25
abbrev n_l_alike : List Str := ["_law_found", "_law_due", "_law_k"]
abbrev p_l_alike : List Str := ["_law_found", "_law_due"]
theorem sc_l_alike : FnScope n_l_alike p_l_alike (defScope s_l_alike) := ⟨rfl, rfl, rfl, by decide +kernel, rfl, by decide +kernel, by decide +kernel⟩
theorem bd_l_alike (kV doc pm : Value) (an : Option Addr) (cdv ct : Value) (us : List Value) (hl : us.length = p_l_alike.length) : bindArgs (PySem.W.fnOf "_law_alike" "_law_alike" (defArgs s_l_alike) (defBody s_l_alike) (defScope s_l_alike) .none kV doc pm an cdv ct) ⟨us, []⟩ = pure (p_l_alike.zip us) := match us, hl with | [_, _], _ => rfl
abbrev a_l_alike (K : PySem.W.Frag) : Addr := He.ga K "_law_alike"
def dd_l_alike : He.DefD := ⟨("_law_alike", none), "_law_alike", "_law_alike", defArgs s_l_alike, defBody s_l_alike, defScope s_l_alike, [], []⟩
abbrev s_l_many : Stmt := top 26
abbrev n_l_many : List Str := ["_law_row"]
abbrev p_l_many : List Str := ["_law_row"]
theorem sc_l_many : FnScope n_l_many p_l_many (defScope s_l_many) := ⟨rfl, rfl, rfl, by decide +kernel, rfl, by decide +kernel, by decide +kernel⟩
theorem bd_l_many (kV doc pm : Value) (an : Option Addr) (cdv ct : Value) (us : List Value) (hl : us.length = p_l_many.length) : bindArgs (PySem.W.fnOf "_law_many" "_law_many" (defArgs s_l_many) (defBody s_l_many) (defScope s_l_many) .none kV doc pm an cdv ct) ⟨us, []⟩ = pure (p_l_many.zip us) := match us, hl with | [_], _ => rfl
abbrev a_l_many (K : PySem.W.Frag) : Addr := He.ga K "_law_many"
def dd_l_many : He.DefD := ⟨("_law_many", none), "_law_many", "_law_many", defArgs s_l_many, defBody s_l_many, defScope s_l_many, [], []⟩
abbrev s_l_laid : Stmt := top 27
abbrev n_l_laid : List Str := ["_law_row", "_law_disk", "_law_number", "_law_k", "_law_words"]
abbrev p_l_laid : List Str := ["_law_row", "_law_disk", "_law_number"]
theorem sc_l_laid : FnScope n_l_laid p_l_laid (defScope s_l_laid) := ⟨rfl, rfl, rfl, by decide +kernel, rfl, by decide +kernel, by decide +kernel⟩
theorem bd_l_laid (kV doc pm : Value) (an : Option Addr) (cdv ct : Value) (us : List Value) (hl : us.length = p_l_laid.length) : bindArgs (PySem.W.fnOf "_law_laid" "_law_laid" (defArgs s_l_laid) (defBody s_l_laid) (defScope s_l_laid) .none kV doc pm an cdv ct) ⟨us, []⟩ = pure (p_l_laid.zip us) := match us, hl with | [_, _, _], _ => rfl
abbrev a_l_laid (K : PySem.W.Frag) : Addr := He.ga K "_law_laid"
def dd_l_laid : He.DefD := ⟨("_law_laid", none), "_law_laid", "_law_laid", defArgs s_l_laid, defBody s_l_laid, defScope s_l_laid, [], []⟩
abbrev s_l_torn : Stmt := top 28
abbrev n_l_torn : List Str := ["_law_row", "_law_disk", "_law_number", "_law_part"]
abbrev p_l_torn : List Str := ["_law_row", "_law_disk", "_law_number"]
theorem sc_l_torn : FnScope n_l_torn p_l_torn (defScope s_l_torn) := ⟨rfl, rfl, rfl, by decide +kernel, rfl, by decide +kernel, by decide +kernel⟩
theorem bd_l_torn (kV doc pm : Value) (an : Option Addr) (cdv ct : Value) (us : List Value) (hl : us.length = p_l_torn.length) : bindArgs (PySem.W.fnOf "_law_torn" "_law_torn" (defArgs s_l_torn) (defBody s_l_torn) (defScope s_l_torn) .none kV doc pm an cdv ct) ⟨us, []⟩ = pure (p_l_torn.zip us) := match us, hl with | [_, _, _], _ => rfl
abbrev a_l_torn (K : PySem.W.Frag) : Addr := He.ga K "_law_torn"
def dd_l_torn : He.DefD := ⟨("_law_torn", none), "_law_torn", "_law_torn", defArgs s_l_torn, defBody s_l_torn, defScope s_l_torn, [], []⟩
abbrev s_l_asked : Stmt := top 29
abbrev n_l_asked : List Str := ["_law_disk", "_law_due", "_law_many_here", "_law_turn", "_law_reads", "_law_writes"]
abbrev p_l_asked : List Str := ["_law_disk", "_law_due"]
theorem sc_l_asked : FnScope n_l_asked p_l_asked (defScope s_l_asked) := ⟨rfl, rfl, rfl, by decide +kernel, rfl, by decide +kernel, by decide +kernel⟩
theorem bd_l_asked (kV doc pm : Value) (an : Option Addr) (cdv ct : Value) (us : List Value) (hl : us.length = p_l_asked.length) : bindArgs (PySem.W.fnOf "_law_asked" "_law_asked" (defArgs s_l_asked) (defBody s_l_asked) (defScope s_l_asked) .none kV doc pm an cdv ct) ⟨us, []⟩ = pure (p_l_asked.zip us) := match us, hl with | [_, _], _ => rfl
abbrev a_l_asked (K : PySem.W.Frag) : Addr := He.ga K "_law_asked"
def dd_l_asked : He.DefD := ⟨("_law_asked", none), "_law_asked", "_law_asked", defArgs s_l_asked, defBody s_l_asked, defScope s_l_asked, [], []⟩
abbrev s_law : Stmt := top 30
abbrev n_law : List Str := ["_law_script", "_law_row", "_law_many_here", "_law_disk", "_law_far", "_law_number", "_law_k", "_law_turn", "_law_torn_here"]
abbrev p_law : List Str := ["_law_script"]
theorem sc_law : FnScope n_law p_law (defScope s_law) := ⟨rfl, rfl, rfl, by decide +kernel, rfl, by decide +kernel, by decide +kernel⟩
theorem bd_law (kV doc pm : Value) (an : Option Addr) (cdv ct : Value) (us : List Value) (hl : us.length = p_law.length) : bindArgs (PySem.W.fnOf "law" "law" (defArgs s_law) (defBody s_law) (defScope s_law) .none kV doc pm an cdv ct) ⟨us, []⟩ = pure (p_law.zip us) := match us, hl with | [_], _ => rfl
abbrev a_law (K : PySem.W.Frag) : Addr := He.ga K "law"
def dd_law : He.DefD := ⟨("law", none), "law", "law", defArgs s_law, defBody s_law, defScope s_law, [], []⟩
structure Tx (K : PySem.W.Frag) (mg : Str → Option Value) : Prop where
  d_wall : Df K "_wall" "_wall" s_wall (a_wall K)
  g_wall : mg "_wall" = some (.ref (a_wall K))
  d_kind : Df K "kind" "kind" s_kind (a_kind K)
  g_kind : mg "kind" = some (.ref (a_kind K))
  d_most_reads : Df K "most_reads" "most_reads" s_most_reads (a_most_reads K)
  g_most_reads : mg "most_reads" = some (.ref (a_most_reads K))
  d_last_of_round : Df K "last_of_round" "last_of_round" s_last_of_round (a_last_of_round K)
  g_last_of_round : mg "last_of_round" = some (.ref (a_last_of_round K))
  d_newest : Df K "newest" "newest" s_newest (a_newest K)
  g_newest : mg "newest" = some (.ref (a_newest K))
  d_is_whole : Df K "is_whole" "is_whole" s_is_whole (a_is_whole K)
  g_is_whole : mg "is_whole" = some (.ref (a_is_whole K))
  d_are_words : Df K "are_words" "are_words" s_are_words (a_are_words K)
  g_are_words : mg "are_words" = some (.ref (a_are_words K))
  d_Disk_init : Df K "__init__" "Disk.__init__" s_Disk_init (a_Disk_init K)
  d_Disk_blocks : Df K "blocks" "Disk.blocks" s_Disk_blocks (a_Disk_blocks K)
  d_Disk_must_be : Df K "must_be" "Disk.must_be" s_Disk_must_be (a_Disk_must_be K)
  d_Disk_read : Df K "read" "Disk.read" s_Disk_read (a_Disk_read K)
  d_Disk_write : Df K "write" "Disk.write" s_Disk_write (a_Disk_write K)
  d_Disk_reads : Df K "reads" "Disk.reads" s_Disk_reads (a_Disk_reads K)
  d_Disk_writes : Df K "writes" "Disk.writes" s_Disk_writes (a_Disk_writes K)
  d_Disk_stop_after : Df K "stop_after" "Disk.stop_after" s_Disk_stop_after (a_Disk_stop_after K)
  d_Disk_go_on : Df K "go_on" "Disk.go_on" s_Disk_go_on (a_Disk_go_on K)
  d_Disk_twin : Df K "twin" "Disk.twin" s_Disk_twin (a_Disk_twin K)
  d_l_taken : Df K "_law_taken" "_law_taken" s_l_taken (a_l_taken K)
  g_l_taken : mg "_law_taken" = some (.ref (a_l_taken K))
  d_l_most : Df K "_law_most" "_law_most" s_l_most (a_l_most K)
  g_l_most : mg "_law_most" = some (.ref (a_l_most K))
  d_l_alike : Df K "_law_alike" "_law_alike" s_l_alike (a_l_alike K)
  g_l_alike : mg "_law_alike" = some (.ref (a_l_alike K))
  d_l_many : Df K "_law_many" "_law_many" s_l_many (a_l_many K)
  g_l_many : mg "_law_many" = some (.ref (a_l_many K))
  d_l_laid : Df K "_law_laid" "_law_laid" s_l_laid (a_l_laid K)
  g_l_laid : mg "_law_laid" = some (.ref (a_l_laid K))
  d_l_torn : Df K "_law_torn" "_law_torn" s_l_torn (a_l_torn K)
  g_l_torn : mg "_law_torn" = some (.ref (a_l_torn K))
  d_l_asked : Df K "_law_asked" "_law_asked" s_l_asked (a_l_asked K)
  g_l_asked : mg "_law_asked" = some (.ref (a_l_asked K))
  d_law : Df K "law" "law" s_law (a_law K)
  g_law : mg "law" = some (.ref (a_law K))
  g_LogError : mg "LogError" = some (.ref (He.ga K "LogError"))
  g_BadDisk : mg "BadDisk" = some (.ref (He.ga K "BadDisk"))
  g_NoBlock : mg "NoBlock" = some (.ref (He.ga K "NoBlock"))
  g_BadBlock : mg "BadBlock" = some (.ref (He.ga K "BadBlock"))
  g_BadStop : mg "BadStop" = some (.ref (He.ga K "BadStop"))
  g_Stopped : mg "Stopped" = some (.ref (He.ga K "Stopped"))
  g_Disk : mg "Disk" = some (.ref (He.ga K "Disk"))
  c_Disk : Cls K (He.ga K "Disk")
  mk_Disk : Mk K (He.ga K "Disk") (a_Disk_init K)
  n_Disk_kept : NoAttr K (He.ga K "Disk") "kept"
  n_Disk_read_count : NoAttr K (He.ga K "Disk") "read_count"
  n_Disk_write_count : NoAttr K (He.ga K "Disk") "write_count"
  n_Disk_left : NoAttr K (He.ga K "Disk") "left"
  n_Disk_part : NoAttr K (He.ga K "Disk") "part"
  m_Disk_blocks : Meth K (He.ga K "Disk") "blocks" (a_Disk_blocks K)
  m_Disk_must_be : Meth K (He.ga K "Disk") "must_be" (a_Disk_must_be K)
  m_Disk_read : Meth K (He.ga K "Disk") "read" (a_Disk_read K)
  m_Disk_write : Meth K (He.ga K "Disk") "write" (a_Disk_write K)
  m_Disk_reads : Meth K (He.ga K "Disk") "reads" (a_Disk_reads K)
  m_Disk_writes : Meth K (He.ga K "Disk") "writes" (a_Disk_writes K)
  m_Disk_stop_after : Meth K (He.ga K "Disk") "stop_after" (a_Disk_stop_after K)
  m_Disk_go_on : Meth K (He.ga K "Disk") "go_on" (a_Disk_go_on K)
  m_Disk_twin : Meth K (He.ga K "Disk") "twin" (a_Disk_twin K)
  i_LEAST_BLOCKS : ∃ t, mg "LEAST_BLOCKS" = some (.int 4 t)
  i_MOST_BLOCKS : ∃ t, mg "MOST_BLOCKS" = some (.int 64 t)
  i_WORDS : ∃ t, mg "WORDS" = some (.int 8 t)
  i_MOST_WORD : ∃ t, mg "MOST_WORD" = some (.int 1000000000000000 t)
  b_bool : mg "bool" = none
  b_int : mg "int" = none
  b_isinstance : mg "isinstance" = none
  b_len : mg "len" = none
  b_list : mg "list" = none
  b_max : mg "max" = none
  b_range : mg "range" = none
  b_str : mg "str" = none
  b_tuple : mg "tuple" = none
  x_BadDisk : PySem.W.excIn K (He.ga K "BadDisk") He.veBase "ValueError.__new__" = true ∧ PySem.W.keepIn K (.ref (He.ga K "BadDisk")) = true ∧ PySem.W.subIn K (.ref (He.ga K "BadDisk")) (.type "BaseException") = some true ∧ PySem.W.typeIn K (.ref (He.ga K "BadDisk")) = some (.type "type")
  e_BadDisk_Stopped : PySem.W.exmOne K (.ref (He.ga K "BadDisk")) (.ref (He.ga K "Stopped")) = some false
  x_NoBlock : PySem.W.excIn K (He.ga K "NoBlock") He.veBase "ValueError.__new__" = true ∧ PySem.W.keepIn K (.ref (He.ga K "NoBlock")) = true ∧ PySem.W.subIn K (.ref (He.ga K "NoBlock")) (.type "BaseException") = some true ∧ PySem.W.typeIn K (.ref (He.ga K "NoBlock")) = some (.type "type")
  e_NoBlock_Stopped : PySem.W.exmOne K (.ref (He.ga K "NoBlock")) (.ref (He.ga K "Stopped")) = some false
  x_BadBlock : PySem.W.excIn K (He.ga K "BadBlock") He.veBase "ValueError.__new__" = true ∧ PySem.W.keepIn K (.ref (He.ga K "BadBlock")) = true ∧ PySem.W.subIn K (.ref (He.ga K "BadBlock")) (.type "BaseException") = some true ∧ PySem.W.typeIn K (.ref (He.ga K "BadBlock")) = some (.type "type")
  e_BadBlock_Stopped : PySem.W.exmOne K (.ref (He.ga K "BadBlock")) (.ref (He.ga K "Stopped")) = some false
  x_BadStop : PySem.W.excIn K (He.ga K "BadStop") He.veBase "ValueError.__new__" = true ∧ PySem.W.keepIn K (.ref (He.ga K "BadStop")) = true ∧ PySem.W.subIn K (.ref (He.ga K "BadStop")) (.type "BaseException") = some true ∧ PySem.W.typeIn K (.ref (He.ga K "BadStop")) = some (.type "type")
  e_BadStop_Stopped : PySem.W.exmOne K (.ref (He.ga K "BadStop")) (.ref (He.ga K "Stopped")) = some false
  x_Stopped : PySem.W.excIn K (He.ga K "Stopped") He.veBase "ValueError.__new__" = true ∧ PySem.W.keepIn K (.ref (He.ga K "Stopped")) = true ∧ PySem.W.subIn K (.ref (He.ga K "Stopped")) (.type "BaseException") = some true ∧ PySem.W.typeIn K (.ref (He.ga K "Stopped")) = some (.type "type")
  e_Stopped_Stopped : PySem.W.exmOne K (.ref (He.ga K "Stopped")) (.ref (He.ga K "Stopped")) = some true
def fa : List He.Fa := [.glo "_wall", .glo "kind", .glo "most_reads", .glo "last_of_round", .glo "newest", .glo "is_whole", .glo "are_words", .glo "_law_taken", .glo "_law_most", .glo "_law_alike", .glo "_law_many", .glo "_law_laid", .glo "_law_torn", .glo "_law_asked", .glo "law", .glo "LogError", .glo "BadDisk", .glo "NoBlock", .glo "BadBlock", .glo "BadStop", .glo "Stopped", .glo "Disk", .cls "Disk", .mkr "Disk", .noat "Disk" "kept", .noat "Disk" "read_count", .noat "Disk" "write_count", .noat "Disk" "left", .noat "Disk" "part", .meth "Disk" "blocks", .meth "Disk" "must_be", .meth "Disk" "read", .meth "Disk" "write", .meth "Disk" "reads", .meth "Disk" "writes", .meth "Disk" "stop_after", .meth "Disk" "go_on", .meth "Disk" "twin", .int "LEAST_BLOCKS" 4, .int "MOST_BLOCKS" 64, .int "WORDS" 8, .int "MOST_WORD" 1000000000000000, .free "bool", .free "int", .free "isinstance", .free "len", .free "list", .free "max", .free "range", .free "str", .free "tuple", .exc "BadDisk", .exm "BadDisk" "Stopped" false, .exc "NoBlock", .exm "NoBlock" "Stopped" false, .exc "BadBlock", .exm "BadBlock" "Stopped" false, .exc "BadStop", .exm "BadStop" "Stopped" false, .exc "Stopped", .exm "Stopped" "Stopped" true]
def fn : List He.DefD := [dd_wall, dd_kind, dd_most_reads, dd_last_of_round, dd_newest, dd_is_whole, dd_are_words, dd_Disk_init, dd_Disk_blocks, dd_Disk_must_be, dd_Disk_read, dd_Disk_write, dd_Disk_reads, dd_Disk_writes, dd_Disk_stop_after, dd_Disk_go_on, dd_Disk_twin, dd_l_taken, dd_l_most, dd_l_alike, dd_l_many, dd_l_laid, dd_l_torn, dd_l_asked, dd_law]
theorem Tx.of {K : PySem.W.Frag} {h : Heap} {mg : Str → Option Value} (X : K.In h) (G : h.Ns mainGlobals mg) (c : He.SaysD fa fn K) : Tx K mg where
  d_wall := c.def_ 0 (d := dd_wall) rfl
  g_wall := He.glo_ok X G (c.fact 0 (f := .glo "_wall") rfl)
  d_kind := c.def_ 1 (d := dd_kind) rfl
  g_kind := He.glo_ok X G (c.fact 1 (f := .glo "kind") rfl)
  d_most_reads := c.def_ 2 (d := dd_most_reads) rfl
  g_most_reads := He.glo_ok X G (c.fact 2 (f := .glo "most_reads") rfl)
  d_last_of_round := c.def_ 3 (d := dd_last_of_round) rfl
  g_last_of_round := He.glo_ok X G (c.fact 3 (f := .glo "last_of_round") rfl)
  d_newest := c.def_ 4 (d := dd_newest) rfl
  g_newest := He.glo_ok X G (c.fact 4 (f := .glo "newest") rfl)
  d_is_whole := c.def_ 5 (d := dd_is_whole) rfl
  g_is_whole := He.glo_ok X G (c.fact 5 (f := .glo "is_whole") rfl)
  d_are_words := c.def_ 6 (d := dd_are_words) rfl
  g_are_words := He.glo_ok X G (c.fact 6 (f := .glo "are_words") rfl)
  d_Disk_init := c.def_ 7 (d := dd_Disk_init) rfl
  d_Disk_blocks := c.def_ 8 (d := dd_Disk_blocks) rfl
  d_Disk_must_be := c.def_ 9 (d := dd_Disk_must_be) rfl
  d_Disk_read := c.def_ 10 (d := dd_Disk_read) rfl
  d_Disk_write := c.def_ 11 (d := dd_Disk_write) rfl
  d_Disk_reads := c.def_ 12 (d := dd_Disk_reads) rfl
  d_Disk_writes := c.def_ 13 (d := dd_Disk_writes) rfl
  d_Disk_stop_after := c.def_ 14 (d := dd_Disk_stop_after) rfl
  d_Disk_go_on := c.def_ 15 (d := dd_Disk_go_on) rfl
  d_Disk_twin := c.def_ 16 (d := dd_Disk_twin) rfl
  d_l_taken := c.def_ 17 (d := dd_l_taken) rfl
  g_l_taken := He.glo_ok X G (c.fact 7 (f := .glo "_law_taken") rfl)
  d_l_most := c.def_ 18 (d := dd_l_most) rfl
  g_l_most := He.glo_ok X G (c.fact 8 (f := .glo "_law_most") rfl)
  d_l_alike := c.def_ 19 (d := dd_l_alike) rfl
  g_l_alike := He.glo_ok X G (c.fact 9 (f := .glo "_law_alike") rfl)
  d_l_many := c.def_ 20 (d := dd_l_many) rfl
  g_l_many := He.glo_ok X G (c.fact 10 (f := .glo "_law_many") rfl)
  d_l_laid := c.def_ 21 (d := dd_l_laid) rfl
  g_l_laid := He.glo_ok X G (c.fact 11 (f := .glo "_law_laid") rfl)
  d_l_torn := c.def_ 22 (d := dd_l_torn) rfl
  g_l_torn := He.glo_ok X G (c.fact 12 (f := .glo "_law_torn") rfl)
  d_l_asked := c.def_ 23 (d := dd_l_asked) rfl
  g_l_asked := He.glo_ok X G (c.fact 13 (f := .glo "_law_asked") rfl)
  d_law := c.def_ 24 (d := dd_law) rfl
  g_law := He.glo_ok X G (c.fact 14 (f := .glo "law") rfl)
  g_LogError := He.glo_ok X G (c.fact 15 (f := .glo "LogError") rfl)
  g_BadDisk := He.glo_ok X G (c.fact 16 (f := .glo "BadDisk") rfl)
  g_NoBlock := He.glo_ok X G (c.fact 17 (f := .glo "NoBlock") rfl)
  g_BadBlock := He.glo_ok X G (c.fact 18 (f := .glo "BadBlock") rfl)
  g_BadStop := He.glo_ok X G (c.fact 19 (f := .glo "BadStop") rfl)
  g_Stopped := He.glo_ok X G (c.fact 20 (f := .glo "Stopped") rfl)
  g_Disk := He.glo_ok X G (c.fact 21 (f := .glo "Disk") rfl)
  c_Disk := He.cls_ok (c.fact 22 (f := .cls "Disk") rfl)
  mk_Disk := He.mkr_ok (c.fact 23 (f := .mkr "Disk") rfl)
  n_Disk_kept := He.noat_ok (c.fact 24 (f := .noat "Disk" "kept") rfl)
  n_Disk_read_count := He.noat_ok (c.fact 25 (f := .noat "Disk" "read_count") rfl)
  n_Disk_write_count := He.noat_ok (c.fact 26 (f := .noat "Disk" "write_count") rfl)
  n_Disk_left := He.noat_ok (c.fact 27 (f := .noat "Disk" "left") rfl)
  n_Disk_part := He.noat_ok (c.fact 28 (f := .noat "Disk" "part") rfl)
  m_Disk_blocks := He.meth_ok (c.fact 29 (f := .meth "Disk" "blocks") rfl)
  m_Disk_must_be := He.meth_ok (c.fact 30 (f := .meth "Disk" "must_be") rfl)
  m_Disk_read := He.meth_ok (c.fact 31 (f := .meth "Disk" "read") rfl)
  m_Disk_write := He.meth_ok (c.fact 32 (f := .meth "Disk" "write") rfl)
  m_Disk_reads := He.meth_ok (c.fact 33 (f := .meth "Disk" "reads") rfl)
  m_Disk_writes := He.meth_ok (c.fact 34 (f := .meth "Disk" "writes") rfl)
  m_Disk_stop_after := He.meth_ok (c.fact 35 (f := .meth "Disk" "stop_after") rfl)
  m_Disk_go_on := He.meth_ok (c.fact 36 (f := .meth "Disk" "go_on") rfl)
  m_Disk_twin := He.meth_ok (c.fact 37 (f := .meth "Disk" "twin") rfl)
  i_LEAST_BLOCKS := He.int_ok X G (c.fact 38 (f := .int "LEAST_BLOCKS" 4) rfl)
  i_MOST_BLOCKS := He.int_ok X G (c.fact 39 (f := .int "MOST_BLOCKS" 64) rfl)
  i_WORDS := He.int_ok X G (c.fact 40 (f := .int "WORDS" 8) rfl)
  i_MOST_WORD := He.int_ok X G (c.fact 41 (f := .int "MOST_WORD" 1000000000000000) rfl)
  b_bool := He.free_ok X G (c.fact 42 (f := .free "bool") rfl)
  b_int := He.free_ok X G (c.fact 43 (f := .free "int") rfl)
  b_isinstance := He.free_ok X G (c.fact 44 (f := .free "isinstance") rfl)
  b_len := He.free_ok X G (c.fact 45 (f := .free "len") rfl)
  b_list := He.free_ok X G (c.fact 46 (f := .free "list") rfl)
  b_max := He.free_ok X G (c.fact 47 (f := .free "max") rfl)
  b_range := He.free_ok X G (c.fact 48 (f := .free "range") rfl)
  b_str := He.free_ok X G (c.fact 49 (f := .free "str") rfl)
  b_tuple := He.free_ok X G (c.fact 50 (f := .free "tuple") rfl)
  x_BadDisk := He.exc_ok (c.fact 51 (f := .exc "BadDisk") rfl)
  e_BadDisk_Stopped := He.exm_ok (c.fact 52 (f := .exm "BadDisk" "Stopped" false) rfl)
  x_NoBlock := He.exc_ok (c.fact 53 (f := .exc "NoBlock") rfl)
  e_NoBlock_Stopped := He.exm_ok (c.fact 54 (f := .exm "NoBlock" "Stopped" false) rfl)
  x_BadBlock := He.exc_ok (c.fact 55 (f := .exc "BadBlock") rfl)
  e_BadBlock_Stopped := He.exm_ok (c.fact 56 (f := .exm "BadBlock" "Stopped" false) rfl)
  x_BadStop := He.exc_ok (c.fact 57 (f := .exc "BadStop") rfl)
  e_BadStop_Stopped := He.exm_ok (c.fact 58 (f := .exm "BadStop" "Stopped" false) rfl)
  x_Stopped := He.exc_ok (c.fact 59 (f := .exc "Stopped") rfl)
  e_Stopped_Stopped := He.exm_ok (c.fact 60 (f := .exm "Stopped" "Stopped" true) rfl)
end RL
namespace RL
open PySem PySem.Spec PyProof.Rows L2
def sp_is_whole (K : PySem.W.Frag) : Sp := fun vs H Q _ => ∃ (v : V) (lo hi : Int) (t : String), vs = [v, .int lo, .int hi] ∧ TyOf K H v (.type t) ∧ Q (.bl (isWh v lo hi)) H
section
variable {P : Program} {w : World} {K : PySem.W.Frag} {mg : Str → Option Value} {base : Heap}
theorem ok_is_whole (T : Tx K mg) : Ok P w K mg base 1 (a_is_whole K) p_is_whole (sp_is_whole K) := by
  refine ok_of T.d_is_whole sc_is_whole bd_is_whole (fun vs H Q E h => ?_) (fun cdv A outer s H vs Q E hr tk po h => ?_)
  · obtain ⟨v, lo, hi, t, rfl, _⟩ := h
    rfl
  · obtain ⟨v, lo, hi, t, rfl, ht, q⟩ := h
    refine ⟨_, (pss_one (ps_ret (pe_and (pe_callB call_isi (by rfl) T.b_isinstance boot_isinstance (pa_cons (pv 0) (pa_cons (pe_bltn (v := .ty "int") (by rfl) T.b_int boot_int rfl) pa_nil))) (pe_and (pe_not (pe_callB call_isi (by rfl) T.b_isinstance boot_isinstance (pa_cons (pv 0) (pa_cons (pe_bltn (v := .ty "bool") (by rfl) T.b_bool boot_bool rfl) pa_nil)))) (pe_one (pe_chain op_le op_le (pv 1) (pv 0) (pv 2))))))), ?_⟩
    refine ⟨_, rfl, ?_⟩
    cases ht with
    | int i =>
      refine ⟨_, _, .type "int", .type "int", true, rfl, .ty _, .base (.int i), kb_int_int, true, rfl, ?_⟩
      refine ⟨_, rfl, ?_⟩
      refine ⟨_, _, .type "int", .type "bool", false, rfl, .ty _, .base (.int i), kb_int_bool, false, rfl, true, rfl, ?_⟩
      refine ⟨_, rfl, _, rfl, _, _, rfl, rfl, _, rfl, if_d (fun c => ?_) (fun c => ?_)⟩
      · refine ⟨_, rfl, _, _, rfl, rfl, ?_⟩
        have e : isWh (.int i) lo hi = decide (i ≤ hi) := by
          show (decide (lo ≤ i) && decide (i ≤ hi)) = _
          rw [decide_eq_true c, Bool.true_and]
        rw [e] at q
        exact q
      · have e : isWh (.int i) lo hi = false := by
          show (decide (lo ≤ i) && decide (i ≤ hi)) = _
          rw [decide_eq_false c, Bool.false_and]
        rw [e] at q
        exact q
    | non => exact ⟨_, _, .type "NoneType", .type "int", false, rfl, .ty _, .base .non, kb_NoneType_int, false, rfl, q⟩
    | bl b =>
      refine ⟨_, _, .type "bool", .type "int", true, rfl, .ty _, .base (.bl b), kb_bool_int, true, rfl, ?_⟩
      refine ⟨_, rfl, ?_⟩
      exact ⟨_, _, .type "bool", .type "bool", true, rfl, .ty _, .base (.bl b), kb_bool_bool, true, rfl, false, rfl, q⟩
    | str x => exact ⟨_, _, .type "str", .type "int", false, rfl, .ty _, .base (.str x), kb_str_int, false, rfl, q⟩
    | flt x => exact ⟨_, _, .type "float", .type "int", false, rfl, .ty _, .base (.flt x), kb_float_int, false, rfl, q⟩
    | lst e => exact ⟨_, _, .type "list", .type "int", false, rfl, .ty _, .base (.lst e), kb_list_int, false, rfl, q⟩
    | frz e => exact ⟨_, _, .type "list", .type "int", false, rfl, .ty _, .base (.frz e), kb_list_int, false, rfl, q⟩
    | tup e => exact ⟨_, _, .type "tuple", .type "int", false, rfl, .ty _, .base (.tup e), kb_tuple_int, false, rfl, q⟩
    | dK e => exact ⟨_, _, .type "dict", .type "int", false, rfl, .ty _, .base (.dK e), kb_dict_int, false, rfl, q⟩
    | dT e => exact ⟨_, _, .type "dict", .type "int", false, rfl, .ty _, .base (.dT e), kb_dict_int, false, rfl, q⟩
end
end RL
namespace RL
open PySem PySem.Spec PyProof.Rows L2
def sp_Disk_must_be (K : PySem.W.Frag) : Sp := fun vs H Q E => ∃ (d dx k : Addr) (s : DS) (xs : List V) (p : V) (t : String) (L : ML) (I : Hp), vs = [.ref d, p] ∧ Hs ((d, dskO K dx k s) :: (k, .lst xs) :: L) I H ∧ xs.length = s.kept.length ∧ TyOf K H p (.type t) ∧
  (isWh p 0 (s.kept.length - 1) = true → Q .non H) ∧ (isWh p 0 (s.kept.length - 1) = false → E (.ref (He.ga K "NoBlock")) none H)
section
variable {P : Program} {w : World} {K : PySem.W.Frag} {mg : Str → Option Value} {base : Heap}
theorem ok_Disk_must_be (T : Tx K mg) : Ok P w K mg base 2 (a_Disk_must_be K) p_Disk_must_be (sp_Disk_must_be K) := by
  have G_is_whole := ok_is_whole (P := P) (w := w) (base := base) T
  refine ok_of T.d_Disk_must_be sc_Disk_must_be bd_Disk_must_be (fun vs H Q E h => ?_) (fun cdv A outer s H vs Q E hr tk po h => ?_)
  · obtain ⟨d, dx, k, s, xs, p, t, L, I, rfl, _⟩ := h
    rfl
  · obtain ⟨d, dx, k, s, xs, p, t, L, I, rfl, h, hl, ht, q1, q2⟩ := h
    refine ⟨_, (pss_one (ps_if (pt_not (pt_val (pe_callO G_is_whole (hr.mono (by first | decide | omega)) T.g_is_whole (L2N.passAt tk) (pa_cons (pv 1) (pa_cons pe_int (pa_cons (pe_op op_sub (pe_callB call_len_seq (by rfl) T.b_len PySem.boot_len (pa_cons (pe_fld (pv 0) rfl) pa_nil)) pe_int) pa_nil))))))
    (pss_one (L2N.ps_raise rfl tk (L2N.pmk_own PySem.F.excBase_ValueError T.x_NoBlock.1 T.g_NoBlock T.x_NoBlock.2.1 (raises_own T.x_NoBlock.2.2.1 T.x_NoBlock.2.2.2) rfl)))
    pss_nil)), ?_⟩
    refine ⟨_, rfl, _, rfl, d, _, dx, _, _, rfl, h.g0, T.c_Disk, T.n_Disk_kept, df_kept, k, xs, rfl, .inl (sqm h.g1), _, 1, rfl, rfl, p, 0, _, t, rfl, ht, ?_⟩
    refine ⟨_, rfl, ?_⟩
    rw [hl]
    cases e : isWh p 0 (s.kept.length - 1) with
    | true => exact q1 e
    | false => exact q2 e
end
end RL
namespace RL
open PySem PySem.Spec PyProof.Rows L2
def sp_Disk_read (K : PySem.W.Frag) : Sp := fun vs H Q E => ∃ (d dx k : Addr) (s : DS) (xs : List V) (p : V) (t : String) (L : ML) (I : Hp), vs = [.ref d, p] ∧ Hs ((d, dskO K dx k s) :: (k, .lst xs) :: L) I H ∧ DskOk I xs s ∧ TyOf K H p (.type t) ∧
  (∀ i : Nat, p = .int i → i < s.kept.length → ∀ H' a, Hs ((a, .lst ((s.kept.getD i []).map V.int)) :: (d, dskO K dx k (rdS s)) :: (k, .lst xs) :: L) I H' → Q (.ref a) H') ∧ (isWh p 0 (s.kept.length - 1) = false → E (.ref (He.ga K "NoBlock")) none H)
section
variable {P : Program} {w : World} {K : PySem.W.Frag} {mg : Str → Option Value} {base : Heap}
theorem ok_Disk_read (T : Tx K mg) : Ok P w K mg base 3 (a_Disk_read K) p_Disk_read (sp_Disk_read K) := by
  have G_Disk_must_be := ok_Disk_must_be (P := P) (w := w) (base := base) T
  refine ok_of T.d_Disk_read sc_Disk_read bd_Disk_read (fun vs H Q E h => ?_) (fun cdv A outer s H vs Q E hr tk po h => ?_)
  · obtain ⟨d, dx, k, s, xs, p, t, L, I, rfl, _⟩ := h
    rfl
  · obtain ⟨d, dx, k, s, xs, p, t, L, I, rfl, h, ok, ht, q1, q2⟩ := h
    refine ⟨_, (pss_cons (ps_expr (pe_methO (pv 0) T.c_Disk T.m_Disk_must_be G_Disk_must_be (hr.mono (by first | decide | omega)) (L2N.passAt tk) (pa_cons (pv 1) pa_nil)))
    (pss_cons (ps_fld (pv 0) (pe_op op_add (pe_fld (pv 0) rfl) pe_int) rfl)
    (pss_one (ps_ret (pe_callTy call_list_of (by rfl) T.b_list boot_list (pa_cons (pe_ix ix_list (pe_fld (pv 0) rfl) (pv 1) (fun _ _ => rfl)) pa_nil)))))), ?_⟩
    refine ⟨_, rfl, d, dx, _, rfl, h.g0, df_no (by decide +kernel), _, rfl, d, dx, k, s, xs, p, t, L, I, rfl, h, ok.len, ht, fun e => ?_, q2⟩
    obtain ⟨i, rfl, hi⟩ := isWh_nat e
    refine ⟨_, rfl, d, _, dx, _, _, rfl, h.g0, T.c_Disk, T.n_Disk_read_count, df_reads, _, 1, rfl, rfl, _, rfl, d, _, dx, _, rfl, h.g0, T.c_Disk, T.n_Disk_read_count, dlen, ?_⟩
    rw [dp_reads]
    have h1 : Hs ((d, dskO K dx k (rdS s)) :: (k, .lst xs) :: L) I _ := h.set0
    obtain ⟨a, ea, ha, _⟩ := ok.get hi
    refine ⟨_, rfl, d, _, dx, _, _, rfl, h1.g0, T.c_Disk, T.n_Disk_kept, df_kept, _, rfl, k, xs, i, _, rfl, rfl, sqm h1.g1, atI_n ea, a, _, rfl, .inl (h1.sq ha), fun f hf => ?_⟩
    exact q1 i rfl hi _ f (h1.newM hf)
end
end RL
namespace RL
open PySem PySem.Spec PyProof.Rows L2
def sp_Disk_blocks (K : PySem.W.Frag) : Sp := fun vs H Q _ => ∃ (d dx k : Addr) (s : DS) (xs : List V) (L : ML) (I : Hp), vs = [.ref d] ∧ Hs ((d, dskO K dx k s) :: (k, .lst xs) :: L) I H ∧ xs.length = s.kept.length ∧ Q (.int s.kept.length) H
section
variable {P : Program} {w : World} {K : PySem.W.Frag} {mg : Str → Option Value} {base : Heap}
theorem ok_Disk_blocks (T : Tx K mg) : Ok P w K mg base 1 (a_Disk_blocks K) p_Disk_blocks (sp_Disk_blocks K) := by
  refine ok_of T.d_Disk_blocks sc_Disk_blocks bd_Disk_blocks (fun vs H Q E h => ?_) (fun cdv A outer s H vs Q E hr tk po h => ?_)
  · obtain ⟨d, dx, k, s, xs, L, I, rfl, _⟩ := h
    rfl
  · obtain ⟨d, dx, k, s, xs, L, I, rfl, h, hl, q⟩ := h
    refine ⟨_, (pss_one (ps_ret (pe_callB call_len_seq (by rfl) T.b_len PySem.boot_len (pa_cons (pe_fld (pv 0) rfl) pa_nil)))), ?_⟩
    refine ⟨_, rfl, d, _, dx, _, _, rfl, h.g0, T.c_Disk, T.n_Disk_kept, df_kept, k, xs, rfl, .inl (sqm h.g1), ?_⟩
    rw [hl]
    exact q
end
end RL
namespace RL
open PySem PySem.Spec PyProof.Rows L2
def sp_kind (K : PySem.W.Frag) : Sp := fun vs H Q _ => ∃ (a : Addr) (ws : List Int) (p m : Int), vs = [.ref a, .int p, .int m] ∧ SqL K H a (ws.map V.int) ∧ ws ≠ [] ∧ 0 < m ∧ Q (.str (kindN ws p m)) H
section
variable {P : Program} {w : World} {K : PySem.W.Frag} {mg : Str → Option Value} {base : Heap}
theorem ok_kind (T : Tx K mg) : Ok P w K mg base 1 (a_kind K) p_kind (sp_kind K) := by
  refine ok_of T.d_kind sc_kind bd_kind (fun vs H Q E h => ?_) (fun cdv A outer s H vs Q E hr tk po h => ?_)
  · obtain ⟨a, ws, p, m, rfl, _⟩ := h
    rfl
  · obtain ⟨a, ws, p, m, rfl, hS, hw, hm, q⟩ := h
    refine ⟨_, (pss_cons (ps_if (PW.pt (pw_and (pt_cmpR op_eq (pe_ix ix_list (pv 0) pe_int (fun _ _ => rfl)) pe_int (nomark _)) (pw_and1 (pt_cmpR op_eq (pe_ix ix_list (pv 0) (pe_un un_neg pe_int) (fun _ _ => rfl)) pe_int (nomark _)))))
    (pss_one (ps_ret pe_str))
    pss_nil)
    (pss_cons (ps_if (PW.pt (pw_and (pt_cmpR op_eq (pe_ix ix_list (pv 0) pe_int (fun _ _ => rfl)) (pe_ix ix_list (pv 0) (pe_un un_neg pe_int) (fun _ _ => rfl)) (nomark _)) (pw_and (pt_cmpR op_ge (pe_ix ix_list (pv 0) pe_int (fun _ _ => rfl)) (pv 2) (nomark _)) (pw_and1 (pt_cmpR op_eq (pe_op op_mod (pe_ix ix_list (pv 0) pe_int (fun _ _ => rfl)) (pv 2)) (pv 1) (nomark _))))))
    (pss_one (ps_ret pe_str))
    pss_nil)
    (pss_one (ps_ret pe_str)))), ?_⟩
    have e0 := at_0 hw
    have e1 := at_last hw
    unfold kindN at q
    generalize ws.headD 0 = x at e0 q
    generalize ws.getLastD 0 = y at e1 q
    refine ⟨_, rfl, a, _, 0, _, rfl, rfl, hS, e0, rfl, _, rfl, ?_⟩
    refine if_d (fun c0 => ⟨_, rfl, 1, rfl, a, _, -1, _, rfl, rfl, hS, e1, rfl, _, rfl, if_d (fun c1 => ?_) (fun c1 => ?_)⟩) (fun c0 => if_f rfl ?_)
    · rw [if_pos ⟨V.int.inj c0, V.int.inj c1⟩] at q
      exact q
    all_goals
      rw [if_neg (by
        rintro ⟨z0, z1⟩
        first
          | exact c1 (by rw [z1])
          | exact c0 (by rw [z0]))] at q
      refine ⟨_, rfl, a, _, 0, _, rfl, rfl, hS, e0, _, rfl, 1, rfl, a, _, -1, _, rfl, rfl, hS, e1, rfl, _, rfl, if_d (fun c2 => ?_) (fun c2 => if_f rfl ?_)⟩
      · refine ⟨_, rfl, a, _, 0, _, rfl, rfl, hS, e0, _, rfl, _, _, rfl, rfl, _, rfl, if_d (fun c3 => ?_) (fun c3 => if_f rfl ?_)⟩
        · refine ⟨_, rfl, a, _, 0, _, rfl, rfl, hS, e0, _, rfl, _, _, rfl, rfl, hm, _, rfl, rfl, _, rfl, if_d (fun c4 => ?_) (fun c4 => ?_)⟩
          · rw [if_pos ⟨V.int.inj c2, c3, V.int.inj c4⟩] at q
            exact q
          · rw [if_neg (fun z => c4 (congrArg V.int z.2.2))] at q
            exact q
        · rw [if_neg (fun z => c3 z.2.1)] at q
          exact q
      · rw [if_neg (fun z => c2 (congrArg V.int z.1))] at q
        exact q
end
end RL
namespace RL
open PySem PySem.Spec PyProof.Rows L2
def rdN (s : DS) (c : Nat) : DS := { s with reads := s.reads + c }
theorem rdN_S (s : DS) (c : Nat) : rdS (rdN s c) = rdN s (c + 1) := by
  unfold rdS rdN
  simp only [Int.natCast_add, Int.natCast_one, Int.add_assoc]
theorem rdN_0 (s : DS) : rdN s 0 = s := by
  unfold rdN
  simp
theorem rdN_add (s : DS) (c e : Nat) : rdN (rdN s c) e = rdN s (c + e) := by
  unfold rdN
  simp only [Int.natCast_add, Int.add_assoc]
theorem blk_get {s : DS} {p : Nat} : s.kept.getD p [] = blk s.kept p := rfl
def sp_last_of_round (K : PySem.W.Frag) : Sp := fun vs H Q E => ∃ (d dx k : Addr) (s : DS) (xs : List V) (T : Int) (r : Nat) (L : ML) (I : Hp), vs = [.ref d, .int T] ∧ Hs ((d, dskO K dx k s) :: (k, .lst xs) :: L) I H ∧ DskOk I xs s ∧
  (∀ p : Nat, p < s.kept.length → isW s.kept T p = decide ((p : Int) ≤ r)) ∧ r < s.kept.length ∧
  ∀ H' (c : Nat), c ≤ halv (s.kept.length - 1) → Hs ((d, dskO K dx k (rdN s c)) :: (k, .lst xs) :: L) I H' → Q (.int (T * s.kept.length + r)) H'
section
variable {P : Program} {w : World} {K : PySem.W.Frag} {mg : Str → Option Value} {base : Heap}
theorem ok_last_of_round (T : Tx K mg) : Ok P w K mg base 4 (a_last_of_round K) p_last_of_round (sp_last_of_round K) := by
  have G_Disk_blocks := ok_Disk_blocks (P := P) (w := w) (base := base) T
  have G_Disk_read := ok_Disk_read (P := P) (w := w) (base := base) T
  have G_kind := ok_kind (P := P) (w := w) (base := base) T
  refine ok_of T.d_last_of_round sc_last_of_round bd_last_of_round (fun vs H Q E h => ?_) (fun cdv A outer s0 H vs Q E hr tk po h => ?_)
  · obtain ⟨d, dx, k, s, xs, T, r, L, I, rfl, _⟩ := h
    rfl
  · obtain ⟨d, dx, k, s, xs, t, r, L, I, rfl, h, ok, mono, hr', q⟩ := h
    refine ⟨_, (pss_cons (ps_set (i := 2) sc_last_of_round.nd rfl (Or.inl rfl) (pe_methO0 (pv 0) T.c_Disk T.m_Disk_blocks G_Disk_blocks (hr.mono (by first | decide | omega)) (L2N.passAt tk)))
    (pss_cons (ps_set (i := 3) sc_last_of_round.nd rfl (Or.inl rfl) pe_int)
    (pss_cons (ps_set (i := 4) sc_last_of_round.nd rfl (Or.inl rfl) (pv 2))
    (pss_cons (ps_while po (pt_cmpR op_gt (pe_op op_sub (pv 4) (pv 3)) pe_int (nomark _))
    (pss_cons (ps_set (i := 5) sc_last_of_round.nd rfl (Or.inl rfl) (pe_op op_fdiv (pe_op op_add (pv 3) (pv 4)) pe_int))
    (pss_cons (ps_set (i := 6) sc_last_of_round.nd rfl (Or.inl rfl) (pe_methO (pv 0) T.c_Disk T.m_Disk_read G_Disk_read (hr.mono (by first | decide | omega)) (L2N.passAt tk) (pa_cons (pv 5) pa_nil)))
    (pss_one (ps_if (PW.pt (pw_and (pt_cmpR op_eq (pe_callO G_kind (hr.mono (by first | decide | omega)) T.g_kind (L2N.passAt tk) (pa_cons (pv 6) (pa_cons (pv 5) (pa_cons (pv 2) pa_nil)))) pe_str (nomark _)) (pw_and1 (pt_cmpR op_eq (pe_op op_fdiv (pe_ix ix_list (pv 6) pe_int (fun _ _ => rfl)) (pv 2)) (pv 1) (nomark _)))))
    (pss_one (ps_set (i := 3) sc_last_of_round.nd rfl (Or.inl rfl) (pv 5)))
    (pss_one (ps_set (i := 4) sc_last_of_round.nd rfl (Or.inl rfl) (pv 5))))))))
    (pss_one (ps_ret (pe_op op_add (pe_op op_mul (pv 1) (pv 2)) (pv 3)))))))), ?_⟩
    refine ⟨_, rfl, d, dx, _, rfl, h.g0, df_no (by decide +kernel), d, dx, k, s, xs, L, I, rfl, h, ok.len, ?_⟩
    dsimp only [List.set]
    refine ⟨_, rfl, ?_⟩
    dsimp only [List.set]
    have n4 := ok.n4
    have n64 := ok.n64
    refine ⟨fun m σ H1 => ∃ (lo hi b : Nat) (z1 z2 : Option V), σ = [some (.ref d), some (.int t), some (.int s.kept.length), some (.int lo), some (.int hi), z1, z2] ∧ b ≤ halv (s.kept.length - 1) ∧
      Hs ((d, dskO K dx k (rdN s (halv (s.kept.length - 1) - b))) :: (k, .lst xs) :: L) I H1 ∧ lo ≤ r ∧ r < hi ∧ hi ≤ s.kept.length ∧ hi - lo ≤ 2 ^ b ∧ m = b, ⟨_, 0, s.kept.length, halv (s.kept.length - 1), none, none, rfl, Nat.le_refl _, ?_, Nat.zero_le _, hr', Nat.le_refl _, ?_, rfl⟩, ?_⟩
    · rw [Nat.sub_self, rdN_0]
      exact h
    · have := halv_hi (s.kept.length - 1)
      omega
    rintro b σ H1 ⟨lo, hi, _, z1, z2, rfl, hb, h1, l1, l2, l3, l4, rfl⟩
    refine ⟨_, rfl, _, rfl, _, _, rfl, rfl, _, 1, rfl, rfl, _, rfl, if_d (fun c => ?_) (fun c => ?_)⟩
    · obtain ⟨b', rfl⟩ : ∃ b', b = b' + 1 := by
        cases b with
        | zero =>
          rw [Nat.pow_zero] at l4
          omega
        | succ b' => exact ⟨b', rfl⟩
      rw [Nat.pow_succ] at l4
      refine ⟨fun σ' H' => ∃ (lo hi : Nat) (z1 z2 : Option V), σ' = [some (.ref d), some (.int t), some (.int s.kept.length), some (.int lo), some (.int hi), z1, z2] ∧
        Hs ((d, dskO K dx k (rdN s (halv (s.kept.length - 1) - b'))) :: (k, .lst xs) :: L) I H' ∧ lo ≤ r ∧ r < hi ∧ hi ≤ s.kept.length ∧ hi - lo ≤ 2 ^ b', fun σ' H' ⟨lo, hi, z1, z2, e, h', a1, a2, a3, a4⟩ => ⟨b', Nat.lt_succ_self _, lo, hi, b', z1, z2, e, by omega, h', a1, a2, a3, a4, rfl⟩, ?_⟩
      refine ⟨_, rfl, _, rfl, _, _, rfl, rfl, _, 2, rfl, rfl, ⟨by decide, by decide⟩, ?_⟩
      dsimp only [List.set]
      have em : ((lo : Int) + hi) / 2 = (((lo + hi) / 2 : Nat) : Int) := by omega
      rw [em]
      have mp : (lo + hi) / 2 < s.kept.length := by omega
      refine ⟨_, rfl, d, dx, _, rfl, h1.g0, df_no (by decide +kernel), _, rfl, d, dx, k, _, xs, _, "int", L, I, rfl, h1, ok.same rfl ok.p0, .int _, fun i ei hi' H2 a h2 => ?_, fun e => ?_⟩
      · dsimp only [List.set]
        have ei2 := Int.ofNat.inj (V.int.inj ei)
        subst ei2
        have hl8 := ok.l8 _ (blk_mem mp)
        have ne := blk_ne mp ok.l8
        have cN : halv (s.kept.length - 1) - (b' + 1) + 1 = halv (s.kept.length - 1) - b' := by omega
        rw [rdN_S, cN] at h2
        have h3 := h2.drop
        have mm := mono _ mp
        refine ⟨_, rfl, _, rfl, _, rfl, a, _, _, _, rfl, sqm h2.g0, ne, by omega, rfl, _, rfl, if_d (fun c1 => ?_) (fun c1 => ?_)⟩
        · have k1 : decide (kindN (blk s.kept ((lo + hi) / 2)) (((lo + hi) / 2 : Nat) : Int) s.kept.length = "whole") = true := decide_eq_true (V.str.inj c1)
          have mm2 := mm
          unfold RL.isW at mm2
          rw [k1, Bool.true_and] at mm2
          have mm3 := decide_eq_decide.mp mm2
          refine ⟨_, rfl, a, _, 0, _, rfl, rfl, sqm h2.g0, at_0 ne, _, rfl, _, _, rfl, rfl, ⟨by omega, by omega⟩, _, rfl, rfl, _, rfl, if_d (fun c2 => ?_) (fun c2 => ?_)⟩
          · have lm := mm3.mp (V.int.inj c2)
            refine ⟨_, rfl, ?_⟩
            dsimp only [List.set]
            exact ⟨(lo + hi) / 2, hi, _, _, rfl, h3, Int.ofNat_le.mp lm, l2, l3, by omega⟩
          · have lm : ¬ ((((lo + hi) / 2 : Nat) : Int) ≤ (r : Int)) := fun z => c2 (congrArg V.int (mm3.mpr z))
            refine ⟨_, rfl, ?_⟩
            dsimp only [List.set]
            exact ⟨lo, (lo + hi) / 2, _, _, rfl, h3, l1, by omega, by omega, by omega⟩
        · have k1 : decide (kindN (blk s.kept ((lo + hi) / 2)) (((lo + hi) / 2 : Nat) : Int) s.kept.length = "whole") = false := decide_eq_false (fun z => c1 (congrArg V.str z))
          have mm2 := mm
          unfold RL.isW at mm2
          rw [k1, Bool.false_and] at mm2
          have lm : ¬ ((((lo + hi) / 2 : Nat) : Int) ≤ (r : Int)) := of_decide_eq_false mm2.symm
          refine ⟨_, rfl, ?_⟩
          dsimp only [List.set]
          exact ⟨lo, (lo + hi) / 2, _, _, rfl, h3, l1, by omega, by omega, by omega⟩
      · rw [isWh_int (by omega) (by show (((lo + hi) / 2 : Nat) : Int) ≤ (s.kept.length : Int) - 1; omega)] at e
        cases e
    · have : lo = r := by omega
      subst this
      refine ⟨_, rfl, _, rfl, _, _, rfl, rfl, (.inr ⟨by omega, by omega⟩), _, rfl, _, _, rfl, rfl, ?_⟩
      exact q _ _ (Nat.sub_le _ _) h1
end
end RL
namespace RL
open PySem PySem.Spec PyProof.Rows L2
def mostN (n : Int) : Int := 2 + (halv (n - 1).toNat : Nat)
def sp_most : Sp := fun vs H Q _ => ∃ n : Int, vs = [.int n] ∧ 1 ≤ n ∧ Q (.int (mostN n)) H
section
variable {P : Program} {w : World} {K : PySem.W.Frag} {mg : Str → Option Value} {base : Heap}
theorem ok_most_reads (T : Tx K mg) : Ok P w K mg base 1 (a_most_reads K) p_most_reads sp_most := by
  refine ok_of T.d_most_reads sc_most_reads bd_most_reads (fun vs H Q E h => ?_) (fun cdv A outer s H vs Q E hr tk po h => ?_)
  · obtain ⟨n, rfl, _⟩ := h
    rfl
  · obtain ⟨n, rfl, hn, q⟩ := h
    refine ⟨_, (pss_cons (ps_set (i := 1) sc_most_reads.nd rfl (Or.inl rfl) pe_int)
    (pss_cons (ps_set (i := 2) sc_most_reads.nd rfl (Or.inl rfl) pe_int)
    (pss_cons (ps_while po (pt_cmpR op_lt (pv 2) (pv 0) (nomark _))
    (pss_cons (ps_set (i := 2) sc_most_reads.nd rfl (Or.inl rfl) (pe_op op_mul pe_int (pv 2)))
    (pss_one (ps_set (i := 1) sc_most_reads.nd rfl (Or.inl rfl) (pe_op op_add (pv 1) pe_int)))))
    (pss_one (ps_ret (pv 1)))))), ?_⟩
    refine ⟨fun m σ H1 => H1 = H ∧ ∃ j : Nat, σ = [some (.int n), some (.int (2 + (j : Nat))), some (.int ((2 ^ j : Nat) : Int))] ∧ (j = 0 ∨ 2 ^ (j - 1) ≤ (n - 1).toNat) ∧ m = (n - ((2 ^ j : Nat) : Int)).toNat, ⟨_, rfl, 0, rfl, .inl rfl, rfl⟩, ?_⟩
    rintro m σ H1 ⟨rfl, j, rfl, hj, rfl⟩
    refine ⟨_, rfl, _, rfl, _, _, rfl, rfl, _, rfl, if_d (fun c => ?_) (fun c => ?_)⟩
    · have p0 : 0 < 2 ^ j := Nat.pow_pos (by decide)
      have p1 : 2 ^ (j + 1) = 2 ^ j * 2 := Nat.pow_succ ..
      refine ⟨fun σ' H' => H' = H1 ∧ σ' = [some (.int n), some (.int (2 + ((j + 1 : Nat) : Int))), some (.int ((2 ^ (j + 1) : Nat) : Int))], fun σ' H' ⟨e1, e2⟩ => ⟨_, ?_, e1, j + 1, e2, .inr ?_, rfl⟩, ?_⟩
      · omega
      · show 2 ^ j ≤ _
        omega
      · refine ⟨_, rfl, 2, _, rfl, rfl, .inl ⟨by decide, by decide⟩, _, rfl, _, 1, rfl, rfl, rfl, ?_⟩
        show [some (V.int n), some (V.int ((2 : Int) + (j : Nat) + 1)), some (V.int (2 * ((2 ^ j : Nat) : Int)))] = _
        rw [show (2 : Int) * ((2 ^ j : Nat) : Int) = ((2 ^ (j + 1) : Nat) : Int) by omega, show (2 : Int) + (j : Nat) + 1 = 2 + ((j + 1 : Nat) : Int) by omega]
    · have e : j = halv (n - 1).toNat := halv_uniq (by omega) hj
      subst e
      exact ⟨_, rfl, q⟩
end
end RL
namespace RL
open PySem PySem.Spec PyProof.Rows L2
/-- what newest finds in place 0 -/
theorem Lay.kind0 {ds : List (List Int)} {N : Int} {tn : Option Int} (L : Lay ds N tn) :
    (kindN (blk ds 0) 0 ds.length = "whole" ∧ ds.length ≤ N ∧ hdW ds 0 / ds.length = N / ds.length) ∨
    (kindN (blk ds 0) 0 ds.length = "torn" ∧ tn = some 0 ∧ (N + 1) % ds.length = 0) ∨
    (kindN (blk ds 0) 0 ds.length = "empty" ∧ N = ds.length - 1 ∧ tn = none) := by
  have n0 := L.n0
  have n4 := L.n4
  have g := L.ge
  have hp : 0 < ds.length := by omega
  have main : hdW ds 0 = numW ds.length N 0 → (tn = none ∨ (0 : Int) ≠ (N + 1) % ds.length) → (kindN (blk ds 0) 0 ds.length = "whole" ∧ ds.length ≤ N ∧ hdW ds 0 / ds.length = N / ds.length) ∨ (kindN (blk ds 0) 0 ds.length = "empty" ∧ N = ds.length - 1 ∧ tn = none) := fun e ht => by
    rcases L.kindG hp e with ⟨z1, z2, z3⟩ | ⟨z1, z2⟩
    · refine .inl ⟨z2, ?_, ?_⟩
      · have := (numP_le (n := (ds.length : Int)) (N := N) (p := 0) n0).1
        omega
      · rw [z3]
        have b := numP_le (n := (ds.length : Int)) (N := N) (p := 0) n0
        have m := numP_mod (n := (ds.length : Int)) (N := N) (p := 0) (by omega)
        have h1 := Int.mul_ediv_add_emod (numP ds.length N 0) ds.length
        have h2 := Int.mul_ediv_add_emod N ds.length
        have r0 := Int.emod_nonneg N (show (ds.length : Int) ≠ 0 by omega)
        have r1 := Int.emod_lt_of_pos N n0
        rw [m] at h1
        have d : (ds.length : Int) * (numP ds.length N 0 / ds.length) = ds.length * (N / ds.length) := by
          refine num_uniq (n := (ds.length : Int)) (by rw [Int.mul_emod_right, Int.mul_emod_right]) ?_ ?_ <;> omega
        exact Int.eq_of_mul_eq_mul_left (by omega) d
    · have e1 : N = ds.length - 1 := by
        rcases (show N < ds.length ∨ (ds.length : Int) ≤ N by omega) with c | c
        · omega
        · exfalso
          have b := numP_le (n := (ds.length : Int)) (N := N) (p := 0) n0
          have m := numP_mod (n := (ds.length : Int)) (N := N) (p := 0) (by omega)
          have h1 := Int.mul_ediv_add_emod (numP ds.length N 0) ds.length
          have : 1 ≤ numP ds.length N 0 := by omega
          rw [Int.emod_eq_of_lt (by omega) z1] at m
          omega
      refine .inr ⟨z2, e1, ?_⟩
      rcases ht with ht | ht
      · exact ht
      · exfalso
        apply ht
        rw [e1, Int.sub_add_cancel, Int.emod_self]
  by_cases q : (((0 : Nat)) : Int) = (N + 1) % ds.length
  · rcases L.th 0 q with ⟨ht, e⟩ | ⟨ht, e⟩
    · rcases main e (.inl ht) with x | x
      · exact .inl x
      · exact .inr (.inr x)
    · exact .inr (.inl ⟨L.kindT hp e, ht, q.symm⟩)
  · rcases main (L.wh 0 hp q) (.inr q) with x | x
    · exact .inl x
    · exact .inr (.inr x)
/-- the last place, where place 0 is not whole -/
theorem Lay.kindL {ds : List (List Int)} {N : Int} {tn : Option Int} (L : Lay ds N tn) (h : (N + 1) % ds.length = 0) :
    (if kindN (blk ds (ds.length - 1)) ((ds.length - 1 : Nat) : Int) ds.length = "whole" then hdW ds (ds.length - 1) else (ds.length : Int) - 1) = N := by
  have n0 := L.n0
  have n4 := L.n4
  have g := L.ge
  have hm : N % ds.length = ((ds.length - 1 : Nat) : Int) := by
    have d := Int.mul_ediv_add_emod (N + 1) ds.length
    rw [h] at d
    have e : N = ((ds.length - 1 : Nat) : Int) + ds.length * ((N + 1) / ds.length - 1) := by
      rw [Int.mul_sub, Int.mul_one]
      omega
    generalize (N + 1) / (ds.length : Int) - 1 = c at e
    rw [e, Int.add_mul_emod_self_left, Int.emod_eq_of_lt (by omega) (by omega)]
  have e1 : numP ds.length N (ds.length - 1) = N := numP_at (by omega) hm (by omega) (by omega)
  rcases L.kindG (p := ds.length - 1) (by omega) (L.wh _ (by omega) (by omega)) with ⟨z1, z2, z3⟩ | ⟨z1, z2⟩
  · rw [if_pos z2, z3, e1]
  · rw [if_neg (by rw [z2]; decide +kernel)]
    omega
/-- the place behind -/
theorem Lay.kindQ {ds : List (List Int)} {N : Int} {tn : Option Int} (L : Lay ds N tn) {p : Nat} (h : (p : Int) = (N + 1) % ds.length) (hp : p < ds.length) :
    (kindN (blk ds p) p ds.length = "torn" ∧ tn = some (p : Int)) ∨ (kindN (blk ds p) p ds.length ≠ "torn" ∧ tn = none) := by
  rcases L.th p h with ⟨ht, e⟩ | ⟨ht, e⟩
  · refine .inr ⟨?_, ht⟩
    rcases L.kindG hp e with ⟨_, z, _⟩ | ⟨_, z⟩ <;> rw [z] <;> decide +kernel
  · exact .inl ⟨L.kindT hp e, ht⟩
def sp_newest (K : PySem.W.Frag) : Sp := fun vs H Q E => ∃ (d dx k : Addr) (s : DS) (xs : List V) (N : Int) (tn : Option Int) (L : ML) (I : Hp), vs = [.ref d] ∧ Hs ((d, dskO K dx k s) :: (k, .lst xs) :: L) I H ∧ DskOk I xs s ∧ Lay s.kept N tn ∧
  ∀ H' p (c : Nat), (c : Int) ≤ mostN s.kept.length → Hs ((p, .tup [.int N, optV tn]) :: (d, dskO K dx k (rdN s c)) :: (k, .lst xs) :: L) I H' → Q (.ref p) H'
section
variable {P : Program} {w : World} {K : PySem.W.Frag} {mg : Str → Option Value} {base : Heap}
theorem ok_newest (T : Tx K mg) : Ok P w K mg base 5 (a_newest K) p_newest (sp_newest K) := by
  have G_Disk_blocks := ok_Disk_blocks (P := P) (w := w) (base := base) T
  have G_Disk_read := ok_Disk_read (P := P) (w := w) (base := base) T
  have G_kind := ok_kind (P := P) (w := w) (base := base) T
  have G_last_of_round := ok_last_of_round (P := P) (w := w) (base := base) T
  refine ok_of T.d_newest sc_newest bd_newest (fun vs H Q E h => ?_) (fun cdv A outer s0 H vs Q E hr tk po h => ?_)
  · obtain ⟨d, dx, k, s, xs, N, tn, L, I, rfl, _⟩ := h
    rfl
  · obtain ⟨d, dx, k, s, xs, N, tn, L, I, rfl, h, ok, ly, q⟩ := h
    have n4 := ok.n4
    have n64 := ok.n64
    have n0 := ly.n0
    refine ⟨_, (pss_cons (ps_set (i := 1) sc_newest.nd rfl (Or.inl rfl) (pe_methO0 (pv 0) T.c_Disk T.m_Disk_blocks G_Disk_blocks (hr.mono (by first | decide | omega)) (L2N.passAt tk)))
    (pss_cons (ps_set (i := 2) sc_newest.nd rfl (Or.inl rfl) (pe_methO (pv 0) T.c_Disk T.m_Disk_read G_Disk_read (hr.mono (by first | decide | omega)) (L2N.passAt tk) (pa_cons pe_int pa_nil)))
    (pss_cons (ps_if (pt_cmpR op_eq (pe_callO G_kind (hr.mono (by first | decide | omega)) T.g_kind (L2N.passAt tk) (pa_cons (pv 2) (pa_cons pe_int (pa_cons (pv 1) pa_nil)))) pe_str (nomark _))
    (pss_one (ps_set (i := 3) sc_newest.nd rfl (Or.inl rfl) (pe_callO G_last_of_round (hr.mono (by first | decide | omega)) T.g_last_of_round (L2N.passAt tk) (pa_cons (pv 0) (pa_cons (pe_op op_fdiv (pe_ix ix_list (pv 2) pe_int (fun _ _ => rfl)) (pv 1)) pa_nil)))))
    (pss_cons (ps_set (i := 4) sc_newest.nd rfl (Or.inl rfl) (pe_methO (pv 0) T.c_Disk T.m_Disk_read G_Disk_read (hr.mono (by first | decide | omega)) (L2N.passAt tk) (pa_cons (pe_op op_sub (pv 1) pe_int) pa_nil)))
    (pss_cons (ps_set (i := 3) sc_newest.nd rfl (Or.inl rfl) (pe_ifExp (pt_cmpR op_eq (pe_callO G_kind (hr.mono (by first | decide | omega)) T.g_kind (L2N.passAt tk) (pa_cons (pv 4) (pa_cons (pe_op op_sub (pv 1) pe_int) (pa_cons (pv 1) pa_nil)))) pe_str (nomark _)) (pe_ix ix_list (pv 4) pe_int (fun _ _ => rfl)) (pe_op op_sub (pv 1) pe_int)))
    (pss_cons (ps_if (pt_cmpR op_eq (pe_callO G_kind (hr.mono (by first | decide | omega)) T.g_kind (L2N.passAt tk) (pa_cons (pv 2) (pa_cons pe_int (pa_cons (pv 1) pa_nil)))) pe_str (nomark _))
    (pss_one (ps_ret (pe_tup (pa_cons (pv 3) (pa_cons pe_int pa_nil)))))
    pss_nil)
    (pss_one (ps_ret (pe_tup (pa_cons (pv 3) (pa_cons pe_non pa_nil)))))))))
    (pss_cons (ps_set (i := 5) sc_newest.nd rfl (Or.inl rfl) (pe_op op_mod (pe_op op_add (pv 3) pe_int) (pv 1)))
    (pss_cons (ps_if (pt_cmpR op_eq (pe_callO G_kind (hr.mono (by first | decide | omega)) T.g_kind (L2N.passAt tk) (pa_cons (pe_methO (pv 0) T.c_Disk T.m_Disk_read G_Disk_read (hr.mono (by first | decide | omega)) (L2N.passAt tk) (pa_cons (pv 5) pa_nil)) (pa_cons (pv 5) (pa_cons (pv 1) pa_nil)))) pe_str (nomark _))
    (pss_one (ps_ret (pe_tup (pa_cons (pv 3) (pa_cons (pv 5) pa_nil)))))
    pss_nil)
    (pss_one (ps_ret (pe_tup (pa_cons (pv 3) (pa_cons pe_non pa_nil)))))))))), ?_⟩
    refine ⟨_, rfl, d, dx, _, rfl, h.g0, df_no (by decide +kernel), d, dx, k, s, xs, L, I, rfl, h, ok.len, ?_⟩
    dsimp only [List.set]
    -- place 0
    refine ⟨_, rfl, d, dx, _, rfl, h.g0, df_no (by decide +kernel), d, dx, k, s, xs, .int 0, "int", L, I, rfl, h, ok, .int _, fun i ei hi H1 a h1 => ?_, fun e => ?_⟩
    · dsimp only [List.set]
      obtain rfl : 0 = i := Int.ofNat.inj (V.int.inj ei)
      have ne0 := blk_ne hi ok.l8
      refine ⟨_, rfl, _, rfl, a, _, 0, _, rfl, sqm h1.g0, ne0, by omega, rfl, _, rfl, if_d (fun c1 => ?_) (fun c1 => ?_)⟩
      · -- it is whole
        have kw : kindN (blk s.kept 0) 0 s.kept.length = "whole" := V.str.inj c1
        obtain ⟨_, hge, hT⟩ : kindN (blk s.kept 0) 0 s.kept.length = "whole" ∧ s.kept.length ≤ N ∧ hdW s.kept 0 / s.kept.length = N / s.kept.length := by
          rcases ly.kind0 with x | ⟨x, _⟩ | ⟨x, _⟩
          · exact x
          · rw [kw] at x
            exact absurd x (by decide +kernel)
          · rw [kw] at x
            exact absurd x (by decide +kernel)
        have h2 : Hs ((d, dskO K dx k (rdN s 1)) :: (k, .lst xs) :: L) I H1 := h1.drop
        have r0 := Int.emod_nonneg N (show (s.kept.length : Int) ≠ 0 by omega)
        have r1 := Int.emod_lt_of_pos N n0
        refine ⟨_, rfl, _, rfl, a, _, 0, _, rfl, rfl, sqm h1.g0, at_0 ne0, _, rfl, _, _, rfl, rfl, ⟨by omega, by omega⟩, d, dx, k, _, xs, _, (N % s.kept.length).toNat, L, I, rfl, h2, ok.same rfl ok.p0, fun p hp => ?_, ?_, fun H2 c hc h3 => ?_⟩
        · show isW s.kept (hdW s.kept 0 / s.kept.length) p = _
          rw [hT, ly.isW kw hp, Int.toNat_of_nonneg r0]
        · show (N % s.kept.length).toNat < s.kept.length
          omega
        · have hc' : c ≤ halv (s.kept.length - 1) := hc
          rw [rdN_add] at h3
          have eN : hdW s.kept 0 / s.kept.length * ((rdN s 1).kept.length : Int) + ((N % s.kept.length).toNat : Int) = N := by
            show hdW s.kept 0 / s.kept.length * (s.kept.length : Int) + _ = N
            rw [hT, Int.toNat_of_nonneg r0, Int.mul_comm]
            exact Int.mul_ediv_add_emod N _
          show Ends.nx _ (List.set _ _ (some (V.int (hdW s.kept 0 / s.kept.length * ((rdN s 1).kept.length : Int) + ((N % s.kept.length).toNat : Int))))) _
          rw [eN]
          dsimp only [List.set]
          have q0 := Int.emod_nonneg (N + 1) (show (s.kept.length : Int) ≠ 0 by omega)
          have q1 := Int.emod_lt_of_pos (N + 1) n0
          refine ⟨_, rfl, _, 1, rfl, rfl, _, rfl, _, _, rfl, rfl, by omega, ?_⟩
          dsimp only [List.set]
          obtain ⟨pl, hpl⟩ : ∃ pl : Nat, (N + 1) % (s.kept.length : Int) = pl := ⟨((N + 1) % (s.kept.length : Int)).toNat, by omega⟩
          rw [hpl]
          have hpl2 : pl < s.kept.length := by omega
          refine ⟨_, rfl, d, dx, _, rfl, h3.g0, df_no (by decide +kernel), _, rfl, d, dx, k, _, xs, _, "int", L, I, rfl, h3, ok.same rfl ok.p0, .int _, fun i ei hi H3 b h4 => ?_, fun e => ?_⟩
          · obtain rfl : pl = i := Int.ofNat.inj (V.int.inj ei)
            have nep := blk_ne hpl2 ok.l8
            rw [rdN_S] at h4
            refine ⟨_, rfl, _, rfl, b, _, _, _, rfl, sqm h4.g0, nep, by omega, rfl, _, rfl, if_d (fun c2 => ?_) (fun c2 => ?_)⟩
            · rcases ly.kindQ hpl.symm hpl2 with ⟨_, rfl⟩ | ⟨z, _⟩
              · refine ⟨_, rfl, _, rfl, szl (by simp), fun p hp => ?_⟩
                refine q _ p (1 + c + 1) ?_ (h4.drop.newM hp)
                unfold mostN
                have : ((s.kept.length : Int) - 1).toNat = s.kept.length - 1 := by omega
                rw [this]
                omega
              · exact absurd (V.str.inj c2) z
            · rcases ly.kindQ hpl.symm hpl2 with ⟨z, _⟩ | ⟨_, rfl⟩
              · exact absurd (congrArg V.str z) c2
              · refine ⟨_, rfl, szl (by simp), fun p hp => ?_⟩
                refine q _ p (1 + c + 1) ?_ (h4.drop.newM hp)
                unfold mostN
                have : ((s.kept.length : Int) - 1).toNat = s.kept.length - 1 := by omega
                rw [this]
                omega
          · rw [isWh_int (by omega) (by show ((pl : Nat) : Int) ≤ (s.kept.length : Int) - 1; omega)] at e
            cases e
      · -- it is not
        have kw : kindN (blk s.kept 0) 0 s.kept.length ≠ "whole" := fun z => c1 (congrArg V.str z)
        have hq : (N + 1) % s.kept.length = 0 := by
          rcases ly.kind0 with ⟨x, _⟩ | ⟨_, _, x⟩ | ⟨_, x, _⟩
          · exact absurd x kw
          · exact x
          · rw [x, Int.sub_add_cancel, Int.emod_self]
        have h2 : Hs ((a, .lst ((blk s.kept 0).map V.int)) :: (d, dskO K dx k (rdN s 1)) :: (k, .lst xs) :: L) I H1 := h1
        have lp : ((s.kept.length : Int) - 1) = ((s.kept.length - 1 : Nat) : Int) := by omega
        have lq : s.kept.length - 1 < s.kept.length := by omega
        have kl := ly.kindL hq
        refine ⟨_, rfl, d, dx, _, rfl, h2.g1, df_no (by decide +kernel), _, rfl, _, 1, rfl, rfl, d, dx, k, _, xs, _, "int", (a, .lst ((blk s.kept 0).map V.int)) :: L, I, rfl, h2.perm ((List.Perm.swap _ _ _).trans (.cons _ (.swap _ _ _))), ok.same rfl ok.p0, .int _, fun i ei hi H3 b h4 => ?_, fun e => ?_⟩
        · dsimp only [List.set]
          obtain rfl : s.kept.length - 1 = i := by
            have := V.int.inj ei
            omega
          have nep := blk_ne lq ok.l8
          rw [← lp] at kl
          rw [rdN_S] at h4
          refine ⟨_, rfl, _, rfl, _, 1, rfl, rfl, _, rfl, b, _, _, _, rfl, sqm h4.g0, nep, by omega, rfl, _, rfl, if_d (fun c1 => ?_) (fun c1 => ?_)⟩
          · have c1' : kindN (blk s.kept (s.kept.length - 1)) ((s.kept.length : Int) - 1) s.kept.length = "whole" := V.str.inj c1
            rw [if_pos c1'] at kl
            refine ⟨_, rfl, b, _, 0, _, rfl, rfl, sqm h4.g0, at_0 nep, ?_⟩
            show Ends.nx _ (List.set _ _ (some (V.int (hdW s.kept (s.kept.length - 1))))) _
            rw [kl]
            dsimp only [List.set]
            have h5 : Hs ((d, dskO K dx k (rdN s 2)) :: (k, .lst xs) :: L) I H3 := h4.drop.m2.drop
            refine ⟨_, rfl, _, rfl, a, _, _, _, rfl, sqm h4.g3, ne0, by omega, rfl, _, rfl, if_d (fun c2 => ?_) (fun c2 => ?_)⟩
            · obtain rfl : tn = some 0 := by
                rcases ly.kind0 with ⟨x, _⟩ | ⟨_, x, _⟩ | ⟨x, _⟩
                · exact absurd x kw
                · exact x
                · rw [x] at c2
                  exact absurd (V.str.inj c2) (by decide +kernel)
              refine ⟨_, rfl, szl (by simp), fun p hp => ?_⟩
              refine q _ p 2 ?_ (h5.newM hp)
              unfold mostN
              omega
            · obtain rfl : tn = none := by
                rcases ly.kind0 with ⟨x, _⟩ | ⟨x, _⟩ | ⟨_, _, x⟩
                · exact absurd x kw
                · exact absurd (congrArg V.str x) c2
                · exact x
              refine ⟨_, rfl, szl (by simp), fun p hp => ?_⟩
              refine q _ p 2 ?_ (h5.newM hp)
              unfold mostN
              omega
          · have c1' : ¬ kindN (blk s.kept (s.kept.length - 1)) ((s.kept.length : Int) - 1) s.kept.length = "whole" := fun z => c1 (congrArg V.str z)
            rw [if_neg c1'] at kl
            refine ⟨_, rfl, _, 1, rfl, rfl, ?_⟩
            show Ends.nx _ (List.set _ _ (some (V.int ((s.kept.length : Int) - 1)))) _
            rw [kl]
            dsimp only [List.set]
            have h5 : Hs ((d, dskO K dx k (rdN s 2)) :: (k, .lst xs) :: L) I H3 := h4.drop.m2.drop
            refine ⟨_, rfl, _, rfl, a, _, _, _, rfl, sqm h4.g3, ne0, by omega, rfl, _, rfl, if_d (fun c2 => ?_) (fun c2 => ?_)⟩
            · obtain rfl : tn = some 0 := by
                rcases ly.kind0 with ⟨x, _⟩ | ⟨_, x, _⟩ | ⟨x, _⟩
                · exact absurd x kw
                · exact x
                · rw [x] at c2
                  exact absurd (V.str.inj c2) (by decide +kernel)
              refine ⟨_, rfl, szl (by simp), fun p hp => ?_⟩
              refine q _ p 2 ?_ (h5.newM hp)
              unfold mostN
              omega
            · obtain rfl : tn = none := by
                rcases ly.kind0 with ⟨x, _⟩ | ⟨x, _⟩ | ⟨_, _, x⟩
                · exact absurd x kw
                · exact absurd (congrArg V.str x) c2
                · exact x
              refine ⟨_, rfl, szl (by simp), fun p hp => ?_⟩
              refine q _ p 2 ?_ (h5.newM hp)
              unfold mostN
              omega
        · rw [isWh_int (by omega) (by show ((s.kept.length : Int) - 1) ≤ (s.kept.length : Int) - 1; omega)] at e
          cases e
    · rw [isWh_int (by omega) (by omega)] at e
      cases e
end
end RL
namespace RL
open PySem PySem.Spec PyProof.Rows L2
section
variable {P : Program} {w : World} {K : PySem.W.Frag} {mg : Str → Option Value} {base : Heap}
theorem ok_law_most (T : Tx K mg) : Ok P w K mg base 1 (a_l_most K) p_l_most sp_most := by
  refine ok_of T.d_l_most sc_l_most bd_l_most (fun vs H Q E h => ?_) (fun cdv A outer s H vs Q E hr tk po h => ?_)
  · obtain ⟨n, rfl, _⟩ := h
    rfl
  · obtain ⟨n, rfl, hn, q⟩ := h
    refine ⟨_, (pss_cons (ps_set (i := 1) sc_l_most.nd rfl (Or.inl rfl) pe_int)
    (pss_cons (ps_set (i := 2) sc_l_most.nd rfl (Or.inl rfl) (pe_op op_sub (pv 0) pe_int))
    (pss_cons (ps_while po (pt_cmpR op_gt (pv 2) pe_int (nomark _))
    (pss_cons (ps_set (i := 2) sc_l_most.nd rfl (Or.inl rfl) (pe_op op_fdiv (pv 2) pe_int))
    (pss_one (ps_set (i := 1) sc_l_most.nd rfl (Or.inl rfl) (pe_op op_add (pv 1) pe_int)))))
    (pss_one (ps_ret (pv 1)))))), ?_⟩
    refine ⟨_, rfl, n, 1, rfl, rfl, ?_⟩
    refine ⟨fun m σ H1 => H1 = H ∧ ∃ (y : Int), 0 ≤ y ∧ σ = [some (.int n), some (.int (mostN n - (halv y.toNat : Nat))), some (.int y)] ∧ m = y.toNat, ⟨_, rfl, n - 1, by omega, ?_, rfl⟩, ?_⟩
    · show [some (V.int n), some (V.int 2), some (V.int (n - 1))] = _
      rw [show mostN n - (halv (n - 1).toNat : Nat) = 2 by unfold mostN; omega]
    rintro m σ H1 ⟨rfl, y, hy, rfl, rfl⟩
    refine ⟨_, rfl, _, 0, rfl, rfl, _, rfl, if_d (fun c => ?_) (fun c => ?_)⟩
    · refine ⟨fun σ' H' => H' = H1 ∧ σ' = [some (.int n), some (.int (mostN n - (halv (y / 2).toNat : Nat))), some (.int (y / 2))], fun σ' H' ⟨e1, e2⟩ => ⟨_, ?_, e1, y / 2, ?_, e2, rfl⟩, ?_⟩
      · omega
      · omega
      · have e : halv y.toNat = halv (y / 2).toNat + 1 := by
          rw [halv_pos (by omega)]
          congr 2
          omega
        refine ⟨_, rfl, y, 2, rfl, rfl, ⟨by decide, by decide⟩, _, rfl, _, 1, rfl, rfl, rfl, ?_⟩
        show [some (V.int n), some (V.int (mostN n - (halv y.toNat : Nat) + 1)), some (V.int (y / 2))] = _
        rw [show mostN n - (halv y.toNat : Nat) + 1 = mostN n - (halv (y / 2).toNat : Nat) by omega]
    · have e : y = 0 := by omega
      subst e
      refine ⟨_, rfl, ?_⟩
      rw [show mostN n - (halv (0 : Int).toNat : Nat) = mostN n by rw [show (0 : Int).toNat = 0 from rfl, halv_0]; omega]
      exact q
end
end RL
namespace RL
open PySem PySem.Spec PyProof.Rows L2
/-- alike things: True -/
def sp_alike (n : Nat) : Sp := fun vs H Q _ => ∃ (x y : V) (d : PyData), vs = [x, y] ∧ Rp H x d ∧ Rp H y d ∧ okD n d ∧ ∀ H', Same H H' → Q (.bl true) H'
section
variable {P : Program} {w : World} {K : PySem.W.Frag} {mg : Str → Option Value} {base : Heap}
theorem ok_alike_step (T : Tx K mg) {n : Nat} {sp0 : Sp} (G_l_alike : Ok P w K mg base n (a_l_alike K) p_l_alike sp0) (h0 : ∀ m, n = m + 1 → sp0 = sp_alike m) : Ok P w K mg base (n + 1) (a_l_alike K) p_l_alike (sp_alike n) := by
  refine ok_of T.d_l_alike sc_l_alike bd_l_alike (fun vs H Q E h => ?_) (fun cdv A outer s H vs Q E hr tk po h => ?_)
  · obtain ⟨x, y, d, rfl, _⟩ := h
    rfl
  · obtain ⟨x, y, d, rfl, hx, hy, hd, q⟩ := h
    have hu64 := hr.units
    have hr0 : Room n _ := hr
    refine ⟨_, (pss_cons (ps_if (PW.pt (pw_or (pt_val (pe_callB call_isi (by rfl) T.b_isinstance boot_isinstance (pa_cons (pv 1) (pa_cons (pe_bltn (v := .ty "tuple") (by rfl) T.b_tuple boot_tuple rfl) pa_nil)))) (pw_or1 (pt_val (pe_callB call_isi (by rfl) T.b_isinstance boot_isinstance (pa_cons (pv 1) (pa_cons (pe_bltn (v := .ty "list") (by rfl) T.b_list boot_list rfl) pa_nil)))))))
    (pss_cons (ps_if (PW.pt (pw_or (pt_cmpR op_ne (pe_callB call_isi (by rfl) T.b_isinstance boot_isinstance (pa_cons (pv 0) (pa_cons (pe_bltn (v := .ty "tuple") (by rfl) T.b_tuple boot_tuple rfl) pa_nil))) (pe_callB call_isi (by rfl) T.b_isinstance boot_isinstance (pa_cons (pv 1) (pa_cons (pe_bltn (v := .ty "tuple") (by rfl) T.b_tuple boot_tuple rfl) pa_nil))) (nomark _)) (pw_or1 (pt_not (pt_val (pe_callB call_isiT (by rfl) T.b_isinstance boot_isinstance (pa_cons (pv 0) (pa_cons (pe_tup (pa_cons (pe_bltn (v := .ty "tuple") (by rfl) T.b_tuple boot_tuple rfl) (pa_cons (pe_bltn (v := .ty "list") (by rfl) T.b_list boot_list rfl) pa_nil))) pa_nil))))))))
    (pss_one (ps_ret pe_bl))
    pss_nil)
    (pss_cons (ps_if (pt_cmpR op_ne (pe_callB call_len_seq (by rfl) T.b_len PySem.boot_len (pa_cons (pv 0) pa_nil)) (pe_callB call_len_seq (by rfl) T.b_len PySem.boot_len (pa_cons (pv 1) pa_nil)) (nomark _))
    (pss_one (ps_ret pe_bl))
    pss_nil)
    (pss_one (ps_ret (pe_cmpR (op_eqD hu64) (pe_lc (own := [("_law_k", 2)]) rfl sc_l_alike.nd (pi_range1 (by rfl) T.b_range (pa_cons (pe_callB call_len_seq (by rfl) T.b_len PySem.boot_len (pa_cons (pv 1) pa_nil)) pa_nil)) (blkOk_by (own := [("_law_k", 2)]) (N := n_l_alike) (sc := defScope s_l_alike) (by decide +kernel)) (fun _ _ _ _ _ => (pg_name (i := 2) sc_l_alike.nd rfl (Or.inl rfl))) (fun _ _ _ _ _ => (pts_one (pt_not (pt_val (pe_callO G_l_alike (hr.mono (by first | decide | omega)) T.g_l_alike passN (pa_cons (pe_ix (ix_seq_q K rfl) (pv 0) (pv 2) (fun _ _ => rfl)) (pa_cons (pe_ix (ix_seq_q K rfl) (pv 1) (pv 2) (fun _ _ => rfl)) pa_nil))))))) (fun _ _ _ _ _ => (pv 2))) (pe_lst pa_nil) (nomark _))))))
    pss_nil)
    (pss_cons (ps_if (PW.pt (pw_or (pt_cmp (pc_isN (pv 1)) rfl) (pw_or1 (pt_cmp (pc_isN (pv 0)) rfl))))
    (pss_one (ps_ret (pe_and (pe_cmp (pc_isN (pv 1)) rfl) (pe_one (pe_cmp (pc_isN (pv 0)) rfl)))))
    pss_nil)
    (pss_cons (ps_if (PW.pt (pw_or (pt_val (pe_callB call_isi (by rfl) T.b_isinstance boot_isinstance (pa_cons (pv 1) (pa_cons (pe_bltn (v := .ty "bool") (by rfl) T.b_bool boot_bool rfl) pa_nil)))) (pw_or1 (pt_val (pe_callB call_isi (by rfl) T.b_isinstance boot_isinstance (pa_cons (pv 0) (pa_cons (pe_bltn (v := .ty "bool") (by rfl) T.b_bool boot_bool rfl) pa_nil)))))))
    (pss_one (ps_ret (pe_and (pe_callB call_isi (by rfl) T.b_isinstance boot_isinstance (pa_cons (pv 1) (pa_cons (pe_bltn (v := .ty "bool") (by rfl) T.b_bool boot_bool rfl) pa_nil))) (pe_and (pe_callB call_isi (by rfl) T.b_isinstance boot_isinstance (pa_cons (pv 0) (pa_cons (pe_bltn (v := .ty "bool") (by rfl) T.b_bool boot_bool rfl) pa_nil))) (pe_one (pe_cmpR op_eq (pv 0) (pv 1) (nomark _)))))))
    pss_nil)
    (pss_cons (ps_if (pt_val (pe_callB call_isi (by rfl) T.b_isinstance boot_isinstance (pa_cons (pv 1) (pa_cons (pe_bltn (v := .ty "str") (by rfl) T.b_str boot_str rfl) pa_nil))))
    (pss_one (ps_ret (pe_and (pe_callB call_isi (by rfl) T.b_isinstance boot_isinstance (pa_cons (pv 0) (pa_cons (pe_bltn (v := .ty "str") (by rfl) T.b_str boot_str rfl) pa_nil))) (pe_one (pe_cmpR op_eq (pv 0) (pv 1) (nomark _))))))
    pss_nil)
    (pss_one (ps_ret (pe_and (pe_callB call_isi (by rfl) T.b_isinstance boot_isinstance (pa_cons (pv 0) (pa_cons (pe_bltn (v := .ty "int") (by rfl) T.b_int boot_int rfl) pa_nil))) (pe_one (pe_cmpR op_eq (pv 0) (pv 1) (nomark _)))))))))), ?_⟩
    cases d with
    | none =>
      cases hx
      cases hy
      refine ⟨_, rfl, ?_⟩
      refine ⟨_, _, .type "NoneType", .type "tuple", false, rfl, .ty _, .base .non, kb_NoneType_tuple, ?_⟩
      refine ⟨false, rfl, if_f rfl ⟨_, rfl, ?_⟩⟩
      refine ⟨_, _, .type "NoneType", .type "list", false, rfl, .ty _, .base .non, kb_NoneType_list, ?_⟩
      refine ⟨false, rfl, if_f rfl ?_⟩
      refine ⟨_, rfl, _, rfl, if_t rfl ⟨_, rfl, _, rfl, if_t rfl ⟨_, rfl, q _ (Same.refl _)⟩⟩⟩
    | bool b =>
      cases hx
      cases hy
      refine ⟨_, rfl, ?_⟩
      refine ⟨_, _, .type "bool", .type "tuple", false, rfl, .ty _, .base (.bl b), kb_bool_tuple, ?_⟩
      refine ⟨false, rfl, if_f rfl ⟨_, rfl, ?_⟩⟩
      refine ⟨_, _, .type "bool", .type "list", false, rfl, .ty _, .base (.bl b), kb_bool_list, ?_⟩
      refine ⟨false, rfl, if_f rfl ?_⟩
      refine ⟨_, rfl, _, rfl, if_f rfl ⟨_, rfl, _, rfl, if_f rfl ?_⟩⟩
      refine ⟨_, rfl, ?_⟩
      refine ⟨_, _, .type "bool", .type "bool", true, rfl, .ty _, .base (.bl b), kb_bool_bool, ?_⟩
      refine ⟨true, rfl, if_t rfl (if_t rfl ⟨_, rfl, ?_⟩)⟩
      refine ⟨_, _, .type "bool", .type "bool", true, rfl, .ty _, .base (.bl b), kb_bool_bool, ?_⟩
      refine ⟨true, rfl, if_t rfl ⟨_, rfl, ?_⟩⟩
      refine ⟨_, _, .type "bool", .type "bool", true, rfl, .ty _, .base (.bl b), kb_bool_bool, ?_⟩
      refine ⟨true, rfl, if_t rfl ⟨_, rfl, _, rfl, rfl, ?_⟩⟩
      rw [decide_eq_true rfl]
      exact q _ (Same.refl _)
    | int i =>
      cases hx
      cases hy
      refine ⟨_, rfl, ?_⟩
      refine ⟨_, _, .type "int", .type "tuple", false, rfl, .ty _, .base (.int i), kb_int_tuple, ?_⟩
      refine ⟨false, rfl, if_f rfl ⟨_, rfl, ?_⟩⟩
      refine ⟨_, _, .type "int", .type "list", false, rfl, .ty _, .base (.int i), kb_int_list, ?_⟩
      refine ⟨false, rfl, if_f rfl ?_⟩
      refine ⟨_, rfl, _, rfl, if_f rfl ⟨_, rfl, _, rfl, if_f rfl ?_⟩⟩
      refine ⟨_, rfl, ?_⟩
      refine ⟨_, _, .type "int", .type "bool", false, rfl, .ty _, .base (.int i), kb_int_bool, ?_⟩
      refine ⟨false, rfl, if_f rfl ⟨_, rfl, ?_⟩⟩
      refine ⟨_, _, .type "int", .type "bool", false, rfl, .ty _, .base (.int i), kb_int_bool, ?_⟩
      refine ⟨false, rfl, if_f rfl ?_⟩
      refine ⟨_, rfl, ?_⟩
      refine ⟨_, _, .type "int", .type "str", false, rfl, .ty _, .base (.int i), kb_int_str, ?_⟩
      refine ⟨false, rfl, if_f rfl ⟨_, rfl, ?_⟩⟩
      refine ⟨_, _, .type "int", .type "int", true, rfl, .ty _, .base (.int i), kb_int_int, ?_⟩
      refine ⟨true, rfl, if_t rfl ⟨_, rfl, _, rfl, rfl, ?_⟩⟩
      rw [decide_eq_true rfl]
      exact q _ (Same.refl _)
    | str z =>
      cases hx
      cases hy
      refine ⟨_, rfl, ?_⟩
      refine ⟨_, _, .type "str", .type "tuple", false, rfl, .ty _, .base (.str z), kb_str_tuple, ?_⟩
      refine ⟨false, rfl, if_f rfl ⟨_, rfl, ?_⟩⟩
      refine ⟨_, _, .type "str", .type "list", false, rfl, .ty _, .base (.str z), kb_str_list, ?_⟩
      refine ⟨false, rfl, if_f rfl ?_⟩
      refine ⟨_, rfl, _, rfl, if_f rfl ⟨_, rfl, _, rfl, if_f rfl ?_⟩⟩
      refine ⟨_, rfl, ?_⟩
      refine ⟨_, _, .type "str", .type "bool", false, rfl, .ty _, .base (.str z), kb_str_bool, ?_⟩
      refine ⟨false, rfl, if_f rfl ⟨_, rfl, ?_⟩⟩
      refine ⟨_, _, .type "str", .type "bool", false, rfl, .ty _, .base (.str z), kb_str_bool, ?_⟩
      refine ⟨false, rfl, if_f rfl ?_⟩
      refine ⟨_, rfl, ?_⟩
      refine ⟨_, _, .type "str", .type "str", true, rfl, .ty _, .base (.str z), kb_str_str, ?_⟩
      refine ⟨true, rfl, if_t rfl ⟨_, rfl, ?_⟩⟩
      refine ⟨_, _, .type "str", .type "str", true, rfl, .ty _, .base (.str z), kb_str_str, ?_⟩
      refine ⟨true, rfl, if_t rfl ⟨_, rfl, _, rfl, rfl, ?_⟩⟩
      rw [decide_eq_true rfl]
      exact q _ (Same.refl _)
    | dict kvs => cases n <;> cases hd
    | list ds =>
      obtain ⟨m, rfl⟩ : ∃ m, n = m + 1 := by
        cases n with
        | zero => cases hd
        | succ m => exact ⟨m, rfl⟩
      obtain rfl := h0 m rfl
      obtain ⟨hl, hd⟩ := hd
      obtain ⟨a, xs, rfl, ha, hxs⟩ := hx.lstI
      obtain ⟨b, ys, rfl, hb, hys⟩ := hy.lstI
      have lx := hxs.length
      have ly := hys.length
      refine ⟨_, rfl, ?_⟩
      refine ⟨_, _, .type "list", .type "tuple", false, rfl, .ty _, .base (.lst hb), kb_list_tuple, ?_⟩
      refine ⟨false, rfl, if_f rfl ⟨_, rfl, ?_⟩⟩
      refine ⟨_, _, .type "list", .type "list", true, rfl, .ty _, .base (.lst hb), kb_list_list, ?_⟩
      refine ⟨true, rfl, if_t rfl ?_⟩
      -- of one kind
      refine ⟨_, rfl, ?_⟩
      refine ⟨_, _, .type "list", .type "tuple", false, rfl, .ty _, .base (.lst ha), kb_list_tuple, ?_⟩
      refine ⟨_, rfl, ?_⟩
      refine ⟨_, _, .type "list", .type "tuple", false, rfl, .ty _, .base (.lst hb), kb_list_tuple, ?_⟩
      refine ⟨rfl, _, rfl, if_f rfl ⟨_, rfl, szl (by decide), fun t ht => ?_⟩⟩
      have sT : Same H (upd H t (.tup [.ty "tuple", .ty "list"])) := same_upd ht
      refine ⟨_, t, _, .type "list", [.type "tuple", .type "list"], true, rfl, upd_same, .cons (.ty _) (.cons (.ty _) .nil), .base (.lst (sT _ _ ha)), kit2 kb_list_tuple kb_list_list, _, rfl, if_f rfl ?_⟩
      -- of one length
      refine ⟨_, rfl, a, xs, rfl, .inl (sqm (sT _ _ ha)), _, rfl, b, ys, rfl, .inl (sqm (sT _ _ hb)), rfl, _, rfl, if_nd (fun _ => ?_) (fun c => absurd (by rw [lx, ly]) c)⟩
      refine ⟨_, rfl, b, ys, rfl, .inl (sqm (sT _ _ hb)), _, rfl, by omega, by omega, fun D nD => ?_⟩
      have sD : Same (upd H t (.tup [.ty "tuple", .ty "list"])) (upd (upd H t (.tup [.ty "tuple", .ty "list"])) D (.lst [])) := same_upd nD
      refine lc_range (lo := 0) (fun i H' => Same (upd (upd H t (.tup [.ty "tuple", .ty "list"])) D (.lst [])) H') (Same.refl _) ?_ ?_
      · intro i H1 hi s1
        have hi2 : i < ds.length := by
          rw [← ly]
          exact hi
        obtain ⟨vx, ex, rx⟩ := hxs.get (List.getElem?_eq_getElem hi2)
        obtain ⟨vy, ey, ry⟩ := hys.get (List.getElem?_eq_getElem hi2)
        have sA : Same H H1 := (sT.trans sD).trans s1
        refine ⟨rfl, _, rfl, _, rfl, .inl ⟨a, xs, _, vx, rfl, rfl, sqm (sA _ _ ha), at_of (by omega) ex, _, rfl, _, rfl, .inl ⟨b, ys, _, vy, rfl, rfl, sqm (sA _ _ hb), at_of (by omega) ey, ?_⟩⟩⟩
        refine ⟨vx, vy, ds[i], rfl, rx.mono sA, ry.mono sA, hd _ (List.getElem_mem hi2), fun H2 s2 => ⟨true, rfl, if_f rfl (s1.trans s2)⟩⟩
      · intro H1 s1
        refine ⟨szl (by decide), fun p hp => ?_⟩
        have eD : (upd H1 p (.lst [])) D = some (.lst []) := (same_upd hp) _ _ (s1 _ _ upd_same)
        refine ⟨.list [], .list [], .lst (sqm eD) .nil, .lst (sqm upd_same) .nil, by decide +kernel, by decide +kernel, ?_⟩
        exact q _ (((sT.trans sD).trans s1).trans (same_upd hp))
    | tuple ds =>
      obtain ⟨m, rfl⟩ : ∃ m, n = m + 1 := by
        cases n with
        | zero => cases hd
        | succ m => exact ⟨m, rfl⟩
      obtain rfl := h0 m rfl
      obtain ⟨hl, hd⟩ := hd
      obtain ⟨a, xs, rfl, ha, hxs⟩ := hx.tupI
      obtain ⟨b, ys, rfl, hb, hys⟩ := hy.tupI
      have lx := hxs.length
      have ly := hys.length
      refine ⟨_, rfl, ?_⟩
      refine ⟨_, _, .type "tuple", .type "tuple", true, rfl, .ty _, .base (.tup hb), kb_tuple_tuple, ?_⟩
      refine ⟨true, rfl, if_t rfl (if_t rfl ?_)⟩
      refine ⟨_, rfl, ?_⟩
      refine ⟨_, _, .type "tuple", .type "tuple", true, rfl, .ty _, .base (.tup ha), kb_tuple_tuple, ?_⟩
      refine ⟨_, rfl, ?_⟩
      refine ⟨_, _, .type "tuple", .type "tuple", true, rfl, .ty _, .base (.tup hb), kb_tuple_tuple, ?_⟩
      refine ⟨rfl, _, rfl, if_f rfl ⟨_, rfl, szl (by decide), fun t ht => ?_⟩⟩
      have sT : Same H (upd H t (.tup [.ty "tuple", .ty "list"])) := same_upd ht
      refine ⟨_, t, _, .type "tuple", [.type "tuple", .type "list"], true, rfl, upd_same, .cons (.ty _) (.cons (.ty _) .nil), .base (.tup (sT _ _ ha)), kit2 kb_tuple_tuple kb_tuple_list, _, rfl, if_f rfl ?_⟩
      refine ⟨_, rfl, a, xs, rfl, .inr (sqt (sT _ _ ha)), _, rfl, b, ys, rfl, .inr (sqt (sT _ _ hb)), rfl, _, rfl, if_nd (fun _ => ?_) (fun c => absurd (by rw [lx, ly]) c)⟩
      refine ⟨_, rfl, b, ys, rfl, .inr (sqt (sT _ _ hb)), _, rfl, by omega, by omega, fun D nD => ?_⟩
      have sD : Same (upd H t (.tup [.ty "tuple", .ty "list"])) (upd (upd H t (.tup [.ty "tuple", .ty "list"])) D (.lst [])) := same_upd nD
      refine lc_range (lo := 0) (fun i H' => Same (upd (upd H t (.tup [.ty "tuple", .ty "list"])) D (.lst [])) H') (Same.refl _) ?_ ?_
      · intro i H1 hi s1
        have hi2 : i < ds.length := by
          rw [← ly]
          exact hi
        obtain ⟨vx, ex, rx⟩ := hxs.get (List.getElem?_eq_getElem hi2)
        obtain ⟨vy, ey, ry⟩ := hys.get (List.getElem?_eq_getElem hi2)
        have sA : Same H H1 := (sT.trans sD).trans s1
        refine ⟨rfl, _, rfl, _, rfl, .inr (.inl ⟨a, xs, _, vx, rfl, rfl, sqt (sA _ _ ha), at_of (by omega) ex, _, rfl, _, rfl, .inr (.inl ⟨b, ys, _, vy, rfl, rfl, sqt (sA _ _ hb), at_of (by omega) ey, ?_⟩)⟩)⟩
        refine ⟨vx, vy, ds[i], rfl, rx.mono sA, ry.mono sA, hd _ (List.getElem_mem hi2), fun H2 s2 => ⟨true, rfl, if_f rfl (s1.trans s2)⟩⟩
      · intro H1 s1
        refine ⟨szl (by decide), fun p hp => ?_⟩
        have eD : (upd H1 p (.lst [])) D = some (.lst []) := (same_upd hp) _ _ (s1 _ _ upd_same)
        refine ⟨.list [], .list [], .lst (sqm eD) .nil, .lst (sqm upd_same) .nil, by decide +kernel, by decide +kernel, ?_⟩
        exact q _ (((sT.trans sD).trans s1).trans (same_upd hp))
theorem ok_alike (T : Tx K mg) : ∀ n, Ok P w K mg base (n + 1) (a_l_alike K) p_l_alike (sp_alike n)
  | 0 => ok_alike_step T (ok_never T.d_l_alike bd_l_alike) (fun m e => by cases e)
  | n + 1 => ok_alike_step T (ok_alike T n) (fun m e => by cases e; rfl)
end
end RL
namespace RL
open PySem PySem.Spec PyProof.Rows L2
def sp_Disk_reads (K : PySem.W.Frag) : Sp := fun vs H Q _ => ∃ (d dx k : Addr) (s : DS) (L : ML) (I : Hp), vs = [.ref d] ∧ Hs ((d, dskO K dx k s) :: L) I H ∧ Q (.int s.reads) H
section
variable {P : Program} {w : World} {K : PySem.W.Frag} {mg : Str → Option Value} {base : Heap}
theorem ok_Disk_reads (T : Tx K mg) : Ok P w K mg base 1 (a_Disk_reads K) p_Disk_reads (sp_Disk_reads K) := by
  refine ok_of T.d_Disk_reads sc_Disk_reads bd_Disk_reads (fun vs H Q E h => ?_) (fun cdv A outer s H vs Q E hr tk po h => ?_)
  · obtain ⟨d, dx, k, s, L, I, rfl, _⟩ := h
    rfl
  · obtain ⟨d, dx, k, s, L, I, rfl, h, q⟩ := h
    refine ⟨_, (pss_one (ps_ret (pe_fld (pv 0) rfl))), ?_⟩
    exact ⟨_, rfl, d, _, dx, _, _, rfl, h.g0, T.c_Disk, T.n_Disk_read_count, df_reads, q⟩
end
end RL
namespace RL
open PySem PySem.Spec PyProof.Rows L2
def sp_Disk_writes (K : PySem.W.Frag) : Sp := fun vs H Q _ => ∃ (d dx k : Addr) (s : DS) (L : ML) (I : Hp), vs = [.ref d] ∧ Hs ((d, dskO K dx k s) :: L) I H ∧ Q (.int s.writes) H
section
variable {P : Program} {w : World} {K : PySem.W.Frag} {mg : Str → Option Value} {base : Heap}
theorem ok_Disk_writes (T : Tx K mg) : Ok P w K mg base 1 (a_Disk_writes K) p_Disk_writes (sp_Disk_writes K) := by
  refine ok_of T.d_Disk_writes sc_Disk_writes bd_Disk_writes (fun vs H Q E h => ?_) (fun cdv A outer s H vs Q E hr tk po h => ?_)
  · obtain ⟨d, dx, k, s, L, I, rfl, _⟩ := h
    rfl
  · obtain ⟨d, dx, k, s, L, I, rfl, h, q⟩ := h
    refine ⟨_, (pss_one (ps_ret (pe_fld (pv 0) rfl))), ?_⟩
    exact ⟨_, rfl, d, _, dx, _, _, rfl, h.g0, T.c_Disk, T.n_Disk_write_count, df_writes, q⟩
end
end RL
namespace RL
open PySem PySem.Spec PyProof.Rows L2
def optD : Option Int → PyData
  | none => .none
  | some i => .int i
theorem optV_rp {I : Hp} (o : Option Int) : Rp I (optV o) (optD o) := by
  cases o with
  | none => exact .non
  | some i => exact .int i
theorem okD_opt {n : Nat} (o : Option Int) : okD n (optD o) := by
  cases o with
  | none => exact okD_none
  | some i => exact okD_int
def dNew (N : Int) (tn : Option Int) : PyData := .tuple [.int N, optD tn]
theorem okD_new {n : Nat} {N : Int} {tn : Option Int} : okD (n + 1) (dNew N tn) := by
  refine ⟨by simp, fun d hd => ?_⟩
  simp only [List.mem_cons, List.not_mem_nil, or_false] at hd
  rcases hd with rfl | rfl
  · exact okD_int
  · exact okD_opt tn
theorem rp_new {H : Hp} {p : Addr} {N : Int} {tn : Option Int} (h : H p = some (.tup [.int N, optV tn])) : Rp H (.ref p) (dNew N tn) := .tup h (.cons (.int _) (.cons (optV_rp tn) .nil))
def sp_l_asked (K : PySem.W.Frag) : Sp := fun vs H Q _ => ∃ (d dx k : Addr) (s : DS) (xs : List V) (N : Int) (tn : Option Int) (due : V) (L : ML) (I : Hp), vs = [.ref d, due] ∧ Hs ((d, dskO K dx k s) :: (k, .lst xs) :: L) I H ∧ DskOk I xs s ∧ Lay s.kept N tn ∧ Rp I due (dNew N tn) ∧
  ∀ H' c, Hs ((d, dskO K dx k (rdN s c)) :: (k, .lst xs) :: L) I H' → Q (.bl true) H'
section
variable {P : Program} {w : World} {K : PySem.W.Frag} {mg : Str → Option Value} {base : Heap}
theorem ok_l_asked (T : Tx K mg) : Ok P w K mg base 6 (a_l_asked K) p_l_asked (sp_l_asked K) := by
  have G_newest := ok_newest (P := P) (w := w) (base := base) T
  have G_l_most := ok_law_most (P := P) (w := w) (base := base) T
  have G_most_reads := ok_most_reads (P := P) (w := w) (base := base) T
  have G_l_alike := ok_alike (P := P) (w := w) (base := base) T 1
  have G_Disk_blocks := ok_Disk_blocks (P := P) (w := w) (base := base) T
  have G_Disk_reads := ok_Disk_reads (P := P) (w := w) (base := base) T
  have G_Disk_writes := ok_Disk_writes (P := P) (w := w) (base := base) T
  refine ok_of T.d_l_asked sc_l_asked bd_l_asked (fun vs H Q E h => ?_) (fun cdv A outer s0 H vs Q E hr tk po h => ?_)
  · obtain ⟨d, dx, k, s, xs, N, tn, due, L, I, rfl, _⟩ := h
    rfl
  · obtain ⟨d, dx, k, s, xs, N, tn, due, L, I, rfl, h, ok, ly, rdue, q⟩ := h
    refine ⟨_, (pss_cons (ps_set (i := 2) sc_l_asked.nd rfl (Or.inl rfl) (pe_methO0 (pv 0) T.c_Disk T.m_Disk_blocks G_Disk_blocks (hr.mono (by first | decide | omega)) (L2N.passAt tk)))
    (pss_cons (ps_for po rfl (pi_range1 (by rfl) T.b_range (pa_cons pe_int pa_nil)) (pg_name (i := 3) sc_l_asked.nd rfl (Or.inl rfl))
    (pss_cons (ps_set (i := 4) sc_l_asked.nd rfl (Or.inl rfl) (pe_methO0 (pv 0) T.c_Disk T.m_Disk_reads G_Disk_reads (hr.mono (by first | decide | omega)) (L2N.passAt tk)))
    (pss_cons (ps_set (i := 5) sc_l_asked.nd rfl (Or.inl rfl) (pe_methO0 (pv 0) T.c_Disk T.m_Disk_writes G_Disk_writes (hr.mono (by first | decide | omega)) (L2N.passAt tk)))
    (pss_cons (ps_if (PW.pt (pw_or (pt_not (pt_val (pe_callO G_l_alike (hr.mono (by first | decide | omega)) T.g_l_alike (L2N.passAt tk) (pa_cons (pe_callO G_newest (hr.mono (by first | decide | omega)) T.g_newest (L2N.passAt tk) (pa_cons (pv 0) pa_nil)) (pa_cons (pv 1) pa_nil))))) (pw_or1 (pt_cmpR op_ne (pe_methO0 (pv 0) T.c_Disk T.m_Disk_writes G_Disk_writes (hr.mono (by first | decide | omega)) (L2N.passAt tk)) (pv 5) (nomark _)))))
    (pss_one (ps_ret pe_bl))
    pss_nil)
    (pss_one (ps_if (PW.pt (pw_or (pt_cmpR op_gt (pe_op op_sub (pe_methO0 (pv 0) T.c_Disk T.m_Disk_reads G_Disk_reads (hr.mono (by first | decide | omega)) (L2N.passAt tk)) (pv 4)) (pe_callO G_l_most (hr.mono (by first | decide | omega)) T.g_l_most (L2N.passAt tk) (pa_cons (pv 2) pa_nil)) (nomark _)) (pw_or1 (pt_cmpR op_ne (pe_callO G_most_reads (hr.mono (by first | decide | omega)) T.g_most_reads (L2N.passAt tk) (pa_cons (pv 2) pa_nil)) (pe_callO G_l_most (hr.mono (by first | decide | omega)) T.g_l_most (L2N.passAt tk) (pa_cons (pv 2) pa_nil)) (nomark _)))))
    (pss_one (ps_ret pe_bl))
    pss_nil))))))
    (pss_one (ps_ret pe_bl)))), ?_⟩
    have n4 := ok.n4
    refine ⟨_, rfl, d, dx, _, rfl, h.g0, df_no (by decide +kernel), d, dx, k, s, xs, L, I, rfl, h, ok.len, ?_⟩
    dsimp only [List.set]
    refine ⟨2, rfl, by decide, by decide, for_range (lo := 0) (fun j σ H' => ∃ (c : Nat) (z1 z2 z3 : Option V), σ = [some (.ref d), some due, some (.int s.kept.length), z1, z2, z3] ∧ Hs ((d, dskO K dx k (rdN s c)) :: (k, .lst xs) :: L) I H') ⟨0, none, none, none, rfl, by rw [rdN_0]; exact h⟩ ?_ ?_⟩
    · rintro j σ H1 hj ⟨c, z1, z2, z3, rfl, h1⟩
      dsimp only [List.set]
      refine ⟨_, rfl, d, dx, _, rfl, h1.g0, df_no (by decide +kernel), d, dx, k, _, _, I, rfl, h1, ?_⟩
      dsimp only [List.set]
      refine ⟨_, rfl, d, dx, _, rfl, h1.g0, df_no (by decide +kernel), d, dx, k, _, _, I, rfl, h1, ?_⟩
      dsimp only [List.set]
      refine ⟨_, rfl, d, dx, k, _, xs, N, tn, L, I, rfl, h1, ok.same rfl ok.p0, ly, fun H2 p e he h2 => ?_⟩
      rw [rdN_add] at h2
      refine ⟨_, rfl, .ref p, due, _, rfl, rp_new h2.g0, h2.rp rdue, okD_new, fun H3 s3 => ⟨true, rfl, ?_⟩⟩
      have h3 := (h2.drop).grow s3
      refine ⟨_, rfl, d, dx, _, rfl, h3.g0, df_no (by decide +kernel), d, dx, k, _, _, I, rfl, h3, _, rfl, rfl, _, rfl, if_nd (fun _ => ?_) (fun z => absurd rfl z)⟩
      refine ⟨_, rfl, d, dx, _, rfl, h3.g0, df_no (by decide +kernel), d, dx, k, _, _, I, rfl, h3, ?_⟩
      refine ⟨_, rfl, _, _, rfl, rfl, _, rfl, _, rfl, by omega, _, _, rfl, rfl, _, rfl, if_d (fun z => ?_) (fun _ => ?_)⟩
      · exfalso
        have he2 : (e : Int) ≤ mostN s.kept.length := he
        have z2 : mostN s.kept.length < s.reads + ((c + e : Nat) : Int) - (s.reads + (c : Int)) := z
        omega
      · refine ⟨_, rfl, _, rfl, by omega, _, rfl, _, rfl, by omega, rfl, _, rfl, if_nd (fun _ => ?_) (fun z => absurd rfl z)⟩
        exact ⟨c + e, _, _, _, rfl, h3⟩
    · rintro σ H1 ⟨c, z1, z2, z3, rfl, h1⟩
      exact q _ _ h1
end
end RL
namespace RL
open PySem PySem.Spec PyProof.Rows L2
/-- what the law draws from: the script's list, how far, the mix -/
abbrev rowO (a : Addr) (i m : Int) : HO := .lst [.ref a, .int i, .int m]
structure RowOk (K : PySem.W.Frag) (I : Hp) (a : Addr) (i : Int) : Prop where
  sc : ∃ ns : List Int, SqL K I a (ns.map V.int)
  le : 0 ≤ i
theorem RowOk.mono {K : PySem.W.Frag} {I I' : Hp} {a : Addr} {i : Int} (s : Same I I') (h : RowOk K I a i) : RowOk K I' a i := by
  obtain ⟨⟨ns, q⟩, l⟩ := h
  exact ⟨⟨ns, s.seq q⟩, l⟩
theorem RowOk.to {K : PySem.W.Frag} {I : Hp} {a : Addr} {i j : Int} (h : RowOk K I a i) (l : 0 ≤ j) : RowOk K I a j := ⟨h.sc, l⟩
/-- a draw below k: any -/
def sp_taken (K : PySem.W.Frag) : Sp := fun vs H Q _ => ∃ (r a : Addr) (i m k : Int) (L : ML) (I : Hp), vs = [.ref r, .int k] ∧ Hs ((r, rowO a i m) :: L) I H ∧ RowOk K I a i ∧ 0 < k ∧
  ∀ H' i' m' v, Hs ((r, rowO a i' m') :: L) I H' → RowOk K I a i' → 0 ≤ v → v < k → Q (.int v) H'
section
variable {P : Program} {w : World} {K : PySem.W.Frag} {mg : Str → Option Value} {base : Heap}
theorem ok_taken (T : Tx K mg) : Ok P w K mg base 1 (a_l_taken K) p_l_taken (sp_taken K) := by
  refine ok_of T.d_l_taken sc_l_taken bd_l_taken (fun vs H Q E h => ?_) (fun cdv A outer s H vs Q E hr tk po h => ?_)
  · obtain ⟨r, a, i, m, k, L, I, rfl, _⟩ := h
    rfl
  · obtain ⟨r, a, i, m, k, L, I, rfl, h, ⟨⟨ns, hS⟩, hi⟩, hk, q⟩ := h
    refine ⟨_, (pss_cons (ps_asg (pe_op op_add (pe_ix ix_list (pv 0) pe_int (fun _ _ => rfl)) pe_int) (pg_sub (pv 0) pe_int set_list))
    (pss_cons (ps_if (pt_cmpR op_gt (pe_ix ix_list (pv 0) pe_int (fun _ _ => rfl)) (pe_callB call_len_seq (by rfl) T.b_len PySem.boot_len (pa_cons (pe_ix ix_list (pv 0) pe_int (fun _ _ => rfl)) pa_nil)) (nomark _))
    (pss_cons (ps_asg (pe_op op_mod (pe_op op_add (pe_op op_mul (pe_ix ix_list (pv 0) pe_int (fun _ _ => rfl)) pe_int) pe_int) pe_int) (pg_sub (pv 0) pe_int set_list))
    (pss_one (ps_ret (pe_op op_mod (pe_op op_fdiv (pe_ix ix_list (pv 0) pe_int (fun _ _ => rfl)) pe_int) (pv 1)))))
    pss_nil)
    (pss_cons (ps_set (i := 2) sc_l_taken.nd rfl (Or.inl rfl) (pe_ix ix_list (pe_ix ix_list (pv 0) pe_int (fun _ _ => rfl)) (pe_op op_sub (pe_ix ix_list (pv 0) pe_int (fun _ _ => rfl)) pe_int) (fun _ _ => rfl)))
    (pss_cons (ps_asg (pe_op op_mod (pe_op op_add (pe_op op_add (pe_op op_mul (pe_ix ix_list (pv 0) pe_int (fun _ _ => rfl)) pe_int) (pv 2)) pe_int) pe_int) (pg_sub (pv 0) pe_int set_list))
    (pss_one (ps_ret (pe_op op_mod (pv 2) (pv 1)))))))), ?_⟩
    have h1 := h.set0 (o' := rowO a (i + 1) m)
    -- row[1] = row[1] + 1
    refine ⟨_, rfl, r, [.ref a, .int i, .int m], 1, .int i, rfl, rfl, sqm h.g0, rfl, i, 1, rfl, rfl, _, rfl, r, _, 1, 1, rfl, rfl, h.g0, rfl, ?_⟩
    -- row[1] > len(row[0])
    refine ⟨_, rfl, r, _, 1, .int (i + 1), rfl, rfl, sqm h1.g0, rfl, _, rfl, r, _, 0, .ref a, rfl, rfl, sqm h1.g0, rfl, a, ns.map V.int, rfl, .inl (h1.sl hS), i + 1, _, rfl, rfl, _, rfl, if_d (fun c => ?_) (fun c => ?_)⟩
    · have h2 := h1.set0 (o' := rowO a (i + 1) ((m * 48271 + 11) % 2147483647))
      refine ⟨_, rfl, r, _, 2, .int m, rfl, rfl, sqm h1.g0, rfl, m, 48271, rfl, rfl, .inr ⟨by decide, by decide⟩, _, 11, rfl, rfl, _, 2147483647, rfl, rfl, (by show (0 : Int) < 2147483647; decide), _, rfl, r, _, 2, 2, rfl, rfl, h1.g0, rfl, ?_⟩
      refine ⟨_, rfl, r, _, 2, .int ((m * 48271 + 11) % 2147483647), rfl, rfl, sqm h2.g0, rfl, _, 7, rfl, rfl, ⟨by decide, by decide⟩, _, rfl, _, k, rfl, rfl, hk, ?_⟩
      exact q _ _ _ _ h2 ⟨⟨ns, hS⟩, by omega⟩ (Int.emod_nonneg _ (by omega)) (Int.emod_lt_of_pos _ hk)
    · have hl : (i + 1 - 1).toNat < ns.length := by
        rw [List.length_map] at c
        omega
      have e1 : (i + 1 - 1 : Int) = (((i + 1 - 1).toNat : Nat) : Int) := by omega
      have hz : (ns.map V.int)[(i + 1 - 1).toNat]? = some (.int ns[(i + 1 - 1).toNat]) := by
        rw [List.getElem?_map, List.getElem?_eq_getElem hl]
        rfl
      have h2 := h1.set0 (o' := rowO a (i + 1) ((m * 48271 + ns[(i + 1 - 1).toNat] + 11) % 2147483647))
      refine ⟨_, rfl, r, _, 0, .ref a, rfl, rfl, sqm h1.g0, rfl, _, rfl, r, _, 1, .int (i + 1), rfl, rfl, sqm h1.g0, rfl, _, 1, rfl, rfl, a, _, _, _, rfl, rfl, h1.sl hS, at_of e1 hz, ?_⟩
      refine ⟨_, rfl, r, _, 2, .int m, rfl, rfl, sqm h1.g0, rfl, m, 48271, rfl, rfl, .inr ⟨by decide, by decide⟩, _, rfl, _, _, rfl, rfl, _, 11, rfl, rfl, _, 2147483647, rfl, rfl, (by show (0 : Int) < 2147483647; decide), _, rfl, r, _, 2, 2, rfl, rfl, h1.g0, rfl, ?_⟩
      refine ⟨_, rfl, _, rfl, _, k, rfl, rfl, hk, ?_⟩
      exact q _ _ _ _ h2 ⟨⟨ns, hS⟩, by omega⟩ (Int.emod_nonneg _ (by omega)) (Int.emod_lt_of_pos _ hk)
end
end RL
namespace RL
open PySem PySem.Spec PyProof.Rows L2
/-- the things that are no words -/
def badW (xs : List V) (most : Int) : List V := xs.filter fun x => !isWh x 0 most
theorem badW_take {xs : List V} {most : Int} {i : Nat} {x : V} (h : xs[i]? = some x) : badW (xs.take (i + 1)) most = badW (xs.take i) most ++ (if isWh x 0 most then [] else [x]) := by
  unfold badW
  rw [List.take_add_one, h, List.filter_append]
  cases e : isWh x 0 most <;> simp [e]
theorem badW_nil {xs : List V} {most : Int} : badW xs most = [] ↔ allW xs most = true := by
  unfold badW allW
  rw [List.filter_eq_nil_iff, List.all_eq_true]
  simp
def sp_are_words (K : PySem.W.Frag) : Sp := fun vs H Q _ => ∃ (v : V) (ox : Option (List V)) (most : Int), vs = [v, .int most] ∧ Wd K H v ox ∧
  ∀ H', Same H H' → Q (.bl (match ox with | some xs => allW xs most | none => false)) H'
section
variable {P : Program} {w : World} {K : PySem.W.Frag} {mg : Str → Option Value} {base : Heap}
theorem ok_are_words (T : Tx K mg) : Ok P w K mg base 2 (a_are_words K) p_are_words (sp_are_words K) := by
  have G_is_whole := ok_is_whole (P := P) (w := w) (base := base) T
  refine ok_of T.d_are_words sc_are_words bd_are_words (fun vs H Q E h => ?_) (fun cdv A outer s H vs Q E hr tk po h => ?_)
  · obtain ⟨v, ox, most, rfl, _⟩ := h
    rfl
  · obtain ⟨v, ox, most, rfl, hw, q⟩ := h
    have hu64 := hr.units
    refine ⟨_, (pss_cons (ps_if (pt_not (pt_val (pe_callB call_isi (by rfl) T.b_isinstance boot_isinstance (pa_cons (pv 0) (pa_cons (pe_bltn (v := .ty "list") (by rfl) T.b_list boot_list rfl) pa_nil)))))
    (pss_one (ps_ret pe_bl))
    pss_nil)
    (pss_one (ps_ret (pe_cmpR (op_eqD hu64) (pe_lc (own := [("thing", 2)]) rfl sc_are_words.nd (pi_list (pv 0)) (blkOk_by (own := [("thing", 2)]) (N := n_are_words) (sc := defScope s_are_words) (by decide +kernel)) (fun _ _ _ _ _ => (pg_name (i := 2) sc_are_words.nd rfl (Or.inl rfl))) (fun _ _ _ _ _ => (pts_one (pt_not (pt_val (pe_callO G_is_whole (hr.mono (by first | decide | omega)) T.g_is_whole passN (pa_cons (pv 2) (pa_cons pe_int (pa_cons (pv 1) pa_nil)))))))) (fun _ _ _ _ _ => (pv 2))) (pe_lst pa_nil) (nomark _))))), ?_⟩
    refine ⟨_, rfl, ?_⟩
    cases hw with
    | no ht hn =>
      have q0 := q H (Same.refl H)
      cases ht with
      | int i => exact ⟨_, _, .type "int", .type "list", false, rfl, .ty _, .base (.int i), kb_int_list, false, rfl, q0⟩
      | non => exact ⟨_, _, .type "NoneType", .type "list", false, rfl, .ty _, .base .non, kb_NoneType_list, false, rfl, q0⟩
      | bl b => exact ⟨_, _, .type "bool", .type "list", false, rfl, .ty _, .base (.bl b), kb_bool_list, false, rfl, q0⟩
      | str x => exact ⟨_, _, .type "str", .type "list", false, rfl, .ty _, .base (.str x), kb_str_list, false, rfl, q0⟩
      | flt x => exact ⟨_, _, .type "float", .type "list", false, rfl, .ty _, .base (.flt x), kb_float_list, false, rfl, q0⟩
      | lst e => exact absurd rfl hn
      | frz e => exact absurd rfl hn
      | tup e => exact ⟨_, _, .type "tuple", .type "list", false, rfl, .ty _, .base (.tup e), kb_tuple_list, false, rfl, q0⟩
      | dK e => exact ⟨_, _, .type "dict", .type "list", false, rfl, .ty _, .base (.dK e), kb_dict_list, false, rfl, q0⟩
      | dT e => exact ⟨_, _, .type "dict", .type "list", false, rfl, .ty _, .base (.dT e), kb_dict_list, false, rfl, q0⟩
    | @lst a xs ha hs hl =>
      refine ⟨_, _, .type "list", .type "list", true, rfl, .ty _, .base (.lst ha), kb_list_list, true, rfl, ?_⟩
      refine ⟨_, rfl, a, rfl, ⟨_, sqm ha⟩, fun D hD => ?_⟩
      refine lc_list (K := K) (a := a) (xs := xs) (fun i H' => Same H H' ∧ H' D = some (.lst (badW (xs.take i) most))) ⟨same_upd hD, upd_same⟩ (fun i H' _ ⟨s', _⟩ => sqm (s' _ _ ha)) ?_ ?_
      · rintro i x H1 hx ⟨s1, hD1⟩
        have sx := hs x (List.mem_of_getElem? hx)
        refine ⟨rfl, _, rfl, _, rfl, x, 0, most, tyS x, rfl, scV_ty sx, _, rfl, ?_⟩
        rw [badW_take hx]
        cases e : isWh x 0 most with
        | true =>
          refine ⟨s1, ?_⟩
          rw [hD1, if_pos rfl, List.append_nil]
        | false =>
          refine ⟨_, rfl, _, hD1, szlt ?_, same_mut s1 hD, ?_⟩
          · have := List.length_filter_le (fun x => !isWh x 0 most) (xs.take i)
            rw [List.length_take] at this
            unfold badW
            omega
          · rw [if_neg Bool.false_ne_true]
            exact upd_same
      · rintro H1 ⟨s1, hD1⟩
        rw [List.take_length] at hD1
        have hb : ∀ x ∈ badW xs most, scV x = true := fun x hx => hs x (List.mem_filter.mp hx).1
        have lb : (badW xs most).length ≤ 1000 := Nat.le_trans (List.length_filter_le _ _) hl
        refine ⟨szl (by simp), fun p hp => ?_⟩
        have s2 : Same H1 (upd H1 p (.lst [])) := same_upd hp
        have ok1 : okD 1 (.list ((badW xs most).map dSc)) := ⟨by rw [List.length_map]; exact lb, fun d hd => by
          obtain ⟨x, hx, rfl⟩ := List.mem_map.mp hd
          exact scV_ok (hb x hx)⟩
        refine ⟨.list ((badW xs most).map dSc), .list [], (Rp.lst (s2 _ _ hD1) (rpa_sc hb)).dp, .lst (sqm upd_same) .nil, shaped_of ok1 (by decide), by decide +kernel, ?_⟩
        have e : PyData.eqv (.list ((badW xs most).map dSc)) (.list []) = allW xs most := by
          cases hc : badW xs most with
          | nil => rw [badW_nil.mp hc] <;> rfl
          | cons y ys =>
            have : allW xs most = false := by
              cases ha : allW xs most with
              | false => rfl
              | true =>
                rw [badW_nil.mpr ha] at hc
                cases hc
            rw [this]
            rfl
        rw [e]
        exact q _ (s1.trans s2)
end
end RL
namespace RL
open PySem PySem.Spec PyProof.Rows L2
def sp_Disk_write (K : PySem.W.Frag) : Sp := fun vs H Q E => ∃ (d dx k : Addr) (s : DS) (xs : List V) (p : V) (t : String) (wd : V) (ox : Option (List V)) (L : ML) (I : Hp), vs = [.ref d, p, wd] ∧ Hs ((d, dskO K dx k s) :: (k, .lst xs) :: L) I H ∧ DskOk I xs s ∧ TyOf K H p (.type t) ∧ Wd K H wd ox ∧
  (isWh p 0 (s.kept.length - 1) = false → E (.ref (He.ga K "NoBlock")) none H) ∧
  (isWh p 0 (s.kept.length - 1) = true → good8 1000000000000000 ox = false → ∀ H', Same H H' → E (.ref (He.ga K "BadBlock")) none H') ∧
  (∀ (i : Nat) (ns : List Int), p = .int i → i < s.kept.length → ox = some (ns.map V.int) → ns.length = 8 → (∀ n ∈ ns, 0 ≤ n ∧ n ≤ 1000000000000000) →
    ∀ H' I' xs', Same I I' → Hs ((d, dskO K dx k (wrS s i ns)) :: (k, .lst xs') :: L) I' H' → DskOk I' xs' (wrS s i ns) → (s.left = some 0 → E (.ref (He.ga K "Stopped")) none H') ∧ (s.left ≠ some 0 → Q .non H'))
section
variable {P : Program} {w : World} {K : PySem.W.Frag} {mg : Str → Option Value} {base : Heap}
theorem ok_Disk_write (T : Tx K mg) : Ok P w K mg base 3 (a_Disk_write K) p_Disk_write (sp_Disk_write K) := by
  have G_Disk_must_be := ok_Disk_must_be (P := P) (w := w) (base := base) T
  have G_are_words := ok_are_words (P := P) (w := w) (base := base) T
  refine ok_of T.d_Disk_write sc_Disk_write bd_Disk_write (fun vs H Q E h => ?_) (fun cdv A outer s H vs Q E hr tk po h => ?_)
  · obtain ⟨d, dx, k, s, xs, p, t, wd, ox, L, I, rfl, _⟩ := h
    rfl
  · obtain ⟨d, dx, k, s, xs, p, t, wd, ox, L, I, rfl, h, ok, ht, hw, q1, q2, q3⟩ := h
    refine ⟨_, (pss_cons (ps_expr (pe_methO (pv 0) T.c_Disk T.m_Disk_must_be G_Disk_must_be (hr.mono (by first | decide | omega)) (L2N.passAt tk) (pa_cons (pv 1) pa_nil)))
    (pss_cons (ps_if (PW.pt (pw_or (pt_not (pt_val (pe_callO G_are_words (hr.mono (by first | decide | omega)) T.g_are_words (L2N.passAt tk) (pa_cons (pv 2) (pa_cons (pe_glob (v := .int 1000000000000000) rfl T.i_MOST_WORD.choose_spec ⟨_, rfl⟩) pa_nil))))) (pw_or1 (pt_cmpR op_ne (pe_callB call_len_seq (by rfl) T.b_len PySem.boot_len (pa_cons (pv 2) pa_nil)) (pe_glob (v := .int 8) rfl T.i_WORDS.choose_spec ⟨_, rfl⟩) (nomark _)))))
    (pss_one (L2N.ps_raise rfl tk (L2N.pmk_own PySem.F.excBase_ValueError T.x_BadBlock.1 T.g_BadBlock T.x_BadBlock.2.1 (raises_own T.x_BadBlock.2.2.1 T.x_BadBlock.2.2.2) rfl)))
    pss_nil)
    (pss_cons (ps_if (pt_cmpR op_eq (pe_fld (pv 0) rfl) pe_int (nomark _))
    (pss_cons (ps_asg (pe_op op_cat (pe_slice sl_list (pv 2) po_none (po_some (pe_fld (pv 0) rfl))) (pe_slice sl_list (pe_ix ix_list (pe_fld (pv 0) rfl) (pv 1) (fun _ _ => rfl)) (po_some (pe_fld (pv 0) rfl)) po_none)) (pg_sub (pe_fld (pv 0) rfl) (pv 1) set_list))
    (pss_cons (ps_fld (pv 0) pe_int rfl)
    (pss_one (L2N.ps_raise rfl tk (L2N.pmk_own PySem.F.excBase_ValueError T.x_Stopped.1 T.g_Stopped T.x_Stopped.2.1 (raises_own T.x_Stopped.2.2.1 T.x_Stopped.2.2.2) rfl)))))
    pss_nil)
    (pss_cons (ps_if (pt_cmp (pc_notN (pe_fld (pv 0) rfl)) rfl)
    (pss_one (ps_fld (pv 0) (pe_op op_sub (pe_fld (pv 0) rfl) pe_int) rfl))
    pss_nil)
    (pss_cons (ps_asg (pe_callTy call_list_of (by rfl) T.b_list boot_list (pa_cons (pv 2) pa_nil)) (pg_sub (pe_fld (pv 0) rfl) (pv 1) set_list))
    (pss_one (ps_fld (pv 0) (pe_op op_add (pe_fld (pv 0) rfl) pe_int) rfl))))))), ?_⟩
    refine ⟨_, rfl, d, dx, _, rfl, h.g0, df_no (by decide +kernel), _, rfl, d, dx, k, s, xs, p, t, L, I, rfl, h, ok.len, ht, fun e => ?_, q1⟩
    refine ⟨_, rfl, wd, ox, _, rfl, hw, fun H1 s1 => ?_⟩
    have h1 := h.grow s1
    refine ⟨_, rfl, ?_⟩
    cases hw with
    | no ht hn => exact q2 e rfl H1 s1
    | @lst a ys ha hs hl =>
      show (if (!allW ys 1000000000000000) = true then _ else _)
      cases e1 : allW ys 1000000000000000 with
      | false =>
        refine q2 e ?_ H1 s1
        show (allW ys 1000000000000000 && decide (ys.length = 8)) = false
        rw [e1] <;> rfl
      | true =>
        refine ⟨_, rfl, a, ys, rfl, .inl (sqm (s1 _ _ ha)), ?_⟩
        refine ⟨rfl, _, rfl, if_nd (fun c => ?_) (fun c => ?_)⟩
        · obtain ⟨ns, rfl, hb⟩ := allW_inv e1
          have l8 : ns.length = 8 := by
            have := V.int.inj c
            rw [List.length_map] at this
            omega
          obtain ⟨i, rfl, hi⟩ := isWh_nat e
          obtain ⟨o, eo, ho, lo⟩ := ok.get hi
          have ha1 := s1 _ _ ha
          have lx : i < xs.length := by
            rw [ok.len]
            exact hi
          rcases hl : s.left with _ | j
          · have dl : (dskF k s).lookup ("left" : Str) = some .non := by
              rw [df_left, hl] <;> rfl
            refine ⟨_, rfl, d, _, dx, _, _, rfl, h1.g0, T.c_Disk, T.n_Disk_left, dl, rfl, _, rfl, if_d (fun c => by cases c) (fun _ => ?_)⟩
            refine ⟨_, rfl, d, _, dx, _, _, rfl, h1.g0, T.c_Disk, T.n_Disk_left, dl, _, rfl, ?_⟩
            refine ⟨_, rfl, a, _, rfl, .inl (sqm ha1), fun f hf => ?_⟩
            obtain ⟨I2, s2, e2, h4⟩ := h1.put hf (.lst (ns.map V.int))
            refine ⟨_, rfl, d, _, dx, _, _, rfl, h4.g0, T.c_Disk, T.n_Disk_kept, df_kept, _, rfl, k, xs, _, i, rfl, rfl, h4.g1, ixN_nat lx, ?_⟩
            have h5 := h4.set1 (o' := .lst (xs.set i (.ref f)))
            refine ⟨_, rfl, d, _, dx, _, _, rfl, h5.g0, T.c_Disk, T.n_Disk_write_count, df_writes, _, 1, rfl, rfl, _, rfl, d, _, dx, _, rfl, h5.g0, T.c_Disk, T.n_Disk_write_count, dlen, ?_⟩
            rw [dp_writes]
            refine (q3 i ns rfl hi rfl l8 hb _ I2 (xs.set i (.ref f)) s2 ?_ ?_).2 ?_
            · rw [wrS_none hl]
              exact h5.set0
            · rw [wrS_none hl]
              exact (ok.mono s2).put (Rp.dI_mk e2) l8 rfl ok.p0
            · rw [hl]
              exact (fun h => nomatch h)
          · have dl : (dskF k s).lookup ("left" : Str) = some (.int j) := by
              rw [df_left, hl] <;> rfl
            refine ⟨_, rfl, d, _, dx, _, _, rfl, h1.g0, T.c_Disk, T.n_Disk_left, dl, rfl, _, rfl, if_d (fun c => ?_) (fun c => ?_)⟩
            · obtain rfl : j = 0 := V.int.inj c
              refine ⟨_, rfl, _, rfl, d, _, dx, _, _, rfl, h1.g0, T.c_Disk, T.n_Disk_part, df_part, _, rfl, a, _, rfl, sqm ha1, fun p1 hp1 => ?_⟩
              have cp : cutV (ns.map V.int) none (some s.part) = (ns.take s.part.toNat).map V.int := by rw [cut_to ok.p0, map_take]
              rw [cp]
              have h2 := h1.newM (o := .lst ((ns.take s.part.toNat).map V.int)) hp1
              refine ⟨_, rfl, d, _, dx, _, _, rfl, h2.g1, T.c_Disk, T.n_Disk_kept, df_kept, _, rfl, k, xs, i, _, rfl, rfl, sqm h2.g2, atI_n eo, _, rfl, d, _, dx, _, _, rfl, h2.g1, T.c_Disk, T.n_Disk_part, df_part, _, rfl, o, _, rfl, h2.sq ho, fun p2 hp2 => ?_⟩
              have cf : cutV ((s.kept.getD i []).map V.int) (some s.part) none = ((s.kept.getD i []).drop s.part.toNat).map V.int := by rw [cut_from ok.p0, map_drop]
              rw [cf]
              have h3 := h2.newM (o := .lst (((s.kept.getD i []).drop s.part.toNat).map V.int)) hp2
              have lz : (ns.take s.part.toNat ++ (s.kept.getD i []).drop s.part.toNat).length = 8 := by
                rw [List.length_append, List.length_take, List.length_drop, l8, lo]
                omega
              refine ⟨p1, p2, _, _, rfl, rfl, h3.g1, h3.g0, szl ?_, fun p3 hp3 => ?_⟩
              · rw [← List.length_append, ← List.map_append, List.length_map, lz]
                decide
              rw [← List.map_append]
              obtain ⟨I2, s2, e2, h4⟩ := (h3.drop.drop).put hp3 (.lst ((ns.take s.part.toNat ++ (s.kept.getD i []).drop s.part.toNat).map V.int))
              refine ⟨_, rfl, d, _, dx, _, _, rfl, h4.g0, T.c_Disk, T.n_Disk_kept, df_kept, _, rfl, k, xs, _, i, rfl, rfl, h4.g1, ixN_nat lx, ?_⟩
              have h5 := h4.set1 (o' := .lst (xs.set i (.ref p3)))
              refine ⟨_, rfl, d, _, dx, _, rfl, h5.g0, T.c_Disk, T.n_Disk_part, dlen, ?_⟩
              rw [dp_part]
              refine (q3 i ns rfl hi rfl l8 hb _ I2 (xs.set i (.ref p3)) s2 ?_ ?_).1 hl
              · rw [wrS_stop hl]
                exact h5.set0
              · rw [wrS_stop hl]
                exact (ok.mono s2).put (Rp.dI_mk e2) lz rfl (Int.le_refl 0)
            · have jn : j ≠ 0 := fun h => c (by rw [h] <;> rfl)
              refine ⟨_, rfl, d, _, dx, _, _, rfl, h1.g0, T.c_Disk, T.n_Disk_left, dl, _, rfl, ?_⟩
              refine ⟨_, rfl, d, _, dx, _, _, rfl, h1.g0, T.c_Disk, T.n_Disk_left, dl, _, 1, rfl, rfl, _, rfl, d, _, dx, _, rfl, h1.g0, T.c_Disk, T.n_Disk_left, dlen, ?_⟩
              rw [dp_left]
              have h2 : Hs ((d, dskO K dx k { s with left := some (j - 1) }) :: (k, .lst xs) :: L) I _ := h1.set0
              have ha2 : upd H1 d (dskO K dx k { s with left := some (j - 1) }) a = some (.lst (ns.map V.int)) := by
                rw [upd_ne ?_]
                · exact ha1
                · rintro rfl
                  rw [h1.g0] at ha1
                  cases ha1
              refine ⟨_, rfl, a, _, rfl, .inl (sqm ha2), fun f hf => ?_⟩
              obtain ⟨I2, s2, e2, h4⟩ := h2.put hf (.lst (ns.map V.int))
              refine ⟨_, rfl, d, _, dx, _, _, rfl, h4.g0, T.c_Disk, T.n_Disk_kept, df_kept, _, rfl, k, xs, _, i, rfl, rfl, h4.g1, ixN_nat lx, ?_⟩
              have h5 := h4.set1 (o' := .lst (xs.set i (.ref f)))
              refine ⟨_, rfl, d, _, dx, _, _, rfl, h5.g0, T.c_Disk, T.n_Disk_write_count, df_writes, _, 1, rfl, rfl, _, rfl, d, _, dx, _, rfl, h5.g0, T.c_Disk, T.n_Disk_write_count, dlen, ?_⟩
              rw [dp_writes]
              refine (q3 i ns rfl hi rfl l8 hb _ I2 (xs.set i (.ref f)) s2 ?_ ?_).2 ?_
              · rw [wrS_some hl jn]
                exact h5.set0
              · rw [wrS_some hl jn]
                exact (ok.mono s2).put (Rp.dI_mk e2) l8 rfl ok.p0
              · rw [hl]
                exact (fun h => jn (Option.some.inj h))
        · refine q2 e ?_ H1 s1
          show (allW ys 1000000000000000 && decide (ys.length = 8)) = false
          rw [decide_eq_false (fun h => c (by rw [h] <;> rfl)), Bool.and_false]
end
end RL
namespace RL
open PySem PySem.Spec PyProof.Rows L2
def sp_l_laid (K : PySem.W.Frag) : Sp := fun vs H Q E => ∃ (r a : Addr) (i m : Int) (d dx k : Addr) (s : DS) (xs : List V) (N : Int) (L : ML) (I : Hp), vs = [.ref r, .ref d, .int N] ∧ Hs ((r, rowO a i m) :: (d, dskO K dx k s) :: (k, .lst xs) :: L) I H ∧ DskOk I xs s ∧ RowOk K I a i ∧ 1 ≤ N ∧ N ≤ 1000000000000000 ∧
  ∀ H' I' i' m' xs' (q : Nat) (b : List Int), Same I I' → (q : Int) = N % s.kept.length → b.length = 8 → b.headD 0 = N → b.getLastD 0 = N → Hs ((r, rowO a i' m') :: (d, dskO K dx k (wrS s q b)) :: (k, .lst xs') :: L) I' H' → DskOk I' xs' (wrS s q b) → RowOk K I' a i' →
    (s.left = some 0 → E (.ref (He.ga K "Stopped")) none H') ∧ (s.left ≠ some 0 → Q .non H')
section
variable {P : Program} {w : World} {K : PySem.W.Frag} {mg : Str → Option Value} {base : Heap}
theorem ok_l_laid (T : Tx K mg) : Ok P w K mg base 4 (a_l_laid K) p_l_laid (sp_l_laid K) := by
  have G_l_taken := ok_taken (P := P) (w := w) (base := base) T
  have G_Disk_write := ok_Disk_write (P := P) (w := w) (base := base) T
  have G_Disk_blocks := ok_Disk_blocks (P := P) (w := w) (base := base) T
  refine ok_of T.d_l_laid sc_l_laid bd_l_laid (fun vs H Q E h => ?_) (fun cdv A outer s0 H vs Q E hr tk po h => ?_)
  · obtain ⟨r, a, i, m, d, dx, k, s, xs, N, L, I, rfl, _⟩ := h
    rfl
  · obtain ⟨r, a, i, m, d, dx, k, s, xs, N, L, I, rfl, h, ok, ro, N1, N2, q⟩ := h
    refine ⟨_, (pss_cons (ps_set (i := 4) sc_l_laid.nd rfl (Or.inl rfl) (pe_op op_cat (pe_op op_cat (pe_lst (pa_cons (pv 2) (pa_cons (pe_op op_sub (pv 2) pe_int) (pa_cons pe_int (pa_cons pe_int pa_nil))))) (pe_lc (own := [("_law_k", 3)]) rfl sc_l_laid.nd (pi_range1 (by rfl) T.b_range (pa_cons pe_int pa_nil)) (blkOk_by (own := [("_law_k", 3)]) (N := n_l_laid) (sc := defScope s_l_laid) (by decide +kernel)) (fun _ _ _ _ _ => (pg_name (i := 3) sc_l_laid.nd rfl (Or.inl rfl))) (fun _ _ _ _ _ => pts_nil) (fun _ _ _ _ _ => (pe_callO G_l_taken (hr.mono (by first | decide | omega)) T.g_l_taken passN (pa_cons (pv 0) (pa_cons pe_int pa_nil)))))) (pe_lst (pa_cons (pv 2) pa_nil))))
    (pss_one (ps_expr (pe_methO (pv 1) T.c_Disk T.m_Disk_write G_Disk_write (hr.mono (by first | decide | omega)) (L2N.passAt tk) (pa_cons (pe_op op_mod (pv 2) (pe_methO0 (pv 1) T.c_Disk T.m_Disk_blocks G_Disk_blocks (hr.mono (by first | decide | omega)) (L2N.passAt tk))) (pa_cons (pv 4) pa_nil)))))), ?_⟩
    have n4 := ok.n4
    refine ⟨_, rfl, _, rfl, _, 1, rfl, rfl, szl (by simp), fun p1 hp1 => ?_⟩
    have h1 := (h.newM (o := .lst (([N, N - 1, 0, 0] : List Int).map V.int)) hp1).m1
    refine ⟨3, rfl, by decide, by decide, fun D hD => ?_⟩
    refine lc_range (lo := 0) (fun j H' => ∃ (ns : List Int) (i' m' : Int), ns.length = j ∧ (∀ n ∈ ns, 0 ≤ n ∧ n ≤ 1000000000000000) ∧ Hs ((D, .lst (ns.map V.int)) :: (r, rowO a i' m') :: (p1, .lst (([N, N - 1, 0, 0] : List Int).map V.int)) :: (d, dskO K dx k s) :: (k, .lst xs) :: L) I H' ∧ RowOk K I a i') ⟨[], i, m, rfl, (fun _ h => nomatch h), h1.newM hD, ro⟩ ?_ ?_
    · rintro j H1 hj ⟨ns, i1, m1, hl, hb, h2, ro1⟩
      refine ⟨rfl, _, rfl, r, a, i1, m1, 1000000000, _, I, rfl, h2.m1, ro1, by decide, fun H2 i2 m2 v h3 ro2 lo hi => ?_⟩
      refine ⟨_, h3.g1, szlt (by rw [List.length_map]; have : j < 3 := hj; omega), ns ++ [v], i2, m2, by simp [hl], ?_, ?_, ro2⟩
      · intro n hn
        rcases List.mem_append.mp hn with hn | hn
        · exact hb n hn
        · rw [List.mem_singleton.mp hn]
          omega
      · rw [map_snoc]
        exact h3.m1.set0
    · rintro H1 ⟨ns, i1, m1, hl, hb, h2, ro1⟩
      have hl : ns.length = 3 := hl
      refine ⟨p1, D, _, _, rfl, rfl, h2.g2, h2.g0, szl (by simp [hl]), fun p2 hp2 => ?_⟩
      have h3 := h2.newM (o := .lst (([N, N - 1, 0, 0] : List Int).map V.int ++ ns.map V.int)) hp2
      refine ⟨_, rfl, szl (by simp), fun p3 hp3 => ?_⟩
      have h4 := h3.newM (o := .lst [.int N]) hp3
      refine ⟨p2, p3, _, _, rfl, rfl, h4.g1, h4.g0, szl (by simp [hl]), fun p4 hp4 => ?_⟩
      have eb : ([N, N - 1, 0, 0] : List Int).map V.int ++ ns.map V.int ++ [V.int N] = (([N, N - 1, 0, 0] : List Int) ++ ns ++ [N]).map V.int := by simp
      obtain ⟨b, hbd⟩ : ∃ b, b = ([N, N - 1, 0, 0] : List Int) ++ ns ++ [N] := ⟨_, rfl⟩
      have b8 : b.length = 8 := by simp [hbd, hl]
      have bh : b.headD 0 = N := by simp [hbd]
      have bt : b.getLastD 0 = N := by
        rw [hbd, List.getLastD_eq_getLast?, List.getLast?_concat]
        rfl
      have bb : ∀ n ∈ b, 0 ≤ n ∧ n ≤ 1000000000000000 := by
        intro n hn
        rw [hbd] at hn
        simp only [List.mem_append, List.mem_cons, List.not_mem_nil, or_false] at hn
        rcases hn with ((rfl | rfl | rfl | rfl) | hn) | rfl
        · omega
        · omega
        · omega
        · omega
        · exact hb n hn
        · omega
      rw [eb, ← hbd]
      have h5 := (h4.drop.drop.drop.m1.drop).newM (o := .lst (b.map V.int)) hp4
      dsimp only [List.set]
      have h6 := h5.m3.m3
      have q0 := Int.emod_nonneg N (show (s.kept.length : Int) ≠ 0 by omega)
      have q1 := Int.emod_lt_of_pos N (show (0 : Int) < s.kept.length by omega)
      refine ⟨_, rfl, d, dx, _, rfl, h6.g0, df_no (by decide +kernel), _, rfl, _, rfl, d, dx, _, rfl, h6.g0, df_no (by decide +kernel), d, dx, k, s, xs, _, I, rfl, h6, ok.len, _, _, rfl, rfl, by omega, _, rfl, ?_⟩
      refine ⟨d, dx, k, s, xs, .int (N % s.kept.length), "int", .ref p4, some (b.map V.int), _, I, rfl, h6, ok, .int _, .ints h6.g2 (by omega), fun e => ?_, fun _ e => ?_, fun i ns ei hi eo n8 nb H3 I3 xs3 s3 h7 ok3 => ?_⟩
      · rw [isWh_int (by omega) (by omega)] at e
        cases e
      · rw [good8_int b8 bb] at e
        cases e
      · have hpl : N % (s.kept.length : Int) = i := V.int.inj ei
        obtain rfl : b = ns := mapI_inj (Option.some.inj eo)
        exact q H3 I3 i1 m1 xs3 i b s3 hpl.symm b8 bh bt h7.m2.drop.m2 ok3 (ro1.mono s3)
end
end RL
namespace RL
open PySem PySem.Spec PyProof.Rows L2
def sp_Disk_stop_after (K : PySem.W.Frag) : Sp := fun vs H Q E => ∃ (d dx k : Addr) (s : DS) (c p : V) (tc tp : String) (L : ML) (I : Hp), vs = [.ref d, c, p] ∧ Hs ((d, dskO K dx k s) :: L) I H ∧ TyOf K H c (.type tc) ∧ TyOf K H p (.type tp) ∧
  (∀ i j, c = .int i → p = .int j → 0 ≤ i → 0 ≤ j → ∀ H', Hs ((d, dskO K dx k { s with left := some i, part := j }) :: L) I H' → Q .non H') ∧
  ((isWh c 0 1000000000000000 && isWh p 0 7) = false → E (.ref (He.ga K "BadStop")) none H)
section
variable {P : Program} {w : World} {K : PySem.W.Frag} {mg : Str → Option Value} {base : Heap}
theorem ok_Disk_stop_after (T : Tx K mg) : Ok P w K mg base 2 (a_Disk_stop_after K) p_Disk_stop_after (sp_Disk_stop_after K) := by
  have G_is_whole := ok_is_whole (P := P) (w := w) (base := base) T
  refine ok_of T.d_Disk_stop_after sc_Disk_stop_after bd_Disk_stop_after (fun vs H Q E h => ?_) (fun cdv A outer s H vs Q E hr tk po h => ?_)
  · obtain ⟨d, dx, k, s, c, p, tc, tp, L, I, rfl, _⟩ := h
    rfl
  · obtain ⟨d, dx, k, s, c, p, tc, tp, L, I, rfl, h, h1, h2, q1, q2⟩ := h
    refine ⟨_, (pss_cons (ps_if (PW.pt (pw_or (pt_not (pt_val (pe_callO G_is_whole (hr.mono (by first | decide | omega)) T.g_is_whole (L2N.passAt tk) (pa_cons (pv 1) (pa_cons pe_int (pa_cons (pe_glob (v := .int 1000000000000000) rfl T.i_MOST_WORD.choose_spec ⟨_, rfl⟩) pa_nil)))))) (pw_or1 (pt_not (pt_val (pe_callO G_is_whole (hr.mono (by first | decide | omega)) T.g_is_whole (L2N.passAt tk) (pa_cons (pv 2) (pa_cons pe_int (pa_cons (pe_op op_sub (pe_glob (v := .int 8) rfl T.i_WORDS.choose_spec ⟨_, rfl⟩) pe_int) pa_nil)))))))))
    (pss_one (L2N.ps_raise rfl tk (L2N.pmk_own PySem.F.excBase_ValueError T.x_BadStop.1 T.g_BadStop T.x_BadStop.2.1 (raises_own T.x_BadStop.2.2.1 T.x_BadStop.2.2.2) rfl)))
    pss_nil)
    (pss_cons (ps_fld (pv 0) (pv 1) rfl)
    (pss_one (ps_fld (pv 0) (pv 2) rfl)))), ?_⟩
    refine ⟨_, rfl, c, 0, _, tc, rfl, h1, ?_⟩
    refine ⟨_, rfl, ?_⟩
    cases e1 : isWh c 0 1000000000000000 with
    | false =>
      refine q2 ?_
      rw [e1] <;> rfl
    | true =>
      refine ⟨_, rfl, _, 1, rfl, rfl, p, 0, _, tp, rfl, h2, ?_⟩
      refine ⟨_, rfl, ?_⟩
      show (if (!isWh p 0 7) = true then _ else _)
      cases e2 : isWh p 0 7 with
      | false =>
        refine q2 ?_
        rw [e1, e2] <;> rfl
      | true =>
        obtain ⟨i, rfl, li, _⟩ := isWh_inv e1
        obtain ⟨j, rfl, lj, _⟩ := isWh_inv e2
        refine ⟨_, rfl, _, rfl, d, _, dx, _, rfl, h.g0, T.c_Disk, T.n_Disk_left, dlen, ?_⟩
        rw [dp_left]
        have h3 : Hs ((d, dskO K dx k { s with left := some i }) :: L) I _ := h.set0
        refine ⟨_, rfl, _, rfl, d, _, dx, _, rfl, h3.g0, T.c_Disk, T.n_Disk_part, dlen, ?_⟩
        rw [dp_part]
        exact q1 i j rfl rfl li lj _ h3.set0
end
end RL
namespace RL
open PySem PySem.Spec PyProof.Rows L2
section
variable {P : Program} {w : World} {K : PySem.W.Frag} {mg : Str → Option Value} {base : Heap}
theorem okh_Disk_blocks (T : Tx K mg)   : OkH P w K mg base 1 (a_Disk_blocks K) p_Disk_blocks (sp_Disk_blocks K) := by
  refine okH_of T.d_Disk_blocks sc_Disk_blocks bd_Disk_blocks (fun vs H Q E h => ?_) (fun cdv A outer s0 H vs Q E p hr h => ?_)
  · obtain ⟨d, dx, k, s, xs, L, I, rfl, _⟩ := h
    rfl
  · obtain ⟨d, dx, k, s, xs, L, I, rfl, h, hl, q⟩ := h
    refine ⟨_, (pss_one (ps_ret (pe_callB call_len_seq (by rfl) T.b_len PySem.boot_len (pa_cons (pe_fld (pv 0) rfl) pa_nil)))), ?_⟩
    refine ⟨_, rfl, d, _, dx, _, _, rfl, h.g0, T.c_Disk, T.n_Disk_kept, df_kept, k, xs, rfl, .inl (sqm h.g1), ?_⟩
    rw [hl]
    exact q
end
end RL
namespace RL
open PySem PySem.Spec PyProof.Rows L2
def sp_Disk_go_on (K : PySem.W.Frag) : Sp := fun vs H Q _ => ∃ (d dx k : Addr) (s : DS) (L : ML) (I : Hp), vs = [.ref d] ∧ Hs ((d, dskO K dx k s) :: L) I H ∧
  ∀ H', Hs ((d, dskO K dx k { s with left := none, part := 0 }) :: L) I H' → Q .non H'
section
variable {P : Program} {w : World} {K : PySem.W.Frag} {mg : Str → Option Value} {base : Heap}
theorem ok_Disk_go_on (T : Tx K mg) : Ok P w K mg base 1 (a_Disk_go_on K) p_Disk_go_on (sp_Disk_go_on K) := by
  refine ok_of T.d_Disk_go_on sc_Disk_go_on bd_Disk_go_on (fun vs H Q E h => ?_) (fun cdv A outer s H vs Q E hr tk po h => ?_)
  · obtain ⟨d, dx, k, s, L, I, rfl, _⟩ := h
    rfl
  · obtain ⟨d, dx, k, s, L, I, rfl, h, q⟩ := h
    refine ⟨_, (pss_cons (ps_fld (pv 0) pe_non rfl)
    (pss_one (ps_fld (pv 0) pe_int rfl))), ?_⟩
    refine ⟨_, rfl, d, _, dx, _, rfl, h.g0, T.c_Disk, T.n_Disk_left, dlen, ?_⟩
    rw [dp_leftN]
    have h1 : Hs ((d, dskO K dx k { s with left := none }) :: L) I _ := h.set0
    refine ⟨_, rfl, d, _, dx, _, rfl, h1.g0, T.c_Disk, T.n_Disk_part, dlen, ?_⟩
    rw [dp_part]
    exact q _ h1.set0
end
end RL
namespace RL
open PySem PySem.Spec PyProof.Rows L2
section
variable {P : Program} {w : World} {K : PySem.W.Frag} {mg : Str → Option Value} {base : Heap}
theorem okh_Disk_go_on (T : Tx K mg)   : OkH P w K mg base 1 (a_Disk_go_on K) p_Disk_go_on (sp_Disk_go_on K) := by
  refine okH_of T.d_Disk_go_on sc_Disk_go_on bd_Disk_go_on (fun vs H Q E h => ?_) (fun cdv A outer s0 H vs Q E p hr h => ?_)
  · obtain ⟨d, dx, k, s, L, I, rfl, _⟩ := h
    rfl
  · obtain ⟨d, dx, k, s, L, I, rfl, h, q⟩ := h
    refine ⟨_, (pss_cons (ps_fld (pv 0) pe_non rfl)
    (pss_one (ps_fld (pv 0) pe_int rfl))), ?_⟩
    refine ⟨_, rfl, d, _, dx, _, rfl, h.g0, T.c_Disk, T.n_Disk_left, dlen, ?_⟩
    rw [dp_leftN]
    have h1 : Hs ((d, dskO K dx k { s with left := none }) :: L) I _ := h.set0
    refine ⟨_, rfl, d, _, dx, _, rfl, h1.g0, T.c_Disk, T.n_Disk_part, dlen, ?_⟩
    rw [dp_part]
    exact q _ h1.set0
end
end RL
namespace RL
open PySem PySem.Spec PyProof.Rows L2
section
variable {ds : List (List Int)} {N : Int} {tn : Option Int}
theorem blk_set {ds : List (List Int)} {i p : Nat} {w : List Int} (hp : p < ds.length) : blk (ds.set i w) p = if i = p then w else blk ds p := by
  unfold blk
  rw [List.getD_eq_getElem?_getD, List.getElem?_set]
  by_cases e : i = p
  · subst e
    rw [if_pos rfl, if_pos rfl, if_pos hp]
    rfl
  · rw [if_neg e, if_neg e, List.getD_eq_getElem?_getD]
theorem numP_ne {n : Int} {p : Nat} (hp : (p : Int) < n) (h : (p : Int) ≠ (N + 1) % n) : numP n (N + 1) p = numP n N p := by
  have n0 : 0 < n := by omega
  have a := numP_le (n := n) (N := N + 1) (p := p) n0
  have b := numP_le (n := n) (N := N) (p := p) n0
  have c : numP n (N + 1) p ≠ N + 1 := fun z => by
    have := numP_mod (n := n) (N := N + 1) (p := p) hp
    rw [z] at this
    exact h this.symm
  exact num_uniq (by rw [numP_mod hp, numP_mod hp]) (by omega) (by omega)
theorem numP_eq {n : Int} {p : Nat} (hp : (p : Int) < n) (h : (p : Int) = (N + 1) % n) : numP n (N + 1) p = N + 1 := numP_at hp h.symm (Int.le_refl _) (by omega)
/-- the next block is written -/
theorem Lay.wr (L : Lay ds N tn) {w : List Int} {q : Nat} (hq : (q : Int) = (N + 1) % ds.length) (l : w.length = 8) (h : w.headD 0 = N + 1) (h2 : w.getLastD 0 = N + 1) : Lay (ds.set q w) (N + 1) none := by
  have n0 := L.n0
  have g := L.ge
  have q1 := Int.emod_lt_of_pos (N + 1) n0
  have bl : ∀ p : Nat, p < ds.length → hdW (ds.set q w) p = numW ds.length (N + 1) p ∧ laW (ds.set q w) p = numW ds.length (N + 1) p := fun p hp => by
    unfold hdW laW
    rw [blk_set hp]
    by_cases e : q = p
    · subst e
      rw [if_pos rfl, h, h2]
      unfold numW
      rw [numP_eq (by omega) hq, if_pos (by omega)]
      exact ⟨rfl, rfl⟩
    · rw [if_neg e]
      have ne : (p : Int) ≠ (N + 1) % ds.length := by omega
      have a := L.wh p hp ne
      have b := L.la p hp
      unfold numW at *
      rw [numP_ne (by omega) ne]
      exact ⟨a, b⟩
  refine ⟨?_, ?_, ?_, ?_, ?_, ?_⟩
  · rw [List.length_set]
    exact L.n4
  · intro b hb
    rcases List.mem_or_eq_of_mem_set hb with hb | rfl
    · exact L.l8 b hb
    · exact l
  · rw [List.length_set]
    omega
  · rw [List.length_set]
    exact fun p hp _ => (bl p hp).1
  · rw [List.length_set]
    exact fun p hp => (bl p hp).2
  · rw [List.length_set]
    intro p hp
    have := Int.emod_lt_of_pos (N + 1 + 1) n0
    exact .inl ⟨rfl, (bl p (by omega)).1⟩
/-- the next block's first words alone -/
theorem Lay.tear (L : Lay ds N tn) {w : List Int} {q part : Nat} (hq : (q : Int) = (N + 1) % ds.length) (l : w.length = 8) (h : w.headD 0 = N + 1) (hp : part ≤ 7) : Lay (ds.set q (w.take part ++ (blk ds q).drop part)) N (if part = 0 then tn else some (q : Int)) := by
  have n0 := L.n0
  have g := L.ge
  have q1 := Int.emod_lt_of_pos (N + 1) n0
  have hql : q < ds.length := by omega
  have o8 := L.l8 _ (blk_mem hql)
  by_cases c : part = 0
  · subst c
    rw [if_pos rfl, List.take_zero, List.nil_append, List.drop_zero]
    have e : ds.set q (blk ds q) = ds := by
      refine List.ext_getElem? fun i => ?_
      rw [List.getElem?_set]
      by_cases e : q = i
      · subst e
        rw [if_pos rfl, if_pos hql]
        unfold blk
        rw [List.getD_eq_getElem?_getD, List.getElem?_eq_getElem hql]
        rfl
      · rw [if_neg e]
    rw [e]
    exact L
  · rw [if_neg c]
    have h1 : (w.take part ++ (blk ds q).drop part).headD 0 = N + 1 := by
      cases w with
      | nil => cases l
      | cons x r =>
        cases part with
        | zero => exact absurd rfl c
        | succ j => exact h
    have h2 : (w.take part ++ (blk ds q).drop part).getLastD 0 = laW ds q := by
      have nn : (blk ds q).drop part ≠ [] := fun z => by
        have := congrArg List.length z
        rw [List.length_drop, o8, List.length_nil] at this
        omega
      unfold laW
      rw [List.getLastD_eq_getLast?, List.getLastD_eq_getLast?, List.getLast?_append, List.getLast?_drop, if_neg (by omega)]
      rw [List.getLast?_eq_some_getLast (blk_ne hql L.l8)]
      rfl
    have l2 : (w.take part ++ (blk ds q).drop part).length = 8 := by
      rw [List.length_append, List.length_take, List.length_drop, l, o8]
      omega
    generalize w.take part ++ (blk ds q).drop part = v at h1 h2 l2
    refine ⟨?_, ?_, ?_, ?_, ?_, ?_⟩
    · rw [List.length_set]
      exact L.n4
    · intro b hb
      rcases List.mem_or_eq_of_mem_set hb with hb | rfl
      · exact L.l8 b hb
      · exact l2
    · rw [List.length_set]
      exact g
    · rw [List.length_set]
      intro p hp ne
      unfold hdW
      rw [blk_set hp, if_neg (by omega)]
      exact L.wh p hp ne
    · rw [List.length_set]
      intro p hp
      unfold laW
      rw [blk_set hp]
      by_cases e : q = p
      · subst e
        rw [if_pos rfl, h2]
        exact L.la _ hp
      · rw [if_neg e]
        exact L.la p hp
    · rw [List.length_set]
      intro p hp
      obtain rfl : p = q := by omega
      refine .inr ⟨rfl, ?_⟩
      unfold hdW
      rw [blk_set hql, if_pos rfl]
      exact h1
end
/-- blocks from a number on, on a disk that had none -/
structure LayA (ds : List (List Int)) (a N : Int) : Prop where
  n4 : 4 ≤ ds.length
  l8 : ∀ b ∈ ds, b.length = 8
  al : ∀ p : Nat, p < ds.length → hdW ds p = (if a ≤ numP ds.length N p then numP ds.length N p else 0) ∧ laW ds p = (if a ≤ numP ds.length N p then numP ds.length N p else 0)
theorem layA_fresh {n : Nat} (h4 : 4 ≤ n) {a N : Int} (h : N < a) : LayA (List.replicate n (List.replicate 8 0)) a N := by
  refine ⟨?_, ?_, ?_⟩
  · rw [List.length_replicate]
    exact h4
  · intro b hb
    rw [List.eq_of_mem_replicate hb]
    rfl
  · rw [List.length_replicate]
    intro p hp
    have b := (numP_le (n := (n : Int)) (N := N) (p := p) (by omega)).1
    have e : blk (List.replicate n (List.replicate 8 (0 : Int))) p = List.replicate 8 0 := by
      unfold blk
      rw [List.getD_eq_getElem?_getD, List.getElem?_replicate, if_pos hp]
      rfl
    unfold hdW laW
    rw [e, if_neg (by omega)]
    exact ⟨rfl, rfl⟩
theorem LayA.wr {ds : List (List Int)} {a N : Int} (L : LayA ds a N) {w : List Int} {q : Nat} (ha : a ≤ N + 1) (hq : (q : Int) = (N + 1) % ds.length) (l : w.length = 8) (h : w.headD 0 = N + 1) (h2 : w.getLastD 0 = N + 1) : LayA (ds.set q w) a (N + 1) := by
  have n4 := L.n4
  have q1 := Int.emod_lt_of_pos (N + 1) (show (0 : Int) < ds.length by omega)
  refine ⟨?_, ?_, ?_⟩
  · rw [List.length_set]
    exact n4
  · intro b hb
    rcases List.mem_or_eq_of_mem_set hb with hb | rfl
    · exact L.l8 b hb
    · exact l
  · rw [List.length_set]
    intro p hp
    unfold hdW laW
    rw [blk_set hp]
    by_cases e : q = p
    · subst e
      rw [if_pos rfl, h, h2, numP_eq (by omega) hq, if_pos ha]
      exact ⟨rfl, rfl⟩
    · rw [if_neg e, numP_ne (by omega) (by omega)]
      exact L.al p hp
theorem LayA.lay {ds : List (List Int)} {a N : Int} (L : LayA ds a N) (g : (ds.length : Int) - 1 ≤ N) (h : a = ds.length ∨ (a = N - ds.length + 1 ∧ ds.length ≤ a)) : Lay ds N none := by
  have n4 := L.n4
  have e : ∀ p : Nat, (if a ≤ numP ds.length N p then numP ds.length N p else 0) = numW ds.length N p := fun p => by
    have b := numP_le (n := (ds.length : Int)) (N := N) (p := p) (by omega)
    unfold numW
    rcases h with rfl | ⟨h1, h2⟩
    · rfl
    · rw [if_pos (by omega), if_pos (by omega)]
  refine ⟨n4, L.l8, g, fun p hp _ => ?_, fun p hp => ?_, fun p hp => ?_⟩
  · rw [← e]
    exact (L.al p hp).1
  · rw [← e]
    exact (L.al p hp).2
  · have := Int.emod_lt_of_pos (N + 1) (show (0 : Int) < ds.length by omega)
    rw [← e]
    exact .inl ⟨rfl, (L.al p (by omega)).1⟩
theorem lay_fresh {n : Nat} (h4 : 4 ≤ n) : Lay (List.replicate n (List.replicate 8 0)) ((n : Int) - 1) none := by
  have := layA_fresh h4 (a := n) (N := (n : Int) - 1) (by omega)
  exact this.lay (by rw [List.length_replicate]; exact Int.le_refl _) (.inl (by rw [List.length_replicate]))
end RL
namespace RL
open PySem PySem.Spec PyProof.Rows L2
def sp_l_torn (K : PySem.W.Frag) : Sp := fun vs H Q E => ∃ (r a : Addr) (i m : Int) (d dx k : Addr) (s : DS) (xs : List V) (N : Int) (L : ML) (I : Hp), vs = [.ref r, .ref d, .int (N + 1)] ∧ Hs ((r, rowO a i m) :: (d, dskO K dx k s) :: (k, .lst xs) :: L) I H ∧ DskOk I xs s ∧ RowOk K I a i ∧ 0 ≤ N ∧ N < 1000000000000000 ∧ Lay s.kept N none ∧ s.left = none ∧
  ∀ H' I' i' m' xs' s' tn, Same I I' → s'.kept.length = s.kept.length → s'.left = none → Hs ((r, rowO a i' m') :: (d, dskO K dx k s') :: (k, .lst xs') :: L) I' H' → DskOk I' xs' s' → RowOk K I' a i' → Lay s'.kept N tn → Q (optV tn) H'
section
variable {P : Program} {w : World} {K : PySem.W.Frag} {mg : Str → Option Value} {base : Heap}
theorem ok_l_torn (T : Tx K mg) : Ok P w K mg base 5 (a_l_torn K) p_l_torn (sp_l_torn K) := by
  have G_l_taken := ok_taken (P := P) (w := w) (base := base) T
  have G_Disk_stop_after := ok_Disk_stop_after (P := P) (w := w) (base := base) T
  have G_l_laid := ok_l_laid (P := P) (w := w) (base := base) T
  have GH_Disk_blocks := okh_Disk_blocks (P := P) (w := w) (base := base) T
  have GH_Disk_go_on := okh_Disk_go_on (P := P) (w := w) (base := base) T
  refine ok_of T.d_l_torn sc_l_torn bd_l_torn (fun vs H Q E h => ?_) (fun cdv A outer s0 H vs Q E hr tk po h => ?_)
  · obtain ⟨r, a, i, m, d, dx, k, s, xs, N, L, I, rfl, _⟩ := h
    rfl
  · obtain ⟨r, a, i, m, d, dx, k, s, xs, N, L, I, rfl, h, ok, ro, N1, N2, ly, sl, q⟩ := h
    refine ⟨_, (pss_cons (ps_set (i := 3) sc_l_torn.nd rfl (Or.inl rfl) (pe_callO G_l_taken (hr.mono (by first | decide | omega)) T.g_l_taken (L2N.passAt tk) (pa_cons (pv 0) (pa_cons pe_int pa_nil))))
    (pss_cons (ps_expr (pe_methO (pv 1) T.c_Disk T.m_Disk_stop_after G_Disk_stop_after (hr.mono (by first | decide | omega)) (L2N.passAt tk) (pa_cons pe_int (pa_cons (pv 3) pa_nil))))
    (pss_one (L2N.ps_try_many rfl rfl tk (fun W pn xe tk po =>
    (pss_cons (ps_expr (pe_callO G_l_laid (hr.mono (by first | decide | omega)) T.g_l_laid (L2N.passAt tk) (pa_cons (pv 0) (pa_cons (pv 1) (pa_cons (pv 2) pa_nil)))))
    (pss_one (ps_ret pe_str))))
    (.cons ⟨rfl, by decide, .inl T.g_Stopped⟩ (fun a oe cls d pn hz hf => (pss_cons (ps_expr (pe_methH0 (pv 1) T.c_Disk T.m_Disk_go_on GH_Disk_go_on (roomH_mark hr (by first | decide | omega)) (hotC_suite hz hf) passN))
    (pss_one (ps_ret (pe_ifExp (pt_cmpR op_eq (pv 3) pe_int (nomark _)) pe_non (pe_op op_mod (pv 2) (pe_methH0 (pv 1) T.c_Disk T.m_Disk_blocks GH_Disk_blocks (roomH_mark hr (by first | decide | omega)) (hotC_suite hz hf) passN))))))) .nil))))), ?_⟩
    have n4 := ok.n4
    refine ⟨_, rfl, r, a, i, m, 8, _, I, rfl, h, ro, by decide, fun H1 i1 m1 v h1 ro1 lo hi => ?_⟩
    dsimp only [List.set]
    refine ⟨_, rfl, d, dx, _, rfl, h1.g1, df_no (by decide +kernel), _, rfl, d, dx, k, s, .int 0, .int v, "int", "int", (r, rowO a i1 m1) :: (k, .lst xs) :: L, I, rfl, h1.m1, .int _, .int _, fun x y ex ey _ _ H2 h2 => ?_, fun e => ?_⟩
    · obtain rfl : 0 = x := V.int.inj ex
      obtain rfl : v = y := V.int.inj ey
      have ok2 : DskOk I xs { s with left := some 0, part := v } := ok.same rfl lo
      refine ⟨_, rfl, _, rfl, _, rfl, r, a, i1, m1, d, dx, k, _, xs, N + 1, L, I, rfl, h2.m1, ok2, ro1, by omega, by omega, fun H3 I3 i3 m3 xs3 pq b s3 hpq b8 bh bt h3 ok3 ro3 => ⟨fun _ => ?_, fun z => absurd rfl z⟩⟩
      have hpq : (pq : Int) = (N + 1) % s.kept.length := hpq
      have ly3 := ly.tear (w := b) (part := v.toNat) hpq b8 bh (by omega)
      rw [wrS_stop (s := { s with left := some 0, part := v }) rfl] at h3 ok3
      refine ⟨true, T.e_Stopped_Stopped, fun _ ae hae => ?_, fun z => nomatch z⟩
      have l3 : (s.kept.set pq (b.take v.toNat ++ (s.kept.getD pq []).drop v.toNat)).length = s.kept.length := List.length_set
      refine ⟨_, rfl, d, dx, _, rfl, h3.g1, df_no (by decide +kernel), d, dx, k, _, (r, rowO a i3 m3) :: (k, .lst xs3) :: L, I3, rfl, h3.m1, fun H4 h4 => ?_⟩
      have h5 := h4.m1
      refine ⟨_, rfl, rfl, _, rfl, if_d (fun c => ?_) (fun c => ?_)⟩
      · have v0 : v.toNat = 0 := by
          have := V.int.inj c
          omega
        rw [if_pos v0] at ly3
        exact q _ I3 i3 m3 xs3 _ none s3 l3 rfl h5 (ok3.same rfl (Int.le_refl 0)) ro3 ly3
      · have v0 : ¬ v.toNat = 0 := fun z => c (by rw [show v = 0 by omega])
        rw [if_neg v0] at ly3
        refine ⟨_, rfl, _, rfl, d, dx, _, rfl, h5.g1, df_no (by decide +kernel), d, dx, k, _, xs3, (r, rowO a i3 m3) :: L, I3, rfl, h5.m1.perm (.cons _ (.swap _ _ _)), ok3.len, _, _, rfl, rfl, ?_, ?_⟩
        · show (0 : Int) < ((s.kept.set pq _).length : Int)
          rw [l3]
          omega
        · show Ends.rt _ (V.int ((N + 1) % ((s.kept.set pq (b.take v.toNat ++ (s.kept.getD pq []).drop v.toNat)).length : Int))) _
          rw [l3, ← hpq]
          exact q _ I3 i3 m3 xs3 _ (some (pq : Int)) s3 l3 rfl h5 (ok3.same rfl (Int.le_refl 0)) ro3 ly3
    · rw [isWh_int (by omega) (by omega), isWh_int lo (by omega)] at e
      cases e
end
end RL
namespace RL
open PySem PySem.Spec PyProof.Rows L2
def sp_l_many (K : PySem.W.Frag) : Sp := fun vs H Q _ => ∃ (r a : Addr) (i m : Int) (L : ML) (I : Hp), vs = [.ref r] ∧ Hs ((r, rowO a i m) :: L) I H ∧ RowOk K I a i ∧
  ∀ H' i' m' (n : Nat), Hs ((r, rowO a i' m') :: L) I H' → RowOk K I a i' → 4 ≤ n → n ≤ 64 → Q (.int n) H'
section
variable {P : Program} {w : World} {K : PySem.W.Frag} {mg : Str → Option Value} {base : Heap}
theorem ok_l_many (T : Tx K mg) : Ok P w K mg base 2 (a_l_many K) p_l_many (sp_l_many K) := by
  have G_l_taken := ok_taken (P := P) (w := w) (base := base) T
  refine ok_of T.d_l_many sc_l_many bd_l_many (fun vs H Q E h => ?_) (fun cdv A outer s H vs Q E hr tk po h => ?_)
  · obtain ⟨r, a, i, m, L, I, rfl, _⟩ := h
    rfl
  · obtain ⟨r, a, i, m, L, I, rfl, h, ro, q⟩ := h
    refine ⟨_, (pss_one (ps_ret (pe_op op_add pe_int (pe_callO G_l_taken (hr.mono (by first | decide | omega)) T.g_l_taken (L2N.passAt tk) (pa_cons (pv 0) (pa_cons (pe_ix ix_list (pe_lst (pa_cons pe_int (pa_cons pe_int pa_nil))) (pe_callO G_l_taken (hr.mono (by first | decide | omega)) T.g_l_taken (L2N.passAt tk) (pa_cons (pv 0) (pa_cons pe_int pa_nil))) (fun _ _ => rfl)) pa_nil)))))), ?_⟩
    refine ⟨_, rfl, szl (by simp), fun p hp => ?_⟩
    have h1 := (h.newM (o := .lst (([5, 61] : List Int).map V.int)) hp).m1
    refine ⟨_, rfl, r, a, i, m, 2, _, I, rfl, h1, ro, by decide, fun H1 i1 m1 v1 h2 ro1 lo hi => ?_⟩
    obtain ⟨x, ex, hx⟩ := at2 (x := .int 5) (y := .int 61) lo hi
    obtain ⟨c, rfl, hc⟩ : ∃ c, x = .int c ∧ 0 < c ∧ c ≤ 61 := by
      rcases hx with e | e
      · exact ⟨5, e, by decide, by decide⟩
      · exact ⟨61, e, by decide, by decide⟩
    refine ⟨p, _, _, _, rfl, rfl, sqm h2.g1, ex, ?_⟩
    refine ⟨r, a, i1, m1, c, _, I, rfl, h2, ro1, hc.1, fun H2 i2 m2 v2 h3 ro2 lo2 hi2 => ?_⟩
    refine ⟨_, _, rfl, rfl, ?_⟩
    obtain ⟨n, rfl⟩ : ∃ n : Nat, v2 = (n : Int) := ⟨v2.toNat, by omega⟩
    have e : (4 : Int) + (n : Int) = ((4 + n : Nat) : Int) := by omega
    show Ends.rt _ (V.int ((4 : Int) + (n : Int))) _
    rw [e]
    exact q _ _ _ (4 + n) h3.m1.drop ro2 (by omega) (by omega)
end
end RL
namespace RL
open PySem PySem.Spec PyProof.Rows L2
def sp_Disk_init (K : PySem.W.Frag) : Sp := fun vs H Q E => ∃ (d dx : Addr) (v : V) (t : String) (L : ML) (I : Hp), vs = [.ref d, v] ∧ Hs ((d, .ins (He.ga K "Disk") dx []) :: L) I H ∧ TyOf K H v (.type t) ∧
  (∀ n : Nat, v = .int n → 4 ≤ n → n ≤ 64 → ∀ H' I' k xs, Same I I' → Hs ((d, dskO K dx k (freshD n)) :: (k, .lst xs) :: L) I' H' → DskOk I' xs (freshD n) → Q .non H') ∧ (isWh v 4 64 = false → E (.ref (He.ga K "BadDisk")) none H)
theorem rp8 {I : Hp} {a : Addr} (h : I a = some (.lst (List.replicate (8 : Int).toNat [V.int 0]).flatten)) : Rp I (.ref a) (dI (List.replicate 8 0)) := Rp.dI_mk (ns := List.replicate 8 0) h
section
variable {P : Program} {w : World} {K : PySem.W.Frag} {mg : Str → Option Value} {base : Heap}
theorem ok_Disk_init (T : Tx K mg) : Ok P w K mg base 2 (a_Disk_init K) p_Disk_init (sp_Disk_init K) := by
  have G_is_whole := ok_is_whole (P := P) (w := w) (base := base) T
  refine ok_of T.d_Disk_init sc_Disk_init bd_Disk_init (fun vs H Q E h => ?_) (fun cdv A outer s H vs Q E hr tk po h => ?_)
  · obtain ⟨d, dx, v, t, L, I, rfl, _⟩ := h
    rfl
  · obtain ⟨d, dx, v, t, L, I, rfl, h, ht, q1, q2⟩ := h
    refine ⟨_, (pss_cons (ps_if (pt_not (pt_val (pe_callO G_is_whole (hr.mono (by first | decide | omega)) T.g_is_whole (L2N.passAt tk) (pa_cons (pv 1) (pa_cons (pe_glob (v := .int 4) rfl T.i_LEAST_BLOCKS.choose_spec ⟨_, rfl⟩) (pa_cons (pe_glob (v := .int 64) rfl T.i_MOST_BLOCKS.choose_spec ⟨_, rfl⟩) pa_nil))))))
    (pss_one (L2N.ps_raise rfl tk (L2N.pmk_own PySem.F.excBase_ValueError T.x_BadDisk.1 T.g_BadDisk T.x_BadDisk.2.1 (raises_own T.x_BadDisk.2.2.1 T.x_BadDisk.2.2.2) rfl)))
    pss_nil)
    (pss_cons (ps_fld (pv 0) (pe_lc (own := [("place", 2)]) rfl sc_Disk_init.nd (pi_range1 (by rfl) T.b_range (pa_cons (pv 1) pa_nil)) (blkOk_by (own := [("place", 2)]) (N := n_Disk_init) (sc := defScope s_Disk_init) (by decide +kernel)) (fun _ _ _ _ _ => (pg_name (i := 2) sc_Disk_init.nd rfl (Or.inl rfl))) (fun _ _ _ _ _ => pts_nil) (fun _ _ _ _ _ => (pe_op op_rep (pe_lst (pa_cons pe_int pa_nil)) (pe_glob (v := .int 8) rfl T.i_WORDS.choose_spec ⟨_, rfl⟩)))) rfl)
    (pss_cons (ps_fld (pv 0) pe_int rfl)
    (pss_cons (ps_fld (pv 0) pe_int rfl)
    (pss_cons (ps_fld (pv 0) pe_non rfl)
    (pss_one (ps_fld (pv 0) pe_int rfl))))))), ?_⟩
    refine ⟨_, rfl, v, 4, 64, t, rfl, ht, ?_⟩
    refine ⟨_, rfl, ?_⟩
    cases e : isWh v 4 64 with
    | false => exact q2 e
    | true =>
      obtain ⟨i, rfl, l1, l2⟩ := isWh_inv e
      obtain ⟨n, rfl⟩ : ∃ n : Nat, i = (n : Int) := ⟨i.toNat, by omega⟩
      refine ⟨_, rfl, n, rfl, by omega, by omega, fun D hD => ?_⟩
      refine lc_range (lo := 0) (fun i H' => ∃ I' acc, Same I I' ∧ Hs ((D, .lst acc) :: (d, .ins (He.ga K "Disk") dx []) :: L) I' H' ∧ RpA I' acc (List.replicate i (dI (List.replicate 8 0)))) ⟨I, [], Same.refl I, h.newM hD, .nil⟩ ?_ ?_
      · rintro i H1 hi ⟨I1, acc, s1, h1, r1⟩
        refine ⟨rfl, szl (by simp), fun p1 hp1 => ?_⟩
        have h2 := h1.junk (o := .lst [.int 0]) hp1
        refine ⟨p1, 8, _, rfl, rfl, upd_same, by decide, by decide, szl (by simp), fun p2 hp2 => ?_⟩
        obtain ⟨I2, s2, e2, h3⟩ := h2.put hp2 (.lst (List.replicate (8 : Int).toNat [V.int 0]).flatten)
        refine ⟨acc, h3.g0, szlt ?_, I2, acc ++ [.ref p2], s1.trans s2, h3.set0, ?_⟩
        · rw [r1.length, List.length_replicate]
          have : (n : Int) ≤ 64 := l2
          omega
        · rw [List.replicate_succ']
          exact (r1.mono s2).snoc (rp8 e2)
      · rintro H1 ⟨I1, acc, s1, h1, r1⟩
        refine ⟨_, rfl, d, _, dx, _, rfl, h1.g1, T.c_Disk, T.n_Disk_kept, (by simp), ?_⟩
        have h2 := (h1.m1).set0 (o' := .ins (He.ga K "Disk") dx [("kept", .ref D)])
        refine ⟨_, rfl, d, _, dx, _, rfl, h2.g0, T.c_Disk, T.n_Disk_read_count, (by simp), ?_⟩
        have h3 := h2.set0 (o' := .ins (He.ga K "Disk") dx [("kept", .ref D), ("read_count", .int 0)])
        refine ⟨_, rfl, d, _, dx, _, rfl, h3.g0, T.c_Disk, T.n_Disk_write_count, (by simp), ?_⟩
        have h4 := h3.set0 (o' := .ins (He.ga K "Disk") dx [("kept", .ref D), ("read_count", .int 0), ("write_count", .int 0)])
        refine ⟨_, rfl, d, _, dx, _, rfl, h4.g0, T.c_Disk, T.n_Disk_left, (by simp), ?_⟩
        have h5 := h4.set0 (o' := .ins (He.ga K "Disk") dx [("kept", .ref D), ("read_count", .int 0), ("write_count", .int 0), ("left", .non)])
        refine ⟨_, rfl, d, _, dx, _, rfl, h5.g0, T.c_Disk, T.n_Disk_part, (by simp), ?_⟩
        have h6 : Hs ((d, dskO K dx D (freshD n)) :: (D, .lst acc) :: L) I1 _ := h5.set0
        exact q1 n rfl (by omega) (by omega) _ I1 D acc s1 h6 (freshD_ok r1 (by omega) (by omega))
end
end RL
namespace RL
open PySem PySem.Spec PyProof.Rows L2
/-- the law's promise: a list of ints is handed in, True comes out -/
def sp_law (K : PySem.W.Frag) : Sp := fun vs H Q _ => ∃ (a : Addr) (ns : List Int), vs = [.ref a] ∧ SqL K H a (ns.map V.int) ∧ ∀ H', Q (.bl true) H'
end RL
namespace RL
open PySem PySem.Spec PyProof.Rows L2
def lawLevel : Nat := 7
section
variable {P : Program} {w : World} {K : PySem.W.Frag} {mg : Str → Option Value} {base : Heap}
theorem fn_law (T : Tx K mg) {fd : FuncData} (F : FunD K "law" "law" (defArgs s_law) (defBody s_law) (defScope s_law) [] [] (a_law K) fd) : FnOk P w K mg base (L2N.CX P w) 7 (a_law K) fd p_law (sp_law K) := by
  have G_l_taken := ok_taken (P := P) (w := w) (base := base) T
  have G_l_many := ok_l_many (P := P) (w := w) (base := base) T
  have G_l_laid := ok_l_laid (P := P) (w := w) (base := base) T
  have G_l_torn := ok_l_torn (P := P) (w := w) (base := base) T
  have G_l_asked := ok_l_asked (P := P) (w := w) (base := base) T
  have G_Disk_init := ok_Disk_init (P := P) (w := w) (base := base) T
  refine fnok_of F sc_law (fun vs H Q E h => ?_) (fun cdv A outer s0 H vs Q E hr tk po h => ?_)
  · obtain ⟨a, ns, rfl, _⟩ := h
    rfl
  · obtain ⟨a, ns, rfl, hS, q⟩ := h
    refine ⟨_, (pss_cons (ps_set (i := 1) sc_law.nd rfl (Or.inl rfl) (pe_lst (pa_cons (pv 0) (pa_cons pe_int (pa_cons pe_int pa_nil)))))
    (pss_cons (ps_set (i := 2) sc_law.nd rfl (Or.inl rfl) (pe_callO G_l_many (hr.mono (by first | decide | omega)) T.g_l_many (L2N.passAt tk) (pa_cons (pv 1) pa_nil)))
    (pss_cons (ps_set (i := 3) sc_law.nd rfl (Or.inl rfl) (pe_makeO T.mk_Disk G_Disk_init (hr.mono (by first | decide | omega)) T.g_Disk (L2N.passAt tk) (pa_cons (pv 2) pa_nil)))
    (pss_cons (ps_set (i := 4) sc_law.nd rfl (Or.inl rfl) (pe_ix ix_list (pe_lst (pa_cons (pv 2) (pa_cons (pe_op op_mul pe_int (pv 2)) (pa_cons pe_int pa_nil)))) (pe_callO G_l_taken (hr.mono (by first | decide | omega)) T.g_l_taken (L2N.passAt tk) (pa_cons (pv 1) (pa_cons pe_int pa_nil))) (fun _ _ => rfl)))
    (pss_cons (ps_set (i := 5) sc_law.nd rfl (Or.inl rfl) (pe_op op_add (pe_op op_sub (pv 2) pe_int) (pe_callO G_l_taken (hr.mono (by first | decide | omega)) T.g_l_taken (L2N.passAt tk) (pa_cons (pv 1) (pa_cons (pv 4) pa_nil)))))
    (pss_cons (ps_for po rfl (pi_range2 (by rfl) T.b_range (pa_cons (pe_callB (call_max2 rfl) (by rfl) T.b_max boot_max (pa_cons (pv 2) (pa_cons (pe_op op_add (pe_op op_sub (pv 5) (pv 2)) pe_int) pa_nil))) (pa_cons (pe_op op_add (pv 5) pe_int) pa_nil))) (pg_name (i := 6) sc_law.nd rfl (Or.inl rfl))
    (pss_one (ps_expr (pe_callO G_l_laid (hr.mono (by first | decide | omega)) T.g_l_laid (L2N.passAt tk) (pa_cons (pv 1) (pa_cons (pv 3) (pa_cons (pv 6) pa_nil)))))))
    (pss_cons (ps_for po rfl (pi_range1 (by rfl) T.b_range (pa_cons pe_int pa_nil)) (pg_name (i := 7) sc_law.nd rfl (Or.inl rfl))
    (pss_cons (ps_if (pt_not (pt_val (pe_callO G_l_asked (hr.mono (by first | decide | omega)) T.g_l_asked (L2N.passAt tk) (pa_cons (pv 3) (pa_cons (pe_tup (pa_cons (pv 5) (pa_cons pe_non pa_nil))) pa_nil)))))
    (pss_one (ps_ret pe_bl))
    pss_nil)
    (C8.pss_cut (ps_if (pt_cmpR op_eq (pe_callO G_l_taken (hr.mono (by first | decide | omega)) T.g_l_taken (L2N.passAt tk) (pa_cons (pv 1) (pa_cons pe_int pa_nil))) pe_int (nomark _))
    (pss_cons (ps_set (i := 8) sc_law.nd rfl (Or.inl rfl) (pe_callO G_l_torn (hr.mono (by first | decide | omega)) T.g_l_torn (L2N.passAt tk) (pa_cons (pv 1) (pa_cons (pv 3) (pa_cons (pe_op op_add (pv 5) pe_int) pa_nil)))))
    (pss_one (ps_if (pt_not (pt_val (pe_callO G_l_asked (hr.mono (by first | decide | omega)) T.g_l_asked (L2N.passAt tk) (pa_cons (pv 3) (pa_cons (pe_tup (pa_cons (pv 5) (pa_cons (pv 8) pa_nil))) pa_nil)))))
    (pss_one (ps_ret pe_bl))
    pss_nil)))
    pss_nil)
    (pss_cons (ps_set (i := 5) sc_law.nd rfl (Or.inl rfl) (pe_op op_add (pv 5) pe_int))
    (pss_one (ps_expr (pe_callO G_l_laid (hr.mono (by first | decide | omega)) T.g_l_laid (L2N.passAt tk) (pa_cons (pv 1) (pa_cons (pv 3) (pa_cons (pv 5) pa_nil))))))))))
    (pss_one (ps_ret (pe_callO G_l_asked (hr.mono (by first | decide | omega)) T.g_l_asked (L2N.passAt tk) (pa_cons (pv 3) (pa_cons (pe_tup (pa_cons (pv 5) (pa_cons pe_non pa_nil))) pa_nil)))))))))))), ?_⟩
    have hn : ∀ m i j : Int, CMul i j ∨ True := fun _ _ _ => .inr trivial
    have h0 := Hs.start H
    refine ⟨_, rfl, szl (by simp), fun r hr1 => ?_⟩
    have h1 := h0.newM (o := rowO a 0 0) hr1
    have ro : RowOk K H a 0 := ⟨⟨ns, hS⟩, by decide⟩
    dsimp only [List.set]
    refine ⟨_, rfl, r, a, 0, 0, _, H, rfl, h1, ro, fun H2 i2 m2 n h2 ro2 l4 l64 => ?_⟩
    dsimp only [List.set]
    refine ⟨_, rfl, fun d dx hd hdx ne => ?_⟩
    have h3 := (h2.junk (o := .own d) hdx).newM (o := .ins (He.ga K "Disk") dx []) (upd_none hd ne)
    refine ⟨d, dx, .int n, "int", _, H, rfl, h3, .int _, fun n' en _ _ H4 I4 k xs s4 h4 ok4 => ⟨rfl, ?_⟩, fun e => ?_⟩
    · obtain rfl : n = n' := Int.ofNat.inj (V.int.inj en)
      dsimp only [List.set]
      have lk : (freshD n).kept.length = n := List.length_replicate
      have h5 := h4.m2
      have ro4 := ro2.mono s4
      refine ⟨_, rfl, _, rfl, 3, _, rfl, rfl, .inl ⟨by decide, by decide⟩, szl (by simp), fun p hp => ?_⟩
      have h6 := (h5.newM (o := .lst (([(n : Int), 3 * n, 5000000] : List Int).map V.int)) hp).m1
      refine ⟨_, rfl, r, a, i2, m2, 3, _, I4, rfl, h6, ro4, by decide, fun H5 i5 m5 v5 h7 ro5 lo5 hi5 => ?_⟩
      obtain ⟨x, ex, hx⟩ := at3 (x := .int n) (y := .int (3 * n)) (z := .int 5000000) lo5 hi5
      obtain ⟨far, rfl, hf⟩ : ∃ c, x = .int c ∧ 0 < c ∧ c ≤ 5000000 := by
        rcases hx with e | e | e
        · exact ⟨n, e, by omega, by omega⟩
        · exact ⟨3 * n, e, by omega, by omega⟩
        · exact ⟨5000000, e, by decide, by decide⟩
      refine ⟨p, _, _, _, rfl, rfl, sqm h7.g1, ex, ?_⟩
      dsimp only [List.set]
      have h8 := h7.m1.drop
      refine ⟨_, rfl, _, 1, rfl, rfl, _, rfl, _, rfl, r, a, i5, m5, far, _, I4, rfl, h8, ro5, hf.1, fun H6 i6 m6 v6 h9 ro6 lo6 hi6 => ?_⟩
      refine ⟨_, _, rfl, rfl, ?_⟩
      obtain ⟨N0, hN0⟩ : ∃ N0 : Int, N0 = (n : Int) - 1 + v6 := ⟨_, rfl⟩
      show Ends.nx _ (List.set _ _ (some (V.int ((n : Int) - 1 + v6)))) _
      rw [← hN0]
      dsimp only [List.set]
      refine ⟨_, rfl, _, rfl, _, rfl, _, _, rfl, rfl, _, 1, rfl, rfl, _, _, rfl, ?_⟩
      obtain ⟨k0, hk0⟩ : ∃ k0 : Int, k0 = (if N0 - n + 1 > n then N0 - n + 1 else (n : Int)) := ⟨_, rfl⟩
      have hk1 : (k0 = n ∧ N0 - n + 1 ≤ n) ∨ (k0 = N0 - n + 1 ∧ n ≤ k0) := by
        rw [hk0]
        split <;> omega
      refine ⟨_, rfl, _, 1, rfl, rfl, k0, N0 + 1, by rw [hk0], by omega, for_range (lo := k0) (fun j σ H' => ∃ (I' : Hp) (i' m' : Int) (xs' : List V) (s' : DS) (z6 z7 z8 : Option V), σ = [some (.ref a), some (.ref r), some (.int n), some (.ref d), some (.int far), some (.int N0), z6, z7, z8] ∧
        Hs ((r, rowO a i' m') :: (d, dskO K dx k s') :: (k, .lst xs') :: []) I' H' ∧ DskOk I' xs' s' ∧ RowOk K I' a i' ∧ s'.left = none ∧ s'.kept.length = n ∧ LayA s'.kept k0 (k0 + (j : Nat) - 1)) ?_ ?_ ?_⟩
      · exact ⟨I4, i6, m6, xs, freshD n, none, none, none, rfl, h9, ok4, ro6, rfl, lk, layA_fresh l4 (by omega)⟩
      · rintro j σ H7 hj ⟨I7, i7, m7, xs7, s7, z6, z7, z8, rfl, h7, ok7, ro7, sl, l7, ly⟩
        dsimp only [List.set]
        refine ⟨_, rfl, _, rfl, _, rfl, r, a, i7, m7, d, dx, k, s7, xs7, k0 + (j : Nat), [], I7, rfl, h7, ok7, ro7, by omega, by omega, fun H8 I8 i8 m8 xs8 q8 b s8 e8 b8 bh bt h8 ok8 ro8 => ⟨fun z => ?_, fun _ => ?_⟩⟩
        · rw [sl] at z
          cases z
        · rw [wrS_none sl] at h8 ok8
          refine ⟨I8, i8, m8, xs8, _, _, z7, z8, rfl, h8, ok8, ro8, sl, ?_, ?_⟩
          · show (s7.kept.set q8 b).length = n
            rw [List.length_set, l7]
          · have e : k0 + (j : Nat) = (k0 + (j : Nat) - 1) + 1 := by omega
            have := ly.wr (w := b) (q := q8) (by omega) (by rw [← e]; exact e8) b8 (by rw [← e]; exact bh) (by rw [← e]; exact bt)
            rw [← e] at this
            have e2 : k0 + ((j + 1 : Nat) : Int) - 1 = k0 + (j : Nat) := by omega
            rw [e2]
            exact this
      · rintro σ H7 ⟨I7, i7, m7, xs7, s7, z6, z7, z8, rfl, h7, ok7, ro7, sl, l7, ly⟩
        have e : k0 + ((N0 + 1 - k0).toNat : Int) - 1 = N0 := by omega
        rw [e] at ly
        have ly7 := ly.lay (by rw [l7]; omega) (by rw [l7]; omega)
        refine ⟨13, rfl, by decide, by decide, for_range (lo := 0) (fun j σ H' => ∃ (I' : Hp) (i' m' : Int) (xs' : List V) (s' : DS) (N : Int) (z6 z7 z8 : Option V), σ = [some (.ref a), some (.ref r), some (.int n), some (.ref d), some (.int far), some (.int N), z6, z7, z8] ∧
          Hs ((r, rowO a i' m') :: (d, dskO K dx k s') :: (k, .lst xs') :: []) I' H' ∧ DskOk I' xs' s' ∧ RowOk K I' a i' ∧ s'.left = none ∧ s'.kept.length = n ∧ Lay s'.kept N none ∧ N ≤ N0 + (j : Nat)) ⟨I7, i7, m7, xs7, s7, N0, z6, z7, z8, rfl, h7, ok7, ro7, sl, l7, ly7, by omega⟩ ?_ ?_⟩
        · rintro j σ H1 hj ⟨I1, i1, m1, xs1, s1, N, z6, z7, z8, rfl, h1, ok1, ro1, sl1, l1, ly1, hN⟩
          have hj : j < 13 := hj
          have gN := ly1.ge
          dsimp only [List.set]
          refine ⟨_, rfl, _, rfl, szl (by simp), fun t ht => ?_⟩
          obtain ⟨I2, S2, e2, h2⟩ := h1.put ht (.tup [.int N, .non])
          refine ⟨d, dx, k, s1, xs1, N, none, .ref t, _, I2, rfl, h2.n2, ok1.mono S2, ly1, rp_new (tn := none) e2, fun H3 c3 h3 => ⟨true, rfl, ?_⟩⟩
          have h3 := h3.m2
          refine ⟨fun σ' H' => ∃ (I' : Hp) (i' m' : Int) (xs' : List V) (s' : DS) (tn : Option Int) (z8 : Option V), σ' = [some (.ref a), some (.ref r), some (.int n), some (.ref d), some (.int far), some (.int N), z6, some (.int (0 + (j : Nat))), z8] ∧
            Hs ((r, rowO a i' m') :: (d, dskO K dx k s') :: (k, .lst xs') :: []) I' H' ∧ DskOk I' xs' s' ∧ RowOk K I' a i' ∧ s'.left = none ∧ s'.kept.length = n ∧ Lay s'.kept N tn, ?_, ?_⟩
          · refine ⟨_, rfl, r, a, i1, m1, 2, _, I2, rfl, h3, ro1.mono S2, by decide, fun H4 i4 m4 v4 h4 ro4 _ _ => ⟨rfl, _, rfl, if_d (fun _ => ?_) (fun _ => ?_)⟩⟩
            · refine ⟨_, rfl, _, rfl, _, rfl, _, 1, rfl, rfl, r, a, i4, m4, d, dx, k, _, xs1, N, [], I2, rfl, h4, (ok1.mono S2).same rfl ok1.p0, ro4, by omega, by omega, ly1, sl1, fun H5 I5 i5 m5 xs5 s5 tn S5 l5 sl5 h5 ok5 ro5 ly5 => ?_⟩
              dsimp only [List.set]
              have l5 : s5.kept.length = s1.kept.length := l5
              refine ⟨_, rfl, _, rfl, _, rfl, szl (by simp), fun t6 ht6 => ?_⟩
              obtain ⟨I6, S6, e6, h6⟩ := h5.put ht6 (.tup [.int N, optV tn])
              refine ⟨d, dx, k, s5, xs5, N, tn, .ref t6, _, I6, rfl, h6.n2, ok5.mono S6, ly5, rp_new e6, fun H7 c7 h7 => ⟨true, rfl, ?_⟩⟩
              exact ⟨I6, i5, m5, xs5, _, tn, _, rfl, h7.m2, (ok5.mono S6).same rfl ok5.p0, ro5.mono S6, sl5, by rw [← l1, ← l5]; rfl, ly5⟩
            · exact ⟨I2, i4, m4, xs1, _, none, z8, rfl, h4, (ok1.mono S2).same rfl ok1.p0, ro4, sl1, l1, ly1⟩
          · rintro σ H5 ⟨I5, i5, m5, xs5, s5, tn, z8, rfl, h5, ok5, ro5, sl5, l5, ly5⟩
            refine ⟨_, rfl, _, 1, rfl, rfl, ?_⟩
            dsimp only [List.set]
            refine ⟨_, rfl, _, rfl, _, rfl, r, a, i5, m5, d, dx, k, s5, xs5, N + 1, [], I5, rfl, h5, ok5, ro5, by omega, by omega, fun H8 I8 i8 m8 xs8 q8 b s8 e8 b8 bh bt h8 ok8 ro8 => ⟨fun z => ?_, fun _ => ?_⟩⟩
            · rw [sl5] at z
              cases z
            · rw [wrS_none sl5] at h8 ok8
              refine ⟨I8, i8, m8, xs8, _, N + 1, z6, _, z8, rfl, h8, ok8, ro8, sl5, ?_, ly5.wr (w := b) (q := q8) e8 b8 bh bt, by omega⟩
              show (s5.kept.set q8 b).length = n
              rw [List.length_set, l5]
        · rintro σ H1 ⟨I1, i1, m1, xs1, s1, N, z6, z7, z8, rfl, h1, ok1, ro1, sl1, l1, ly1, hN⟩
          refine ⟨_, rfl, _, rfl, szl (by simp), fun t ht => ?_⟩
          obtain ⟨I2, S2, e2, h2⟩ := h1.put ht (.tup [.int N, .non])
          refine ⟨d, dx, k, s1, xs1, N, none, .ref t, _, I2, rfl, h2.n2, ok1.mono S2, ly1, rp_new (tn := none) e2, fun H3 c3 h3 => q _⟩
    · rw [isWh_int (by omega) (by omega)] at e
      cases e
end
end RL
namespace RL
open PySem PySem.Spec PyProof.Rows L2
abbrev Rw : PySem.W.OpenRow := PySem.W.OpenLaw.row PySem.Challenge.rw_ringlog_k04_whole_the_newest_in_few_read
abbrev hk : PySem.W.Hook := He.hookD 6 fa fn
def ob (s : PySem.W.SharedT) : He.AlD := He.obsDG 6 fa fn (HandSHeadRun.getT s)
theorem ob_eq (s : PySem.W.SharedT) : ob s = hk.obs s.abs := He.obsDG_eq (HandSHeadRun.getT_eq s)
theorem run (w : World) : HandSHeadRun.RunEq Rw (PySem.W.view Rw.prog [30]) hk ob 20000 ["_wall", "kind", "most_reads", "last_of_round", "newest", "LogError", "BadDisk", "NoBlock", "BadBlock", "BadStop", "Stopped", "is_whole", "are_words", "Disk", "_law_taken", "_law_most", "_law_alike", "_law_many", "_law_laid", "_law_torn", "_law_asked", "LEAST_BLOCKS", "MOST_BLOCKS", "WORDS", "MOST_WORD"] w := by
  intro os
  kernel_rfl
theorem facts {P : Program} {w : World} {K : PySem.W.Frag} {h : Heap} {mg : Str → Option Value} {f : Addr} (X : K.In h) (G : h.Ns mainGlobals mg) (hfa : mg ("law" : Str) = some (.ref f)) (c : He.SaysD fa fn K) :
    ∃ fd : FuncData, (∀ (s : Shared) (v : Value), BindsTo s fd ⟨[v], []⟩ [("_law_script", v)]) ∧ ∀ base : Heap, K.In base → base.Ns mainGlobals mg → FnOk P w K mg base CX0 lawLevel f fd ["_law_script"] (sp_law K) := by
  have T := Tx.of X G c
  obtain ⟨fd, F⟩ := T.d_law
  have e := hfa.symm.trans T.g_law
  cases e
  have b := FunD.bindsA (ps := ["_law_script"]) F fun _ _ _ _ _ _ us hl => match us, hl with | [_], _ => rfl
  exact ⟨fd, fun s v => b s [v] rfl, fun base _ _ => fn_cx0 (fn_law T F) fun _ _ _ _ h => h⟩
end RL
open PySem PySem.W PySem.Calls PyProof.Rows
set_option maxRecDepth 100000 in
set_option maxHeartbeats 0 in
theorem PySem.Challenge.cw_ringlog_k04_whole_the_newest_in_few_read_holds : PySem.Challenge.rw_ringlog_k04_whole_the_newest_in_few_read.Holds := by
  w_on; o_law
  refine HandSHeadRun.head_any (r := OpenLaw.row PySem.Challenge.rw_ringlog_k04_whole_the_newest_in_few_read) (q := view (OpenLaw.row PySem.Challenge.rw_ringlog_k04_whole_the_newest_in_few_read).prog [30]) (H := RL.hk) (ob := RL.ob) (M := 20000) (loose := ["_wall", "kind", "most_reads", "last_of_round", "newest", "LogError", "BadDisk", "NoBlock", "BadBlock", "BadStop", "Stopped", "is_whole", "are_words", "Disk", "_law_taken", "_law_most", "_law_alike", "_law_many", "_law_laid", "_law_torn", "_law_asked", "LEAST_BLOCKS", "MOST_BLOCKS", "WORDS", "MOST_WORD"]) (d := HandSHeadRun.topDef (OpenLaw.row PySem.Challenge.rw_ringlog_k04_whole_the_newest_in_few_read).prog 30) (kwd := []) RL.ob_eq
    (by kernel_rfl) (fun s => by kernel_rfl) RL.run (by kernel_rfl) (by kernel_rfl) (by kernel_rfl) (by rfl) (by first | assumption | decide +kernel) (by decide +kernel) ⟨rfl, rfl, rfl, rfl, rfl, by decide +kernel⟩ ?hw ?hc
  case hw => w_witness2
  case hc =>
    refine L2.walk_ofE (l := PySem.Challenge.rw_ringlog_k04_whole_the_newest_in_few_read) (n := 63) (k := RL.lawLevel) (x := "_law_script") (CX := L2.CX0) rfl (by decide) (by kernel_rfl) ⟨rfl, by decide, by decide⟩ ?F (fun _ _ _ _ z => z)
    intro w mg fa h Y G hmg0
    obtain ⟨K, KX, c⟩ := Y
    have hmg : mg ("law" : PySem.Str) = some (.ref fa) := by
      have e : (HandSHeadRun.topDef (OpenLaw.row PySem.Challenge.rw_ringlog_k04_whole_the_newest_in_few_read).prog 30).name = ("law" : PySem.Str) := by kernel_rfl
      rw [← e]
      exact hmg0
    obtain ⟨fd, hb, hF⟩ := RL.facts (P := (PySem.Challenge.rw_ringlog_k04_whole_the_newest_in_few_read).prog) (w := w) KX G hmg c
    exact ⟨K, fd, RL.sp_law K, KX, hb, fun H a ns hl _ hS => ⟨a, ns, rfl, hS, fun _ => rfl⟩, hF⟩

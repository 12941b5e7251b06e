import PyProof.Rows.All
import Wide.All
import OpenK.AllK
import Wide.FinOn
import HandS.ForMost
import HandS.ForExc
import HandS.IsInst
import HandS.SetKeys
import HandS.TryMany
import HandS.Deep
import HandS.Defaults
import HandS.HeadHook2
import HandS.Head2
import HandS.HeadEnd
import PySem.Challenge.RW_ringlog_k05_how_many_reads
set_option Elab.async false
set_option linter.all false
set_option maxRecDepth 100000
set_option maxHeartbeats 4000000
/-! RL0: frozen data (Rp), the symbolic heap (Hs: mutable points L, frozen part I), and their lemmas. -/
namespace RL
open PySem PySem.Spec PyProof.Rows L2

/-! ### frozen data -/
mutual
inductive Rp (I : Hp) : V → PyData → Prop
  | non : Rp I .non .none
  | bl (b : Bool) : Rp I (.bl b) (.bool b)
  | int (i : Int) : Rp I (.int i) (.int i)
  | str (x : Str) : Rp I (.str x) (.str x)
  | lst {a : Addr} {xs : List V} {ds : List PyData} : I a = some (.lst xs) → RpA I xs ds → Rp I (.ref a) (.list ds)
  | tup {a : Addr} {xs : List V} {ds : List PyData} : I a = some (.tup xs) → RpA I xs ds → Rp I (.ref a) (.tuple ds)
inductive RpA (I : Hp) : List V → List PyData → Prop
  | nil : RpA I [] []
  | cons {v : V} {vs : List V} {d : PyData} {ds : List PyData} : Rp I v d → RpA I vs ds → RpA I (v :: vs) (d :: ds)
end

section
variable {I I' : Hp} {K : PySem.W.Frag}
mutual
theorem Rp.mono (s : Same I I') : ∀ {d : PyData} {v : V}, Rp I v d → Rp I' v d
  | .none, _, h => by cases h; exact .non
  | .bool b, _, h => by cases h; exact .bl b
  | .int i, _, h => by cases h; exact .int i
  | .str x, _, h => by cases h; exact .str x
  | .list ds, _, h => by
    cases h with
    | lst e r => exact .lst (s _ _ e) (RpA.mono s r)
  | .tuple ds, _, h => by
    cases h with
    | tup e r => exact .tup (s _ _ e) (RpA.mono s r)
  | .dict _, _, h => by cases h
theorem RpA.mono (s : Same I I') : ∀ {ds : List PyData} {vs : List V}, RpA I vs ds → RpA I' vs ds
  | [], _, h => by cases h; exact .nil
  | d :: ds, _, h => by
    cases h with
    | cons h1 h2 => exact .cons (Rp.mono s h1) (RpA.mono s h2)
end
mutual
theorem Rp.dp : ∀ {d : PyData} {v : V}, Rp I v d → Dp K I v d
  | .none, _, h => by cases h; exact .non
  | .bool b, _, h => by cases h; exact .bl b
  | .int i, _, h => by cases h; exact .int i
  | .str x, _, h => by cases h; exact .str x
  | .list ds, _, h => by
    cases h with
    | lst e r => exact .lst (.inl (.inl e)) (RpA.dp r)
  | .tuple ds, _, h => by
    cases h with
    | tup e r => exact .tup (.inl (.inl e)) (RpA.dp r)
  | .dict _, _, h => by cases h
theorem RpA.dp : ∀ {ds : List PyData} {vs : List V}, RpA I vs ds → DpAll K I vs ds
  | [], _, h => by cases h; exact .nil
  | d :: ds, _, h => by
    cases h with
    | cons h1 h2 => exact .cons (Rp.dp h1) (RpA.dp h2)
end
theorem RpA.length : ∀ {ds : List PyData} {vs : List V}, RpA I vs ds → vs.length = ds.length
  | [], _, h => by cases h; rfl
  | d :: ds, _, h => by
    cases h with
    | cons h1 h2 => simp [RpA.length h2]
theorem RpA.get : ∀ {ds : List PyData} {vs : List V} {i : Nat} {d : PyData}, RpA I vs ds → ds[i]? = some d → ∃ v, vs[i]? = some v ∧ Rp I v d
  | [], _, i, d, h, e => by simp at e
  | c :: ds, _, 0, d, h, e => by
    cases h with
    | cons h1 h2 =>
      simp at e
      subst e
      exact ⟨_, rfl, h1⟩
  | c :: ds, _, i + 1, d, h, e => by
    cases h with
    | cons h1 h2 =>
      obtain ⟨v, q, r⟩ := RpA.get (i := i) h2 (by simpa using e)
      exact ⟨v, by simpa using q, r⟩
theorem RpA.getV : ∀ {ds : List PyData} {vs : List V} {i : Nat} {v : V}, RpA I vs ds → vs[i]? = some v → ∃ d, ds[i]? = some d ∧ Rp I v d
  | [], _, i, v, h, e => by cases h; simp at e
  | c :: ds, _, 0, v, h, e => by
    cases h with
    | cons h1 h2 =>
      simp at e
      subst e
      exact ⟨_, rfl, h1⟩
  | c :: ds, _, i + 1, v, h, e => by
    cases h with
    | cons h1 h2 =>
      obtain ⟨d, q, r⟩ := RpA.getV (i := i) h2 (by simpa using e)
      exact ⟨d, by simpa using q, r⟩
theorem RpA.append : ∀ {ds es : List PyData} {vs ws : List V}, RpA I vs ds → RpA I ws es → RpA I (vs ++ ws) (ds ++ es)
  | [], _, _, _, h, g => by cases h; exact g
  | d :: ds, _, _, _, h, g => by
    cases h with
    | cons h1 h2 => exact .cons h1 (RpA.append h2 g)
theorem RpA.take : ∀ {ds : List PyData} {vs : List V} (n : Nat), RpA I vs ds → RpA I (vs.take n) (ds.take n)
  | _, _, 0, _ => by simpa using RpA.nil
  | [], _, n + 1, h => by cases h; simpa using RpA.nil
  | d :: ds, _, n + 1, h => by
    cases h with
    | cons h1 h2 => simpa using RpA.cons h1 (RpA.take n h2)
theorem RpA.drop : ∀ {ds : List PyData} {vs : List V} (n : Nat), RpA I vs ds → RpA I (vs.drop n) (ds.drop n)
  | _, _, 0, h => by simpa using h
  | [], _, n + 1, h => by cases h; simpa using RpA.nil
  | d :: ds, _, n + 1, h => by
    cases h with
    | cons h1 h2 => simpa using RpA.drop n h2
theorem RpA.set : ∀ {ds : List PyData} {vs : List V} {v : V} {d : PyData} (n : Nat), RpA I vs ds → Rp I v d → RpA I (vs.set n v) (ds.set n d)
  | [], _, _, _, n, h, _ => by cases h; simpa using RpA.nil
  | c :: ds, _, _, _, 0, h, g => by
    cases h with
    | cons h1 h2 => simpa using RpA.cons g h2
  | c :: ds, _, _, _, n + 1, h, g => by
    cases h with
    | cons h1 h2 => simpa using RpA.cons h1 (RpA.set n h2 g)
theorem RpA.snoc {ds : List PyData} {vs : List V} {v : V} {d : PyData} (h : RpA I vs ds) (g : Rp I v d) : RpA I (vs ++ [v]) (ds ++ [d]) := h.append (.cons g .nil)
/-- lists of ints -/
theorem RpA.ints : ∀ (ns : List Int), RpA I (ns.map V.int) (ns.map PyData.int)
  | [] => .nil
  | n :: ns => .cons (.int n) (RpA.ints ns)
theorem RpA.intsV : ∀ {ns : List Int} {vs : List V}, RpA I vs (ns.map PyData.int) → vs = ns.map V.int
  | [], _, h => by cases h; rfl
  | n :: ns, _, h => by
    cases h with
    | cons h1 h2 =>
      cases h1
      rw [RpA.intsV h2] <;> rfl
end
/-- a list of ints, of lists of ints -/
def dI (ns : List Int) : PyData := .list (ns.map .int)
def dII (nss : List (List Int)) : PyData := .list (nss.map dI)
theorem Rp.lstI {I : Hp} {v : V} {ds : List PyData} (h : Rp I v (.list ds)) : ∃ a vs, v = .ref a ∧ I a = some (.lst vs) ∧ RpA I vs ds := by
  cases h with
  | lst e r => exact ⟨_, _, rfl, e, r⟩
theorem Rp.tupI {I : Hp} {v : V} {ds : List PyData} (h : Rp I v (.tuple ds)) : ∃ a vs, v = .ref a ∧ I a = some (.tup vs) ∧ RpA I vs ds := by
  cases h with
  | tup e r => exact ⟨_, _, rfl, e, r⟩
theorem Rp.dI_inv {I : Hp} {v : V} {ns : List Int} (h : Rp I v (dI ns)) : ∃ a, v = .ref a ∧ I a = some (.lst (ns.map V.int)) := by
  obtain ⟨a, vs, e, h1, h2⟩ := Rp.lstI h
  rw [RpA.intsV h2] at h1
  exact ⟨a, e, h1⟩
theorem Rp.dI_mk {I : Hp} {a : Addr} {ns : List Int} (h : I a = some (.lst (ns.map V.int))) : Rp I (.ref a) (dI ns) := .lst h (RpA.ints ns)
theorem Rp.intI {I : Hp} {v : V} {i : Int} (h : Rp I v (.int i)) : v = .int i := by cases h; rfl
theorem Rp.strI {I : Hp} {v : V} {x : Str} (h : Rp I v (.str x)) : v = .str x := by cases h; rfl
theorem Rp.boolI {I : Hp} {v : V} {b : Bool} (h : Rp I v (.bool b)) : v = .bl b := by cases h; rfl
theorem Rp.noneI {I : Hp} {v : V} (h : Rp I v .none) : v = .non := by cases h; rfl

/-! ### the symbolic heap -/
abbrev ML := List (Addr × HO)
structure Hs (L : ML) (I H : Hp) : Prop where
  im : Same I H
  mu : ∀ x ∈ L, H x.1 = some x.2
  dj : ∀ x ∈ L, I x.1 = none
  nd : (L.map Prod.fst).Nodup
theorem same_upd {I : Hp} {p : Addr} {o : HO} (h : I p = none) : Same I (upd I p o) := fun b u e => by
  rw [upd_ne (ne_of_none e h)]
  exact e
theorem Hs.start (H : Hp) : Hs [] H H := ⟨Same.refl H, (fun _ h => nomatch h), (fun _ h => nomatch h), List.nodup_nil⟩
section
variable {L L' R : ML} {I H H' : Hp} {p q : Addr} {o o' u : HO} {x y z : Addr × HO}
theorem Hs.fr (h : Hs L I H) (hp : H p = none) : I p = none := h.im.free hp
theorem Hs.perm (h : Hs L I H) (e : L.Perm L') : Hs L' I H :=
  ⟨h.im, fun x hx => h.mu x (e.mem_iff.mpr hx), fun x hx => h.dj x (e.mem_iff.mpr hx), (e.map Prod.fst).nodup_iff.mp h.nd⟩
theorem Hs.grow (h : Hs L I H) (s : Same H H') : Hs L I H' := ⟨h.im.trans s, fun x hx => s _ _ (h.mu x hx), h.dj, h.nd⟩
theorem Hs.notin (h : Hs L I H) (hp : H p = none) : p ∉ L.map Prod.fst := fun hm => by
  obtain ⟨x, hx, e⟩ := List.mem_map.mp hm
  have := h.mu x hx
  rw [e, hp] at this
  cases this
theorem Hs.junk (h : Hs L I H) (hp : H p = none) : Hs L I (upd H p o) := h.grow (same_upd hp)
theorem Hs.newM (h : Hs L I H) (hp : H p = none) : Hs ((p, o) :: L) I (upd H p o) := by
  have s : Same H (upd H p o) := same_upd hp
  refine ⟨h.im.trans s, fun x hx => ?_, fun x hx => ?_, ?_⟩
  · rcases List.mem_cons.mp hx with rfl | hx
    · exact upd_same
    · exact s _ _ (h.mu x hx)
  · rcases List.mem_cons.mp hx with rfl | hx
    · exact h.fr hp
    · exact h.dj x hx
  · exact List.nodup_cons.mpr ⟨h.notin hp, h.nd⟩
theorem Hs.drop (h : Hs (x :: L) I H) : Hs L I H := ⟨h.im, fun y hy => h.mu y (.tail _ hy), fun y hy => h.dj y (.tail _ hy), (List.nodup_cons.mp h.nd).2⟩
theorem Hs.frz (h : Hs ((p, o) :: L) I H) : Hs L (upd I p o) H := by
  refine ⟨fun b u e => ?_, fun y hy => h.mu y (.tail _ hy), fun y hy => ?_, (List.nodup_cons.mp h.nd).2⟩
  · by_cases hb : b = p
    · subst hb
      rw [upd_same] at e
      rw [← e]
      exact h.mu _ (.head _)
    · rw [upd_ne hb] at e
      exact h.im b u e
  · rw [upd_ne fun e => (List.nodup_cons.mp h.nd).1 (List.mem_map.mpr ⟨y, hy, e⟩)]
    exact h.dj y (.tail _ hy)
theorem Hs.fr0 (h : Hs ((p, o) :: L) I H) : I p = none := h.dj _ (.head _)
theorem Hs.newI (h : Hs L I H) (hp : H p = none) : Hs L (upd I p o) (upd H p o) := (h.newM hp).frz
/-- a new frozen object -/
theorem Hs.put (h : Hs L I H) (hp : H p = none) (o : HO) : ∃ I', Same I I' ∧ I' p = some o ∧ Hs L I' (upd H p o) := ⟨_, same_upd (h.fr hp), upd_same, h.newI hp⟩
theorem Hs.ne (h : Hs L I H) (hx : I p = some o) (hy : (q, u) ∈ L) : p ≠ q := fun e => by
  subst e
  have := h.dj _ hy
  rw [hx] at this
  cases this
theorem Hs.set0 (h : Hs ((p, o) :: L) I H) : Hs ((p, o') :: L) I (upd H p o') := by
  have nd := List.nodup_cons.mp h.nd
  have ne : ∀ y ∈ L, y.1 ≠ p := fun y hy e => nd.1 (List.mem_map.mpr ⟨y, hy, e⟩)
  refine ⟨fun b u e => ?_, fun y hy => ?_, fun y hy => ?_, h.nd⟩
  · rw [upd_ne (h.ne e (.head _))]
    exact h.im b u e
  · rcases List.mem_cons.mp hy with rfl | hy
    · exact upd_same
    · rw [upd_ne (ne y hy)]
      exact h.mu y (.tail _ hy)
  · rcases List.mem_cons.mp hy with rfl | hy
    · exact h.fr0
    · exact h.dj y (.tail _ hy)
/-- the i-th point to the front -/
theorem Hs.m1 {a x : Addr × HO} (h : Hs (a :: x :: L) I H) : Hs (x :: a :: L) I H := h.perm (.swap _ _ _)
theorem Hs.m2 {a b x : Addr × HO} (h : Hs (a :: b :: x :: L) I H) : Hs (x :: a :: b :: L) I H := (h.perm (.cons _ (.swap _ _ _))).m1
theorem Hs.m3 {a b c x : Addr × HO} (h : Hs (a :: b :: c :: x :: L) I H) : Hs (x :: a :: b :: c :: L) I H := (h.perm (.cons _ (.cons _ (.swap _ _ _)))).m2
theorem Hs.m4 {a b c d x : Addr × HO} (h : Hs (a :: b :: c :: d :: x :: L) I H) : Hs (x :: a :: b :: c :: d :: L) I H := (h.perm (.cons _ (.cons _ (.cons _ (.swap _ _ _))))).m3
theorem Hs.m5 {a b c d e x : Addr × HO} (h : Hs (a :: b :: c :: d :: e :: x :: L) I H) : Hs (x :: a :: b :: c :: d :: e :: L) I H := (h.perm (.cons _ (.cons _ (.cons _ (.cons _ (.swap _ _ _)))))).m4
theorem Hs.n1 {a x : Addr × HO} (h : Hs (x :: a :: L) I H) : Hs (a :: x :: L) I H := h.m1
theorem Hs.n2 {a b x : Addr × HO} (h : Hs (x :: a :: b :: L) I H) : Hs (a :: b :: x :: L) I H := h.m1.perm (.cons _ (.swap _ _ _))
theorem Hs.n3 {a b c x : Addr × HO} (h : Hs (x :: a :: b :: c :: L) I H) : Hs (a :: b :: c :: x :: L) I H := h.n2.perm (.cons _ (.cons _ (.swap _ _ _)))
theorem Hs.n4 {a b c d x : Addr × HO} (h : Hs (x :: a :: b :: c :: d :: L) I H) : Hs (a :: b :: c :: d :: x :: L) I H := h.n3.perm (.cons _ (.cons _ (.cons _ (.swap _ _ _))))
theorem Hs.n5 {a b c d e x : Addr × HO} (h : Hs (x :: a :: b :: c :: d :: e :: L) I H) : Hs (a :: b :: c :: d :: e :: x :: L) I H := h.n4.perm (.cons _ (.cons _ (.cons _ (.cons _ (.swap _ _ _)))))
theorem Hs.set1 {a : Addr × HO} (h : Hs (a :: (p, o) :: L) I H) : Hs (a :: (p, o') :: L) I (upd H p o') := h.m1.set0.n1
theorem Hs.set2 {a b : Addr × HO} (h : Hs (a :: b :: (p, o) :: L) I H) : Hs (a :: b :: (p, o') :: L) I (upd H p o') := h.m2.set0.n2
theorem Hs.set3 {a b c : Addr × HO} (h : Hs (a :: b :: c :: (p, o) :: L) I H) : Hs (a :: b :: c :: (p, o') :: L) I (upd H p o') := h.m3.set0.n3
theorem Hs.set4 {a b c d : Addr × HO} (h : Hs (a :: b :: c :: d :: (p, o) :: L) I H) : Hs (a :: b :: c :: d :: (p, o') :: L) I (upd H p o') := h.m4.set0.n4
theorem Hs.set5 {a b c d e : Addr × HO} (h : Hs (a :: b :: c :: d :: e :: (p, o) :: L) I H) : Hs (a :: b :: c :: d :: e :: (p, o') :: L) I (upd H p o') := h.m5.set0.n5
theorem Hs.g0 (h : Hs ((p, o) :: L) I H) : H p = some o := h.mu _ (.head _)
theorem Hs.g1 {a : Addr × HO} (h : Hs (a :: (p, o) :: L) I H) : H p = some o := h.drop.g0
theorem Hs.g2 {a b : Addr × HO} (h : Hs (a :: b :: (p, o) :: L) I H) : H p = some o := h.drop.g1
theorem Hs.g3 {a b c : Addr × HO} (h : Hs (a :: b :: c :: (p, o) :: L) I H) : H p = some o := h.drop.g2
theorem Hs.g4 {a b c d : Addr × HO} (h : Hs (a :: b :: c :: d :: (p, o) :: L) I H) : H p = some o := h.drop.g3
theorem Hs.g5 {a b c d e : Addr × HO} (h : Hs (a :: b :: c :: d :: e :: (p, o) :: L) I H) : H p = some o := h.drop.g4
/-- picking -/
inductive Pick (y : Addr × HO) : ML → ML → Prop
  | here {L : ML} : Pick y (y :: L) L
  | there {x : Addr × HO} {L L1 : ML} : Pick y L L1 → Pick y (x :: L) (x :: L1)
theorem Pick.perm (h : Pick y L L') : L.Perm (y :: L') := by
  induction h with
  | here => exact .refl _
  | there h ih => exact (ih.cons _).trans (.swap _ _ _)
theorem pick {L1 : ML} (h : Pick y L L1) (e : L1.Perm L') : L.Perm (y :: L') := h.perm.trans (e.cons _)
/-- reading -/
theorem Hs.i (h : Hs L I H) (e : I p = some o) : H p = some o := h.im _ _ e
theorem Hs.sq {K : PySem.W.Frag} {xs : List V} (h : Hs L I H) (e : I p = some (.lst xs)) : SqL K H p xs := .inl (.inl (h.im _ _ e))
theorem Hs.st {K : PySem.W.Frag} {xs : List V} (h : Hs L I H) (e : I p = some (.tup xs)) : SqT K H p xs := .inl (.inl (h.im _ _ e))
theorem Hs.sl {K : PySem.W.Frag} {xs : List V} (h : Hs L I H) (e : SqL K I p xs) : SqL K H p xs := h.im.seq e
theorem sqm {K : PySem.W.Frag} {xs : List V} (e : H p = some (.lst xs)) : SqL K H p xs := .inl (.inl e)
theorem sqt {K : PySem.W.Frag} {xs : List V} (e : H p = some (.tup xs)) : SqT K H p xs := .inl (.inl e)
theorem Hs.rp {v : V} {d : PyData} (h : Hs L I H) (e : Rp I v d) : Rp H v d := e.mono h.im
end
theorem szl {n : Nat} (h : n ≤ 100000) : n ≤ sizeLine := Nat.le_trans h (by decide)
theorem szlt {n : Nat} (h : n < 100000) : n < sizeLine := Nat.lt_of_lt_of_le h (by decide)
theorem if_t {c : Bool} {A B : Prop} (hc : c = true) (h : A) : if c = true then A else B := by
  rw [if_pos hc]
  exact h
theorem if_f {c : Bool} {A B : Prop} (hc : c = false) (h : B) : if c = true then A else B := by
  rw [hc, if_neg Bool.false_ne_true]
  exact h
theorem if_d {c A B : Prop} [Decidable c] (h1 : c → A) (h2 : ¬ c → B) : if decide c = true then A else B := by
  by_cases h : c
  · rw [if_pos (decide_eq_true h)]
    exact h1 h
  · rw [if_neg (by simpa using h)]
    exact h2 h
theorem if_nd {c A B : Prop} [Decidable c] (h1 : c → B) (h2 : ¬ c → A) : if (!decide c) = true then A else B := by
  by_cases h : c
  · rw [if_neg (by simpa using h)]
    exact h1 h
  · rw [if_pos (by simpa using h)]
    exact h2 h
theorem if_b {c : Bool} {A B : Prop} (h1 : c = true → A) (h2 : c = false → B) : if c = true then A else B := by
  cases c with
  | true => exact if_t rfl (h1 rfl)
  | false => exact if_f rfl (h2 rfl)
end RL
/-! RL1: a def's promise in one word (Ok), its calls, methods, makes, raises; rules that lacked. -/
namespace RL
open PySem PySem.Spec PyProof.Rows L2

/-- the def at f keeps sp, binds its parameters ps, stands -/
structure Ok (P : Program) (w : World) (K : PySem.W.Frag) (mg : Str → Option Value) (base : Heap) (k : Nat) (f : Addr) (ps : List Str) (sp : Sp) : Prop where
  ex : ∃ fd : FuncData, FnOk P w K mg base (L2.CX P w) k f fd ps sp ∧ Binds K fd ps []
  kp : PySem.W.keepIn K (.ref f) = true
section
variable {P : Program} {w : World} {K : PySem.W.Frag} {mg : Str → Option Value} {base : Heap}
theorem Ok.mono {j k : Nat} {f : Addr} {ps : List Str} {sp : Sp} (G : Ok P w K mg base j f ps sp) (h : j ≤ k) : Ok P w K mg base k f ps sp := by
  obtain ⟨fd, F, b⟩ := G.ex
  exact ⟨⟨fd, F.mono h, b⟩, G.kp⟩
theorem Ok.imp {k : Nat} {f : Addr} {ps : List Str} {sp sp' : Sp} (G : Ok P w K mg base k f ps sp) (h : ∀ vs H Q E, sp' vs H Q E → sp vs H Q E) : Ok P w K mg base k f ps sp' := by
  obtain ⟨fd, F, b⟩ := G.ex
  exact ⟨⟨fd, F.imp h, b⟩, G.kp⟩
/-- the def st of the text at f -/
abbrev Df (K : PySem.W.Frag) (x qual : Str) (st : Stmt) (f : Addr) : Prop := ∃ fd, FunD K x qual (defArgs st) (defBody st) (defScope st) [] [] f fd
theorem ok_of {x qual : Str} {st : Stmt} {f : Addr} {N ps : List Str} {k : Nat} {sp : Sp} (F : Df K x qual st f) (S : FnScope N ps (defScope st))
    (bd : ∀ (kV doc pm : Value) (an : Option Addr) (cdv ct : Value) (us : List Value), us.length = ps.length → bindArgs (PySem.W.fnOf x qual (defArgs st) (defBody st) (defScope st) .none kV doc pm an cdv ct) ⟨us, []⟩ = pure (ps.zip us))
    (len : ∀ vs H Q E, sp vs H Q E → vs.length = ps.length)
    (hbody : ∀ (cdv : Value) (A : Around) (outer : List Env) (s : Shared) (H : Hp) (vs : List V) (Q : VK) (E : XK), Room k (A.deeper (envOfC qual (defScope st) s.heap.objs.size f cdv)) →
      Takes (cxOf (L2.CX P w) P w K mg base N qual (defScope st) f cdv A outer s H E) (fun cls d _ H' => E cls d H') →
      PassesOwn (model P w) (A.deeper (envOfC qual (defScope st) s.heap.objs.size f cdv)) (envOfC qual (defScope st) s.heap.objs.size f cdv) (cxOf (L2.CX P w) P w K mg base N qual (defScope st) f cdv A outer s H E).xe → sp vs H Q E →
      ∃ t, PSs (cxOf (L2.CX P w) P w K mg base N qual (defScope st) f cdv A outer s H E) (defBody st) t ∧ t { nx := fun _ H' => Q .non H', rt := Q } (start N vs) H) : Ok P w K mg base (k + 1) f ps sp := by
  obtain ⟨fd, F⟩ := F
  exact ⟨⟨fd, F.ok S len fun cdv A outer s H vs Q E hr h => hbody cdv A outer s H vs Q E hr (takes_of rfl rfl rfl rfl) (passes_of (X := cxOf (L2.CX P w) P w K mg base N qual (defScope st) f cdv A outer s H E) rfl) h, F.bindsN bd⟩, F.kp⟩
end

theorem fnok_of {P : Program} {w : World} {K : PySem.W.Frag} {mg : Str → Option Value} {base : Heap} {x qual : Str} {st : Stmt} {f : Addr} {fd : FuncData} {N ps : List Str} {k : Nat} {sp : Sp} (F : FunD K x qual (defArgs st) (defBody st) (defScope st) [] [] f fd) (S : FnScope N ps (defScope st))
    (len : ∀ vs H Q E, sp vs H Q E → vs.length = ps.length)
    (hbody : ∀ (cdv : Value) (A : Around) (outer : List Env) (s : Shared) (H : Hp) (vs : List V) (Q : VK) (E : XK), Room k (A.deeper (envOfC qual (defScope st) s.heap.objs.size f cdv)) →
      Takes (cxOf (L2.CX P w) P w K mg base N qual (defScope st) f cdv A outer s H E) (fun cls d _ H' => E cls d H') →
      PassesOwn (model P w) (A.deeper (envOfC qual (defScope st) s.heap.objs.size f cdv)) (envOfC qual (defScope st) s.heap.objs.size f cdv) (cxOf (L2.CX P w) P w K mg base N qual (defScope st) f cdv A outer s H E).xe → sp vs H Q E →
      ∃ t, PSs (cxOf (L2.CX P w) P w K mg base N qual (defScope st) f cdv A outer s H E) (defBody st) t ∧ t { nx := fun _ H' => Q .non H', rt := Q } (start N vs) H) : FnOk P w K mg base (L2.CX P w) (k + 1) f fd ps sp :=
  F.ok S len fun cdv A outer s H vs Q E hr h => hbody cdv A outer s H vs Q E hr (takes_of rfl rfl rfl rfl) (passes_of (X := cxOf (L2.CX P w) P w K mg base N qual (defScope st) f cdv A outer s H E) rfl) h

/-! ### calls -/
def tMethO (C : Addr) (m : Str) (sp : Sp) (E : L2.St → XK) (ta : TE) (t : TA) : TE := fun σ H Q => ta σ H fun x H1 => ∃ a dx fs, x = .ref a ∧ H1 a = some (.ins C dx fs) ∧ fs.lookup m = none ∧ t σ H1 fun vs H2 => sp (x :: vs) H2 Q (E σ)
def tMakeO (C : Addr) (sp : Sp) (E : L2.St → XK) (t : TA) : TE := fun σ H Q => t σ H fun vs H1 => ∀ x dx, H1 x = none → H1 dx = none → dx ≠ x →
  sp (.ref x :: vs) (upd (upd H1 dx (.own x)) x (.ins C dx [])) (fun v H2 => v = .non ∧ Q (.ref x) H2) (E σ)
/-- nothing is let out -/
theorem passN {X : Cx} (σ : L2.St) : PassesAt (L2.CX X.prog X.w) X σ E0 := fun _ _ _ _ _ _ h => by
  obtain ⟨_, _, _, _, _, _, _, _, _, _, _, _, z⟩ := h
  exact z.elim
section
variable {X : Cx} {k : Nat} {f C : Addr} {ps : List Str} {sp : Sp} {E : L2.St → XK} {x m : Str} {p pos apos : Pos} {e o : Expr} {es : List Expr} {ta : TE} {t : TA}
theorem pe_callO (G : Ok X.prog X.w X.K X.mg X.base k f ps sp) (hr : Room k X.A) (hm : X.mg x = some (.ref f)) (hx : ∀ σ, PassesAt (L2.CX X.prog X.w) X σ (E σ))
    (ha : PA X (e :: es) t) (hg : Gl X x := by rfl) (hdb : (x == ("__debug__" : Str)) = false := by decide) (he : starEach (e :: es) X.env = (false, eval e X.env) :: starEach es X.env := by rfl) (hpl : (backTo pos (starEach es X.env)).any (·.1) = false := by rfl) :
    PE X (.Call (.Name x p) (e :: es) [] pos) (tCallS sp E t) := by
  obtain ⟨fd, F, hb⟩ := G.ex
  exact pe_callS F hr hg hm G.kp hb hx ha hdb he hpl
theorem pe_methO {pl : Sem Bool} (he : PE X o ta) (c : Cls X.K C) (hm : Meth X.K C m f) (G : Ok X.prog X.w X.K X.mg X.base k f ps sp) (hr : Room k X.A) (hx : ∀ σ, PassesAt (L2.CX X.prog X.w) X σ (E σ)) (ha : PA X (e :: es) t)
    (hst : starEach (e :: es) X.env = (false, eval e X.env) :: starEach es X.env := by rfl) (hpl : (backTo pos (starEach es X.env)).any (·.1) = false := by rfl)
    (ht : eval (.Call (.Attribute o m apos) (e :: es) [] pos) X.env = (do
      let ov ← eval o X.env
      standAt apos.atName
      let (f, first) ← holding [ov] (getMethod ov m pl)
      callWith pos f first (backTo pos (starEach (e :: es) X.env)) (backToKw pos (keywordEach [] X.env))) := by rfl) :
    PE X (.Call (.Attribute o m apos) (e :: es) [] pos) (tMethO C m sp E ta t) := by
  obtain ⟨fd, F, hb⟩ := G.ex
  refine ⟨fun pins s σ H Q I h => ?_⟩
  refine PySem.W.methodCall_KW (pl := pl) (thn (he.run pins s σ H _ I h) fun u s1 ⟨x, H1, I1, rx, a, dx, fs, ex, ea, l, q⟩ => ?_) ht
  subst ex
  obtain rfl : u = Value.ref a := rx
  refine getmeth_ok I1 ea c hm l ?_
  refine PySem.W.callWith_K (first := [.ref a]) (h₀ := X.base) I.ok.mod.kin hm.kp (thn (ha.run pos pins s1 σ H1 _ I1 q) fun us s2 ⟨vs, H2, I2, r, q2⟩ => ⟨I2.kIn, ?_⟩) hst hpl
  exact run_fnS (us := .ref a :: us) (vs := .ref a :: vs) F hr hb (hx σ) I2 (.cons rfl r) q2
theorem pe_methO0 {pl : Sem Bool} (he : PE X o ta) (c : Cls X.K C) (hm : Meth X.K C m f) (G : Ok X.prog X.w X.K X.mg X.base k f ps sp) (hr : Room k X.A) (hx : ∀ σ, PassesAt (L2.CX X.prog X.w) X σ (E σ))
    (ht : eval (.Call (.Attribute o m apos) [] [] pos) X.env = (do
      let ov ← eval o X.env
      standAt apos.atName
      let (f, first) ← holding [ov] (getMethod ov m pl)
      callWith pos f first (backTo pos (starEach [] X.env)) (backToKw pos (keywordEach [] X.env))) := by rfl) :
    PE X (.Call (.Attribute o m apos) [] [] pos) (tMethO C m sp E ta tNil) := by
  obtain ⟨fd, F, hb⟩ := G.ex
  refine ⟨fun pins s σ H Q I h => ?_⟩
  refine PySem.W.methodCall_KW (pl := pl) (thn (he.run pins s σ H _ I h) fun u s1 ⟨x, H1, I1, rx, a, dx, fs, ex, ea, l, q⟩ => ?_) ht
  subst ex
  obtain rfl : u = Value.ref a := rx
  refine getmeth_ok I1 ea c hm l ?_
  exact PySem.W.callWith_K0 (first := [.ref a]) I1.kIn hm.kp (run_fnS (us := [.ref a]) (vs := [.ref a]) F hr hb (hx σ) I1 (.cons rfl .nil) q)
theorem run_makeS {fd : FuncData} {pins : List (Addr × Obj)} {σ : L2.St} {H : Hp} {s : Shared} {Q : VK} {us : List Value} {vs : List V} (M : Mk X.K C f) (F : FnOk X.prog X.w X.K X.mg X.base (L2.CX X.prog X.w) k f fd ps sp) (hr : Room (k + 1) X.A) (hb : Binds X.K fd ps [])
    (hx : PassesAt (L2.CX X.prog X.w) X σ (E σ)) (I : Inv X pins σ H s) (r : Vals vs us)
    (h : ∀ x dx, H x = none → H dx = none → dx ≠ x → sp (.ref x :: vs) (upd (upd H dx (.own x)) x (.ins C dx [])) (fun v H2 => v = .non ∧ Q (.ref x) H2) (E σ)) :
    wpAny (model X.prog X.w) X.A (call (.ref C) us) (EP X pins σ Q) X.xe s := by
  have hq := h (s.heap.objs.size + 1) s.heap.objs.size (I.hok.fresh (Nat.le_succ _)) (I.hok.fresh (Nat.le_refl _)) (Nat.ne_of_lt (Nat.lt_succ_self _))
  have I2 := Inv.made (C := C) I
  have r2 : Vals (V.ref (s.heap.objs.size + 1) :: vs) (Value.ref (s.heap.objs.size + 1) :: us) := .cons rfl r
  have hl : (Value.ref (s.heap.objs.size + 1) :: us).length = ps.length := by
    have e := r2.length
    rw [F.len _ _ _ _ hq] at e
    exact e.symm
  have hb2 := hb { s with heap := (s.heap.push PySem.W.emptyDict).push (PySem.W.instObj C s.heap.objs.size) } (Value.ref (s.heap.objs.size + 1) :: us) I2.kIn (by rw [List.append_nil]; exact hl)
  rw [List.append_nil] at hb2
  refine wpAny_call (make_map (f := f) I.kIn M.makes M.init (beq_iff_eq.mp M.fn) (codeAny_mono (F.run _ X.stack _ _ ⟨Value.ref (s.heap.objs.size + 1) :: us, []⟩ (Value.ref (s.heap.objs.size + 1) :: us) _ _ (E σ) (hr.make C us [])
    (I2.env0.make C us []) hb2 r2 hq) fun r s' hq' => ?_))
  cases r with
  | error e => exact hx pins _ _ e s' I2 hq'
  | ok fl =>
    cases fl with
    | ret u =>
      obtain ⟨v, H', I3, rv, ev, q3⟩ := I2.after hq'
      subst ev
      exact ⟨rv, ⟨V.ref (s.heap.objs.size + 1), H', I3, rfl, q3⟩⟩
    | next => exact False.elim hq'
    | brk => exact False.elim hq'
    | cont => exact False.elim hq'
theorem pe_makeO (M : Mk X.K C f) (G : Ok X.prog X.w X.K X.mg X.base k f ps sp) (hr : Room (k + 1) X.A) (hm : X.mg x = some (.ref C)) (hx : ∀ σ, PassesAt (L2.CX X.prog X.w) X σ (E σ))
    (ha : PA X (e :: es) t) (hg : Gl X x := by rfl) (hdb : (x == ("__debug__" : Str)) = false := by decide) (he : starEach (e :: es) X.env = (false, eval e X.env) :: starEach es X.env := by rfl) (hpl : (backTo pos (starEach es X.env)).any (·.1) = false := by rfl) :
    PE X (.Call (.Name x p) (e :: es) [] pos) (tMakeO C sp E t) := by
  obtain ⟨fd, F, hb⟩ := G.ex
  refine ⟨fun pins s σ H Q I h => ?_⟩
  refine wpAny_Call_Name_kw (ld_glob I hg hm ?_ hdb)
  refine PySem.W.callWith_K (h₀ := X.base) I.ok.mod.kin M.kp (thn (ha.run pos pins s σ H _ I h) fun us s1 ⟨vs, H1, I1, r, q⟩ => ⟨I1.kIn, ?_⟩) he hpl
  exact run_makeS M F hr hb (hx σ) I1 r q
end

/-! ### isinstance -/
theorem kb_NoneType_bool {K : PySem.W.Frag} : PySem.W.kitOne K (.type "NoneType") (.type "bool") = some false := kit_ty (by decide +kernel)
theorem kb_NoneType_int {K : PySem.W.Frag} : PySem.W.kitOne K (.type "NoneType") (.type "int") = some false := kit_ty (by decide +kernel)
theorem kb_NoneType_str {K : PySem.W.Frag} : PySem.W.kitOne K (.type "NoneType") (.type "str") = some false := kit_ty (by decide +kernel)
theorem kb_NoneType_list {K : PySem.W.Frag} : PySem.W.kitOne K (.type "NoneType") (.type "list") = some false := kit_ty (by decide +kernel)
theorem kb_NoneType_tuple {K : PySem.W.Frag} : PySem.W.kitOne K (.type "NoneType") (.type "tuple") = some false := kit_ty (by decide +kernel)
theorem kb_bool_bool {K : PySem.W.Frag} : PySem.W.kitOne K (.type "bool") (.type "bool") = some true := kit_ty (by decide +kernel)
theorem kb_bool_int {K : PySem.W.Frag} : PySem.W.kitOne K (.type "bool") (.type "int") = some true := kit_ty (by decide +kernel)
theorem kb_bool_str {K : PySem.W.Frag} : PySem.W.kitOne K (.type "bool") (.type "str") = some false := kit_ty (by decide +kernel)
theorem kb_bool_list {K : PySem.W.Frag} : PySem.W.kitOne K (.type "bool") (.type "list") = some false := kit_ty (by decide +kernel)
theorem kb_bool_tuple {K : PySem.W.Frag} : PySem.W.kitOne K (.type "bool") (.type "tuple") = some false := kit_ty (by decide +kernel)
theorem kb_int_bool {K : PySem.W.Frag} : PySem.W.kitOne K (.type "int") (.type "bool") = some false := kit_ty (by decide +kernel)
theorem kb_int_int {K : PySem.W.Frag} : PySem.W.kitOne K (.type "int") (.type "int") = some true := kit_ty (by decide +kernel)
theorem kb_int_str {K : PySem.W.Frag} : PySem.W.kitOne K (.type "int") (.type "str") = some false := kit_ty (by decide +kernel)
theorem kb_int_list {K : PySem.W.Frag} : PySem.W.kitOne K (.type "int") (.type "list") = some false := kit_ty (by decide +kernel)
theorem kb_int_tuple {K : PySem.W.Frag} : PySem.W.kitOne K (.type "int") (.type "tuple") = some false := kit_ty (by decide +kernel)
theorem kb_str_bool {K : PySem.W.Frag} : PySem.W.kitOne K (.type "str") (.type "bool") = some false := kit_ty (by decide +kernel)
theorem kb_str_int {K : PySem.W.Frag} : PySem.W.kitOne K (.type "str") (.type "int") = some false := kit_ty (by decide +kernel)
theorem kb_str_str {K : PySem.W.Frag} : PySem.W.kitOne K (.type "str") (.type "str") = some true := kit_ty (by decide +kernel)
theorem kb_str_list {K : PySem.W.Frag} : PySem.W.kitOne K (.type "str") (.type "list") = some false := kit_ty (by decide +kernel)
theorem kb_str_tuple {K : PySem.W.Frag} : PySem.W.kitOne K (.type "str") (.type "tuple") = some false := kit_ty (by decide +kernel)
theorem kb_list_bool {K : PySem.W.Frag} : PySem.W.kitOne K (.type "list") (.type "bool") = some false := kit_ty (by decide +kernel)
theorem kb_list_int {K : PySem.W.Frag} : PySem.W.kitOne K (.type "list") (.type "int") = some false := kit_ty (by decide +kernel)
theorem kb_list_str {K : PySem.W.Frag} : PySem.W.kitOne K (.type "list") (.type "str") = some false := kit_ty (by decide +kernel)
theorem kb_list_list {K : PySem.W.Frag} : PySem.W.kitOne K (.type "list") (.type "list") = some true := kit_ty (by decide +kernel)
theorem kb_list_tuple {K : PySem.W.Frag} : PySem.W.kitOne K (.type "list") (.type "tuple") = some false := kit_ty (by decide +kernel)
theorem kb_tuple_bool {K : PySem.W.Frag} : PySem.W.kitOne K (.type "tuple") (.type "bool") = some false := kit_ty (by decide +kernel)
theorem kb_tuple_int {K : PySem.W.Frag} : PySem.W.kitOne K (.type "tuple") (.type "int") = some false := kit_ty (by decide +kernel)
theorem kb_tuple_str {K : PySem.W.Frag} : PySem.W.kitOne K (.type "tuple") (.type "str") = some false := kit_ty (by decide +kernel)
theorem kb_tuple_list {K : PySem.W.Frag} : PySem.W.kitOne K (.type "tuple") (.type "list") = some false := kit_ty (by decide +kernel)
theorem kb_tuple_tuple {K : PySem.W.Frag} : PySem.W.kitOne K (.type "tuple") (.type "tuple") = some true := kit_ty (by decide +kernel)
theorem kit2 {K : PySem.W.Frag} {t b c : Value} {r1 r2 : Bool} (h1 : PySem.W.kitOne K t b = some r1) (h2 : PySem.W.kitOne K t c = some r2) : PySem.W.kitAny K t [b, c] = some (r1 || r2) := by
  refine kitAny_cons h1 (fun e => ?_) (fun e => by rw [e] <;> rfl)
  rw [e]
  refine kitAny_cons h2 (fun e => ?_) (fun e => by rw [e] <;> rfl)
  rw [e]
  rfl
/-- what raises nothing -/
theorem fn_cx0 {P : Program} {w : World} {K : PySem.W.Frag} {mg : Str → Option Value} {base : Heap} {k : Nat} {f : Addr} {fd : FuncData} {ps : List Str} {sp : Sp} (F : FnOk P w K mg base (L2.CX P w) k f fd ps sp) (h : ∀ vs H Q E, sp vs H Q E → sp vs H Q E0) : FnOk P w K mg base CX0 k f fd ps sp := by
  refine ⟨F.len, fun A outer s H args us vs Q E hr he hb hv hs => codeAny_mono (F.run A outer s H args us vs Q E0 hr he hb hv (h _ _ _ _ hs)) fun r s' hq => ?_⟩
  cases r with
  | error e =>
    obtain ⟨_, _, _, _, _, _, _, _, _, _, _, _, z⟩ := hq
    exact z.elim
  | ok fl => cases fl <;> exact hq
/-- a promise that no one asks -/
def spNever : Sp := fun _ _ _ _ => False
theorem ok_never {P : Program} {w : World} {K : PySem.W.Frag} {mg : Str → Option Value} {base : Heap} {x qual : Str} {st : Stmt} {f : Addr} {ps : List Str} {k : Nat} (F : Df K x qual st f)
    (bd : ∀ (kV doc pm : Value) (an : Option Addr) (cdv ct : Value) (us : List Value), us.length = ps.length → bindArgs (PySem.W.fnOf x qual (defArgs st) (defBody st) (defScope st) .none kV doc pm an cdv ct) ⟨us, []⟩ = pure (ps.zip us)) : Ok P w K mg base k f ps spNever := by
  obtain ⟨fd, F⟩ := F
  exact ⟨⟨fd, ⟨fun _ _ _ _ h => h.elim, fun _ _ _ _ _ _ _ _ _ _ _ _ _ h => h.elim⟩, F.bindsN bd⟩, F.kp⟩

/-! ### the rules with their written part named (for use within comprehensions) -/
section
variable {X : Cx}
theorem ix_list_q (K : PySem.W.Frag) (h : X.K = K) : IxR X (rIxL K) := h ▸ ix_list
theorem ix_tup_q (K : PySem.W.Frag) (h : X.K = K) : IxR X (rIxT K) := h ▸ ix_tup
theorem ix_seq_q (K : PySem.W.Frag) (h : X.K = K) : IxR X (rIx K) := h ▸ ix_seq
theorem sl_list_q (K : PySem.W.Frag) (h : X.K = K) : SlR X (rSlL K) := h ▸ sl_list
theorem sl_tup_q (K : PySem.W.Frag) (h : X.K = K) : SlR X (rSlT K) := h ▸ sl_tup
theorem call_len_seq_q (K : PySem.W.Frag) (h : X.K = K) : CallR X (.builtin "len") (fun xs H Q => ∃ p ys, xs = [.ref p] ∧ (SqL K H p ys ∨ SqT K H p ys) ∧ Q (.int ys.length) H) := h ▸ call_len_seq
theorem call_list_of_q (K : PySem.W.Frag) (h : X.K = K) : CallR X (.type "list") (fun xs H Q => ∃ p ys, xs = [.ref p] ∧ (SqL K H p ys ∨ SqT K H p ys) ∧ ∀ l, H l = none → Q (.ref l) (upd H l (.lst ys))) := h ▸ call_list_of
theorem call_tuple_of_q (K : PySem.W.Frag) (h : X.K = K) : CallR X (.type "tuple") (fun xs H Q => ∃ p ys, xs = [.ref p] ∧ ((SqL K H p ys ∧ ∀ l, H l = none → Q (.ref l) (upd H l (.tup ys))) ∨ (SqT K H p ys ∧ Q (.ref p) H))) := h ▸ call_tuple_of
theorem op_in_seq_q (K : PySem.W.Frag) (h : X.K = K) : OpR X (compareOp .In) (rIn K false) := h ▸ op_in_seq
theorem op_notIn_seq_q (K : PySem.W.Frag) (h : X.K = K) : OpR X (compareOp .NotIn) (rIn K true) := h ▸ op_notIn_seq
theorem op_eqD_q (K : PySem.W.Frag) (h : X.K = K) (hu : X.A.units + 64 < cLine) : OpR X (compareOp .Eq) (rEqD K) := h ▸ op_eqD hu
theorem op_neD_q (K : PySem.W.Frag) (h : X.K = K) (hu : X.A.units + 64 < cLine) : OpR X (compareOp .NotEq) (rNeD K) := h ▸ op_neD hu
theorem op_inD_q (K : PySem.W.Frag) (h : X.K = K) (hu : X.A.units + 65 < cLine) : OpR X (compareOp .In) (rInD K) := h ▸ op_inD hu
theorem op_notInD_q (K : PySem.W.Frag) (h : X.K = K) (hu : X.A.units + 65 < cLine) : OpR X (compareOp .NotIn) (rNotInD K) := h ▸ op_notInD hu
theorem cr_sum_q (K : PySem.W.Frag) (h : X.K = K) (hc : X.calm = true) : CallR X (.builtin "sum") (rSum K) := h ▸ cr_sum hc
theorem call_isi_q (K : PySem.W.Frag) (h : X.K = K) : CallR X (.builtin "isinstance") (rIsi K) := h ▸ call_isi
theorem call_isiT_q (K : PySem.W.Frag) (h : X.K = K) : CallR X (.builtin "isinstance") (rIsiT K) := h ▸ call_isiT
theorem pe_fld_q (K : PySem.W.Frag) (h : X.K = K) {e : Expr} {ta : TE} {f : Str} {pos : Pos} (he : PE X e ta) (hb : attributeBase e f X.env (eval e X.env) = eval e X.env) : PE X (.Attribute e f pos) (tFld K ta f) := h ▸ pe_fld he hb
theorem pg_tup_q (K : PySem.W.Frag) (h : X.K = K) {es : List Expr} {k : Nat} {t : TGs} {n : Nat} {pos : Pos} (hc : X.calm = true) (hg : PGs X es t)
    (hn : (assignEach es X.env).length = n := by rfl) (hst : (assignEach es X.env).findIdx? (·.1) = none := by rfl) : PG X (.Tuple es k pos) (gTup K n t) := h ▸ pg_tup hc hg hn hst
theorem pi_list_q (K : PySem.W.Frag) (h : X.K = K) {tg l : Expr} {tl : TE} (hl : PE X l tl) : PI X tg l (iList K tl) := h ▸ pi_list hl
theorem pi_tup_q (K : PySem.W.Frag) (h : X.K = K) {tg l : Expr} {tl : TE} (hl : PE X l tl) : PI X tg l (iTup K tl) := h ▸ pi_tup hl
theorem pe_bm0_q (K : PySem.W.Frag) (h : X.K = K) {T : String} {name : Str} {id : String} {o : Expr} {to : TE} {apos cpos : Pos} {r : V → List V → Hp → VK → Prop} (pa : PlainAttrs T) (slot : Slot T name id) (hty : typeOf (.builtin id) = pure (.type "method_descriptor")) (hm : MtR X id r) (ho : PE X o to)
    (hbase : attributeBase o name X.env (eval o X.env) = eval o X.env := by rfl) (hline : (apos.endLine == cpos.line) = true := by rfl) : PE X (.Call (.Attribute o name apos) [] [] cpos) (tBM0 K T r to) := h ▸ pe_bm0 pa slot hty hm ho hbase hline
theorem pe_bm_q (K : PySem.W.Frag) (h : X.K = K) {T : String} {name : Str} {id : String} {o e : Expr} {es : List Expr} {to : TE} {t : TA} {apos cpos : Pos} {r : V → List V → Hp → VK → Prop} (pa : PlainAttrs T) (slot : Slot T name id) (hty : typeOf (.builtin id) = pure (.type "method_descriptor")) (hm : MtR X id r) (ho : PE X o to) (ha : PA X (e :: es) t)
    (hbase : attributeBase o name X.env (eval o X.env) = eval o X.env := by rfl)
    (hfew : ((backTo cpos (starEach (e :: es) X.env)).all (fun x => !x.1) && (backToKw cpos (keywordEach [] X.env)).all (fun x => x.1.isSome)
      && decide ((e :: es).length + ([] : List Keyword).length + (if ([] : List Keyword).isEmpty then 0 else 1) < 30)) = true := by rfl)
    (hline : (apos.endLine == cpos.line) = true := by rfl) (hs : starEach (e :: es) X.env = (false, eval e X.env) :: starEach es X.env := by rfl) (hplain : (backTo cpos (starEach es X.env)).any (·.1) = false := by rfl) :
    PE X (.Call (.Attribute o name apos) (e :: es) [] cpos) (tBM K T r to t) := h ▸ pe_bm pa slot hty hm ho ha hbase hfew hline hs hplain
end
end RL
namespace RL
open PySem PySem.Spec PyProof.Rows L2
def top (i : Nat) : Stmt := PySem.Challenge.pw_ringlog_k05_how_many_reads.main.body.getD i (.Pass ⟨0, 0, 0, 0⟩)
abbrev s_most_reads : Stmt := top 1
abbrev n_most_reads : List Str := ["many", "found", "wide"]
abbrev p_most_reads : List Str := ["many"]
theorem sc_most_reads : FnScope n_most_reads p_most_reads (defScope s_most_reads) := ⟨rfl, rfl, rfl, by decide +kernel, rfl, by decide +kernel, by decide +kernel⟩
theorem bd_most_reads (kV doc pm : Value) (an : Option Addr) (cdv ct : Value) (us : List Value) (hl : us.length = p_most_reads.length) : bindArgs (PySem.W.fnOf "most_reads" "most_reads" (defArgs s_most_reads) (defBody s_most_reads) (defScope s_most_reads) .none kV doc pm an cdv ct) ⟨us, []⟩ = pure (p_most_reads.zip us) := match us, hl with | [_], _ => rfl
abbrev a_most_reads (K : PySem.W.Frag) : Addr := He.ga K "most_reads"
def dd_most_reads : He.DefD := ⟨("most_reads", none), "most_reads", "most_reads", defArgs s_most_reads, defBody s_most_reads, defScope s_most_reads, [], []⟩
abbrev s_l_taken : Stmt := top 3
abbrev n_l_taken : List Str := ["_law_row", "_law_many", "_law_cell"]
abbrev p_l_taken : List Str := ["_law_row", "_law_many"]
theorem sc_l_taken : FnScope n_l_taken p_l_taken (defScope s_l_taken) := ⟨rfl, rfl, rfl, by decide +kernel, rfl, by decide +kernel, by decide +kernel⟩
theorem bd_l_taken (kV doc pm : Value) (an : Option Addr) (cdv ct : Value) (us : List Value) (hl : us.length = p_l_taken.length) : bindArgs (PySem.W.fnOf "_law_taken" "_law_taken" (defArgs s_l_taken) (defBody s_l_taken) (defScope s_l_taken) .none kV doc pm an cdv ct) ⟨us, []⟩ = pure (p_l_taken.zip us) := match us, hl with | [_, _], _ => rfl
abbrev a_l_taken (K : PySem.W.Frag) : Addr := He.ga K "_law_taken"
def dd_l_taken : He.DefD := ⟨("_law_taken", none), "_law_taken", "_law_taken", defArgs s_l_taken, defBody s_l_taken, defScope s_l_taken, [], []⟩
abbrev s_l_most : Stmt := top 4
abbrev n_l_most : List Str := ["_law_many", "_law_found", "_law_left"]
abbrev p_l_most : List Str := ["_law_many"]
theorem sc_l_most : FnScope n_l_most p_l_most (defScope s_l_most) := ⟨rfl, rfl, rfl, by decide +kernel, rfl, by decide +kernel, by decide +kernel⟩
theorem bd_l_most (kV doc pm : Value) (an : Option Addr) (cdv ct : Value) (us : List Value) (hl : us.length = p_l_most.length) : bindArgs (PySem.W.fnOf "_law_most" "_law_most" (defArgs s_l_most) (defBody s_l_most) (defScope s_l_most) .none kV doc pm an cdv ct) ⟨us, []⟩ = pure (p_l_most.zip us) := match us, hl with | [_], _ => rfl
abbrev a_l_most (K : PySem.W.Frag) : Addr := He.ga K "_law_most"
def dd_l_most : He.DefD := ⟨("_law_most", none), "_law_most", "_law_most", defArgs s_l_most, defBody s_l_most, defScope s_l_most, [], []⟩
abbrev s_l_alike : Stmt := top 5
abbrev n_l_alike : List Str := ["_law_found", "_law_due", "_law_k"]
abbrev p_l_alike : List Str := ["_law_found", "_law_due"]
theorem sc_l_alike : FnScope n_l_alike p_l_alike (defScope s_l_alike) := ⟨rfl, rfl, rfl, by decide +kernel, rfl, by decide +kernel, by decide +kernel⟩
theorem bd_l_alike (kV doc pm : Value) (an : Option Addr) (cdv ct : Value) (us : List Value) (hl : us.length = p_l_alike.length) : bindArgs (PySem.W.fnOf "_law_alike" "_law_alike" (defArgs s_l_alike) (defBody s_l_alike) (defScope s_l_alike) .none kV doc pm an cdv ct) ⟨us, []⟩ = pure (p_l_alike.zip us) := match us, hl with | [_, _], _ => rfl
abbrev a_l_alike (K : PySem.W.Frag) : Addr := He.ga K "_law_alike"
def dd_l_alike : He.DefD := ⟨("_law_alike", none), "_law_alike", "_law_alike", defArgs s_l_alike, defBody s_l_alike, defScope s_l_alike, [], []⟩
abbrev s_l_doubled : Stmt := top 6
abbrev n_l_doubled : List Str := ["_law_often", "_law_wide", "_law_k"]
abbrev p_l_doubled : List Str := ["_law_often"]
theorem sc_l_doubled : FnScope n_l_doubled p_l_doubled (defScope s_l_doubled) := ⟨rfl, rfl, rfl, by decide +kernel, rfl, by decide +kernel, by decide +kernel⟩
theorem bd_l_doubled (kV doc pm : Value) (an : Option Addr) (cdv ct : Value) (us : List Value) (hl : us.length = p_l_doubled.length) : bindArgs (PySem.W.fnOf "_law_doubled" "_law_doubled" (defArgs s_l_doubled) (defBody s_l_doubled) (defScope s_l_doubled) .none kV doc pm an cdv ct) ⟨us, []⟩ = pure (p_l_doubled.zip us) := match us, hl with | [_], _ => rfl
abbrev a_l_doubled (K : PySem.W.Frag) : Addr := He.ga K "_law_doubled"
def dd_l_doubled : He.DefD := ⟨("_law_doubled", none), "_law_doubled", "_law_doubled", defArgs s_l_doubled, defBody s_l_doubled, defScope s_l_doubled, [], []⟩
abbrev s_law : Stmt := top 7
abbrev n_law : List Str := ["_law_script", "_law_row", "_law_some", "_law_k", "_law_many", "_law_found"]
abbrev p_law : List Str := ["_law_script"]
theorem sc_law : FnScope n_law p_law (defScope s_law) := ⟨rfl, rfl, rfl, by decide +kernel, rfl, by decide +kernel, by decide +kernel⟩
theorem bd_law (kV doc pm : Value) (an : Option Addr) (cdv ct : Value) (us : List Value) (hl : us.length = p_law.length) : bindArgs (PySem.W.fnOf "law" "law" (defArgs s_law) (defBody s_law) (defScope s_law) .none kV doc pm an cdv ct) ⟨us, []⟩ = pure (p_law.zip us) := match us, hl with | [_], _ => rfl
abbrev a_law (K : PySem.W.Frag) : Addr := He.ga K "law"
def dd_law : He.DefD := ⟨("law", none), "law", "law", defArgs s_law, defBody s_law, defScope s_law, [], []⟩
structure Tx (K : PySem.W.Frag) (mg : Str → Option Value) : Prop where
  d_most_reads : Df K "most_reads" "most_reads" s_most_reads (a_most_reads K)
  g_most_reads : mg "most_reads" = some (.ref (a_most_reads K))
  d_l_taken : Df K "_law_taken" "_law_taken" s_l_taken (a_l_taken K)
  g_l_taken : mg "_law_taken" = some (.ref (a_l_taken K))
  d_l_most : Df K "_law_most" "_law_most" s_l_most (a_l_most K)
  g_l_most : mg "_law_most" = some (.ref (a_l_most K))
  d_l_alike : Df K "_law_alike" "_law_alike" s_l_alike (a_l_alike K)
  g_l_alike : mg "_law_alike" = some (.ref (a_l_alike K))
  d_l_doubled : Df K "_law_doubled" "_law_doubled" s_l_doubled (a_l_doubled K)
  g_l_doubled : mg "_law_doubled" = some (.ref (a_l_doubled K))
  d_law : Df K "law" "law" s_law (a_law K)
  g_law : mg "law" = some (.ref (a_law K))
  b_bool : mg "bool" = none
  b_int : mg "int" = none
  b_isinstance : mg "isinstance" = none
  b_len : mg "len" = none
  b_list : mg "list" = none
  b_range : mg "range" = none
  b_str : mg "str" = none
  b_tuple : mg "tuple" = none
def fa : List He.Fa := [.glo "most_reads", .glo "_law_taken", .glo "_law_most", .glo "_law_alike", .glo "_law_doubled", .glo "law", .free "bool", .free "int", .free "isinstance", .free "len", .free "list", .free "range", .free "str", .free "tuple"]
def fn : List He.DefD := [dd_most_reads, dd_l_taken, dd_l_most, dd_l_alike, dd_l_doubled, dd_law]
theorem Tx.of {K : PySem.W.Frag} {h : Heap} {mg : Str → Option Value} (X : K.In h) (G : h.Ns mainGlobals mg) (c : He.SaysD fa fn K) : Tx K mg where
  d_most_reads := c.def_ 0 (d := dd_most_reads) rfl
  g_most_reads := He.glo_ok X G (c.fact 0 (f := .glo "most_reads") rfl)
  d_l_taken := c.def_ 1 (d := dd_l_taken) rfl
  g_l_taken := He.glo_ok X G (c.fact 1 (f := .glo "_law_taken") rfl)
  d_l_most := c.def_ 2 (d := dd_l_most) rfl
  g_l_most := He.glo_ok X G (c.fact 2 (f := .glo "_law_most") rfl)
  d_l_alike := c.def_ 3 (d := dd_l_alike) rfl
  g_l_alike := He.glo_ok X G (c.fact 3 (f := .glo "_law_alike") rfl)
  d_l_doubled := c.def_ 4 (d := dd_l_doubled) rfl
  g_l_doubled := He.glo_ok X G (c.fact 4 (f := .glo "_law_doubled") rfl)
  d_law := c.def_ 5 (d := dd_law) rfl
  g_law := He.glo_ok X G (c.fact 5 (f := .glo "law") rfl)
  b_bool := He.free_ok X G (c.fact 6 (f := .free "bool") rfl)
  b_int := He.free_ok X G (c.fact 7 (f := .free "int") rfl)
  b_isinstance := He.free_ok X G (c.fact 8 (f := .free "isinstance") rfl)
  b_len := He.free_ok X G (c.fact 9 (f := .free "len") rfl)
  b_list := He.free_ok X G (c.fact 10 (f := .free "list") rfl)
  b_range := He.free_ok X G (c.fact 11 (f := .free "range") rfl)
  b_str := He.free_ok X G (c.fact 12 (f := .free "str") rfl)
  b_tuple := He.free_ok X G (c.fact 13 (f := .free "tuple") rfl)
end RL
namespace RL
open PySem PySem.Spec PyProof.Rows L2
/-- the law's promise: a list of ints is handed in, True comes out -/
def sp_law (K : PySem.W.Frag) : Sp := fun vs H Q _ => ∃ (a : Addr) (ns : List Int), vs = [.ref a] ∧ SqL K H a (ns.map V.int) ∧ ∀ H', Q (.bl true) H'
end RL
namespace RL
open PySem PySem.Spec PyProof.Rows L2
/-- what the law draws from: the script's list, how far, the mix -/
abbrev rowO (a : Addr) (i m : Int) : HO := .lst [.ref a, .int i, .int m]
structure RowOk (K : PySem.W.Frag) (I : Hp) (a : Addr) (i : Int) : Prop where
  sc : ∃ ns : List Int, SqL K I a (ns.map V.int)
  le : 0 ≤ i
theorem RowOk.mono {K : PySem.W.Frag} {I I' : Hp} {a : Addr} {i : Int} (s : Same I I') (h : RowOk K I a i) : RowOk K I' a i := by
  obtain ⟨⟨ns, q⟩, l⟩ := h
  exact ⟨⟨ns, s.seq q⟩, l⟩
theorem RowOk.to {K : PySem.W.Frag} {I : Hp} {a : Addr} {i j : Int} (h : RowOk K I a i) (l : 0 ≤ j) : RowOk K I a j := ⟨h.sc, l⟩
/-- a draw below k: any -/
def sp_taken (K : PySem.W.Frag) : Sp := fun vs H Q _ => ∃ (r a : Addr) (i m k : Int) (L : ML) (I : Hp), vs = [.ref r, .int k] ∧ Hs ((r, rowO a i m) :: L) I H ∧ RowOk K I a i ∧ 0 < k ∧
  ∀ H' i' m' v, Hs ((r, rowO a i' m') :: L) I H' → RowOk K I a i' → 0 ≤ v → v < k → Q (.int v) H'
section
variable {P : Program} {w : World} {K : PySem.W.Frag} {mg : Str → Option Value} {base : Heap}
theorem ok_taken (T : Tx K mg) : Ok P w K mg base 1 (a_l_taken K) p_l_taken (sp_taken K) := by
  refine ok_of T.d_l_taken sc_l_taken bd_l_taken (fun vs H Q E h => ?_) (fun cdv A outer s H vs Q E hr tk po h => ?_)
  · obtain ⟨r, a, i, m, k, L, I, rfl, _⟩ := h
    rfl
  · obtain ⟨r, a, i, m, k, L, I, rfl, h, ⟨⟨ns, hS⟩, hi⟩, hk, q⟩ := h
    refine ⟨_, (pss_cons (ps_asg (pe_op op_add (pe_ix ix_list (pv 0) pe_int (fun _ _ => rfl)) pe_int) (pg_sub (pv 0) pe_int set_list))
    (pss_cons (ps_if (pt_cmpR op_gt (pe_ix ix_list (pv 0) pe_int (fun _ _ => rfl)) (pe_callB call_len_seq (by rfl) T.b_len PySem.boot_len (pa_cons (pe_ix ix_list (pv 0) pe_int (fun _ _ => rfl)) pa_nil)) (nomark _))
    (pss_cons (ps_asg (pe_op op_mod (pe_op op_add (pe_op op_mul (pe_ix ix_list (pv 0) pe_int (fun _ _ => rfl)) pe_int) pe_int) pe_int) (pg_sub (pv 0) pe_int set_list))
    (pss_one (ps_ret (pe_op op_mod (pe_op op_fdiv (pe_ix ix_list (pv 0) pe_int (fun _ _ => rfl)) pe_int) (pv 1)))))
    pss_nil)
    (pss_cons (ps_set (i := 2) sc_l_taken.nd rfl (Or.inl rfl) (pe_ix ix_list (pe_ix ix_list (pv 0) pe_int (fun _ _ => rfl)) (pe_op op_sub (pe_ix ix_list (pv 0) pe_int (fun _ _ => rfl)) pe_int) (fun _ _ => rfl)))
    (pss_cons (ps_asg (pe_op op_mod (pe_op op_add (pe_op op_add (pe_op op_mul (pe_ix ix_list (pv 0) pe_int (fun _ _ => rfl)) pe_int) (pv 2)) pe_int) pe_int) (pg_sub (pv 0) pe_int set_list))
    (pss_one (ps_ret (pe_op op_mod (pv 2) (pv 1)))))))), ?_⟩
    have h1 := h.set0 (o' := rowO a (i + 1) m)
    -- row[1] = row[1] + 1
    refine ⟨_, rfl, r, [.ref a, .int i, .int m], 1, .int i, rfl, rfl, sqm h.g0, rfl, i, 1, rfl, rfl, _, rfl, r, _, 1, 1, rfl, rfl, h.g0, rfl, ?_⟩
    -- row[1] > len(row[0])
    refine ⟨_, rfl, r, _, 1, .int (i + 1), rfl, rfl, sqm h1.g0, rfl, _, rfl, r, _, 0, .ref a, rfl, rfl, sqm h1.g0, rfl, a, ns.map V.int, rfl, .inl (h1.sl hS), i + 1, _, rfl, rfl, _, rfl, if_d (fun c => ?_) (fun c => ?_)⟩
    · have h2 := h1.set0 (o' := rowO a (i + 1) ((m * 48271 + 11) % 2147483647))
      refine ⟨_, rfl, r, _, 2, .int m, rfl, rfl, sqm h1.g0, rfl, m, 48271, rfl, rfl, .inr ⟨by decide, by decide⟩, _, 11, rfl, rfl, _, 2147483647, rfl, rfl, (by show (0 : Int) < 2147483647; decide), _, rfl, r, _, 2, 2, rfl, rfl, h1.g0, rfl, ?_⟩
      refine ⟨_, rfl, r, _, 2, .int ((m * 48271 + 11) % 2147483647), rfl, rfl, sqm h2.g0, rfl, _, 7, rfl, rfl, ⟨by decide, by decide⟩, _, rfl, _, k, rfl, rfl, hk, ?_⟩
      exact q _ _ _ _ h2 ⟨⟨ns, hS⟩, by omega⟩ (Int.emod_nonneg _ (by omega)) (Int.emod_lt_of_pos _ hk)
    · have hl : (i + 1 - 1).toNat < ns.length := by
        rw [List.length_map] at c
        omega
      have e1 : (i + 1 - 1 : Int) = (((i + 1 - 1).toNat : Nat) : Int) := by omega
      have hz : (ns.map V.int)[(i + 1 - 1).toNat]? = some (.int ns[(i + 1 - 1).toNat]) := by
        rw [List.getElem?_map, List.getElem?_eq_getElem hl]
        rfl
      have h2 := h1.set0 (o' := rowO a (i + 1) ((m * 48271 + ns[(i + 1 - 1).toNat] + 11) % 2147483647))
      refine ⟨_, rfl, r, _, 0, .ref a, rfl, rfl, sqm h1.g0, rfl, _, rfl, r, _, 1, .int (i + 1), rfl, rfl, sqm h1.g0, rfl, _, 1, rfl, rfl, a, _, _, _, rfl, rfl, h1.sl hS, at_of e1 hz, ?_⟩
      refine ⟨_, rfl, r, _, 2, .int m, rfl, rfl, sqm h1.g0, rfl, m, 48271, rfl, rfl, .inr ⟨by decide, by decide⟩, _, rfl, _, _, rfl, rfl, _, 11, rfl, rfl, _, 2147483647, rfl, rfl, (by show (0 : Int) < 2147483647; decide), _, rfl, r, _, 2, 2, rfl, rfl, h1.g0, rfl, ?_⟩
      refine ⟨_, rfl, _, rfl, _, k, rfl, rfl, hk, ?_⟩
      exact q _ _ _ _ h2 ⟨⟨ns, hS⟩, by omega⟩ (Int.emod_nonneg _ (by omega)) (Int.emod_lt_of_pos _ hk)
end
end RL
namespace RL
open PySem PySem.Spec PyProof.Rows L2
/-! halvings of a number -/
def halv (n : Nat) : Nat := if h : n = 0 then 0 else halv (n / 2) + 1
termination_by n
decreasing_by omega
theorem halv_0 : halv 0 = 0 := by
  unfold halv
  simp
theorem halv_pos {n : Nat} (h : n ≠ 0) : halv n = halv (n / 2) + 1 := by
  rw [halv]
  simp [h]
theorem halv_hi : ∀ n : Nat, n < 2 ^ halv n
  | n => by
    by_cases h : n = 0
    · subst h
      rw [halv_0]
      decide
    · have ih := halv_hi (n / 2)
      rw [halv_pos h, Nat.pow_succ]
      omega
termination_by n => n
decreasing_by omega
theorem halv_lo : ∀ n : Nat, n ≠ 0 → 2 ^ (halv n - 1) ≤ n
  | n, h => by
    rw [halv_pos h, Nat.add_sub_cancel]
    by_cases h2 : n / 2 = 0
    · rw [h2, halv_0]
      show 1 ≤ n
      omega
    · have ih := halv_lo (n / 2) h2
      have e : 2 ^ halv (n / 2) = 2 ^ (halv (n / 2) - 1) * 2 := by
        rw [← Nat.pow_succ]
        congr 1
        rw [halv_pos h2]
        omega
      omega
termination_by n => n
decreasing_by omega
theorem halv_uniq {n j : Nat} (h1 : n < 2 ^ j) (h2 : j = 0 ∨ 2 ^ (j - 1) ≤ n) : j = halv n := by
  rcases Nat.lt_trichotomy j (halv n) with h | h | h
  · have h0 : n ≠ 0 := fun e => by
      rw [e, halv_0] at h
      omega
    have a := halv_lo n h0
    have b : 2 ^ j ≤ 2 ^ (halv n - 1) := Nat.pow_le_pow_right (by decide) (by omega)
    omega
  · exact h
  · have a := halv_hi n
    rcases h2 with h2 | h2
    · omega
    · have b : 2 ^ halv n ≤ 2 ^ (j - 1) := Nat.pow_le_pow_right (by decide) (by omega)
      omega
theorem halv_le {n k : Nat} (h : n < 2 ^ k) : halv n ≤ k := by
  by_cases h0 : n = 0
  · rw [h0, halv_0]
    omega
  · have a := halv_lo n h0
    rcases Nat.lt_or_ge k (halv n) with q | q
    · have b : 2 ^ k ≤ 2 ^ (halv n - 1) := Nat.pow_le_pow_right (by decide) (by omega)
      omega
    · exact q
end RL
namespace RL
open PySem PySem.Spec PyProof.Rows L2
def mostN (n : Int) : Int := 2 + (halv (n - 1).toNat : Nat)
def sp_most : Sp := fun vs H Q _ => ∃ n : Int, vs = [.int n] ∧ 1 ≤ n ∧ Q (.int (mostN n)) H
section
variable {P : Program} {w : World} {K : PySem.W.Frag} {mg : Str → Option Value} {base : Heap}
theorem ok_most_reads (T : Tx K mg) : Ok P w K mg base 1 (a_most_reads K) p_most_reads sp_most := by
  refine ok_of T.d_most_reads sc_most_reads bd_most_reads (fun vs H Q E h => ?_) (fun cdv A outer s H vs Q E hr tk po h => ?_)
  · obtain ⟨n, rfl, _⟩ := h
    rfl
  · obtain ⟨n, rfl, hn, q⟩ := h
    refine ⟨_, (pss_cons (ps_set (i := 1) sc_most_reads.nd rfl (Or.inl rfl) pe_int)
    (pss_cons (ps_set (i := 2) sc_most_reads.nd rfl (Or.inl rfl) pe_int)
    (pss_cons (ps_while po (pt_cmpR op_lt (pv 2) (pv 0) (nomark _))
    (pss_cons (ps_set (i := 2) sc_most_reads.nd rfl (Or.inl rfl) (pe_op op_mul pe_int (pv 2)))
    (pss_one (ps_set (i := 1) sc_most_reads.nd rfl (Or.inl rfl) (pe_op op_add (pv 1) pe_int)))))
    (pss_one (ps_ret (pv 1)))))), ?_⟩
    refine ⟨fun m σ H1 => H1 = H ∧ ∃ j : Nat, σ = [some (.int n), some (.int (2 + (j : Nat))), some (.int ((2 ^ j : Nat) : Int))] ∧ (j = 0 ∨ 2 ^ (j - 1) ≤ (n - 1).toNat) ∧ m = (n - ((2 ^ j : Nat) : Int)).toNat, ⟨_, rfl, 0, rfl, .inl rfl, rfl⟩, ?_⟩
    rintro m σ H1 ⟨rfl, j, rfl, hj, rfl⟩
    refine ⟨_, rfl, _, rfl, _, _, rfl, rfl, _, rfl, if_d (fun c => ?_) (fun c => ?_)⟩
    · have p0 : 0 < 2 ^ j := Nat.pow_pos (by decide)
      have p1 : 2 ^ (j + 1) = 2 ^ j * 2 := Nat.pow_succ ..
      refine ⟨fun σ' H' => H' = H1 ∧ σ' = [some (.int n), some (.int (2 + ((j + 1 : Nat) : Int))), some (.int ((2 ^ (j + 1) : Nat) : Int))], fun σ' H' ⟨e1, e2⟩ => ⟨_, ?_, e1, j + 1, e2, .inr ?_, rfl⟩, ?_⟩
      · omega
      · show 2 ^ j ≤ _
        omega
      · refine ⟨_, rfl, 2, _, rfl, rfl, .inl ⟨by decide, by decide⟩, _, rfl, _, 1, rfl, rfl, rfl, ?_⟩
        show [some (V.int n), some (V.int ((2 : Int) + (j : Nat) + 1)), some (V.int (2 * ((2 ^ j : Nat) : Int)))] = _
        rw [show (2 : Int) * ((2 ^ j : Nat) : Int) = ((2 ^ (j + 1) : Nat) : Int) by omega, show (2 : Int) + (j : Nat) + 1 = 2 + ((j + 1 : Nat) : Int) by omega]
    · have e : j = halv (n - 1).toNat := halv_uniq (by omega) hj
      subst e
      exact ⟨_, rfl, q⟩
end
end RL
namespace RL
open PySem PySem.Spec PyProof.Rows L2
section
variable {P : Program} {w : World} {K : PySem.W.Frag} {mg : Str → Option Value} {base : Heap}
theorem ok_law_most (T : Tx K mg) : Ok P w K mg base 1 (a_l_most K) p_l_most sp_most := by
  refine ok_of T.d_l_most sc_l_most bd_l_most (fun vs H Q E h => ?_) (fun cdv A outer s H vs Q E hr tk po h => ?_)
  · obtain ⟨n, rfl, _⟩ := h
    rfl
  · obtain ⟨n, rfl, hn, q⟩ := h
    refine ⟨_, (pss_cons (ps_set (i := 1) sc_l_most.nd rfl (Or.inl rfl) pe_int)
    (pss_cons (ps_set (i := 2) sc_l_most.nd rfl (Or.inl rfl) (pe_op op_sub (pv 0) pe_int))
    (pss_cons (ps_while po (pt_cmpR op_gt (pv 2) pe_int (nomark _))
    (pss_cons (ps_set (i := 2) sc_l_most.nd rfl (Or.inl rfl) (pe_op op_fdiv (pv 2) pe_int))
    (pss_one (ps_set (i := 1) sc_l_most.nd rfl (Or.inl rfl) (pe_op op_add (pv 1) pe_int)))))
    (pss_one (ps_ret (pv 1)))))), ?_⟩
    refine ⟨_, rfl, n, 1, rfl, rfl, ?_⟩
    refine ⟨fun m σ H1 => H1 = H ∧ ∃ (y : Int), 0 ≤ y ∧ σ = [some (.int n), some (.int (mostN n - (halv y.toNat : Nat))), some (.int y)] ∧ m = y.toNat, ⟨_, rfl, n - 1, by omega, ?_, rfl⟩, ?_⟩
    · show [some (V.int n), some (V.int 2), some (V.int (n - 1))] = _
      rw [show mostN n - (halv (n - 1).toNat : Nat) = 2 by unfold mostN; omega]
    rintro m σ H1 ⟨rfl, y, hy, rfl, rfl⟩
    refine ⟨_, rfl, _, 0, rfl, rfl, _, rfl, if_d (fun c => ?_) (fun c => ?_)⟩
    · refine ⟨fun σ' H' => H' = H1 ∧ σ' = [some (.int n), some (.int (mostN n - (halv (y / 2).toNat : Nat))), some (.int (y / 2))], fun σ' H' ⟨e1, e2⟩ => ⟨_, ?_, e1, y / 2, ?_, e2, rfl⟩, ?_⟩
      · omega
      · omega
      · have e : halv y.toNat = halv (y / 2).toNat + 1 := by
          rw [halv_pos (by omega)]
          congr 2
          omega
        refine ⟨_, rfl, y, 2, rfl, rfl, ⟨by decide, by decide⟩, _, rfl, _, 1, rfl, rfl, rfl, ?_⟩
        show [some (V.int n), some (V.int (mostN n - (halv y.toNat : Nat) + 1)), some (V.int (y / 2))] = _
        rw [show mostN n - (halv y.toNat : Nat) + 1 = mostN n - (halv (y / 2).toNat : Nat) by omega]
    · have e : y = 0 := by omega
      subst e
      refine ⟨_, rfl, ?_⟩
      rw [show mostN n - (halv (0 : Int).toNat : Nat) = mostN n by rw [show (0 : Int).toNat = 0 from rfl, halv_0]; omega]
      exact q
end
end RL
namespace RL
open PySem PySem.Spec PyProof.Rows L2
def sp_doubled : Sp := fun vs H Q _ => ∃ n : Int, vs = [.int n] ∧ 0 ≤ n ∧ n ≤ 100 ∧ Q (.int ((2 ^ n.toNat : Nat) : Int)) H
section
variable {P : Program} {w : World} {K : PySem.W.Frag} {mg : Str → Option Value} {base : Heap}
theorem ok_doubled (T : Tx K mg) : Ok P w K mg base 1 (a_l_doubled K) p_l_doubled sp_doubled := by
  refine ok_of T.d_l_doubled sc_l_doubled bd_l_doubled (fun vs H Q E h => ?_) (fun cdv A outer s H vs Q E hr tk po h => ?_)
  · obtain ⟨n, rfl, _⟩ := h
    rfl
  · obtain ⟨n, rfl, hn, hm, q⟩ := h
    refine ⟨_, (pss_cons (ps_set (i := 1) sc_l_doubled.nd rfl (Or.inl rfl) pe_int)
    (pss_cons (ps_for po rfl (pi_range1 (by rfl) T.b_range (pa_cons (pv 0) pa_nil)) (pg_name (i := 2) sc_l_doubled.nd rfl (Or.inl rfl))
    (pss_one (ps_set (i := 1) sc_l_doubled.nd rfl (Or.inl rfl) (pe_op op_mul pe_int (pv 1)))))
    (pss_one (ps_ret (pv 1))))), ?_⟩
    refine ⟨_, rfl, n, rfl, by omega, by omega, for_range (lo := 0) (fun i σ H1 => H1 = H ∧ ∃ z, σ = [some (.int n), some (.int ((2 ^ i : Nat) : Int)), z]) ⟨rfl, none, rfl⟩ ?_ ?_⟩
    · rintro i σ H1 hi ⟨rfl, z, rfl⟩
      have p1 : 2 ^ (i + 1) = 2 ^ i * 2 := Nat.pow_succ ..
      have e : (2 : Int) * ((2 ^ i : Nat) : Int) = ((2 ^ (i + 1) : Nat) : Int) := by omega
      refine ⟨_, rfl, 2, _, rfl, rfl, .inl ⟨by decide, by decide⟩, rfl, some (.int (0 + (i : Nat))), ?_⟩
      rw [← e]
      rfl
    · rintro σ H1 ⟨rfl, z, rfl⟩
      exact ⟨_, rfl, q⟩
end
end RL
namespace RL
open PySem PySem.Spec PyProof.Rows L2
/-- data of depth below n, its lists of at most 1000 items -/
def okD : Nat → PyData → Prop
  | _, .none => True
  | _, .bool _ => True
  | _, .int _ => True
  | _, .str _ => True
  | 0, .list _ => False
  | 0, .tuple _ => False
  | n + 1, .list ds => ds.length ≤ 1000 ∧ ∀ d ∈ ds, okD n d
  | n + 1, .tuple ds => ds.length ≤ 1000 ∧ ∀ d ∈ ds, okD n d
  | _, .dict _ => False
theorem okD_int {n : Nat} {i : Int} : okD n (.int i) := by cases n <;> trivial
theorem okD_none {n : Nat} : okD n .none := by cases n <;> trivial
theorem okD_bool {n : Nat} {b : Bool} : okD n (.bool b) := by cases n <;> trivial
theorem okD_str {n : Nat} {x : Str} : okD n (.str x) := by cases n <;> trivial
theorem okD_mono : ∀ {n m : Nat} {d : PyData}, n ≤ m → okD n d → okD m d
  | n, m, .none, _, _ => okD_none
  | n, m, .bool _, _, _ => okD_bool
  | n, m, .int _, _, _ => okD_int
  | n, m, .str _, _, _ => okD_str
  | n + 1, m + 1, .list ds, l, h => ⟨h.1, fun d hd => okD_mono (Nat.le_of_succ_le_succ l) (h.2 d hd)⟩
  | n + 1, m + 1, .tuple ds, l, h => ⟨h.1, fun d hd => okD_mono (Nat.le_of_succ_le_succ l) (h.2 d hd)⟩
  | 0, _, .list _, _, h => h.elim
  | 0, _, .tuple _, _, h => h.elim
  | n + 1, 0, _, l, _ => absurd l (by omega)
  | 0, _, .dict _, _, h => by cases h
/-- alike things: True -/
def sp_alike (n : Nat) : Sp := fun vs H Q _ => ∃ (x y : V) (d : PyData), vs = [x, y] ∧ Rp H x d ∧ Rp H y d ∧ okD n d ∧ ∀ H', Same H H' → Q (.bl true) H'
section
variable {P : Program} {w : World} {K : PySem.W.Frag} {mg : Str → Option Value} {base : Heap}
theorem ok_alike_step (T : Tx K mg) {n : Nat} {sp0 : Sp} (G_l_alike : Ok P w K mg base n (a_l_alike K) p_l_alike sp0) (h0 : ∀ m, n = m + 1 → sp0 = sp_alike m) : Ok P w K mg base (n + 1) (a_l_alike K) p_l_alike (sp_alike n) := by
  refine ok_of T.d_l_alike sc_l_alike bd_l_alike (fun vs H Q E h => ?_) (fun cdv A outer s H vs Q E hr tk po h => ?_)
  · obtain ⟨x, y, d, rfl, _⟩ := h
    rfl
  · obtain ⟨x, y, d, rfl, hx, hy, hd, q⟩ := h
    have hu64 := hr.units
    have hr0 : Room n _ := hr
    refine ⟨_, (pss_cons (ps_if (PW.pt (pw_or (pt_val (pe_callB call_isi (by rfl) T.b_isinstance boot_isinstance (pa_cons (pv 1) (pa_cons (pe_bltn (v := .ty "tuple") (by rfl) T.b_tuple boot_tuple rfl) pa_nil)))) (pw_or1 (pt_val (pe_callB call_isi (by rfl) T.b_isinstance boot_isinstance (pa_cons (pv 1) (pa_cons (pe_bltn (v := .ty "list") (by rfl) T.b_list boot_list rfl) pa_nil)))))))
    (pss_cons (ps_if (PW.pt (pw_or (pt_cmpR op_ne (pe_callB call_isi (by rfl) T.b_isinstance boot_isinstance (pa_cons (pv 0) (pa_cons (pe_bltn (v := .ty "tuple") (by rfl) T.b_tuple boot_tuple rfl) pa_nil))) (pe_callB call_isi (by rfl) T.b_isinstance boot_isinstance (pa_cons (pv 1) (pa_cons (pe_bltn (v := .ty "tuple") (by rfl) T.b_tuple boot_tuple rfl) pa_nil))) (nomark _)) (pw_or1 (pt_not (pt_val (pe_callB call_isiT (by rfl) T.b_isinstance boot_isinstance (pa_cons (pv 0) (pa_cons (pe_tup (pa_cons (pe_bltn (v := .ty "tuple") (by rfl) T.b_tuple boot_tuple rfl) (pa_cons (pe_bltn (v := .ty "list") (by rfl) T.b_list boot_list rfl) pa_nil))) pa_nil))))))))
    (pss_one (ps_ret pe_bl))
    pss_nil)
    (pss_cons (ps_if (pt_cmpR op_ne (pe_callB call_len_seq (by rfl) T.b_len PySem.boot_len (pa_cons (pv 0) pa_nil)) (pe_callB call_len_seq (by rfl) T.b_len PySem.boot_len (pa_cons (pv 1) pa_nil)) (nomark _))
    (pss_one (ps_ret pe_bl))
    pss_nil)
    (pss_one (ps_ret (pe_cmpR (op_eqD hu64) (pe_lc (own := [("_law_k", 2)]) rfl sc_l_alike.nd (pi_range1 (by rfl) T.b_range (pa_cons (pe_callB call_len_seq (by rfl) T.b_len PySem.boot_len (pa_cons (pv 1) pa_nil)) pa_nil)) (blkOk_by (own := [("_law_k", 2)]) (N := n_l_alike) (sc := defScope s_l_alike) (by decide +kernel)) (fun _ _ _ _ _ => (pg_name (i := 2) sc_l_alike.nd rfl (Or.inl rfl))) (fun _ _ _ _ _ => (pts_one (pt_not (pt_val (pe_callO G_l_alike (hr.mono (by first | decide | omega)) T.g_l_alike passN (pa_cons (pe_ix (ix_seq_q K rfl) (pv 0) (pv 2) (fun _ _ => rfl)) (pa_cons (pe_ix (ix_seq_q K rfl) (pv 1) (pv 2) (fun _ _ => rfl)) pa_nil))))))) (fun _ _ _ _ _ => (pv 2))) (pe_lst pa_nil) (nomark _))))))
    pss_nil)
    (pss_cons (ps_if (PW.pt (pw_or (pt_cmp (pc_isN (pv 1)) rfl) (pw_or1 (pt_cmp (pc_isN (pv 0)) rfl))))
    (pss_one (ps_ret (pe_and (pe_cmp (pc_isN (pv 1)) rfl) (pe_one (pe_cmp (pc_isN (pv 0)) rfl)))))
    pss_nil)
    (pss_cons (ps_if (PW.pt (pw_or (pt_val (pe_callB call_isi (by rfl) T.b_isinstance boot_isinstance (pa_cons (pv 1) (pa_cons (pe_bltn (v := .ty "bool") (by rfl) T.b_bool boot_bool rfl) pa_nil)))) (pw_or1 (pt_val (pe_callB call_isi (by rfl) T.b_isinstance boot_isinstance (pa_cons (pv 0) (pa_cons (pe_bltn (v := .ty "bool") (by rfl) T.b_bool boot_bool rfl) pa_nil)))))))
    (pss_one (ps_ret (pe_and (pe_callB call_isi (by rfl) T.b_isinstance boot_isinstance (pa_cons (pv 1) (pa_cons (pe_bltn (v := .ty "bool") (by rfl) T.b_bool boot_bool rfl) pa_nil))) (pe_and (pe_callB call_isi (by rfl) T.b_isinstance boot_isinstance (pa_cons (pv 0) (pa_cons (pe_bltn (v := .ty "bool") (by rfl) T.b_bool boot_bool rfl) pa_nil))) (pe_one (pe_cmpR op_eq (pv 0) (pv 1) (nomark _)))))))
    pss_nil)
    (pss_cons (ps_if (pt_val (pe_callB call_isi (by rfl) T.b_isinstance boot_isinstance (pa_cons (pv 1) (pa_cons (pe_bltn (v := .ty "str") (by rfl) T.b_str boot_str rfl) pa_nil))))
    (pss_one (ps_ret (pe_and (pe_callB call_isi (by rfl) T.b_isinstance boot_isinstance (pa_cons (pv 0) (pa_cons (pe_bltn (v := .ty "str") (by rfl) T.b_str boot_str rfl) pa_nil))) (pe_one (pe_cmpR op_eq (pv 0) (pv 1) (nomark _))))))
    pss_nil)
    (pss_one (ps_ret (pe_and (pe_callB call_isi (by rfl) T.b_isinstance boot_isinstance (pa_cons (pv 0) (pa_cons (pe_bltn (v := .ty "int") (by rfl) T.b_int boot_int rfl) pa_nil))) (pe_one (pe_cmpR op_eq (pv 0) (pv 1) (nomark _)))))))))), ?_⟩
    cases d with
    | none =>
      cases hx
      cases hy
      refine ⟨_, rfl, ?_⟩
      refine ⟨_, _, .type "NoneType", .type "tuple", false, rfl, .ty _, .base .non, kb_NoneType_tuple, ?_⟩
      refine ⟨false, rfl, if_f rfl ⟨_, rfl, ?_⟩⟩
      refine ⟨_, _, .type "NoneType", .type "list", false, rfl, .ty _, .base .non, kb_NoneType_list, ?_⟩
      refine ⟨false, rfl, if_f rfl ?_⟩
      refine ⟨_, rfl, _, rfl, if_t rfl ⟨_, rfl, _, rfl, if_t rfl ⟨_, rfl, q _ (Same.refl _)⟩⟩⟩
    | bool b =>
      cases hx
      cases hy
      refine ⟨_, rfl, ?_⟩
      refine ⟨_, _, .type "bool", .type "tuple", false, rfl, .ty _, .base (.bl b), kb_bool_tuple, ?_⟩
      refine ⟨false, rfl, if_f rfl ⟨_, rfl, ?_⟩⟩
      refine ⟨_, _, .type "bool", .type "list", false, rfl, .ty _, .base (.bl b), kb_bool_list, ?_⟩
      refine ⟨false, rfl, if_f rfl ?_⟩
      refine ⟨_, rfl, _, rfl, if_f rfl ⟨_, rfl, _, rfl, if_f rfl ?_⟩⟩
      refine ⟨_, rfl, ?_⟩
      refine ⟨_, _, .type "bool", .type "bool", true, rfl, .ty _, .base (.bl b), kb_bool_bool, ?_⟩
      refine ⟨true, rfl, if_t rfl (if_t rfl ⟨_, rfl, ?_⟩)⟩
      refine ⟨_, _, .type "bool", .type "bool", true, rfl, .ty _, .base (.bl b), kb_bool_bool, ?_⟩
      refine ⟨true, rfl, if_t rfl ⟨_, rfl, ?_⟩⟩
      refine ⟨_, _, .type "bool", .type "bool", true, rfl, .ty _, .base (.bl b), kb_bool_bool, ?_⟩
      refine ⟨true, rfl, if_t rfl ⟨_, rfl, _, rfl, rfl, ?_⟩⟩
      rw [decide_eq_true rfl]
      exact q _ (Same.refl _)
    | int i =>
      cases hx
      cases hy
      refine ⟨_, rfl, ?_⟩
      refine ⟨_, _, .type "int", .type "tuple", false, rfl, .ty _, .base (.int i), kb_int_tuple, ?_⟩
      refine ⟨false, rfl, if_f rfl ⟨_, rfl, ?_⟩⟩
      refine ⟨_, _, .type "int", .type "list", false, rfl, .ty _, .base (.int i), kb_int_list, ?_⟩
      refine ⟨false, rfl, if_f rfl ?_⟩
      refine ⟨_, rfl, _, rfl, if_f rfl ⟨_, rfl, _, rfl, if_f rfl ?_⟩⟩
      refine ⟨_, rfl, ?_⟩
      refine ⟨_, _, .type "int", .type "bool", false, rfl, .ty _, .base (.int i), kb_int_bool, ?_⟩
      refine ⟨false, rfl, if_f rfl ⟨_, rfl, ?_⟩⟩
      refine ⟨_, _, .type "int", .type "bool", false, rfl, .ty _, .base (.int i), kb_int_bool, ?_⟩
      refine ⟨false, rfl, if_f rfl ?_⟩
      refine ⟨_, rfl, ?_⟩
      refine ⟨_, _, .type "int", .type "str", false, rfl, .ty _, .base (.int i), kb_int_str, ?_⟩
      refine ⟨false, rfl, if_f rfl ⟨_, rfl, ?_⟩⟩
      refine ⟨_, _, .type "int", .type "int", true, rfl, .ty _, .base (.int i), kb_int_int, ?_⟩
      refine ⟨true, rfl, if_t rfl ⟨_, rfl, _, rfl, rfl, ?_⟩⟩
      rw [decide_eq_true rfl]
      exact q _ (Same.refl _)
    | str z =>
      cases hx
      cases hy
      refine ⟨_, rfl, ?_⟩
      refine ⟨_, _, .type "str", .type "tuple", false, rfl, .ty _, .base (.str z), kb_str_tuple, ?_⟩
      refine ⟨false, rfl, if_f rfl ⟨_, rfl, ?_⟩⟩
      refine ⟨_, _, .type "str", .type "list", false, rfl, .ty _, .base (.str z), kb_str_list, ?_⟩
      refine ⟨false, rfl, if_f rfl ?_⟩
      refine ⟨_, rfl, _, rfl, if_f rfl ⟨_, rfl, _, rfl, if_f rfl ?_⟩⟩
      refine ⟨_, rfl, ?_⟩
      refine ⟨_, _, .type "str", .type "bool", false, rfl, .ty _, .base (.str z), kb_str_bool, ?_⟩
      refine ⟨false, rfl, if_f rfl ⟨_, rfl, ?_⟩⟩
      refine ⟨_, _, .type "str", .type "bool", false, rfl, .ty _, .base (.str z), kb_str_bool, ?_⟩
      refine ⟨false, rfl, if_f rfl ?_⟩
      refine ⟨_, rfl, ?_⟩
      refine ⟨_, _, .type "str", .type "str", true, rfl, .ty _, .base (.str z), kb_str_str, ?_⟩
      refine ⟨true, rfl, if_t rfl ⟨_, rfl, ?_⟩⟩
      refine ⟨_, _, .type "str", .type "str", true, rfl, .ty _, .base (.str z), kb_str_str, ?_⟩
      refine ⟨true, rfl, if_t rfl ⟨_, rfl, _, rfl, rfl, ?_⟩⟩
      rw [decide_eq_true rfl]
      exact q _ (Same.refl _)
    | dict kvs => cases n <;> cases hd
    | list ds =>
      obtain ⟨m, rfl⟩ : ∃ m, n = m + 1 := by
        cases n with
        | zero => cases hd
        | succ m => exact ⟨m, rfl⟩
      obtain rfl := h0 m rfl
      obtain ⟨hl, hd⟩ := hd
      obtain ⟨a, xs, rfl, ha, hxs⟩ := hx.lstI
      obtain ⟨b, ys, rfl, hb, hys⟩ := hy.lstI
      have lx := hxs.length
      have ly := hys.length
      refine ⟨_, rfl, ?_⟩
      refine ⟨_, _, .type "list", .type "tuple", false, rfl, .ty _, .base (.lst hb), kb_list_tuple, ?_⟩
      refine ⟨false, rfl, if_f rfl ⟨_, rfl, ?_⟩⟩
      refine ⟨_, _, .type "list", .type "list", true, rfl, .ty _, .base (.lst hb), kb_list_list, ?_⟩
      refine ⟨true, rfl, if_t rfl ?_⟩
      -- of one kind
      refine ⟨_, rfl, ?_⟩
      refine ⟨_, _, .type "list", .type "tuple", false, rfl, .ty _, .base (.lst ha), kb_list_tuple, ?_⟩
      refine ⟨_, rfl, ?_⟩
      refine ⟨_, _, .type "list", .type "tuple", false, rfl, .ty _, .base (.lst hb), kb_list_tuple, ?_⟩
      refine ⟨rfl, _, rfl, if_f rfl ⟨_, rfl, szl (by decide), fun t ht => ?_⟩⟩
      have sT : Same H (upd H t (.tup [.ty "tuple", .ty "list"])) := same_upd ht
      refine ⟨_, t, _, .type "list", [.type "tuple", .type "list"], true, rfl, upd_same, .cons (.ty _) (.cons (.ty _) .nil), .base (.lst (sT _ _ ha)), kit2 kb_list_tuple kb_list_list, _, rfl, if_f rfl ?_⟩
      -- of one length
      refine ⟨_, rfl, a, xs, rfl, .inl (sqm (sT _ _ ha)), _, rfl, b, ys, rfl, .inl (sqm (sT _ _ hb)), rfl, _, rfl, if_nd (fun _ => ?_) (fun c => absurd (by rw [lx, ly]) c)⟩
      refine ⟨_, rfl, b, ys, rfl, .inl (sqm (sT _ _ hb)), _, rfl, by omega, by omega, fun D nD => ?_⟩
      have sD : Same (upd H t (.tup [.ty "tuple", .ty "list"])) (upd (upd H t (.tup [.ty "tuple", .ty "list"])) D (.lst [])) := same_upd nD
      refine lc_range (lo := 0) (fun i H' => Same (upd (upd H t (.tup [.ty "tuple", .ty "list"])) D (.lst [])) H') (Same.refl _) ?_ ?_
      · intro i H1 hi s1
        have hi2 : i < ds.length := by
          rw [← ly]
          exact hi
        obtain ⟨vx, ex, rx⟩ := hxs.get (List.getElem?_eq_getElem hi2)
        obtain ⟨vy, ey, ry⟩ := hys.get (List.getElem?_eq_getElem hi2)
        have sA : Same H H1 := (sT.trans sD).trans s1
        refine ⟨rfl, _, rfl, _, rfl, .inl ⟨a, xs, _, vx, rfl, rfl, sqm (sA _ _ ha), at_of (by omega) ex, _, rfl, _, rfl, .inl ⟨b, ys, _, vy, rfl, rfl, sqm (sA _ _ hb), at_of (by omega) ey, ?_⟩⟩⟩
        refine ⟨vx, vy, ds[i], rfl, rx.mono sA, ry.mono sA, hd _ (List.getElem_mem hi2), fun H2 s2 => ⟨true, rfl, if_f rfl (s1.trans s2)⟩⟩
      · intro H1 s1
        refine ⟨szl (by decide), fun p hp => ?_⟩
        have eD : (upd H1 p (.lst [])) D = some (.lst []) := (same_upd hp) _ _ (s1 _ _ upd_same)
        refine ⟨.list [], .list [], .lst (sqm eD) .nil, .lst (sqm upd_same) .nil, by decide +kernel, by decide +kernel, ?_⟩
        exact q _ (((sT.trans sD).trans s1).trans (same_upd hp))
    | tuple ds =>
      obtain ⟨m, rfl⟩ : ∃ m, n = m + 1 := by
        cases n with
        | zero => cases hd
        | succ m => exact ⟨m, rfl⟩
      obtain rfl := h0 m rfl
      obtain ⟨hl, hd⟩ := hd
      obtain ⟨a, xs, rfl, ha, hxs⟩ := hx.tupI
      obtain ⟨b, ys, rfl, hb, hys⟩ := hy.tupI
      have lx := hxs.length
      have ly := hys.length
      refine ⟨_, rfl, ?_⟩
      refine ⟨_, _, .type "tuple", .type "tuple", true, rfl, .ty _, .base (.tup hb), kb_tuple_tuple, ?_⟩
      refine ⟨true, rfl, if_t rfl (if_t rfl ?_)⟩
      refine ⟨_, rfl, ?_⟩
      refine ⟨_, _, .type "tuple", .type "tuple", true, rfl, .ty _, .base (.tup ha), kb_tuple_tuple, ?_⟩
      refine ⟨_, rfl, ?_⟩
      refine ⟨_, _, .type "tuple", .type "tuple", true, rfl, .ty _, .base (.tup hb), kb_tuple_tuple, ?_⟩
      refine ⟨rfl, _, rfl, if_f rfl ⟨_, rfl, szl (by decide), fun t ht => ?_⟩⟩
      have sT : Same H (upd H t (.tup [.ty "tuple", .ty "list"])) := same_upd ht
      refine ⟨_, t, _, .type "tuple", [.type "tuple", .type "list"], true, rfl, upd_same, .cons (.ty _) (.cons (.ty _) .nil), .base (.tup (sT _ _ ha)), kit2 kb_tuple_tuple kb_tuple_list, _, rfl, if_f rfl ?_⟩
      refine ⟨_, rfl, a, xs, rfl, .inr (sqt (sT _ _ ha)), _, rfl, b, ys, rfl, .inr (sqt (sT _ _ hb)), rfl, _, rfl, if_nd (fun _ => ?_) (fun c => absurd (by rw [lx, ly]) c)⟩
      refine ⟨_, rfl, b, ys, rfl, .inr (sqt (sT _ _ hb)), _, rfl, by omega, by omega, fun D nD => ?_⟩
      have sD : Same (upd H t (.tup [.ty "tuple", .ty "list"])) (upd (upd H t (.tup [.ty "tuple", .ty "list"])) D (.lst [])) := same_upd nD
      refine lc_range (lo := 0) (fun i H' => Same (upd (upd H t (.tup [.ty "tuple", .ty "list"])) D (.lst [])) H') (Same.refl _) ?_ ?_
      · intro i H1 hi s1
        have hi2 : i < ds.length := by
          rw [← ly]
          exact hi
        obtain ⟨vx, ex, rx⟩ := hxs.get (List.getElem?_eq_getElem hi2)
        obtain ⟨vy, ey, ry⟩ := hys.get (List.getElem?_eq_getElem hi2)
        have sA : Same H H1 := (sT.trans sD).trans s1
        refine ⟨rfl, _, rfl, _, rfl, .inr (.inl ⟨a, xs, _, vx, rfl, rfl, sqt (sA _ _ ha), at_of (by omega) ex, _, rfl, _, rfl, .inr (.inl ⟨b, ys, _, vy, rfl, rfl, sqt (sA _ _ hb), at_of (by omega) ey, ?_⟩)⟩)⟩
        refine ⟨vx, vy, ds[i], rfl, rx.mono sA, ry.mono sA, hd _ (List.getElem_mem hi2), fun H2 s2 => ⟨true, rfl, if_f rfl (s1.trans s2)⟩⟩
      · intro H1 s1
        refine ⟨szl (by decide), fun p hp => ?_⟩
        have eD : (upd H1 p (.lst [])) D = some (.lst []) := (same_upd hp) _ _ (s1 _ _ upd_same)
        refine ⟨.list [], .list [], .lst (sqm eD) .nil, .lst (sqm upd_same) .nil, by decide +kernel, by decide +kernel, ?_⟩
        exact q _ (((sT.trans sD).trans s1).trans (same_upd hp))
theorem ok_alike (T : Tx K mg) : ∀ n, Ok P w K mg base (n + 1) (a_l_alike K) p_l_alike (sp_alike n)
  | 0 => ok_alike_step T (ok_never T.d_l_alike bd_l_alike) (fun m e => by cases e)
  | n + 1 => ok_alike_step T (ok_alike T n) (fun m e => by cases e; rfl)
end
end RL
namespace RL
open PySem PySem.Spec PyProof.Rows L2
theorem map_snoc (ns : List Int) (z : Int) : (ns ++ [z]).map V.int = ns.map V.int ++ [V.int z] := by simp
abbrev lawLevel : Nat := 2
theorem at2 {x y : V} {j : Int} (h0 : 0 ≤ j) (h1 : j < 2) : ∃ v, atI [x, y] j = some v ∧ (v = x ∨ v = y) := by
  rcases (by omega : j = 0 ∨ j = 1) with rfl | rfl
  · exact ⟨x, rfl, .inl rfl⟩
  · exact ⟨y, rfl, .inr rfl⟩
theorem pow_bnd {v : Int} (h0 : 0 ≤ v) (h1 : v < 60) : 1 ≤ ((2 ^ v.toNat : Nat) : Int) ∧ ((2 ^ v.toNat : Nat) : Int) ≤ 2 ^ 59 := by
  have a : 2 ^ v.toNat ≤ 2 ^ 59 := Nat.pow_le_pow_right (by decide) (by omega)
  have b : 0 < 2 ^ v.toNat := Nat.pow_pos (by decide)
  omega
theorem most_bnd {n : Int} (h0 : 1 ≤ n) (h1 : n ≤ 2 ^ 60) : 2 ≤ mostN n ∧ mostN n ≤ 62 := by
  have a : halv (n - 1).toNat ≤ 60 := halv_le (by omega)
  unfold mostN
  omega
theorem most_hi {n : Int} (h0 : 1 ≤ n) : n ≤ ((2 ^ (mostN n - 2).toNat : Nat) : Int) := by
  have a := halv_hi (n - 1).toNat
  have e : (mostN n - 2).toNat = halv (n - 1).toNat := by
    unfold mostN
    omega
  rw [e]
  omega
theorem most_lo {n : Int} (h0 : 1 < n) : 3 ≤ mostN n ∧ ((2 ^ (mostN n - 3).toNat : Nat) : Int) < n := by
  have a := halv_lo (n - 1).toNat (by omega)
  have b : halv (n - 1).toNat = halv ((n - 1).toNat / 2) + 1 := halv_pos (by omega)
  have e : (mostN n - 3).toNat = halv (n - 1).toNat - 1 := by
    unfold mostN
    omega
  rw [e]
  unfold mostN
  omega
section
variable {P : Program} {w : World} {K : PySem.W.Frag} {mg : Str → Option Value} {base : Heap}
theorem fn_law (T : Tx K mg) {fd : FuncData} (F : FunD K "law" "law" (defArgs s_law) (defBody s_law) (defScope s_law) [] [] (a_law K) fd) : FnOk P w K mg base (L2.CX P w) 2 (a_law K) fd p_law (sp_law K) := by
  have G_l_taken := ok_taken (P := P) (w := w) (base := base) T
  have G_l_doubled := ok_doubled (P := P) (w := w) (base := base) T
  have G_l_most := ok_law_most (P := P) (w := w) (base := base) T
  have G_most_reads := ok_most_reads (P := P) (w := w) (base := base) T
  have G_l_alike := ok_alike (P := P) (w := w) (base := base) T 0
  refine fnok_of F sc_law (fun vs H Q E h => ?_) (fun cdv A outer s H vs Q E hr tk po h => ?_)
  · obtain ⟨a, ns, rfl, _⟩ := h
    rfl
  · obtain ⟨a, sc, rfl, hS, q⟩ := h
    refine ⟨_, (pss_cons (ps_set (i := 1) sc_law.nd rfl (Or.inl rfl) (pe_lst (pa_cons (pv 0) (pa_cons pe_int (pa_cons pe_int pa_nil)))))
    (pss_cons (ps_set (i := 2) sc_law.nd rfl (Or.inl rfl) (pe_lst (pa_cons pe_int (pa_cons pe_int (pa_cons pe_int (pa_cons pe_int (pa_cons pe_int pa_nil)))))))
    (pss_cons (ps_for po rfl (pi_range1 (by rfl) T.b_range (pa_cons pe_int pa_nil)) (pg_name (i := 3) sc_law.nd rfl (Or.inl rfl))
    (pss_cons (ps_expr (pe_bm PySem.F.plainAttrs_list PySem.F.slot_list_append PySem.F.type_list_append mt_append (pv 2) (pa_cons (pe_op op_add pe_int (pe_callO G_l_taken (hr.mono (by first | decide | omega)) T.g_l_taken (passAt tk) (pa_cons (pv 1) (pa_cons pe_int pa_nil)))) pa_nil)))
    (pss_one (ps_expr (pe_bm PySem.F.plainAttrs_list PySem.F.slot_list_append PySem.F.type_list_append mt_append (pv 2) (pa_cons (pe_ix ix_list (pe_lst (pa_cons (pe_op op_add (pe_callO G_l_doubled (hr.mono (by first | decide | omega)) T.g_l_doubled (passAt tk) (pa_cons (pe_callO G_l_taken (hr.mono (by first | decide | omega)) T.g_l_taken (passAt tk) (pa_cons (pv 1) (pa_cons pe_int pa_nil))) pa_nil)) (pe_callO G_l_taken (hr.mono (by first | decide | omega)) T.g_l_taken (passAt tk) (pa_cons (pv 1) (pa_cons pe_int pa_nil)))) (pa_cons (pe_op op_add pe_int (pe_callO G_l_taken (hr.mono (by first | decide | omega)) T.g_l_taken (passAt tk) (pa_cons (pv 1) (pa_cons (pe_op op_pow pe_int pe_int) pa_nil)))) pa_nil))) (pe_op op_mod (pv 3) pe_int) (fun _ _ => rfl)) pa_nil))))))
    (pss_cons (ps_for po rfl (pi_list (pv 2)) (pg_name (i := 4) sc_law.nd rfl (Or.inl rfl))
    (pss_cons (ps_set (i := 5) sc_law.nd rfl (Or.inl rfl) (pe_callO G_most_reads (hr.mono (by first | decide | omega)) T.g_most_reads (passAt tk) (pa_cons (pv 4) pa_nil)))
    (pss_cons (ps_if (PW.pt (pw_or (pt_not (pt_val (pe_callO G_l_alike (hr.mono (by first | decide | omega)) T.g_l_alike (passAt tk) (pa_cons (pv 5) (pa_cons (pe_callO G_l_most (hr.mono (by first | decide | omega)) T.g_l_most (passAt tk) (pa_cons (pv 4) pa_nil)) pa_nil))))) (pw_or1 (pt_cmpR op_lt (pe_callO G_l_doubled (hr.mono (by first | decide | omega)) T.g_l_doubled (passAt tk) (pa_cons (pe_op op_sub (pv 5) pe_int) pa_nil)) (pv 4) (nomark _)))))
    (pss_one (ps_ret pe_bl))
    pss_nil)
    (pss_one (ps_if (PW.pt (pw_and (pt_cmpR op_gt (pv 4) pe_int (nomark _)) (pw_and1 (pt_cmpR op_ge (pe_callO G_l_doubled (hr.mono (by first | decide | omega)) T.g_l_doubled (passAt tk) (pa_cons (pe_op op_sub (pv 5) pe_int) pa_nil)) (pv 4) (nomark _)))))
    (pss_one (ps_ret pe_bl))
    pss_nil)))))
    (pss_one (ps_ret pe_bl)))))), ?_⟩
    have ro0 : RowOk K H a 0 := ⟨⟨sc, hS⟩, Int.le_refl 0⟩
    refine ⟨_, rfl, szl (by simp), fun r hr0 => ?_⟩
    have h1 := (Hs.start H).newM (o := rowO a 0 0) hr0
    refine ⟨szl (by simp), fun s hs0 => ?_⟩
    have h2 := h1.newM (o := .lst (([1, 2, 3, 4, 64] : List Int).map V.int)) hs0
    refine ⟨40, rfl, by decide, by decide, for_range (lo := 0) (fun i σ H' => ∃ i' m' ns z, σ = [some (.ref a), some (.ref r), some (.ref s), z, none, none] ∧ Hs [(s, .lst (ns.map V.int)), (r, rowO a i' m')] H H' ∧ RowOk K H a i' ∧ ns.length ≤ 5 + 2 * i ∧ ∀ n ∈ ns, 1 ≤ n ∧ n ≤ 2 ^ 60)
      ⟨0, 0, [1, 2, 3, 4, 64], none, rfl, h2, ro0, Nat.le_refl _, by decide⟩ ?_ ?_⟩
    · rintro i σ H1 hi ⟨i1, m1, ns, z, rfl, h, ro, hl, hb⟩
      -- some.append(1 + taken(row, 100))
      refine ⟨_, rfl, .inl ⟨rfl, _, sqm h.g0⟩, _, rfl, r, a, i1, m1, 100, _, H, rfl, h.m1, ro, by decide, fun H2 i2 m2 v h2 ro2 lo2 hi2 => ?_⟩
      refine ⟨1, v, rfl, rfl, s, ns.map V.int, _, rfl, rfl, h2.g1, szlt (by rw [List.length_map]; omega), ?_⟩
      have h3 : Hs [(r, rowO a i2 m2), (s, .lst ((ns ++ [1 + v]).map V.int))] H (upd H2 s (.lst (ns.map V.int ++ [V.int (1 + v)]))) := by
        rw [map_snoc]
        exact h2.set1
      -- some.append([..][k % 2])
      refine ⟨_, rfl, .inl ⟨rfl, _, sqm h3.g1⟩, _, rfl, r, a, i2, m2, 60, _, H, rfl, h3, ro2, by decide, fun H4 i4 m4 v4 h4 ro4 lo4 hi4 => ?_⟩
      refine ⟨v4, rfl, lo4, by omega, _, rfl, r, a, i4, m4, 2, _, H, rfl, h4, ro4, by decide, fun H5 i5 m5 v5 h5 ro5 lo5 hi5 => ?_⟩
      refine ⟨_, v5, rfl, rfl, _, rfl, 10, 18, rfl, rfl, ⟨by decide, by decide, by decide⟩, r, a, i5, m5, _, _, H, rfl, h5, ro5, by decide, fun H6 i6 m6 v6 h6 ro6 lo6 hi6 => ?_⟩
      refine ⟨1, v6, rfl, rfl, szl (by simp), fun p hp => ?_⟩
      have h7 := h6.junk (o := .lst [.int (((2 ^ v4.toNat : Nat) : Int) + v5), .int (1 + v6)]) hp
      obtain ⟨x, ex, hx⟩ := at2 (x := .int (((2 ^ v4.toNat : Nat) : Int) + v5)) (y := .int (1 + v6)) (j := (0 + (i : Int)) % 2) (by omega) (by omega)
      refine ⟨_, rfl, _, 2, rfl, rfl, (by show (0 : Int) < 2; decide), p, _, _, x, rfl, rfl, sqm upd_same, ex, ?_⟩
      have pb := pow_bnd lo4 hi4
      have hi6b : v6 < 10 ^ 18 := hi6
      obtain ⟨y, rfl, hy⟩ : ∃ y, x = .int y ∧ 1 ≤ y ∧ y ≤ 2 ^ 60 := by
        rcases hx with e | e
        · exact ⟨_, e, by omega, by omega⟩
        · exact ⟨_, e, by omega, by omega⟩
      refine ⟨s, _, _, rfl, rfl, h7.g1, szlt (by rw [List.length_map, List.length_append, List.length_singleton]; omega), i6, m6, ns ++ [1 + v] ++ [y], _, rfl, ?_, ro6, ?_, ?_⟩
      · rw [map_snoc (ns ++ [1 + v])]
        exact h7.set1.m1
      · simp only [List.length_append, List.length_singleton]
        omega
      · intro n hn
        rcases List.mem_append.mp hn with hn | hn
        · rcases List.mem_append.mp hn with hn | hn
          · exact hb n hn
          · rw [List.mem_singleton.mp hn]
            omega
        · rw [List.mem_singleton.mp hn]
          exact hy
    · rintro σ H1 ⟨i1, m1, ns, z, rfl, h, ro, hl, hb⟩
      refine ⟨_, rfl, s, rfl, ⟨_, sqm h.g0⟩, for_list (xs := ns.map V.int) (fun i σ H' => ∃ z1 z2 z3, σ = [some (.ref a), some (.ref r), some (.ref s), z1, z2, z3] ∧ Hs [(s, .lst (ns.map V.int)), (r, rowO a i1 m1)] H H')
        ⟨_, _, _, rfl, h⟩ (fun i σ H' _ ⟨_, _, _, _, h⟩ => sqm h.g0) ?_ ?_⟩
      · rintro i x σ H2 hx ⟨z1, z2, z3, rfl, h⟩
        obtain ⟨n, hn, rfl⟩ := List.mem_map.mp (List.mem_of_getElem? hx)
        obtain ⟨n1, n2⟩ := hb n hn
        have mb := most_bnd n1 n2
        refine ⟨_, rfl, n, rfl, n1, ?_⟩
        refine ⟨_, rfl, _, rfl, n, rfl, n1, _, _, .int (mostN n), rfl, .int _, .int _, okD_int, fun H3 s3 => ⟨true, rfl, if_f rfl ?_⟩⟩
        have h3 := h.grow s3
        refine ⟨_, rfl, mostN n, 2, rfl, rfl, mostN n - 2, rfl, by omega, by omega, _, rfl, _, n, rfl, rfl, _, rfl, if_d (fun c => absurd (most_hi n1) (by omega)) (fun c => ?_)⟩
        refine ⟨_, rfl, n, 1, rfl, rfl, _, rfl, if_d (fun c1 => ?_) (fun c1 => ?_)⟩
        · have ml := most_lo c1
          refine ⟨_, rfl, mostN n, 3, rfl, rfl, mostN n - 3, rfl, by omega, by omega, _, rfl, _, n, rfl, rfl, _, rfl, if_d (fun c => absurd ml.2 (by omega)) (fun c => ?_)⟩
          exact ⟨_, _, _, rfl, h3⟩
        · exact ⟨_, _, _, rfl, h3⟩
      · rintro σ H2 ⟨z1, z2, z3, rfl, h⟩
        exact q _
end
end RL
namespace RL
open PySem PySem.Spec PyProof.Rows L2
abbrev Rw : PySem.W.OpenRow := PySem.W.OpenLaw.row PySem.Challenge.rw_ringlog_k05_how_many_reads
abbrev hk : PySem.W.Hook := He.hookD 6 fa fn
def ob (s : PySem.W.SharedT) : He.AlD := He.obsDG 6 fa fn (HandSHeadRun.getT s)
theorem ob_eq (s : PySem.W.SharedT) : ob s = hk.obs s.abs := He.obsDG_eq (HandSHeadRun.getT_eq s)
theorem run (w : World) : HandSHeadRun.RunEq Rw (PySem.W.view Rw.prog [7]) hk ob 20000 ["most_reads", "_law_taken", "_law_most", "_law_alike", "_law_doubled"] w := by
  intro os
  kernel_rfl
theorem facts {P : Program} {w : World} {K : PySem.W.Frag} {h : Heap} {mg : Str → Option Value} {f : Addr} (X : K.In h) (G : h.Ns mainGlobals mg) (hfa : mg ("law" : Str) = some (.ref f)) (c : He.SaysD fa fn K) :
    ∃ fd : FuncData, (∀ (s : Shared) (v : Value), BindsTo s fd ⟨[v], []⟩ [("_law_script", v)]) ∧ ∀ base : Heap, K.In base → base.Ns mainGlobals mg → FnOk P w K mg base CX0 lawLevel f fd ["_law_script"] (sp_law K) := by
  have T := Tx.of X G c
  obtain ⟨fd, F⟩ := T.d_law
  have e := hfa.symm.trans T.g_law
  cases e
  have b := FunD.bindsA (ps := ["_law_script"]) F fun _ _ _ _ _ _ us hl => match us, hl with | [_], _ => rfl
  exact ⟨fd, fun s v => b s [v] rfl, fun base _ _ => fn_cx0 (fn_law T F) fun _ _ _ _ h => h⟩
end RL
open PySem PySem.W PySem.Calls PyProof.Rows
set_option maxRecDepth 100000 in
set_option maxHeartbeats 0 in
theorem PySem.Challenge.cw_ringlog_k05_how_many_reads_holds : PySem.Challenge.rw_ringlog_k05_how_many_reads.Holds := by
  w_on; o_law
  refine HandSHeadRun.head_any (r := OpenLaw.row PySem.Challenge.rw_ringlog_k05_how_many_reads) (q := view (OpenLaw.row PySem.Challenge.rw_ringlog_k05_how_many_reads).prog [7]) (H := RL.hk) (ob := RL.ob) (M := 20000) (loose := ["most_reads", "_law_taken", "_law_most", "_law_alike", "_law_doubled"]) (d := HandSHeadRun.topDef (OpenLaw.row PySem.Challenge.rw_ringlog_k05_how_many_reads).prog 7) (kwd := []) RL.ob_eq
    (by kernel_rfl) (fun s => by kernel_rfl) RL.run (by kernel_rfl) (by kernel_rfl) (by kernel_rfl) (by rfl) (by first | assumption | decide +kernel) (by decide +kernel) ⟨rfl, rfl, rfl, rfl, rfl, by decide +kernel⟩ ?hw ?hc
  case hw => w_witness2
  case hc =>
    refine L2.walk_ofE (l := PySem.Challenge.rw_ringlog_k05_how_many_reads) (n := 63) (k := RL.lawLevel) (x := "_law_script") (CX := L2.CX0) rfl (by decide) (by kernel_rfl) ⟨rfl, by decide, by decide⟩ ?F (fun _ _ _ _ z => z)
    intro w mg fa h Y G hmg0
    obtain ⟨K, KX, c⟩ := Y
    have hmg : mg ("law" : PySem.Str) = some (.ref fa) := by
      have e : (HandSHeadRun.topDef (OpenLaw.row PySem.Challenge.rw_ringlog_k05_how_many_reads).prog 7).name = ("law" : PySem.Str) := by kernel_rfl
      rw [← e]
      exact hmg0
    obtain ⟨fd, hb, hF⟩ := RL.facts (P := (PySem.Challenge.rw_ringlog_k05_how_many_reads).prog) (w := w) KX G hmg c
    exact ⟨K, fd, RL.sp_law K, KX, hb, fun H a ns hl _ hS => ⟨a, ns, rfl, hS, fun _ => rfl⟩, hF⟩

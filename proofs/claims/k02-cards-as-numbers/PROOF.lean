import PyProof.Rows.All
import Wide.All
import OpenK.AllK
import Wide.FinOn
import PyProof.EqAt
import PyProof.EqKinds
import PyProof.TupleCall
import HandS.ForMost
import HandS.Exc
import HandS.Defaults
import HandS.HeadHook2
import HandS.TupAny
import HandS.TupMul
import HandS.Style
import HandS.Text
import PyProof.P3In
import KE.LtData
import HandS.CallSlots
import HandS.WordsExc
import HandS.Zip
import HandS.Ends
import HandS.HeadEnd
import HandS.ExcInit
import HandS.ExcField
import HandS.List
import HandS.More
import HandS.IsInst
import HandS.WideBits
import HandS.RaiseMore
import HandS.FStr
import HandS.Star
import HandS.Conv
import HandS.Replace
import PyProof.ReprRoads
import HandS.Words
import KE.GoesEnum
import HandS.Set
import HandS.SetFor
import KE.SortData
import KE.KUnpackStar
import KE.KRevSl
import HandS.ReplaceLit
import PySem.Challenge.RW_thirdgames_k02_whole_cards_as_numbers_of
import PyProof.StrLawsRepr
import HandS.Head2
import HandS.HeadHook4
import KE.KStateDown
set_option Elab.async false
set_option linter.all false
set_option maxRecDepth 100000
set_option maxHeartbeats 0
section
/-! Ev: values by data, a small store of what is changed, readings as functions. -/
namespace Ev
open PySem PySem.Spec PyProof.Rows L2

abbrev Frag := PySem.W.Frag
/-- what an expression may stand for: data; a list that is known to the object; a changed thing by its number in the store; a caught exception at a, its dict dd, its one attribute f -/
inductive Vl where
  | d (x : PyData)
  | z (xs : List PyData)
  | r (n : Nat)
  | x (a dd : Addr) (f : Str) (p : PyData)
/-- a changed thing -/
inductive SO where
  | lst (xs : List PyData)
  | dic (kvs : List (Key × PyData))
abbrev Sto := List (Option SO)
abbrev Env := List (Option Vl)
/-- where the changed things stand; what no data refers to (lists that are being made) -/
structure Mp where
  f : Nat → Addr
  z : Addr → Prop
inductive Out (α : Type) where
  | ok (x : α) (S : Sto)
  | exc (c : Str) (p : Vl) (S : Sto)
  | stuck
abbrev EF := Env → Sto → Out Vl

/-! ### data in the heap -/
mutual
inductive Rp (K : Frag) (H : Hp) (M : Addr → Prop) : PyData → V → Prop
  | non : Rp K H M .none .non
  | bl (b : Bool) : Rp K H M (.bool b) (.bl b)
  | int (i : Int) : Rp K H M (.int i) (.int i)
  | str (x : Str) : Rp K H M (.str x) (.str x)
  | lst {a : Addr} {vs : List V} {ds : List PyData} : H a = some (.lst vs) → ¬ M a → RpL K H M ds vs → Rp K H M (.list ds) (.ref a)
  | tup {a : Addr} {vs : List V} {ds : List PyData} : SqT K H a vs → RpL K H M ds vs → Rp K H M (.tuple ds) (.ref a)
inductive RpL (K : Frag) (H : Hp) (M : Addr → Prop) : List PyData → List V → Prop
  | nil : RpL K H M [] []
  | cons {d : PyData} {ds : List PyData} {v : V} {vs : List V} : Rp K H M d v → RpL K H M ds vs → RpL K H M (d :: ds) (v :: vs)
end
section
variable {K : Frag} {H H' : Hp} {M M' : Addr → Prop}
/-- what stands and is not changed stands behind, and is not changed -/
def Kp (H : Hp) (M : Addr → Prop) (H' : Hp) (M' : Addr → Prop) : Prop := ∀ a o, H a = some o → ¬ M a → H' a = some o ∧ ¬ M' a
/-- what stands of tuples stands behind -/
def KpT (K : Frag) (H H' : Hp) : Prop := ∀ a vs, SqT K H a vs → SqT K H' a vs
mutual
theorem Rp.ext (k : Kp H M H' M') (n : KpT K H H') : ∀ (d : PyData) {v : V}, Rp K H M d v → Rp K H' M' d v
  | .none, _, h => by cases h; exact .non
  | .bool _, _, h => by cases h; exact .bl _
  | .int _, _, h => by cases h; exact .int _
  | .str _, _, h => by cases h; exact .str _
  | .list ds, _, h => by
    cases h with
    | lst h1 h2 h3 =>
      obtain ⟨q1, q2⟩ := k _ _ h1 h2
      exact .lst q1 q2 (RpL.ext k n ds h3)
  | .tuple ds, _, h => by
    cases h with
    | tup h1 h3 => exact .tup (n _ _ h1) (RpL.ext k n ds h3)
  | .dict _, _, h => by cases h
theorem RpL.ext (k : Kp H M H' M') (n : KpT K H H') : ∀ (ds : List PyData) {vs : List V}, RpL K H M ds vs → RpL K H' M' ds vs
  | [], _, h => by cases h; exact .nil
  | d :: ds, _, h => by
    cases h with
    | cons h1 h2 => exact .cons (Rp.ext k n d h1) (RpL.ext k n ds h2)
end
mutual
theorem Rp.dp : ∀ (d : PyData) {v : V}, Rp K H M d v → Dp K H v d
  | .none, _, h => by cases h; exact .non
  | .bool _, _, h => by cases h; exact .bl _
  | .int _, _, h => by cases h; exact .int _
  | .str _, _, h => by cases h; exact .str _
  | .list ds, _, h => by
    cases h with
    | lst h1 _ h3 => exact .lst (SqL.of h1) (RpL.dp ds h3)
  | .tuple ds, _, h => by
    cases h with
    | tup h1 h3 => exact .tup h1 (RpL.dp ds h3)
  | .dict _, _, h => by cases h
theorem RpL.dp : ∀ (ds : List PyData) {vs : List V}, RpL K H M ds vs → DpAll K H vs ds
  | [], _, h => by cases h; exact .nil
  | d :: ds, _, h => by
    cases h with
    | cons h1 h2 => exact .cons (Rp.dp d h1) (RpL.dp ds h2)
end
theorem RpL.length : ∀ {ds : List PyData} {vs : List V}, RpL K H M ds vs → ds.length = vs.length
  | [], _, h => by cases h; rfl
  | d :: ds, _, h => by
    cases h with
    | cons h1 h2 => simp [RpL.length h2]
theorem RpL.get : ∀ {ds : List PyData} {vs : List V} {i : Nat} {d : PyData}, RpL K H M ds vs → ds[i]? = some d → ∃ v, vs[i]? = some v ∧ Rp K H M d v
  | [], _, _, _, h, e => by simp at e
  | d :: ds, _, 0, x, h, e => by
    cases h with
    | cons h1 h2 => simp at e; subst e; exact ⟨_, rfl, h1⟩
  | d :: ds, _, i + 1, x, h, e => by
    cases h with
    | cons h1 h2 => simpa using RpL.get (i := i) h2 (by simpa using e)
theorem RpL.append : ∀ {ds es : List PyData} {vs ws : List V}, RpL K H M ds vs → RpL K H M es ws → RpL K H M (ds ++ es) (vs ++ ws)
  | [], _, _, _, h, g => by cases h; exact g
  | d :: ds, _, _, _, h, g => by
    cases h with
    | cons h1 h2 => exact .cons h1 (RpL.append h2 g)
theorem RpL.take : ∀ {ds : List PyData} {vs : List V} (n : Nat), RpL K H M ds vs → RpL K H M (ds.take n) (vs.take n)
  | _, _, 0, _ => .nil
  | [], _, _ + 1, h => by cases h; exact .nil
  | d :: ds, _, n + 1, h => by
    cases h with
    | cons h1 h2 => exact .cons h1 (RpL.take n h2)
theorem RpL.drop : ∀ {ds : List PyData} {vs : List V} (n : Nat), RpL K H M ds vs → RpL K H M (ds.drop n) (vs.drop n)
  | _, _, 0, h => h
  | [], _, _ + 1, h => by cases h; exact .nil
  | d :: ds, _, n + 1, h => by
    cases h with
    | cons h1 h2 => exact RpL.drop n h2
theorem RpL.set {d : PyData} {v : V} (r : Rp K H M d v) : ∀ {ds : List PyData} {vs : List V} (i : Nat), RpL K H M ds vs → RpL K H M (ds.set i d) (vs.set i v)
  | [], _, _, h => by cases h; exact .nil
  | e :: ds, _, 0, h => by
    cases h with
    | cons h1 h2 => exact .cons r h2
  | e :: ds, _, i + 1, h => by
    cases h with
    | cons h1 h2 => exact .cons h1 (RpL.set r i h2)
theorem RpL.reverse : ∀ {ds : List PyData} {vs : List V}, RpL K H M ds vs → RpL K H M ds.reverse vs.reverse
  | [], _, h => by cases h; exact .nil
  | d :: ds, _, h => by
    cases h with
    | cons h1 h2 =>
      rw [List.reverse_cons, List.reverse_cons]
      exact RpL.append (RpL.reverse h2) (.cons h1 .nil)
theorem RpL.ints : ∀ {ns : List Int} {vs : List V}, RpL K H M (ns.map PyData.int) vs → vs = ns.map V.int
  | [], _, h => by cases h; rfl
  | n :: ns, _, h => by
    cases h with
    | cons h1 h2 => cases h1; rw [RpL.ints h2]; rfl
theorem RpL.strs : ∀ {ns : List Str} {vs : List V}, RpL K H M (ns.map PyData.str) vs → vs = ns.map V.str
  | [], _, h => by cases h; rfl
  | n :: ns, _, h => by
    cases h with
    | cons h1 h2 => cases h1; rw [RpL.strs h2]; rfl
theorem RpL.of_ints : ∀ (ns : List Int), RpL K H M (ns.map PyData.int) (ns.map V.int)
  | [] => .nil
  | n :: ns => .cons (.int n) (RpL.of_ints ns)
theorem RpL.of_strs : ∀ (ns : List Str), RpL K H M (ns.map PyData.str) (ns.map V.str)
  | [] => .nil
  | n :: ns => .cons (.str n) (RpL.of_strs ns)
end

/-! ### the store -/
/-- what is changed now -/
def live (S : Sto) (m : Mp) : Addr → Prop := fun a => ∃ (n : Nat) (o : SO), S[n]? = some (some o) ∧ m.f n = a
/-- what no data refers to -/
def hid (S : Sto) (m : Mp) : Addr → Prop := fun a => live S m a ∨ m.z a
def SoR (K : Frag) (H : Hp) (M : Addr → Prop) (a : Addr) : SO → Prop
  | .lst xs => ∃ vs, H a = some (.lst vs) ∧ RpL K H M xs vs
  | .dic kvs => ∃ kws, H a = some (.dK kws) ∧ kws.map (·.1) = kvs.map (·.1) ∧ RpL K H M (kvs.map (·.2)) (kws.map (·.2))
structure Sok (K : Frag) (H : Hp) (S : Sto) (m : Mp) : Prop where
  at_ : ∀ (n : Nat) (o : SO), S[n]? = some (some o) → SoR K H (hid S m) (m.f n) o
  inj : ∀ (i j : Nat) (oi oj : SO), S[i]? = some (some oi) → S[j]? = some (some oj) → m.f i = m.f j → i = j
  zs : ∀ a, m.z a → (∃ u, H a = some u) ∧ ¬ live S m a
structure Xt (H : Hp) (S : Sto) (m : Mp) (H' : Hp) (S' : Sto) (m' : Mp) : Prop where
  len : S.length ≤ S'.length
  mp : ∀ n, n < S.length → m'.f n = m.f n
  z : m'.z = m.z
  keep : Kp H (live S m) H' (live S' m')
/-- the script: known to the object, or the module's own -/
def SzL (K : Frag) (H : Hp) (a : Addr) (vs : List V) : Prop := (∃ o, H a = some (.frz o (.lst vs))) ∨ ∀ H' : Hp, SqL K H' a vs
theorem SzL.sql {K : Frag} {H : Hp} {a : Addr} {vs : List V} (h : SzL K H a vs) : SqL K H a vs := h.elim (fun ⟨o, q⟩ => .inl (.inr ⟨o, q⟩)) fun q => q H
theorem SzL.keep {K : Frag} {H H' : Hp} {a : Addr} {vs : List V} (h : SzL K H a vs) (k : ∀ o, H a = some (.frz o (.lst vs)) → H' a = some (.frz o (.lst vs))) : SzL K H' a vs := h.elim (fun ⟨o, q⟩ => .inl ⟨o, k o q⟩) .inr
def RpV (K : Frag) (H : Hp) (S : Sto) (m : Mp) : Vl → V → Prop
  | .d x, v => Rp K H (hid S m) x v
  | .z xs, v => ∃ a vs, v = .ref a ∧ SzL K H a vs ∧ RpL K H (hid S m) xs vs
  | .r n, v => n < S.length ∧ v = .ref (m.f n)
  | .x a dd f p, v => v = .ref a ∧ ∃ u, H dd = some (.xd [(f, u)]) ∧ Rp K H (hid S m) p u
inductive RpVs (K : Frag) (H : Hp) (S : Sto) (m : Mp) : List Vl → List V → Prop
  | nil : RpVs K H S m [] []
  | cons {x : Vl} {xs : List Vl} {v : V} {vs : List V} : RpV K H S m x v → RpVs K H S m xs vs → RpVs K H S m (x :: xs) (v :: vs)
section
variable {K : Frag} {H H1 H2 : Hp} {S S1 S2 : Sto} {m m1 m2 : Mp}
theorem SoR.ext {M M' : Addr → Prop} {a b : Addr} {o : SO} (q : SoR K H M a o) (k : Kp H M H1 M') (n : KpT K H H1) (e : ∀ u, H a = some u → H1 b = some u) : SoR K H1 M' b o := by
  cases o with
  | lst xs =>
    obtain ⟨vs, h1, h2⟩ := q
    exact ⟨vs, e _ h1, RpL.ext k n xs h2⟩
  | dic kvs =>
    obtain ⟨vs, h1, h2, h3⟩ := q
    exact ⟨vs, e _ h1, h2, RpL.ext k n _ h3⟩
theorem SoR.some {M : Addr → Prop} {a : Addr} {o : SO} (q : SoR K H M a o) : (∃ xs, H a = some (.lst xs)) ∨ (∃ kvs, H a = some (.dK kvs)) := by
  cases o with
  | lst xs => obtain ⟨vs, h1, _⟩ := q; exact .inl ⟨vs, h1⟩
  | dic kvs => obtain ⟨vs, h1, _⟩ := q; exact .inr ⟨vs, h1⟩
theorem Sok.shape (s : Sok K H S m) {a : Addr} (l : live S m a) : (∃ xs, H a = some (.lst xs)) ∨ (∃ kvs, H a = some (.dK kvs)) := by
  obtain ⟨n, o, h, rfl⟩ := l
  exact (s.at_ n o h).some
theorem Sok.notLive (s : Sok K H S m) {a : Addr} {u : HO} (h : H a = some u) (n1 : ∀ xs, u ≠ .lst xs) (n2 : ∀ xs, u ≠ .dK xs) : ¬ live S m a := fun l => by
  rcases s.shape l with ⟨xs, q⟩ | ⟨xs, q⟩ <;> rw [h] at q <;> cases q
  · exact n1 _ rfl
  · exact n2 _ rfl
theorem Xt.kpT (x : Xt H S m H1 S1 m1) (s : Sok K H S m) : KpT K H H1 := fun a vs h => by
  rcases h with (h | ⟨o, h⟩) | h
  · exact .inl (.inl (x.keep a _ h (s.notLive h (fun _ z => by cases z) fun _ z => by cases z)).1)
  · exact .inl (.inr ⟨o, (x.keep a _ h (s.notLive h (fun _ z => by cases z) fun _ z => by cases z)).1⟩)
  · exact .inr h
theorem Xt.kp (x : Xt H S m H1 S1 m1) : Kp H (hid S m) H1 (hid S1 m1) := fun a o h n => by
  obtain ⟨h1, n1⟩ := x.keep a o h fun l => n (.inl l)
  refine ⟨h1, fun q => ?_⟩
  rcases q with q | q
  · exact n1 q
  · rw [x.z] at q; exact n (.inr q)
theorem Xt.zs (x : Xt H S m H1 S1 m1) (h : ∀ a, m.z a → (∃ u, H a = some u) ∧ ¬ live S m a) : ∀ a, m1.z a → (∃ u, H1 a = some u) ∧ ¬ live S1 m1 a := fun a q => by
  rw [x.z] at q
  obtain ⟨⟨u, e⟩, n⟩ := h a q
  obtain ⟨e1, n1⟩ := x.keep a u e n
  exact ⟨⟨u, e1⟩, n1⟩
theorem Xt.refl : Xt H S m H S m := ⟨Nat.le_refl _, fun _ _ => rfl, rfl, fun _ _ h n => ⟨h, n⟩⟩
theorem Xt.trans (a : Xt H S m H1 S1 m1) (b : Xt H1 S1 m1 H2 S2 m2) : Xt H S m H2 S2 m2 :=
  ⟨Nat.le_trans a.len b.len, fun n h => (b.mp n (Nat.lt_of_lt_of_le h a.len)).trans (a.mp n h), b.z.trans a.z, fun c o h q => by
    obtain ⟨h1, q1⟩ := a.keep c o h q
    exact b.keep c o h1 q1⟩
theorem RpV.ext (x : Xt H S m H1 S1 m1) (s : Sok K H S m) : ∀ {y : Vl} {v : V}, RpV K H S m y v → RpV K H1 S1 m1 y v
  | .d d, _, h => Rp.ext x.kp (x.kpT s) d h
  | .z xs, _, ⟨a, vs, e, h, r⟩ => ⟨a, vs, e, h.keep fun o h => (x.keep a _ h (s.notLive h (fun _ z => by cases z) fun _ z => by cases z)).1, RpL.ext x.kp (x.kpT s) xs r⟩
  | .r n, _, ⟨h, e⟩ => ⟨Nat.lt_of_lt_of_le h x.len, by rw [x.mp n h]; exact e⟩
  | .x a dd f p, _, ⟨e, u, h, r⟩ => ⟨e, u, (x.keep dd _ h (s.notLive h (fun _ z => by cases z) fun _ z => by cases z)).1, Rp.ext x.kp (x.kpT s) p r⟩
theorem RpVs.ext (x : Xt H S m H1 S1 m1) (s : Sok K H S m) : ∀ {ys : List Vl} {vs : List V}, RpVs K H S m ys vs → RpVs K H1 S1 m1 ys vs
  | _, _, .nil => .nil
  | _, _, .cons h t => .cons (h.ext x s) (RpVs.ext x s t)
theorem RpVs.length : ∀ {ys : List Vl} {vs : List V}, RpVs K H S m ys vs → ys.length = vs.length
  | _, _, .nil => rfl
  | _, _, .cons h t => by simp [RpVs.length t]
/-- a new object that is no changed one -/
theorem Xt.new {p : Addr} {o : HO} (hp : H p = none) : Xt H S m (upd H p o) S m :=
  ⟨Nat.le_refl _, fun _ _ => rfl, rfl, fun a u h n => ⟨by rw [upd_ne (ne_of_none h hp)]; exact h, n⟩⟩
theorem Sok.new {p : Addr} {o : HO} (s : Sok K H S m) (hp : H p = none) : Sok K (upd H p o) S m := by
  have x : Xt H S m (upd H p o) S m := .new hp
  exact ⟨fun n u h => (s.at_ n u h).ext x.kp (x.kpT s) fun w e => by rw [upd_ne (ne_of_none e hp)]; exact e, s.inj, x.zs s.zs⟩
theorem Sok.z_none {p : Addr} (s : Sok K H S m) (hp : H p = none) : ¬ m.z p := fun q => by
  obtain ⟨⟨u, e⟩, _⟩ := s.zs p q
  rw [hp] at e; cases e
theorem live.at_none {p : Addr} (s : Sok K H S m) (hp : H p = none) : ¬ live S m p := fun l => by
  rcases s.shape l with ⟨_, q⟩ | ⟨_, q⟩ <;> rw [hp] at q <;> cases q
theorem Rp.newLst {p : Addr} {ds : List PyData} {vs : List V} (s : Sok K H S m) (hp : H p = none) (r : RpL K H (hid S m) ds vs) : Rp K (upd H p (.lst vs)) (hid S m) (.list ds) (.ref p) := by
  have x : Xt H S m (upd H p (.lst vs)) S m := .new hp
  exact .lst upd_same (fun q => q.elim (live.at_none s hp) (s.z_none hp)) (RpL.ext x.kp (x.kpT s) ds r)
theorem Rp.newTup {p : Addr} {ds : List PyData} {vs : List V} (s : Sok K H S m) (hp : H p = none) (r : RpL K H (hid S m) ds vs) : Rp K (upd H p (.tup vs)) (hid S m) (.tuple ds) (.ref p) := by
  have x : Xt H S m (upd H p (.tup vs)) S m := .new hp
  exact .tup (SqT.of upd_same) (RpL.ext x.kp (x.kpT s) ds r)

/-- a new changed thing: its number is the store's length -/
def mx (m : Mp) (k : Nat) (p : Addr) : Mp := ⟨fun n => if n = k then p else m.f n, m.z⟩
theorem mx_ne {k n : Nat} {p : Addr} (h : n ≠ k) : (mx m k p).f n = m.f n := if_neg h
theorem mx_eq {k : Nat} {p : Addr} : (mx m k p).f k = p := if_pos rfl
theorem live.push {u : SO} {p a : Addr} : live (S ++ [some u]) (mx m S.length p) a ↔ live S m a ∨ a = p := by
  constructor
  · rintro ⟨n, o, h, e⟩
    by_cases hn : n < S.length
    · rw [List.getElem?_append_left hn] at h
      rw [mx_ne (Nat.ne_of_lt hn)] at e
      exact .inl ⟨n, o, h, e⟩
    · have : n = S.length := by
        have q := (List.getElem?_eq_some_iff.mp h).1
        simp at q; omega
      subst this
      rw [mx_eq] at e
      exact .inr e.symm
  · rintro (⟨n, o, h, e⟩ | rfl)
    · have hn := (List.getElem?_eq_some_iff.mp h).1
      exact ⟨n, o, by rw [List.getElem?_append_left hn]; exact h, by rw [mx_ne (Nat.ne_of_lt hn)]; exact e⟩
    · exact ⟨S.length, u, by simp, mx_eq⟩
theorem Xt.push {u : SO} {o : HO} {p : Addr} (hp : H p = none) : Xt H S m (upd H p o) (S ++ [some u]) (mx m S.length p) := by
  refine ⟨by simp, fun n h => mx_ne (Nat.ne_of_lt h), rfl, fun a w h n => ⟨by rw [upd_ne (ne_of_none h hp)]; exact h, fun l => ?_⟩⟩
  rcases live.push.mp l with l | e
  · exact n l
  · subst e; rw [hp] at h; cases h
theorem Sok.push {u : SO} {o : HO} {p : Addr} (s : Sok K H S m) (hp : H p = none) (hu : SoR K (upd H p o) (hid (S ++ [some u]) (mx m S.length p)) p u) :
    Sok K (upd H p o) (S ++ [some u]) (mx m S.length p) := by
  have x := Xt.push (S := S) (m := m) (u := u) (o := o) hp
  have nl := live.at_none s hp
  refine ⟨fun n w h => ?_, fun i j oi oj hi hj e => ?_, x.zs s.zs⟩
  · by_cases hn : n < S.length
    · rw [List.getElem?_append_left hn] at h
      rw [mx_ne (Nat.ne_of_lt hn)]
      exact (s.at_ n w h).ext x.kp (x.kpT s) fun w e => by rw [upd_ne (ne_of_none e hp)]; exact e
    · have e : n = S.length := by
        have q := (List.getElem?_eq_some_iff.mp h).1
        simp at q; omega
      subst e
      have e2 : w = u := by simpa using h.symm
      subst e2
      rw [mx_eq]
      exact hu
  · have bi := (List.getElem?_eq_some_iff.mp hi).1
    have bj := (List.getElem?_eq_some_iff.mp hj).1
    simp at bi bj
    have lv : ∀ (k : Nat) (ok : SO), k < S.length → (S ++ [some u])[k]? = some (some ok) → live S m (m.f k) := fun k ok hk h => by
      rw [List.getElem?_append_left hk] at h; exact ⟨k, ok, h, rfl⟩
    by_cases hi' : i < S.length
    · by_cases hj' : j < S.length
      · rw [mx_ne (Nat.ne_of_lt hi'), mx_ne (Nat.ne_of_lt hj')] at e
        rw [List.getElem?_append_left hi'] at hi
        rw [List.getElem?_append_left hj'] at hj
        exact s.inj i j oi oj hi hj e
      · have ej : j = S.length := by omega
        rw [mx_ne (Nat.ne_of_lt hi'), ej, mx_eq] at e
        exact absurd (e ▸ lv i oi hi' hi) nl
    · have ei : i = S.length := by omega
      by_cases hj' : j < S.length
      · rw [ei, mx_eq, mx_ne (Nat.ne_of_lt hj')] at e
        exact absurd (e ▸ lv j oj hj' hj) nl
      · omega

/-- a changed thing is changed -/
theorem live.set {n : Nat} {u w : SO} {a : Addr} (h : S[n]? = some (some u)) : live (S.set n (some w)) m a ↔ live S m a := by
  have hn := (List.getElem?_eq_some_iff.mp h).1
  constructor
  · rintro ⟨k, o, hk, e⟩
    by_cases q : n = k
    · subst q; exact ⟨n, u, h, e⟩
    · rw [List.getElem?_set_ne q] at hk; exact ⟨k, o, hk, e⟩
  · rintro ⟨k, o, hk, e⟩
    by_cases q : n = k
    · subst q; exact ⟨n, w, List.getElem?_set_self hn, e⟩
    · exact ⟨k, o, by rw [List.getElem?_set_ne q]; exact hk, e⟩
theorem Xt.set {n : Nat} {u w : SO} {o : HO} (h : S[n]? = some (some u)) : Xt H S m (upd H (m.f n) o) (S.set n (some w)) m := by
  refine ⟨by simp, fun _ _ => rfl, rfl, fun a v e q => ⟨?_, fun l => q ((live.set h).mp l)⟩⟩
  have : a ≠ m.f n := fun z => q (z ▸ ⟨n, u, h, rfl⟩)
  rw [upd_ne this]; exact e
theorem Sok.set {n : Nat} {u w : SO} {o : HO} (s : Sok K H S m) (h : S[n]? = some (some u)) (hw : SoR K (upd H (m.f n) o) (hid (S.set n (some w)) m) (m.f n) w) :
    Sok K (upd H (m.f n) o) (S.set n (some w)) m := by
  have x := Xt.set (H := H) (m := m) (w := w) (o := o) h
  have hn := (List.getElem?_eq_some_iff.mp h).1
  have old : ∀ (k : Nat) (ok : SO), (S.set n (some w))[k]? = some (some ok) → ∃ ok' : SO, S[k]? = some (some ok') := fun k ok hk => by
    by_cases q : n = k
    · subst q; exact ⟨u, h⟩
    · rw [List.getElem?_set_ne q] at hk; exact ⟨ok, hk⟩
  refine ⟨fun k ok hk => ?_, fun i j oi oj hi hj e => ?_, x.zs s.zs⟩
  · by_cases q : n = k
    · subst q
      rw [List.getElem?_set_self hn] at hk
      cases hk
      exact hw
    · rw [List.getElem?_set_ne q] at hk
      have ne : m.f k ≠ m.f n := fun e => q (s.inj _ _ _ _ hk h e).symm
      exact (s.at_ k ok hk).ext x.kp (x.kpT s) fun w e => by rw [upd_ne ne]; exact e
  · obtain ⟨oi', hi'⟩ := old i oi hi
    obtain ⟨oj', hj'⟩ := old j oj hj
    exact s.inj i j oi' oj' hi' hj' e
end
end Ev

end
section
namespace Ev
open PySem PySem.Spec PyProof.Rows L2

def Out.bind {α β : Type} (o : Out α) (k : α → Sto → Out β) : Out β := match o with
  | .ok x S => k x S
  | .exc c p S => .exc c p S
  | .stuck => .stuck
/-- the one attribute of an own error -/
def attrOf (c : Str) : Str := if c ∈ (["InvalidCards", "InvalidEquations", "InvalidRow", "InvalidLots", "InvalidPrices", "InvalidDeeds", "InvalidAnswers"] : List Str) then "index" else "given"
def Fin {α : Type} (K : Frag) (o : Out α) (S : Sto) (m : Mp) (H : Hp) (R : α → Sto → Mp → Hp → Prop) (E : Value → Option Addr → Hp → Prop) : Prop := match o with
  | .ok x S' => ∀ m' H', Xt H S m H' S' m' → Sok K H' S' m' → R x S' m' H'
  | .exc c p S' => ∀ m' H' dd v, Xt H S m H' S' m' → Sok K H' S' m' → H' dd = some (.xd [(attrOf c, v)]) → RpV K H' S' m' p v → E (.ref (He.ga K c)) (some dd) H'
  | .stuck => False
structure StR (K : Frag) (ρ : Env) (S : Sto) (m : Mp) (σ : L2.St) (H : Hp) : Prop where
  len : ρ.length = σ.length
  loc : ∀ (i : Nat) (x : Vl), ρ[i]? = some (some x) → ∃ v, σ[i]? = some (some v) ∧ RpV K H S m x v
  sto : Sok K H S m
abbrev WE := Value → Option Addr → Hp → Prop
section
variable {α β : Type} {K : Frag} {H H1 : Hp} {S S1 : Sto} {m m1 : Mp} {ρ : Env} {σ : L2.St}
theorem StR.ext (s : StR K ρ S m σ H) (x : Xt H S m H1 S1 m1) (k : Sok K H1 S1 m1) : StR K ρ S1 m1 σ H1 :=
  ⟨s.len, fun i y h => let ⟨v, e, r⟩ := s.loc i y h; ⟨v, e, r.ext x s.sto⟩, k⟩
theorem Fin.ok {x : α} {R : α → Sto → Mp → Hp → Prop} {E : WE} (h : Fin K (.ok x S1) S m H R E) (e : Xt H S m H1 S1 m1) (k : Sok K H1 S1 m1) : R x S1 m1 H1 := h m1 H1 e k
theorem Fin.here {x : α} {R : α → Sto → Mp → Hp → Prop} {E : WE} (h : Fin K (.ok x S) S m H R E) (k : Sok K H S m) : R x S m H := h m H .refl k
theorem Fin.mono {o : Out α} {R R' : α → Sto → Mp → Hp → Prop} {E E' : WE} (h : Fin K o S m H R E) (f : ∀ x S' m' H', Xt H S m H' S' m' → Sok K H' S' m' → R x S' m' H' → R' x S' m' H') (g : ∀ c d H', E c d H' → E' c d H') : Fin K o S m H R' E' := by
  cases o with
  | ok x S' => exact fun m' H' e k => f x S' m' H' e k (h m' H' e k)
  | exc c p S' => exact fun m' H' dd v e k hd r => g _ _ _ (h m' H' dd v e k hd r)
  | stuck => exact h
theorem Fin.bind {o : Out α} {k : α → Sto → Out β} {R : β → Sto → Mp → Hp → Prop} {E : WE} (h : Fin K (o.bind k) S m H R E) : Fin K o S m H (fun x S1 m1 H1 => Fin K (k x S1) S1 m1 H1 R E) E := by
  cases o with
  | ok x S' =>
    intro m' H' e kk
    have h' : Fin K (k x S') S m H R E := h
    revert h'
    cases k x S' with
    | ok y S2 => exact fun h' m2 H2 e2 k2 => h' m2 H2 (e.trans e2) k2
    | exc c p S2 => exact fun h' m2 H2 dd v e2 k2 hd r => h' m2 H2 dd v (e.trans e2) k2 hd r
    | stuck => exact id
  | exc c p S' => exact h
  | stuck => exact h
end

/-! ### readings -/
def tE (K : Frag) (W : WX) (f : EF) : TE := fun σ H Q => ∃ ρ S m, StR K ρ S m σ H ∧ Fin K (f ρ S) S m H (fun x S' m' H' => ∀ v, RpV K H' S' m' x v → Q v H') fun c d H' => W c d σ H'
def tT (K : Frag) (W : WX) (f : Env → Sto → Out Bool) : TT := fun σ H Q => ∃ ρ S m, StR K ρ S m σ H ∧ Fin K (f ρ S) S m H (fun x S' m' H' => Q x H') fun c d H' => W c d σ H'
def tA (K : Frag) (W : WX) (f : Env → Sto → Out (List Vl)) : TA := fun σ H Q => ∃ ρ S m, StR K ρ S m σ H ∧ Fin K (f ρ S) S m H (fun xs S' m' H' => ∀ vs, RpVs K H' S' m' xs vs → Q vs H') fun c d H' => W c d σ H'
theorem PEof {X : Cx} {e : Expr} {t t' : TE} (h : PE X e t) (i : ∀ σ H Q, t' σ H Q → t σ H Q) : PE X e t' := ⟨fun pins s σ H Q I q => h.run pins s σ H Q I (i σ H Q q)⟩
theorem PTof {X : Cx} {e : Expr} {t t' : TT} (h : PT X e t) (i : ∀ σ H Q, t' σ H Q → t σ H Q) : PT X e t' := ⟨fun pins s σ H Q I q => h.run pins s σ H Q I (i σ H Q q)⟩
theorem PWof {X : Cx} {e : Expr} {t t' : TT} (h : PW X e t) (i : ∀ σ H Q, t' σ H Q → t σ H Q) : PW X e t' := ⟨fun w pins s σ H Q I q => h.run w pins s σ H Q I (i σ H Q q)⟩
theorem PAof {X : Cx} {es : List Expr} {t t' : TA} (h : PA X es t) (i : ∀ σ H Q, t' σ H Q → t σ H Q) : PA X es t' := ⟨fun pos pins s σ H Q I q => h.run pos pins s σ H Q I (i σ H Q q)⟩
theorem PKof {X : Cx} {es : List Keyword} {t t' : TA} (h : PK X es t) (i : ∀ σ H Q, t' σ H Q → t σ H Q) : PK X es t' := ⟨fun pos pins s σ H Q I q => h.run pos pins s σ H Q I (i σ H Q q)⟩
abbrev RE (X : Cx) (W : WX) (e : Expr) (f : EF) : Prop := PE X e (tE X.K W f)
abbrev RT (X : Cx) (W : WX) (e : Expr) (f : Env → Sto → Out Bool) : Prop := PT X e (tT X.K W f)
abbrev RW (X : Cx) (W : WX) (e : Expr) (f : Env → Sto → Out Bool) : Prop := PW X e (tT X.K W f)
abbrev RA (X : Cx) (W : WX) (es : List Expr) (f : Env → Sto → Out (List Vl)) : Prop := PA X es (tA X.K W f)

/-! ### names, constants -/
def eVar (i : Nat) : EF := fun ρ S => match ρ[i]? with
  | some (some x) => .ok x S
  | _ => .stuck
def eC (d : PyData) : EF := fun _ S => .ok (.d d) S
section
variable {X : Cx} {W : WX} {pos : Pos}
theorem re_var {i : Nat} {x : Str} (hN : X.N[i]? = some x) (hv : Vis X.env.scope x) (hd : (x == ("__debug__" : Str)) = false := by decide) (hcd : (x == ("__classdict__" : Str)) = false := by decide) : RE X W (.Name x pos) (eVar i) := by
  refine PEof (pe_var hN hv hd hcd) fun σ H Q ⟨ρ, S, m, s, h⟩ => ?_
  unfold eVar at h
  split at h
  · rename_i y e
    obtain ⟨v, e2, r⟩ := s.loc i y e
    exact ⟨v, e2, h.here s.sto v r⟩
  · exact h.elim
theorem re_of_C {e : Expr} {d : PyData} {v : V} (h : PE X e (tC v)) (r : ∀ H M, Rp X.K H M d v) : RE X W e (eC d) :=
  PEof h fun σ H Q ⟨ρ, S, m, s, q⟩ => Fin.here (R := fun x S' m' H' => ∀ v, RpV X.K H' S' m' x v → Q v H') q s.sto v (r H _)
theorem re_int {i j} : RE X W (.Constant (.int i) j pos) (eC (.int i)) := re_of_C pe_int fun _ _ => .int i
theorem re_bl {i j} : RE X W (.Constant (.bool i) j pos) (eC (.bool i)) := re_of_C pe_bl fun _ _ => .bl i
theorem re_non {j} : RE X W (.Constant .none j pos) (eC .none) := re_of_C pe_non fun _ _ => .non
theorem re_str {i j} : RE X W (.Constant (.str i) j pos) (eC (.str i)) := re_of_C pe_str fun _ _ => .str i
/-- a module's constant -/
theorem re_glob {x : Str} {d : PyData} {v : V} {u : Value} (hg : Gl X x) (hm : X.mg x = some u) (r : RelV v u) (rd : ∀ H M, Rp X.K H M d v) (hd : (x == ("__debug__" : Str)) = false := by decide) : RE X W (.Name x pos) (eC d) :=
  re_of_C (pe_glob hg hm r hd) rd

/-! ### two in a row -/
def e2 (h : Vl → Vl → Sto → Out Vl) (f g : EF) : EF := fun ρ S => (f ρ S).bind fun x S1 => (g ρ S1).bind fun y S2 => h x y S2
def e1 (h : Vl → Sto → Out Vl) (f : EF) : EF := fun ρ S => (f ρ S).bind fun x S1 => h x S1
def rOp (K : Frag) (h : Vl → Vl → Sto → Out Vl) : R2 := fun v u H Q => ∃ x y S m, RpV K H S m x v ∧ RpV K H S m y u ∧ Sok K H S m ∧ Fin K (h x y S) S m H (fun z S' m' H' => ∀ w, RpV K H' S' m' z w → Q w H') fun _ _ _ => False
def rUn (K : Frag) (h : Vl → Sto → Out Vl) : V → Hp → VK → Prop := fun v H Q => ∃ x S m, RpV K H S m x v ∧ Sok K H S m ∧ Fin K (h x S) S m H (fun z S' m' H' => ∀ w, RpV K H' S' m' z w → Q w H') fun _ _ _ => False
/-- h raises nothing -/
def Quiet2 (h : Vl → Vl → Sto → Out Vl) : Prop := ∀ x y S c p S', h x y S ≠ .exc c p S'
def Quiet1 (h : Vl → Sto → Out Vl) : Prop := ∀ x S c p S', h x S ≠ .exc c p S'
theorem Fin.quiet {α : Type} {K : Frag} {o : Out α} {S : Sto} {m : Mp} {H : Hp} {R : α → Sto → Mp → Hp → Prop} {E E' : WE} (q : ∀ c p S', o ≠ .exc c p S') (h : Fin K o S m H R E) : Fin K o S m H R E' := by
  cases o with
  | ok x S' => exact h
  | exc c p S' => exact absurd rfl (q c p S')
  | stuck => exact h
theorem tE_2 {f g : EF} {h : Vl → Vl → Sto → Out Vl} (q : Quiet2 h) {σ : L2.St} {H : Hp} {Q : VK} {K : Frag} (t : tE K W (e2 h f g) σ H Q) : tOp (rOp K h) (tE K W f) (tE K W g) σ H Q := by
  obtain ⟨ρ, S, m, s, t⟩ := t
  refine ⟨ρ, S, m, s, Fin.mono (Fin.bind t) (fun x S1 m1 H1 e1 k1 t1 v rv => ?_) fun _ _ _ z => z⟩
  refine ⟨ρ, S1, m1, s.ext e1 k1, Fin.mono (Fin.bind t1) (fun y S2 m2 H2 e2 k2 t2 u ru => ?_) fun _ _ _ z => z⟩
  exact ⟨x, y, S2, m2, rv.ext e2 k1, ru, k2, t2.quiet (q x y S2)⟩
theorem tE_1 {f : EF} {h : Vl → Sto → Out Vl} (q : Quiet1 h) {σ : L2.St} {H : Hp} {Q : VK} {K : Frag} (t : tE K W (e1 h f) σ H Q) : tUn (rUn K h) (tE K W f) σ H Q := by
  obtain ⟨ρ, S, m, s, t⟩ := t
  refine ⟨ρ, S, m, s, Fin.mono (Fin.bind t) (fun x S1 m1 H1 e1 k1 t1 v rv => ?_) fun _ _ _ z => z⟩
  exact ⟨x, S1, m1, rv, k1, t1.quiet (q x S1)⟩
variable {a b : Expr} {f g : EF}
theorem re_bin {op : Operator} {h : Vl → Vl → Sto → Out Vl} (q : Quiet2 h) (ho : OpR X (binaryOp op) (rOp X.K h)) (ha : RE X W a f) (hb : RE X W b g) : RE X W (.BinOp a op b pos) (e2 h f g) :=
  PEof (pe_op ho ha hb) fun _ _ _ t => tE_2 q t
theorem re_un {op : UnaryOp} {h : Vl → Sto → Out Vl} (q : Quiet1 h) (ho : UnR X (unaryOp op) (rUn X.K h)) (ha : RE X W a f) : RE X W (.UnaryOp op a pos) (e1 h f) :=
  PEof (pe_un ho ha) fun _ _ _ t => tE_1 q t
theorem re_cmp {op : CmpOp} {h : Vl → Vl → Sto → Out Vl} (q : Quiet2 h) (ho : OpR X (compareOp op) (rOp X.K h)) (ha : RE X W a f) (hb : RE X W b g) (hm : behindInMarks op b = false) : RE X W (.Compare a [op] [b] pos) (e2 h f g) :=
  PEof (pe_cmpR ho ha hb hm) fun _ _ _ t => tE_2 q t
/-- a bool of a value -/
def toB (x : Vl) (S : Sto) : Out Bool := match x with
  | .d (.bool b) => .ok b S
  | _ => .stuck
def eB (f : EF) : Env → Sto → Out Bool := fun ρ S => (f ρ S).bind toB
def ofB (f : Env → Sto → Out Bool) : EF := fun ρ S => (f ρ S).bind fun b S1 => .ok (.d (.bool b)) S1
theorem toB_of {K : Frag} {H : Hp} {S : Sto} {m : Mp} {x : Vl} {v : V} {Q : Bool → Hp → Prop} {E : WE} (r : RpV K H S m x v) (k : Sok K H S m) (h : Fin K (toB x S) S m H (fun b _ _ H' => Q b H') E) : ∃ c, v = .bl c ∧ Q c H := by
  unfold toB at h
  split at h
  · cases r
    exact ⟨_, rfl, h.here k⟩
  · exact h.elim
theorem rt_cmp {op : CmpOp} {h : Vl → Vl → Sto → Out Vl} (q : Quiet2 h) (ho : OpR X (compareOp op) (rOp X.K h)) (ha : RE X W a f) (hb : RE X W b g) (hm : behindInMarks op b = false) : RT X W (.Compare a [op] [b] pos) (eB (e2 h f g)) := by
  refine PTof (pt_cmpR ho ha hb hm) fun σ H Q ⟨ρ, S, m, s, t⟩ => ?_
  refine tE_2 q ⟨ρ, S, m, s, Fin.mono (Fin.bind t) (fun x S1 m1 H1 e1 k1 t1 v rv => ?_) fun _ _ _ z => z⟩
  exact toB_of rv k1 t1
/-- an expression whose value is a bool, as a test -/
theorem rt_val (ha : RE X W a f) (he : ∀ whole, isTrue a X.env whole = (do let v ← whole; standAt a.pos; holding [v] (truthy v)) := by intro _; rfl) : RT X W a (eB f) := by
  refine PTof (pt_val ha he) fun σ H Q ⟨ρ, S, m, s, t⟩ => ?_
  exact ⟨ρ, S, m, s, Fin.mono (Fin.bind t) (fun x S1 m1 H1 e1 k1 t1 v rv => toB_of rv k1 t1) fun _ _ _ z => z⟩

/-! ### truth -/
def truD : PyData → Bool
  | .none => false
  | .bool b => b
  | .int i => i != 0
  | .str y => (y.length : Int) != 0
  | .list xs => !xs.isEmpty
  | .tuple xs => !xs.isEmpty
  | .dict kvs => !kvs.isEmpty
def fitsD : PyData → Bool
  | .str y => decide (y.length ≤ sizeLine)
  | _ => true
def tru (x : Vl) (S : Sto) : Out Bool := match x with
  | .d d => if fitsD d then .ok (truD d) S else .stuck
  | .z xs => .ok (!xs.isEmpty) S
  | .r n => match S[n]? with
    | some (some (.lst xs)) => .ok (!xs.isEmpty) S
    | some (some (.dic xs)) => .ok (!xs.isEmpty) S
    | _ => .stuck
  | .x _ _ _ _ => .stuck
theorem RpL.isEmpty {K : Frag} {H : Hp} {M : Addr → Prop} {ds : List PyData} {vs : List V} (r : RpL K H M ds vs) : vs.isEmpty = ds.isEmpty := by
  cases r <;> rfl
theorem tru_of {K : Frag} {H : Hp} {S : Sto} {m : Mp} {x : Vl} {v : V} {Q : Bool → Hp → Prop} {E : WE} (r : RpV K H S m x v) (k : Sok K H S m) (h : Fin K (tru x S) S m H (fun b _ _ H' => Q b H') E) : ∃ c, TruV K v H c ∧ Q c H := by
  unfold tru at h
  cases x with
  | d d =>
    dsimp only at h
    split at h
    · rename_i hf
      refine ⟨truD d, ?_, h.here k⟩
      have r' : Rp K H (hid S m) d v := r
      cases r' with
      | non => rfl
      | bl b => rfl
      | int i => rfl
      | str y => exact ⟨by simpa [fitsD] using hf, rfl⟩
      | lst h1 h2 h3 => exact .inl ⟨_, SqL.of h1, by rw [h3.isEmpty]; rfl⟩
      | tup h1 h3 => exact .inr (.inl ⟨_, h1, by rw [h3.isEmpty]; rfl⟩)
    · exact h.elim
  | z xs =>
    obtain ⟨a, vs, rfl, h1, h3⟩ := r
    exact ⟨_, .inl ⟨_, h1.sql, by rw [h3.isEmpty]⟩, h.here k⟩
  | x _ _ _ _ => exact h.elim
  | r n =>
    obtain ⟨hn, rfl⟩ := r
    dsimp only at h
    split at h
    · rename_i xs e
      obtain ⟨vs, h1, h3⟩ := k.at_ n _ e
      exact ⟨_, .inl ⟨_, SqL.of h1, by rw [h3.isEmpty]⟩, h.here k⟩
    · rename_i xs e
      obtain ⟨vs, h1, h2, h3⟩ := k.at_ n _ e
      refine ⟨_, .inr (.inr ⟨_, h1, ?_⟩), h.here k⟩
      have e2 := congrArg List.isEmpty h2
      simp only [List.isEmpty_map] at e2
      rw [e2]
    · exact h.elim
def eTru (f : EF) : Env → Sto → Out Bool := fun ρ S => (f ρ S).bind tru
theorem rt_truth (ha : RE X W a f) (he : ∀ whole, isTrue a X.env whole = (do let v ← whole; standAt a.pos; holding [v] (truthy v)) := by intro _; rfl) : RT X W a (eTru f) := by
  refine PTof (pt_truth ha he) fun σ H Q ⟨ρ, S, m, s, t⟩ => ?_
  exact ⟨ρ, S, m, s, Fin.mono (Fin.bind t) (fun x S1 m1 H1 e1 k1 t1 v rv => tru_of rv k1 t1) fun _ _ _ z => z⟩

/-! ### and, or, not, if .. else -/
abbrev BF := Env → Sto → Out Bool
def bAnd (f g : BF) : BF := fun ρ S => (f ρ S).bind fun b S1 => if b = true then g ρ S1 else .ok false S1
def bOr (f g : BF) : BF := fun ρ S => (f ρ S).bind fun b S1 => if b = true then .ok true S1 else g ρ S1
def bNot (f : BF) : BF := fun ρ S => (f ρ S).bind fun b S1 => .ok (!b) S1
variable {p q : BF} {rest : List Expr}
theorem tT_and {σ : L2.St} {H : Hp} {Q : Bool → Hp → Prop} {K : Frag} (t : tT K W (bAnd p q) σ H Q) : tAnd (tT K W p) (tT K W q) σ H Q := by
  obtain ⟨ρ, S, m, s, t⟩ := t
  refine ⟨ρ, S, m, s, Fin.mono (Fin.bind t) (fun c S1 m1 H1 e1 k1 t1 => ?_) fun _ _ _ z => z⟩
  cases c with
  | true => exact ⟨ρ, S1, m1, s.ext e1 k1, t1⟩
  | false => exact Fin.here (S := S1) t1 k1
theorem tT_or {σ : L2.St} {H : Hp} {Q : Bool → Hp → Prop} {K : Frag} (t : tT K W (bOr p q) σ H Q) : tOr (tT K W p) (tT K W q) σ H Q := by
  obtain ⟨ρ, S, m, s, t⟩ := t
  refine ⟨ρ, S, m, s, Fin.mono (Fin.bind t) (fun c S1 m1 H1 e1 k1 t1 => ?_) fun _ _ _ z => z⟩
  cases c with
  | true => exact Fin.here (S := S1) t1 k1
  | false => exact ⟨ρ, S1, m1, s.ext e1 k1, t1⟩
theorem rw_and1 (ha : RT X W a p) : RW X W (.BoolOp .And [a] pos) p := pw_and1 ha
theorem rw_or1 (ha : RT X W a p) : RW X W (.BoolOp .Or [a] pos) p := pw_or1 ha
theorem rw_and (ha : RT X W a p) (hb : RW X W (.BoolOp .And (b :: rest) pos) q) : RW X W (.BoolOp .And (a :: b :: rest) pos) (bAnd p q) := PWof (pw_and ha hb) fun _ _ _ t => tT_and t
theorem rw_or (ha : RT X W a p) (hb : RW X W (.BoolOp .Or (b :: rest) pos) q) : RW X W (.BoolOp .Or (a :: b :: rest) pos) (bOr p q) := PWof (pw_or ha hb) fun _ _ _ t => tT_or t
theorem rt_not (ha : RT X W a p) : RT X W (.UnaryOp .Not a pos) (bNot p) := by
  refine PTof (pt_not ha) fun σ H Q ⟨ρ, S, m, s, t⟩ => ?_
  exact ⟨ρ, S, m, s, Fin.mono (Fin.bind t) (fun c S1 m1 H1 e1 k1 t1 => Fin.here (S := S1) t1 k1) fun _ _ _ z => z⟩
/-- as values: all but the last are bools -/
def eAnd (f g : EF) : EF := fun ρ S => (eB f ρ S).bind fun b S1 => if b = true then g ρ S1 else .ok (.d (.bool false)) S1
def eOr (f g : EF) : EF := fun ρ S => (eB f ρ S).bind fun b S1 => if b = true then .ok (.d (.bool true)) S1 else g ρ S1
def eNot (f : EF) : EF := fun ρ S => (eB f ρ S).bind fun b S1 => .ok (.d (.bool (!b))) S1
theorem bind_assoc {α β γ : Type} (o : Out α) (k : α → Sto → Out β) (l : β → Sto → Out γ) : (o.bind k).bind l = o.bind fun x S => (k x S).bind l := by
  cases o <;> rfl
theorem re_one {op} (h : RE X W a f) : RE X W (.BoolOp op [a] pos) f := pe_one h
theorem re_and (ha : RE X W a f) (hb : RE X W (.BoolOp .And (b :: rest) pos) g) : RE X W (.BoolOp .And (a :: b :: rest) pos) (eAnd f g) := by
  refine PEof (pe_and ha hb) fun σ H Q ⟨ρ, S, m, s, t⟩ => ?_
  unfold eAnd eB at t
  rw [bind_assoc] at t
  refine ⟨ρ, S, m, s, Fin.mono (Fin.bind t) (fun x S1 m1 H1 e1 k1 t1 v rv => ?_) fun _ _ _ z => z⟩
  unfold toB at t1
  split at t1
  · cases rv
    rename_i c
    cases c with
    | true => exact ⟨true, rfl, ⟨ρ, _, m1, s.ext e1 k1, t1⟩⟩
    | false => exact ⟨false, rfl, Fin.here (S := S1) (R := fun x S' m' H' => ∀ v, RpV X.K H' S' m' x v → Q v H') t1 k1 _ (.bl false)⟩
  · exact t1.elim
theorem re_or (ha : RE X W a f) (hb : RE X W (.BoolOp .Or (b :: rest) pos) g) : RE X W (.BoolOp .Or (a :: b :: rest) pos) (eOr f g) := by
  refine PEof (pe_or ha hb) fun σ H Q ⟨ρ, S, m, s, t⟩ => ?_
  unfold eOr eB at t
  rw [bind_assoc] at t
  refine ⟨ρ, S, m, s, Fin.mono (Fin.bind t) (fun x S1 m1 H1 e1 k1 t1 v rv => ?_) fun _ _ _ z => z⟩
  unfold toB at t1
  split at t1
  · cases rv
    rename_i c
    cases c with
    | false => exact ⟨false, rfl, ⟨ρ, _, m1, s.ext e1 k1, t1⟩⟩
    | true => exact ⟨true, rfl, Fin.here (S := S1) (R := fun x S' m' H' => ∀ v, RpV X.K H' S' m' x v → Q v H') t1 k1 _ (.bl true)⟩
  · exact t1.elim
theorem re_not (ha : RE X W a f) : RE X W (.UnaryOp .Not a pos) (eNot f) := by
  refine PEof (pe_not ha) fun σ H Q ⟨ρ, S, m, s, t⟩ => ?_
  unfold eNot eB at t
  rw [bind_assoc] at t
  refine ⟨ρ, S, m, s, Fin.mono (Fin.bind t) (fun x S1 m1 H1 e1 k1 t1 v rv => ?_) fun _ _ _ z => z⟩
  unfold toB at t1
  split at t1
  · cases rv
    exact ⟨_, rfl, Fin.here (S := S1) (R := fun x S' m' H' => ∀ v, RpV X.K H' S' m' x v → Q v H') t1 k1 _ (.bl _)⟩
  · exact t1.elim
def eIf (p : BF) (f g : EF) : EF := fun ρ S => (p ρ S).bind fun b S1 => if b = true then f ρ S1 else g ρ S1
theorem re_if {c : Expr} (hc : RT X W c p) (ha : RE X W a f) (hb : RE X W b g) : RE X W (.IfExp c a b pos) (eIf p f g) := by
  refine PEof (pe_ifExp hc ha hb) fun σ H Q ⟨ρ, S, m, s, t⟩ => ?_
  refine ⟨ρ, S, m, s, Fin.mono (Fin.bind t) (fun c S1 m1 H1 e1 k1 t1 => ?_) fun _ _ _ z => z⟩
  cases c with
  | true => exact ⟨ρ, S1, m1, s.ext e1 k1, t1⟩
  | false => exact ⟨ρ, S1, m1, s.ext e1 k1, t1⟩
/-- a op b op2 c -/
def eChain (h h' : Vl → Vl → Sto → Out Vl) (f g k : EF) : EF := fun ρ S => (f ρ S).bind fun x S1 => (g ρ S1).bind fun y S2 => (h x y S2).bind fun z S3 => (toB z S3).bind fun c S4 =>
  if c = true then (k ρ S4).bind fun w S5 => h' y w S5 else .ok (.d (.bool false)) S4
theorem re_chain {c : Expr} {k : EF} {op op' : CmpOp} {h h' : Vl → Vl → Sto → Out Vl} (q : Quiet2 h) (q' : Quiet2 h') (ho : OpR X (compareOp op) (rOp X.K h)) (ho' : OpR X (compareOp op') (rOp X.K h')) (ha : RE X W a f) (hb : RE X W b g) (hc : RE X W c k)
    (hm : lastMarks [op, op'] [b, c] = false := by with_unfolding_all rfl) : RE X W (.Compare a [op, op'] [b, c] pos) (eChain h h' f g k) := by
  refine PEof (pe_chain ho ho' ha hb hc hm) fun σ H Q ⟨ρ, S, m, s, t⟩ => ?_
  refine ⟨ρ, S, m, s, Fin.mono (Fin.bind t) (fun x S1 m1 H1 e1 k1 t1 v rv => ?_) fun _ _ _ z => z⟩
  have s1 := s.ext e1 k1
  refine ⟨ρ, S1, m1, s1, Fin.mono (Fin.bind t1) (fun y S2 m2 H2 e2 k2 t2 u ru => ?_) fun _ _ _ z => z⟩
  have s2 := s1.ext e2 k2
  refine ⟨x, y, S2, m2, rv.ext e2 k1, ru, k2, Fin.quiet (q x y S2) (Fin.mono (Fin.bind t2) (fun z S3 m3 H3 e3 k3 t3 w rw_ => ?_) fun _ _ _ z => z)⟩
  have s3 := s2.ext e3 k3
  unfold toB at t3
  split at t3
  · cases rw_
    rename_i c
    refine ⟨c, rfl, ?_⟩
    cases c with
    | true =>
      rw [if_pos rfl]
      refine ⟨ρ, S3, m3, s3, Fin.mono (Fin.bind (show Fin X.K ((k ρ S3).bind fun w S5 => h' y w S5) S3 m3 H3 _ _ from t3)) (fun w S4 m4 H4 e4 k4 t4 u4 r4 => ?_) fun _ _ _ z => z⟩
      exact ⟨y, w, S4, m4, (ru.ext e3 k2).ext e4 k3, r4, k4, t4.quiet (q' y w S4)⟩
    | false =>
      rw [if_neg Bool.false_ne_true]
      exact Fin.here (S := S3) (R := fun x S' m' H' => ∀ v, RpV X.K H' S' m' x v → Q v H') t3 k3 _ (.bl false)
  · exact t3.elim
theorem rt_chain {c : Expr} {k : EF} {op op' : CmpOp} {h h' : Vl → Vl → Sto → Out Vl} (q : Quiet2 h) (q' : Quiet2 h') (ho : OpR X (compareOp op) (rOp X.K h)) (ho' : OpR X (compareOp op') (rOp X.K h')) (ha : RE X W a f) (hb : RE X W b g) (hc : RE X W c k)
    (hm : lastMarks [op, op'] [b, c] = false := by with_unfolding_all rfl) : RT X W (.Compare a [op, op'] [b, c] pos) (eB (eChain h h' f g k)) := by
  refine PTof (pt_chain ho ho' ha hb hc hm) fun σ H Q ⟨ρ, S, m, s, t⟩ => ?_
  unfold eB eChain at t
  rw [bind_assoc] at t
  refine ⟨ρ, S, m, s, Fin.mono (Fin.bind t) (fun x S1 m1 H1 e1 k1 t1 v rv => ?_) fun _ _ _ z => z⟩
  have s1 := s.ext e1 k1
  rw [bind_assoc] at t1
  refine ⟨ρ, S1, m1, s1, Fin.mono (Fin.bind t1) (fun y S2 m2 H2 e2 k2 t2 u ru => ?_) fun _ _ _ z => z⟩
  have s2 := s1.ext e2 k2
  rw [bind_assoc] at t2
  refine ⟨x, y, S2, m2, rv.ext e2 k1, ru, k2, Fin.quiet (q x y S2) (Fin.mono (Fin.bind t2) (fun z S3 m3 H3 e3 k3 t3 w rw_ => ?_) fun _ _ _ z => z)⟩
  have s3 := s2.ext e3 k3
  unfold toB at t3
  split at t3
  · cases rw_
    rename_i c
    refine ⟨c, rfl, ?_⟩
    cases c with
    | true =>
      rw [if_pos rfl]
      have t3' := (show Fin X.K (((k ρ S3).bind fun w S5 => h' y w S5).bind toB) S3 m3 H3 (fun b _ _ H' => Q b H') (fun c d H' => W c d σ H') from t3)
      rw [bind_assoc] at t3'
      refine ⟨ρ, S3, m3, s3, Fin.mono (Fin.bind t3') (fun w S4 m4 H4 e4 k4 t4 u4 r4 => ?_) fun _ _ _ z => z⟩
      exact ⟨y, w, S4, m4, (ru.ext e3 k2).ext e4 k3, r4, k4, Fin.quiet (q' y w S4) (Fin.mono (Fin.bind t4) (fun z S5 m5 H5 e5 k5 t5 u5 r5 => toB_of r5 k5 t5) fun _ _ _ z => z)⟩
    | false =>
      rw [if_neg Bool.false_ne_true]
      exact ⟨false, rfl, Fin.here (S := S3) (R := fun b _ _ H' => Q b H') t3 k3⟩
  · exact t3.elim

/-! ### argument lists, displays -/
def aNil : Env → Sto → Out (List Vl) := fun _ S => .ok [] S
def aCons (f : EF) (g : Env → Sto → Out (List Vl)) : Env → Sto → Out (List Vl) := fun ρ S => (f ρ S).bind fun x S1 => (g ρ S1).bind fun xs S2 => .ok (x :: xs) S2
variable {es : List Expr} {fs : Env → Sto → Out (List Vl)}
theorem tA_cons {σ : L2.St} {H : Hp} {Q : List V → Hp → Prop} {K : Frag} (t : tA K W (aCons f fs) σ H Q) : tCons (tE K W f) (tA K W fs) σ H Q := by
  obtain ⟨ρ, S, m, s, t⟩ := t
  refine ⟨ρ, S, m, s, Fin.mono (Fin.bind t) (fun x S1 m1 H1 e1 k1 t1 v rv => ?_) fun _ _ _ z => z⟩
  refine ⟨ρ, S1, m1, s.ext e1 k1, Fin.mono (Fin.bind t1) (fun xs S2 m2 H2 e2 k2 t2 vs rvs => ?_) fun _ _ _ z => z⟩
  exact Fin.here (S := S2) (R := fun xs S' m' H' => ∀ vs, RpVs K H' S' m' xs vs → Q vs H') t2 k2 _ (.cons (rv.ext e2 k1) rvs)
theorem tA_nil {σ : L2.St} {H : Hp} {Q : List V → Hp → Prop} {K : Frag} (t : tA K W aNil σ H Q) : tNil σ H Q := by
  obtain ⟨ρ, S, m, s, t⟩ := t
  exact Fin.here (S := S) (R := fun xs S' m' H' => ∀ vs, RpVs K H' S' m' xs vs → Q vs H') t s.sto _ .nil
theorem ra_nil : RA X W [] aNil := PAof pa_nil fun _ _ _ t => tA_nil t
theorem ra_cons (ha : RE X W a f) (hr : RA X W es fs) (hs : starEach (a :: es) X.env = (false, eval a X.env) :: starEach es X.env := by rfl) : RA X W (a :: es) (aCons f fs) :=
  PAof (pa_cons ha hr hs) fun _ _ _ t => tA_cons t
/-- all are data -/
def datas : List Vl → Option (List PyData)
  | [] => some []
  | .d x :: r => (datas r).map (x :: ·)
  | _ :: _ => none
theorem datas_rp {K : Frag} {H : Hp} {S : Sto} {m : Mp} : ∀ {xs : List Vl} {vs : List V} {ds : List PyData}, RpVs K H S m xs vs → datas xs = some ds → RpL K H (hid S m) ds vs
  | _, _, _, .nil, e => by cases e; exact .nil
  | .d x :: xs, _, _, .cons h t, e => by
    simp only [datas, Option.map_eq_some_iff] at e
    obtain ⟨ds', e1, rfl⟩ := e
    exact .cons h (datas_rp t e1)
  | .z _ :: xs, _, _, .cons h t, e => by cases e
  | .r _ :: xs, _, _, .cons h t, e => by cases e
  | .x _ _ _ _ :: xs, _, _, .cons h t, e => by cases e
def mkTup (xs : List Vl) (S : Sto) : Out Vl := match datas xs with
  | some ds => if ds.length ≤ sizeLine then .ok (.d (.tuple ds)) S else .stuck
  | none => .stuck
def mkLst (xs : List Vl) (S : Sto) : Out Vl := match datas xs with
  | some ds => if ds.length ≤ sizeLine then .ok (.d (.list ds)) S else .stuck
  | none => .stuck
/-- a list that will be changed -/
def mkLstR (xs : List Vl) (S : Sto) : Out Vl := match datas xs with
  | some ds => if ds.length ≤ sizeLine then .ok (.r S.length) (S ++ [some (.lst ds)]) else .stuck
  | none => .stuck
def eA (h : List Vl → Sto → Out Vl) (fs : Env → Sto → Out (List Vl)) : EF := fun ρ S => (fs ρ S).bind h
theorem re_tup {x1} (h : RA X W es fs) : RE X W (.Tuple es x1 pos) (eA mkTup fs) := by
  refine PEof (pe_tup h) fun σ H Q ⟨ρ, S, m, s, t⟩ => ?_
  refine ⟨ρ, S, m, s, Fin.mono (Fin.bind t) (fun xs S1 m1 H1 e1 k1 t1 vs rvs => ?_) fun _ _ _ z => z⟩
  unfold mkTup at t1
  split at t1
  · rename_i ds e
    have r := datas_rp rvs e
    split at t1
    · rename_i hz
      exact ⟨by rw [← r.length]; exact hz, fun p hp => t1 m1 _ (.new hp) (k1.new hp) _ (Rp.newTup k1 hp r)⟩
    · exact t1.elim
  · exact t1.elim
theorem re_lst (h : RA X W es fs) : RE X W (.List es pos) (eA mkLst fs) := by
  refine PEof (pe_lst h) fun σ H Q ⟨ρ, S, m, s, t⟩ => ?_
  refine ⟨ρ, S, m, s, Fin.mono (Fin.bind t) (fun xs S1 m1 H1 e1 k1 t1 vs rvs => ?_) fun _ _ _ z => z⟩
  unfold mkLst at t1
  split at t1
  · rename_i ds e
    have r := datas_rp rvs e
    split at t1
    · rename_i hz
      exact ⟨by rw [← r.length]; exact hz, fun p hp => t1 m1 _ (.new hp) (k1.new hp) _ (Rp.newLst k1 hp r)⟩
    · exact t1.elim
  · exact t1.elim
/-- from the new list at p to a changed thing -/
theorem fresh_lst {K : Frag} {H : Hp} {S : Sto} {m : Mp} {p : Addr} {ds : List PyData} {vs : List V} (k : Sok K H S m) (hp : H p = none) (r : RpL K H (hid S m) ds vs) :
    Xt H S m (upd H p (.lst vs)) (S ++ [some (.lst ds)]) (mx m S.length p) ∧ Sok K (upd H p (.lst vs)) (S ++ [some (.lst ds)]) (mx m S.length p) := by
  have x : Xt H S m (upd H p (.lst vs)) (S ++ [some (.lst ds)]) (mx m S.length p) := .push hp
  exact ⟨x, .push k hp ⟨vs, upd_same, RpL.ext x.kp (x.kpT k) ds r⟩⟩
theorem re_lstR (h : RA X W es fs) : RE X W (.List es pos) (eA mkLstR fs) := by
  refine PEof (pe_lst h) fun σ H Q ⟨ρ, S, m, s, t⟩ => ?_
  refine ⟨ρ, S, m, s, Fin.mono (Fin.bind t) (fun xs S1 m1 H1 e1 k1 t1 vs rvs => ?_) fun _ _ _ z => z⟩
  unfold mkLstR at t1
  split at t1
  · rename_i ds e
    have r := datas_rp rvs e
    split at t1
    · rename_i hz
      refine ⟨by rw [← r.length]; exact hz, fun p hp => ?_⟩
      obtain ⟨x, k⟩ := fresh_lst k1 hp r
      exact t1 _ _ x k _ ⟨by simp, by rw [mx_eq]⟩
    · exact t1.elim
  · exact t1.elim
end
end Ev

end
section
namespace Ev
open PySem PySem.Spec PyProof.Rows L2

/-! ### the ends of an operation -/
section
variable {K : Frag} {H : Hp} {S : Sto} {m : Mp} {Q : VK} {E : WE} {z : Vl}
abbrev FinV (K : Frag) (o : Out Vl) (S : Sto) (m : Mp) (H : Hp) (Q : VK) (E : WE) : Prop := Fin K o S m H (fun z S' m' H' => ∀ w, RpV K H' S' m' z w → Q w H') E
theorem FinV.at_ (h : FinV K (.ok z S) S m H Q E) (k : Sok K H S m) {w : V} (r : RpV K H S m z w) : Q w H := Fin.here (R := fun z S' m' H' => ∀ w, RpV K H' S' m' z w → Q w H') h k w r
theorem FinV.tup {ds : List PyData} {vs : List V} {p : Addr} (h : FinV K (.ok (.d (.tuple ds)) S) S m H Q E) (k : Sok K H S m) (r : RpL K H (hid S m) ds vs) (hp : H p = none) : Q (.ref p) (upd H p (.tup vs)) :=
  h m _ (.new hp) (k.new hp) _ (Rp.newTup k hp r)
theorem FinV.lst {ds : List PyData} {vs : List V} {p : Addr} (h : FinV K (.ok (.d (.list ds)) S) S m H Q E) (k : Sok K H S m) (r : RpL K H (hid S m) ds vs) (hp : H p = none) : Q (.ref p) (upd H p (.lst vs)) :=
  h m _ (.new hp) (k.new hp) _ (Rp.newLst k hp r)
/-- the items of a list: by value, or changed -/
def asList (x : Vl) (S : Sto) : Option (List PyData) := match x with
  | .d (.list xs) => some xs
  | .r n => match S[n]? with
    | some (some (.lst xs)) => some xs
    | _ => none
  | _ => none
theorem asList_rp {x : Vl} {v : V} {xs : List PyData} (r : RpV K H S m x v) (k : Sok K H S m) (e : asList x S = some xs) : ∃ a vs, v = .ref a ∧ H a = some (.lst vs) ∧ RpL K H (hid S m) xs vs := by
  unfold asList at e
  split at e
  · cases e
    have r' : Rp K H (hid S m) _ v := r
    cases r' with
    | lst h1 h2 h3 => exact ⟨_, _, rfl, h1, h3⟩
  · rename_i n
    obtain ⟨hn, rfl⟩ := r
    split at e
    · rename_i ys e'
      cases e
      obtain ⟨vs, h1, h2⟩ := k.at_ _ _ e'
      exact ⟨_, vs, rfl, h1, h2⟩
    · cases e
  · cases e
/-- .. or of the script -/
def asListZ (x : Vl) (S : Sto) : Option (List PyData) := match x with
  | .z xs => some xs
  | _ => asList x S
theorem asListZ_rp {x : Vl} {v : V} {xs : List PyData} (r : RpV K H S m x v) (k : Sok K H S m) (e : asListZ x S = some xs) : ∃ a vs, v = .ref a ∧ SqL K H a vs ∧ RpL K H (hid S m) xs vs := by
  unfold asListZ at e
  split at e
  · cases e
    obtain ⟨a, vs, rfl, h1, h2⟩ := r
    exact ⟨a, vs, rfl, h1.sql, h2⟩
  · obtain ⟨a, vs, e1, h1, h2⟩ := asList_rp r k e
    exact ⟨a, vs, e1, SqL.of h1, h2⟩
def asTup (x : Vl) : Option (List PyData) := match x with
  | .d (.tuple xs) => some xs
  | _ => none
theorem asTup_rp {x : Vl} {v : V} {xs : List PyData} (r : RpV K H S m x v) (e : asTup x = some xs) : ∃ a vs, v = .ref a ∧ SqT K H a vs ∧ RpL K H (hid S m) xs vs := by
  unfold asTup at e
  split at e
  · cases e
    have r' : Rp K H (hid S m) _ v := r
    cases r' with
    | tup h1 h3 => exact ⟨_, _, rfl, h1, h3⟩
  · cases e
end

/-! ### + - * // % ** ^ & << >> -/
def oAdd (x y : Vl) (S : Sto) : Out Vl := match x, y with
  | .d (.int i), .d (.int j) => .ok (.d (.int (i + j))) S
  | .d (.str a), .d (.str b) => if a.length + b.length ≤ sizeLine then .ok (.d (.str (a ++ b))) S else .stuck
  | .d (.tuple a), .d (.tuple b) => if a.length + b.length ≤ sizeLine then .ok (.d (.tuple (a ++ b))) S else .stuck
  | x, y => match asList x S, asList y S with
    | some a, some b => if a.length + b.length ≤ sizeLine then .ok (.d (.list (a ++ b))) S else .stuck
    | _, _ => .stuck
def oInt (C : Int → Int → Bool) (g : Int → Int → Int) (x y : Vl) (S : Sto) : Out Vl := match x, y with
  | .d (.int i), .d (.int j) => if C i j then .ok (.d (.int (g i j))) S else .stuck
  | _, _ => .stuck
abbrev oSub := oInt (fun _ _ => true) fun i j => i - j
def small64b (i : Int) : Bool := decide (-(2 ^ 64) < i ∧ i < 2 ^ 64)
abbrev oFdiv := oInt (fun _ j => decide (0 < j ∧ j < 1073741824)) fun i j => i / j
abbrev oMod := oInt (fun _ j => decide (0 < j)) fun i j => i % j
abbrev oPow := oInt (fun i j => decide (0 ≤ j ∧ j ≤ 1000000 ∧ i.natAbs < 2 ^ 64)) fun i j => i ^ j.toNat
abbrev oShl := oInt (fun i j => decide (0 ≤ j ∧ j ≤ 1000000 ∧ i.natAbs < 2 ^ 64)) fun i j => i * 2 ^ j.toNat
abbrev oShr := oInt (fun _ j => decide (0 ≤ j)) fun i j => i / 2 ^ j.toNat
abbrev oXor := oInt (fun _ _ => true) Builtin.bitXor
abbrev oAnd := oInt (fun _ _ => true) Builtin.bitAnd
section
variable {X : Cx}
theorem quiet_oAdd : Quiet2 oAdd := by
  intro x y S c p S'
  unfold oAdd
  split
  · simp
  · split <;> simp
  · split <;> simp
  · split
    · split <;> simp
    · simp
theorem op_oAdd : OpR X (binaryOp .Add) (rOp X.K oAdd) := by
  rintro pins s σ H v u vv uu Q I rv ru ⟨x, y, S, m, r1, r2, k, fin⟩
  unfold oAdd at fin
  split at fin
  · cases r1; cases r2
    exact op_add pins s σ H _ _ vv uu Q I rv ru ⟨_, _, rfl, rfl, FinV.at_ fin k (.int _)⟩
  · split at fin
    · cases r1; cases r2
      exact op_add_str pins s σ H _ _ vv uu Q I rv ru ⟨_, _, rfl, rfl, by assumption, FinV.at_ fin k (.str _)⟩
    · exact fin.elim
  · split at fin
    · rename_i hz
      obtain ⟨a, vs, rfl, h1, l1⟩ := asTup_rp r1 rfl
      obtain ⟨b, ws, rfl, h2, l2⟩ := asTup_rp r2 rfl
      have n1 := l1.length
      have n2 := l2.length
      have ap := RpL.append l1 l2
      refine op_catA pins s σ H _ _ vv uu Q I rv ru ⟨a, b, vs, ws, rfl, rfl, h1, h2, by omega, fun e => ?_, fun _ e => ?_, fun _ _ p hp => FinV.tup fin k ap hp⟩
      · subst e; exact FinV.at_ fin k (.tup h2 ap)
      · subst e; rw [List.append_nil] at ap; exact FinV.at_ fin k (.tup h1 ap)
    · exact fin.elim
  · split at fin
    · split at fin
      · rename_i e1 e2 hz
        obtain ⟨a, vs, rfl, h1, l1⟩ := asList_rp r1 k e1
        obtain ⟨b, ws, rfl, h2, l2⟩ := asList_rp r2 k e2
        have n1 := l1.length
        have n2 := l2.length
        exact op_cat pins s σ H _ _ vv uu Q I rv ru ⟨a, b, vs, ws, rfl, rfl, h1, h2, by omega, fun p hp => FinV.lst fin k (RpL.append l1 l2) hp⟩
      · exact fin.elim
    · exact fin.elim
theorem quiet_oInt {C : Int → Int → Bool} {g : Int → Int → Int} : Quiet2 (oInt C g) := by
  intro x y S c p S'
  unfold oInt
  split
  · split <;> simp
  · simp
theorem op_oInt {f : Value → Value → Sem Value} {C : Int → Int → Bool} {C' : Int → Int → Prop} {g : Int → Int → Int} (h : OpR X f (rI C' fun i j => .int (g i j))) (hc : ∀ i j, C i j = true → C' i j) : OpR X f (rOp X.K (oInt C g)) := by
  rintro pins s σ H v u vv uu Q I rv ru ⟨x, y, S, m, r1, r2, k, fin⟩
  unfold oInt at fin
  split at fin
  · split at fin
    · rename_i c
      cases r1; cases r2
      exact h pins s σ H _ _ vv uu Q I rv ru ⟨_, _, rfl, rfl, hc _ _ c, FinV.at_ fin k (.int _)⟩
    · exact fin.elim
  · exact fin.elim
theorem op_oInt0 {f : Value → Value → Sem Value} {C : Int → Int → Bool} {g : Int → Int → Int} (h : OpR X f (rI0 fun i j => .int (g i j))) : OpR X f (rOp X.K (oInt C g)) := by
  rintro pins s σ H v u vv uu Q I rv ru ⟨x, y, S, m, r1, r2, k, fin⟩
  unfold oInt at fin
  split at fin
  · split at fin
    · cases r1; cases r2
      exact h pins s σ H _ _ vv uu Q I rv ru ⟨_, _, rfl, rfl, FinV.at_ fin k (.int _)⟩
    · exact fin.elim
  · exact fin.elim
theorem op_oSub : OpR X (binaryOp .Sub) (rOp X.K oSub) := op_oInt0 op_sub
theorem op_oFdiv : OpR X (binaryOp .FloorDiv) (rOp X.K oFdiv) := op_oInt op_fdiv fun _ j h => of_decide_eq_true (p := 0 < j ∧ j < 1073741824) h
theorem op_oMod : OpR X (binaryOp .Mod) (rOp X.K oMod) := op_oInt op_mod fun _ j h => of_decide_eq_true (p := 0 < j) h
theorem op_oPow : OpR X (binaryOp .Pow) (rOp X.K oPow) := op_oInt op_pow fun i j h => of_decide_eq_true (p := 0 ≤ j ∧ j ≤ 1000000 ∧ i.natAbs < 2 ^ 64) h
theorem op_oShl : OpR X (binaryOp .LShift) (rOp X.K oShl) := op_oInt op_shl fun i j h => of_decide_eq_true (p := 0 ≤ j ∧ j ≤ 1000000 ∧ i.natAbs < 2 ^ 64) h
theorem op_oShr : OpR X (binaryOp .RShift) (rOp X.K oShr) := op_oInt op_shr fun _ j h => of_decide_eq_true (p := 0 ≤ j) h
theorem op_oXor : OpR X (binaryOp .BitXor) (rOp X.K oXor) := op_oInt0 op_xor
theorem op_oAnd : OpR X (binaryOp .BitAnd) (rOp X.K oAnd) := op_oInt0 op_and

/-! ### comparisons -/
def oEq (x y : Vl) (S : Sto) : Out Vl := match x, y with
  | .d (.str a), .d (.str b) => .ok (.d (.bool (decide (a = b)))) S
  | .d a, .d b => if SeqAt.shaped a && SeqAt.shaped b then .ok (.d (.bool (PyData.eqv a b))) S else .stuck
  | x, y => match asList x S, asList y S with
    | some a, some b => if SeqAt.shaped (.list a) && SeqAt.shaped (.list b) then .ok (.d (.bool (PyData.eqv (.list a) (.list b)))) S else .stuck
    | _, _ => .stuck
def oNe (x y : Vl) (S : Sto) : Out Vl := match x, y with
  | .d a, .d b => if SeqAt.shaped a && SeqAt.shaped b then .ok (.d (.bool (!PyData.eqv a b))) S else .stuck
  | x, y => match asList x S, asList y S with
    | some a, some b => if SeqAt.shaped (.list a) && SeqAt.shaped (.list b) then .ok (.d (.bool (!PyData.eqv (.list a) (.list b)))) S else .stuck
    | _, _ => .stuck
theorem quiet_oEq : Quiet2 oEq := by
  intro x y S c p S'
  unfold oEq
  split
  · simp
  · split <;> simp
  · split
    · split <;> simp
    · simp
theorem quiet_oNe : Quiet2 oNe := by
  intro x y S c p S'
  unfold oNe
  split
  · split <;> simp
  · split
    · split <;> simp
    · simp
theorem lst_dp {K : Frag} {H : Hp} {M : Addr → Prop} {a : Addr} {vs : List V} {xs : List PyData} (h : H a = some (.lst vs)) (l : RpL K H M xs vs) : Dp K H (.ref a) (.list xs) := .lst (SqL.of h) (RpL.dp _ l)
theorem op_oEq {n : Nat} (hr : Room n X.A) : OpR X (compareOp .Eq) (rOp X.K oEq) := by
  rintro pins s σ H v u vv uu Q I rv ru ⟨x, y, S, m, r1, r2, k, fin⟩
  unfold oEq at fin
  split at fin
  · cases r1; cases r2
    refine op_eq pins s σ H _ _ vv uu Q I rv ru ⟨rfl, ?_⟩
    have e : ∀ a b : Str, decide (V.str a = V.str b) = decide (a = b) := fun a b => by rw [dec_str, Bool.eq_iff_iff]; simp
    rw [e]
    exact FinV.at_ fin k (.bl _)
  · split at fin
    · rename_i hs
      rw [Bool.and_eq_true] at hs
      exact op_eqD hr.units pins s σ H _ _ vv uu Q I rv ru ⟨_, _, Rp.dp _ r1, Rp.dp _ r2, hs.1, hs.2, FinV.at_ fin k (.bl _)⟩
    · exact fin.elim
  · split at fin
    · split at fin
      · rename_i e1 e2 hs
        rw [Bool.and_eq_true] at hs
        obtain ⟨a, vs, rfl, h1, l1⟩ := asList_rp r1 k e1
        obtain ⟨b, ws, rfl, h2, l2⟩ := asList_rp r2 k e2
        exact op_eqD hr.units pins s σ H _ _ vv uu Q I rv ru ⟨_, _, lst_dp h1 l1, lst_dp h2 l2, hs.1, hs.2, FinV.at_ fin k (.bl _)⟩
      · exact fin.elim
    · exact fin.elim
theorem op_oNe {n : Nat} (hr : Room n X.A) : OpR X (compareOp .NotEq) (rOp X.K oNe) := by
  rintro pins s σ H v u vv uu Q I rv ru ⟨x, y, S, m, r1, r2, k, fin⟩
  unfold oNe at fin
  split at fin
  · split at fin
    · rename_i hs
      rw [Bool.and_eq_true] at hs
      exact op_neD hr.units pins s σ H _ _ vv uu Q I rv ru ⟨_, _, Rp.dp _ r1, Rp.dp _ r2, hs.1, hs.2, FinV.at_ fin k (.bl _)⟩
    · exact fin.elim
  · split at fin
    · split at fin
      · rename_i e1 e2 hs
        rw [Bool.and_eq_true] at hs
        obtain ⟨a, vs, rfl, h1, l1⟩ := asList_rp r1 k e1
        obtain ⟨b, ws, rfl, h2, l2⟩ := asList_rp r2 k e2
        exact op_neD hr.units pins s σ H _ _ vv uu Q I rv ru ⟨_, _, lst_dp h1 l1, lst_dp h2 l2, hs.1, hs.2, FinV.at_ fin k (.bl _)⟩
      · exact fin.elim
    · exact fin.elim
/-- < of ints, of texts, of alike data -/
def oOrd (gi : Int → Int → Bool) (gs : List Nat → List Nat → Bool) (x y : Vl) (S : Sto) : Out Vl := match x, y with
  | .d (.int i), .d (.int j) => .ok (.d (.bool (gi i j))) S
  | .d (.str a), .d (.str b) => .ok (.d (.bool (gs a.cps.toList b.cps.toList))) S
  | _, _ => .stuck
theorem quiet_oOrd {gi gs} : Quiet2 (oOrd gi gs) := by
  intro x y S c p S'
  unfold oOrd
  split <;> simp
theorem op_oOrd {op : CmpOp} {gi : Int → Int → Bool} {gs : List Nat → List Nat → Bool} (hi : OpR X (compareOp op) (rI0 fun i j => .bl (gi i j)))
    (hs : OpR X (compareOp op) (fun x y H Q => ∃ i j, x = .str i ∧ y = .str j ∧ Q (.bl (gs i.cps.toList j.cps.toList)) H)) : OpR X (compareOp op) (rOp X.K (oOrd gi gs)) := by
  rintro pins s σ H v u vv uu Q I rv ru ⟨x, y, S, m, r1, r2, k, fin⟩
  unfold oOrd at fin
  split at fin
  · cases r1; cases r2
    exact hi pins s σ H _ _ vv uu Q I rv ru ⟨_, _, rfl, rfl, FinV.at_ fin k (.bl _)⟩
  · cases r1; cases r2
    exact hs pins s σ H _ _ vv uu Q I rv ru ⟨_, _, rfl, rfl, FinV.at_ fin k (.bl _)⟩
  · exact fin.elim
abbrev oLt := oOrd (fun i j => decide (i < j)) fun a b => decide (a < b)
theorem op_oLt : OpR X (compareOp .Lt) (rOp X.K oLt) := op_oOrd op_lt op_lt_str
abbrev oLe := oOrd (fun i j => decide (i ≤ j)) fun a b => !decide (b < a)
theorem op_oLe : OpR X (compareOp .LtE) (rOp X.K oLe) := op_oOrd op_le op_le_str
abbrev oGt := oOrd (fun i j => decide (j < i)) fun a b => decide (b < a)
theorem op_oGt : OpR X (compareOp .Gt) (rOp X.K oGt) := op_oOrd op_gt op_gt_str
abbrev oGe := oOrd (fun i j => decide (j ≤ i)) fun a b => !decide (a < b)
theorem op_oGe : OpR X (compareOp .GtE) (rOp X.K oGe) := op_oOrd op_ge op_ge_str

/-! ### in, not in -/
def memB (x : PyData) (xs : List PyData) : Bool := xs.any fun y => PyData.eqv y x
def okMem (x : PyData) (xs : List PyData) : Bool := PyData.canLayAll0 xs && SeqAt.shaped x
def strIn (a b : Str) : Bool := !(Builtin.Str.occurrences b a 0 b.length 1).isEmpty
def oIn (neg : Bool) (x y : Vl) (S : Sto) : Out Vl := match x, y with
  | .d (.str a), .d (.str b) => .ok (.d (.bool (if neg then !strIn a b else strIn a b))) S
  | .d x, .d (.tuple xs) => if okMem x xs then .ok (.d (.bool (if neg then !memB x xs else memB x xs))) S else .stuck
  | .d x, y => match asList y S with
    | some xs => if okMem x xs then .ok (.d (.bool (if neg then !memB x xs else memB x xs))) S else .stuck
    | none => .stuck
  | _, _ => .stuck
theorem quiet_oIn {neg} : Quiet2 (oIn neg) := by
  intro x y S c p S'
  unfold oIn
  split
  · simp
  · split <;> simp
  · split
    · split <;> simp
    · simp
  · simp
theorem okMem_room {x : PyData} {xs : List PyData} {n : Nat} {A : Around} (hr : Room n A) (h : okMem x xs = true) : PyData.canLayAll0 xs = true ∧ x.canLay0 = true ∧ A.units + 1 + min (PyData.depthAll xs) x.depth < cLine := by
  unfold okMem at h
  rw [Bool.and_eq_true] at h
  have d := SeqAt.depth_of_shaped h.2
  have u := hr.un
  refine ⟨h.1, SeqAt.canLay_of_shaped h.2, ?_⟩
  have : min (PyData.depthAll xs) x.depth ≤ x.depth := Nat.min_le_right _ _
  omega
theorem op_oIn {n : Nat} (hr : Room n X.A) : OpR X (compareOp .In) (rOp X.K (oIn false)) := by
  rintro pins s σ H v u vv uu Q I rv ru ⟨x, y, S, m, r1, r2, k, fin⟩
  unfold oIn at fin
  split at fin
  · cases r1; cases r2
    exact op_in_str pins s σ H _ _ vv uu Q I rv ru ⟨_, _, rfl, rfl, FinV.at_ fin k (.bl _)⟩
  · split at fin
    · rename_i hm
      obtain ⟨h1, h2, h3⟩ := okMem_room hr hm
      obtain ⟨as, rd⟩ := Dp.reads I _ _ _ (Rp.dp _ r1) rv
      obtain ⟨bs, rd2⟩ := Dp.reads I _ _ _ (Rp.dp _ r2) ru
      exact SeqAt.in_tuple_reads rd2 rd h1 h2 h3 ⟨.bl _, H, I, rfl, FinV.at_ fin k (.bl _)⟩
    · exact fin.elim
  · split at fin
    · split at fin
      · rename_i e hm
        obtain ⟨h1, h2, h3⟩ := okMem_room hr hm
        obtain ⟨a, vs, rfl, ha, l1⟩ := asList_rp r2 k e
        obtain ⟨as, rd⟩ := Dp.reads I _ _ _ (Rp.dp _ r1) rv
        obtain ⟨bs, rd2⟩ := Dp.reads I _ _ _ (lst_dp ha l1) ru
        exact SeqAt.in_list_reads rd2 rd h1 h2 h3 ⟨.bl _, H, I, rfl, FinV.at_ fin k (.bl _)⟩
      · exact fin.elim
    · exact fin.elim
  · exact fin.elim
theorem op_oNotIn {n : Nat} (hr : Room n X.A) : OpR X (compareOp .NotIn) (rOp X.K (oIn true)) := by
  rintro pins s σ H v u vv uu Q I rv ru ⟨x, y, S, m, r1, r2, k, fin⟩
  unfold oIn at fin
  split at fin
  · cases r1; cases r2
    exact op_notin_str pins s σ H _ _ vv uu Q I rv ru ⟨_, _, rfl, rfl, FinV.at_ fin k (.bl _)⟩
  · split at fin
    · rename_i hm
      obtain ⟨h1, h2, h3⟩ := okMem_room hr hm
      obtain ⟨as, rd⟩ := Dp.reads I _ _ _ (Rp.dp _ r1) rv
      obtain ⟨bs, rd2⟩ := Dp.reads I _ _ _ (Rp.dp _ r2) ru
      exact SeqAt.notIn_tuple_reads rd2 rd h1 h2 h3 ⟨.bl _, H, I, rfl, FinV.at_ fin k (.bl _)⟩
    · exact fin.elim
  · split at fin
    · split at fin
      · rename_i e hm
        obtain ⟨h1, h2, h3⟩ := okMem_room hr hm
        obtain ⟨a, vs, rfl, ha, l1⟩ := asList_rp r2 k e
        obtain ⟨as, rd⟩ := Dp.reads I _ _ _ (Rp.dp _ r1) rv
        obtain ⟨bs, rd2⟩ := Dp.reads I _ _ _ (lst_dp ha l1) ru
        exact SeqAt.notIn_list_reads rd2 rd h1 h2 h3 ⟨.bl _, H, I, rfl, FinV.at_ fin k (.bl _)⟩
      · exact fin.elim
    · exact fin.elim
  · exact fin.elim

/-! ### is -/
/-- is None, is True .. : the right side None or a bool, the left one None, or a bool (or, with None, anything) -/
def isN : Vl → Bool
  | .d .none => true
  | _ => false
def oIs (neg : Bool) (x y : Vl) (S : Sto) : Out Vl := match y with
  | .d .none => .ok (.d (.bool (if neg then !isN x else isN x))) S
  | .d (.bool b) => match x with
    | .d (.bool a) => .ok (.d (.bool (if neg then !decide (a = b) else decide (a = b)))) S
    | _ => .stuck
  | _ => .stuck
theorem quiet_oIs {neg} : Quiet2 (oIs neg) := by
  intro x y S c p S'
  unfold oIs
  split
  · simp
  · split <;> simp
  · simp
theorem isN_rp {K : Frag} {H : Hp} {S : Sto} {m : Mp} {x : Vl} {v : V} (r : RpV K H S m x v) : decide (v = .non) = isN x := by
  cases x with
  | d d =>
    have r' : Rp K H (hid S m) d v := r
    cases r' <;> rfl
  | z xs => obtain ⟨a, vs, rfl, _⟩ := r; rfl
  | r n => obtain ⟨_, rfl⟩ := r; rfl
  | x _ _ _ _ => obtain ⟨rfl, _⟩ := r; rfl
theorem op_oIs : OpR X (compareOp .Is) (rOp X.K (oIs false)) := by
  rintro pins s σ H v u vv uu Q I rv ru ⟨x, y, S, m, r1, r2, k, fin⟩
  unfold oIs at fin
  split at fin
  · cases r2
    exact op_isN pins s σ H _ _ vv uu Q I rv ru ⟨rfl, FinV.at_ fin k (by rw [isN_rp r1]; exact .bl _)⟩
  · split at fin
    · cases r1; cases r2
      exact op_isBl pins s σ H _ _ vv uu Q I rv ru ⟨_, _, rfl, rfl, FinV.at_ fin k (.bl _)⟩
    · exact fin.elim
  · exact fin.elim
theorem op_oIsNot : OpR X (compareOp .IsNot) (rOp X.K (oIs true)) := by
  rintro pins s σ H v u vv uu Q I rv ru ⟨x, y, S, m, r1, r2, k, fin⟩
  unfold oIs at fin
  split at fin
  · cases r2
    exact op_notN pins s σ H _ _ vv uu Q I rv ru ⟨rfl, FinV.at_ fin k (by rw [isN_rp r1]; exact .bl _)⟩
  · split at fin
    · cases r1; cases r2
      exact op_notBl pins s σ H _ _ vv uu Q I rv ru ⟨_, _, rfl, rfl, FinV.at_ fin k (.bl _)⟩
    · exact fin.elim
  · exact fin.elim

/-! ### subscripts -/
def oGet (x y : Vl) (S : Sto) : Out Vl := match y with
  | .d (.int i) => match x with
    | .d (.tuple xs) => match atI xs i with
      | some v => .ok (.d v) S
      | none => .stuck
    | .d (.str z) => if z.length ≤ sizeLine then (match atI z.cps.toList i with
      | some c => .ok (.d (.str ⟨#[c]⟩)) S
      | none => .stuck) else .stuck
    | x => match asListZ x S with
      | some xs => match atI xs i with
        | some v => .ok (.d v) S
        | none => .stuck
      | none => .stuck
  | _ => .stuck
theorem quiet_oGet : Quiet2 oGet := by
  intro x y S c p S'
  unfold oGet
  split
  · split
    · split <;> simp
    · split
      · split <;> simp
      · simp
    · split
      · split <;> simp
      · simp
  · simp
theorem RpL.atI {K : Frag} {H : Hp} {M : Addr → Prop} {ds : List PyData} {vs : List V} {i : Int} {d : PyData} (r : RpL K H M ds vs) (e : L2.atI ds i = some d) : ∃ v, L2.atI vs i = some v ∧ Rp K H M d v := by
  unfold L2.atI at e ⊢
  rw [← r.length]
  cases q : ixN ds.length i with
  | none => rw [q] at e; cases e
  | some j =>
    rw [q] at e
    exact r.get e
theorem re_get {W : WX} {a b : Expr} {f g : EF} {pos : Pos} (ha : RE X W a f) (hb : RE X W b g) (hs : PlainIx b) : RE X W (.Subscript a b pos) (e2 oGet f g) := by
  have ho : IxR X (rOp X.K oGet) := by
    rintro value slice pins s σ H v u vv uu Q I rv ru ⟨x, y, S, m, r1, r2, k, fin⟩ hsub
    unfold oGet at fin
    split at fin
    · cases r2
      split at fin
      · split at fin
        · rename_i d e
          obtain ⟨a, vs, rfl, h1, l1⟩ := asTup_rp r1 rfl
          obtain ⟨w, e2, rw_⟩ := l1.atI e
          exact ix_tup value slice pins s σ H _ _ vv uu Q I rv ru ⟨_, _, _, _, rfl, rfl, h1, e2, FinV.at_ fin k rw_⟩ hsub
        · exact fin.elim
      · split at fin
        · split at fin
          · rename_i hz c e
            cases r1
            exact ix_str value slice pins s σ H _ _ vv uu Q I rv ru ⟨_, _, _, rfl, rfl, (by assumption), e, FinV.at_ fin k (.str _)⟩ hsub
          · exact fin.elim
        · exact fin.elim
      · split at fin
        · split at fin
          · rename_i e1 _ d e
            obtain ⟨a, vs, rfl, h1, l1⟩ := asListZ_rp r1 k e1
            obtain ⟨w, e2, rw_⟩ := l1.atI e
            exact ix_list value slice pins s σ H _ _ vv uu Q I rv ru ⟨_, _, _, _, rfl, rfl, h1, e2, FinV.at_ fin k rw_⟩ hsub
          · exact fin.elim
        · exact fin.elim
    · exact fin.elim
  exact PEof (pe_ix ho ha hb hs) fun _ _ _ t => tE_2 quiet_oGet t
end
end Ev

end
section
namespace Ev
open PySem PySem.Spec PyProof.Rows L2

/-- how a statement ends -/
inductive Flw where
  | nx (ρ : Env)
  | rt (x : Vl)
  | bk (ρ : Env)
  | ct (ρ : Env)
  | ex (c : Str) (p : Vl) (ρ : Env)
abbrev SF := Env → Sto → Out Flw
/-- an expression within a statement: what it raises the statement raises -/
def Out.lift {α : Type} (o : Out α) (ρ : Env) (k : α → Sto → Out Flw) : Out Flw := match o with
  | .ok x S => k x S
  | .exc c p S => .ok (.ex c p ρ) S
  | .stuck => .stuck
def EndF (K : Frag) (W : WX) (D : Ends) (fl : Flw) (S : Sto) (m : Mp) (H : Hp) : Prop := match fl with
  | .nx ρ => ∀ σ, StR K ρ S m σ H → D.nx σ H
  | .rt x => ∀ v, RpV K H S m x v → D.rt v H
  | .bk ρ => ∀ σ, StR K ρ S m σ H → D.bk σ H
  | .ct ρ => ∀ σ, StR K ρ S m σ H → D.ct σ H
  | .ex c p ρ => ∀ σ dd v, StR K ρ S m σ H → H dd = some (.xd [(attrOf c, v)]) → RpV K H S m p v → W (.ref (He.ga K c)) (some dd) σ H
abbrev FinS (K : Frag) (W : WX) (D : Ends) (o : Out Flw) (S : Sto) (m : Mp) (H : Hp) : Prop := Fin K o S m H (fun fl S' m' H' => EndF K W D fl S' m' H') fun _ _ _ => False
def tS (K : Frag) (W : WX) (g : SF) : TS := fun D σ H => ∃ ρ S m, StR K ρ S m σ H ∧ FinS K W D (g ρ S) S m H
theorem PSof {X : Cx} {st : Stmt} {t t' : TS} (h : PS X st t) (i : ∀ D σ H, t' D σ H → t D σ H) : PS X st t' := ⟨fun pins s σ H D I q => h.run pins s σ H D I (i D σ H q)⟩
theorem PSsof {X : Cx} {st : List Stmt} {t t' : TS} (h : PSs X st t) (i : ∀ D σ H, t' D σ H → t D σ H) : PSs X st t' := ⟨fun pins s σ H D I q => h.run pins s σ H D I (i D σ H q)⟩
theorem PGof {X : Cx} {tg : Expr} {t t' : TG} (h : PG X tg t) (i : ∀ v σ H Q, t' v σ H Q → t v σ H Q) : PG X tg t' := ⟨fun pins s σ H v u Q I r q => h.run pins s σ H v u Q I r (i v σ H Q q)⟩
theorem PGsof {X : Cx} {tg : List Expr} {t t' : TGs} (h : PGs X tg t) (i : ∀ v σ H Q, t' v σ H Q → t v σ H Q) : PGs X tg t' := ⟨fun pins s σ H v u Q I r q => h.run pins s σ H v u Q I r (i v σ H Q q)⟩
abbrev RS (X : Cx) (W : WX) (st : Stmt) (g : SF) : Prop := PS X st (tS X.K W g)
abbrev RSs (X : Cx) (W : WX) (st : List Stmt) (g : SF) : Prop := PSs X st (tS X.K W g)

section
variable {K : Frag} {H H1 : Hp} {S S1 : Sto} {m m1 : Mp} {ρ : Env} {σ : L2.St} {W : WX} {D : Ends} {α : Type}
theorem Fin.lift {o : Out α} {k : α → Sto → Out Flw} (s : StR K ρ S m σ H) (h : FinS K W D (o.lift ρ k) S m H) : Fin K o S m H (fun x S1 m1 H1 => FinS K W D (k x S1) S1 m1 H1) fun c d H' => W c d σ H' := by
  cases o with
  | ok x S' =>
    intro m' H' e kk
    have h' : FinS K W D (k x S') S m H := h
    revert h'
    cases k x S' with
    | ok y S2 => exact fun h' m2 H2 e2 k2 => h' m2 H2 (e.trans e2) k2
    | exc c p S2 => exact fun h' m2 H2 dd v e2 k2 hd r => h' m2 H2 dd v (e.trans e2) k2 hd r
    | stuck => exact id
  | exc c p S' =>
    have h' : FinS K W D (.ok (.ex c p ρ) S') S m H := h
    exact fun m' H' dd v e kk hd r => h' m' H' e kk σ dd v (s.ext e kk) hd r
  | stuck => exact h
/-- later, with the same ends -/
theorem FinS.later {o : Out Flw} (e : Xt H S m H1 S1 m1) (h : FinS K W D o S m H) : FinS K W D o S1 m1 H1 := by
  cases o with
  | ok y S2 => exact fun m2 H2 e2 k2 => h m2 H2 (e.trans e2) k2
  | exc c p S2 => exact fun m2 H2 dd v e2 k2 hd r => h m2 H2 dd v (e.trans e2) k2 hd r
  | stuck => exact h
end

/-! ### blocks, small statements -/
def sNil : SF := fun ρ S => .ok (.nx ρ) S
def sSeq (g h : SF) : SF := fun ρ S => (g ρ S).bind fun fl S1 => match fl with
  | .nx ρ1 => h ρ1 S1
  | fl => .ok fl S1
def sExpr (f : EF) : SF := fun ρ S => (f ρ S).lift ρ fun _ S1 => .ok (.nx ρ) S1
def sRet (f : EF) : SF := fun ρ S => (f ρ S).lift ρ fun x S1 => .ok (.rt x) S1
def sRetN : SF := fun _ S => .ok (.rt (.d .none)) S
def sIf (p : BF) (g h : SF) : SF := fun ρ S => (p ρ S).lift ρ fun b S1 => if b = true then g ρ S1 else h ρ S1
def sBrk : SF := fun ρ S => .ok (.bk ρ) S
def sCnt : SF := fun ρ S => .ok (.ct ρ) S
section
variable {X : Cx} {W : WX} {st : Stmt} {sts : List Stmt} {g h : SF} {e : Expr} {f : EF} {pos : Pos}
theorem rss_nil : RSs X W [] sNil := PSsof pss_nil fun D σ H ⟨ρ, S, m, s, t⟩ => Fin.here (R := fun fl S' m' H' => EndF X.K W D fl S' m' H') t s.sto σ s
theorem tS_seq {K : Frag} {D : Ends} {σ : L2.St} {H : Hp} (t : tS K W (sSeq g h) D σ H) : tSeq (tS K W g) (tS K W h) D σ H := by
  obtain ⟨ρ, S, m, s, t⟩ := t
  refine ⟨ρ, S, m, s, Fin.mono (Fin.bind t) (fun fl S1 m1 H1 e1 k1 t1 => ?_) fun _ _ _ z => z⟩
  cases fl with
  | nx ρ1 => exact fun σ' s' => ⟨ρ1, S1, m1, s', t1⟩
  | rt x => exact Fin.here (R := fun fl S' m' H' => EndF K W D fl S' m' H') t1 k1
  | bk x => exact Fin.here (R := fun fl S' m' H' => EndF K W D fl S' m' H') t1 k1
  | ct x => exact Fin.here (R := fun fl S' m' H' => EndF K W D fl S' m' H') t1 k1
  | ex c p x => exact Fin.here (R := fun fl S' m' H' => EndF K W D fl S' m' H') t1 k1
theorem rss_cons (h1 : RS X W st g) (h2 : RSs X W sts h) : RSs X W (st :: sts) (sSeq g h) := PSsof (pss_cons h1 h2) fun _ _ _ t => tS_seq t
theorem rss_one (h1 : RS X W st g) : RSs X W [st] g := pss_one h1
theorem rs_pass : RS X W (.Pass pos) sNil := PSof ps_pass fun D σ H ⟨ρ, S, m, s, t⟩ => Fin.here (R := fun fl S' m' H' => EndF X.K W D fl S' m' H') t s.sto σ s
theorem rs_brk : RS X W (.Break pos) sBrk := PSof ps_break fun D σ H ⟨ρ, S, m, s, t⟩ => Fin.here (R := fun fl S' m' H' => EndF X.K W D fl S' m' H') t s.sto σ s
theorem rs_cnt : RS X W (.Continue pos) sCnt := PSof ps_continue fun D σ H ⟨ρ, S, m, s, t⟩ => Fin.here (R := fun fl S' m' H' => EndF X.K W D fl S' m' H') t s.sto σ s
theorem rs_expr (he : RE X W e f) (hs : swapsWith e none pos.line X.env = pure false := by rfl) : RS X W (.Expr e pos) (sExpr f) := by
  refine PSof (ps_expr he hs) fun D σ H ⟨ρ, S, m, s, t⟩ => ?_
  refine ⟨ρ, S, m, s, Fin.mono (Fin.lift s t) (fun x S1 m1 H1 e1 k1 t1 v rv => ?_) fun _ _ _ z => z⟩
  exact Fin.here (R := fun fl S' m' H' => EndF X.K W D fl S' m' H') t1 k1 σ (s.ext e1 k1)
theorem rs_ret (he : RE X W e f) : RS X W (.Return (some e) pos) (sRet f) := by
  refine PSof (ps_ret he) fun D σ H ⟨ρ, S, m, s, t⟩ => ?_
  refine ⟨ρ, S, m, s, Fin.mono (Fin.lift s t) (fun x S1 m1 H1 e1 k1 t1 v rv => ?_) fun _ _ _ z => z⟩
  exact Fin.here (R := fun fl S' m' H' => EndF X.K W D fl S' m' H') t1 k1 v rv
theorem rs_retN : RS X W (.Return none pos) sRetN := PSof ps_retN fun D σ H ⟨ρ, S, m, s, t⟩ => Fin.here (R := fun fl S' m' H' => EndF X.K W D fl S' m' H') t s.sto .non .non
theorem rs_if {c : Expr} {p : BF} {a b : List Stmt} (hc : RT X W c p) (ha : RSs X W a g) (hb : RSs X W b h) : RS X W (.If c a b pos) (sIf p g h) := by
  refine PSof (ps_if hc ha hb) fun D σ H ⟨ρ, S, m, s, t⟩ => ?_
  refine ⟨ρ, S, m, s, Fin.mono (Fin.lift s t) (fun c S1 m1 H1 e1 k1 t1 => ?_) fun _ _ _ z => z⟩
  cases c with
  | true => exact ⟨ρ, S1, m1, s.ext e1 k1, t1⟩
  | false => exact ⟨ρ, S1, m1, s.ext e1 k1, t1⟩
end

/-! ### targets -/
abbrev AF := Vl → Env → Sto → Out Env
abbrev AFs := List Vl → Env → Sto → Out Env
def tG (K : Frag) (a : AF) : TG := fun v σ H Q => ∃ x ρ S m, StR K ρ S m σ H ∧ RpV K H S m x v ∧ Fin K (a x ρ S) S m H (fun ρ' S' m' H' => ∀ σ', StR K ρ' S' m' σ' H' → Q σ' H') fun _ _ _ => False
def tGs (K : Frag) (a : AFs) : TGs := fun vs σ H Q => ∃ xs ρ S m, StR K ρ S m σ H ∧ RpVs K H S m xs vs ∧ Fin K (a xs ρ S) S m H (fun ρ' S' m' H' => ∀ σ', StR K ρ' S' m' σ' H' → Q σ' H') fun _ _ _ => False
abbrev RG (X : Cx) (tg : Expr) (a : AF) : Prop := PG X tg (tG X.K a)
abbrev RGs (X : Cx) (tg : List Expr) (a : AFs) : Prop := PGs X tg (tGs X.K a)
def aName (i : Nat) : AF := fun x ρ S => if i < ρ.length then .ok (ρ.set i (some x)) S else .stuck
def aNils : AFs := fun xs ρ S => match xs with
  | [] => .ok ρ S
  | _ => .stuck
def aConss (a : AF) (b : AFs) : AFs := fun xs ρ S => match xs with
  | x :: r => (a x ρ S).bind fun ρ1 S1 => b r ρ1 S1
  | [] => .stuck
def aTup (n : Nat) (b : AFs) : AF := fun x ρ S => match x with
  | .d (.tuple xs) => if xs.length = n then b (xs.map .d) ρ S else .stuck
  | _ => .stuck
/-- o[i] = x -/
def oSet (o i x : Vl) (S : Sto) : Out Unit := match o, i, x with
  | .r n, .d (.int j), .d d => match S[n]? with
    | some (some (.lst xs)) => match ixN xs.length j with
      | some k => .ok () (S.set n (some (.lst (xs.set k d))))
      | none => .stuck
    | _ => .stuck
  | _, _, _ => .stuck
def aSub (f g : EF) : AF := fun x ρ S => (f ρ S).bind fun o S1 => (g ρ S1).bind fun i S2 => (oSet o i x S2).bind fun _ S3 => .ok ρ S3
section
variable {X : Cx} {pos : Pos}
theorem StR.set {K : Frag} {ρ : Env} {S : Sto} {m : Mp} {σ : L2.St} {H : Hp} {x : Vl} {v : V} (s : StR K ρ S m σ H) (r : RpV K H S m x v) (i : Nat) : StR K (ρ.set i (some x)) S m (σ.set i (some v)) H := by
  refine ⟨by rw [List.length_set, List.length_set]; exact s.len, fun j y h => ?_, s.sto⟩
  by_cases e : i = j
  · subst e
    have hi : i < ρ.length := by
      have := (List.getElem?_eq_some_iff.mp h).1
      rwa [List.length_set] at this
    rw [List.getElem?_set_self hi] at h
    cases h
    exact ⟨v, by rw [List.getElem?_set_self (by rw [← s.len]; exact hi)], r⟩
  · rw [List.getElem?_set_ne e] at h
    rw [List.getElem?_set_ne e]
    exact s.loc j y h
theorem rg_name {i : Nat} {x : Str} (hN : X.N.Nodup) (hi : X.N[i]? = some x) (hx : Loc X.env.scope x) (hf : X.fn x = true ∨ X.env.scope.names.lookup x = some .local := by first | exact .inl rfl | exact .inr rfl | assumption) : RG X (.Name x pos) (aName i) := by
  refine PGof (pg_name hN hi hx hf) fun v σ H Q ⟨x, ρ, S, m, s, r, t⟩ => ?_
  unfold aName at t
  split at t
  · exact Fin.here (R := fun ρ' S' m' H' => ∀ σ', StR X.K ρ' S' m' σ' H' → Q σ' H') t s.sto _ (s.set r i)
  · exact t.elim
theorem rgs_nil : RGs X [] aNils := by
  refine PGsof pgs_nil fun vs σ H Q ⟨xs, ρ, S, m, s, r, t⟩ => ?_
  unfold aNils at t
  split at t
  · cases r
    exact ⟨rfl, Fin.here (R := fun ρ' S' m' H' => ∀ σ', StR X.K ρ' S' m' σ' H' → Q σ' H') t s.sto _ s⟩
  · exact t.elim
theorem rgs_cons {e : Expr} {es : List Expr} {a : AF} {b : AFs} (h1 : RG X e a) (h2 : RGs X es b)
    (hs : (assignEach (e :: es) X.env).map (·.2) = assign e X.env :: (assignEach es X.env).map (·.2) := by rfl) : RGs X (e :: es) (aConss a b) := by
  refine PGsof (pgs_cons h1 h2 hs) fun vs σ H Q ⟨xs, ρ, S, m, s, r, t⟩ => ?_
  cases r with
  | nil => exact t.elim
  | cons r1 r2 =>
    refine ⟨_, _, rfl, _, ρ, S, m, s, r1, Fin.mono (Fin.bind t) (fun ρ1 S1 m1 H1 e1 k1 t1 σ1 s1 => ?_) fun _ _ _ z => z⟩
    exact ⟨_, ρ1, S1, m1, s1, r2.ext e1 s.sto, t1⟩
theorem RpL.vals {K : Frag} {H : Hp} {S : Sto} {m : Mp} : ∀ {ds : List PyData} {vs : List V}, RpL K H (hid S m) ds vs → RpVs K H S m (ds.map .d) vs
  | [], _, h => by cases h; exact .nil
  | d :: ds, _, h => by
    cases h with
    | cons h1 h2 => exact .cons h1 (RpL.vals h2)
theorem rg_tup {es : List Expr} {k : Nat} {b : AFs} {n : Nat} (hc : X.calm = true) (h : RGs X es b)
    (hn : (assignEach es X.env).length = n := by rfl) (hst : (assignEach es X.env).findIdx? (·.1) = none := by rfl) : RG X (.Tuple es k pos) (aTup n b) := by
  refine PGof (pg_tup hc h hn hst) fun v σ H Q ⟨x, ρ, S, m, s, r, t⟩ => ?_
  unfold aTup at t
  split at t
  · split at t
    · rename_i xs hl
      obtain ⟨a, vs, rfl, h1, l1⟩ := asTup_rp r rfl
      exact ⟨a, vs, rfl, h1, by rw [← l1.length]; exact hl, _, ρ, S, m, s, l1.vals, t⟩
    · exact t.elim
  · exact t.elim
def rSet (K : Frag) : TSet := fun o i v H Q => ∃ x y z S m, RpV K H S m x o ∧ RpV K H S m y i ∧ RpV K H S m z v ∧ Sok K H S m ∧ Fin K (oSet x y z S) S m H (fun _ S' m' H' => Q H') fun _ _ _ => False
theorem set_oSet : PSet X (rSet X.K) := by
  rintro pins s σ H o i v ov iv u Q I ro ri rv ⟨x, y, z, S, m, r1, r2, r3, k, t⟩
  unfold oSet at t
  split at t
  · split at t
    · split at t
      · rename_i n _ d _ xs e _ q eq
        obtain ⟨hn, rfl⟩ := r1
        cases r2
        obtain ⟨vs, h1, l1⟩ := k.at_ _ _ e
        refine set_list pins s σ H _ _ v ov iv u Q I ro ri rv ⟨_, vs, _, q, rfl, rfl, h1, by rw [← l1.length]; exact eq, ?_⟩
        have x1 : Xt H S m (upd H (m.f n) (.lst (vs.set q v))) (S.set n (some (.lst (xs.set q d)))) m := .set e
        exact t m _ x1 (k.set e ⟨_, upd_same, RpL.ext x1.kp (x1.kpT k) _ (l1.set r3 q)⟩)
      · exact t.elim
    · exact t.elim
  · exact t.elim
theorem rg_sub {o i : Expr} {f g : EF} (ho : RE X (fun _ _ _ _ => False) o f) (hi : RE X (fun _ _ _ _ => False) i g)
    (ha : ∀ v, assign (.Subscript o i pos) X.env v = (do
      let ov ← holding [v] (eval o X.env)
      let iv ← holding [v, ov] (eval i X.env)
      standAt pos
      holding [v, ov, iv] (setItem ov iv v)
      release [v, ov, iv] []) := by intro _; rfl) : RG X (.Subscript o i pos) (aSub f g) := by
  refine PGof (pg_sub ho hi set_oSet ha) fun v σ H Q ⟨x, ρ, S, m, s, r, t⟩ => ?_
  refine ⟨ρ, S, m, s, Fin.mono (Fin.bind t) (fun o S1 m1 H1 e1 k1 t1 ov ro => ?_) fun _ _ _ z => z⟩
  refine ⟨ρ, S1, m1, s.ext e1 k1, Fin.mono (Fin.bind t1) (fun i S2 m2 H2 e2 k2 t2 iv ri => ?_) fun _ _ _ z => z⟩
  refine ⟨o, i, x, S2, m2, ro.ext e2 k1, ri, (r.ext e1 s.sto).ext e2 k1, k2, Fin.mono (Fin.bind t2) (fun _ S3 m3 H3 e3 k3 t3 => ?_) fun _ _ _ z => z⟩
  exact Fin.here (R := fun ρ' S' m' H' => ∀ σ', StR X.K ρ' S' m' σ' H' → Q σ' H') t3 k3 σ (((s.ext e1 k1).ext e2 k2).ext e3 k3)
def sAsg (f : EF) (a : AF) : SF := fun ρ S => (f ρ S).lift ρ fun x S1 => (a x ρ S1).bind fun ρ1 S2 => .ok (.nx ρ1) S2
theorem tS_asg {W : WX} {K : Frag} {f : EF} {a : AF} {D : Ends} {σ : L2.St} {H : Hp} (t : tS K W (sAsg f a) D σ H) : tAsg (tE K W f) (tG K a) D σ H := by
  obtain ⟨ρ, S, m, s, t⟩ := t
  refine ⟨ρ, S, m, s, Fin.mono (Fin.lift s t) (fun x S1 m1 H1 e1 k1 t1 v rv => ?_) fun _ _ _ z => z⟩
  refine ⟨x, ρ, S1, m1, s.ext e1 k1, rv, Fin.mono (Fin.bind t1) (fun ρ1 S2 m2 H2 e2 k2 t2 σ2 s2 => ?_) fun _ _ _ z => z⟩
  exact Fin.here (R := fun fl S' m' H' => EndF K W D fl S' m' H') t2 k2 σ2 s2
theorem rs_asg {W : WX} {tg e : Expr} {f : EF} {a : AF} (he : RE X W e f) (hg : RG X tg a) (hs : swapsWithSole [tg] e pos.line X.env = pure false := by rfl) (hw : swappedStores [tg] e X.env = pure none := by rfl)
    (h1 : (assignEach [tg] X.env).map (·.2) = [assign tg X.env] := by rfl) : RS X W (.Assign [tg] e pos) (sAsg f a) := PSof (ps_asg he hg hs hw h1) fun _ _ _ t => tS_asg t
theorem tG_name {K : Frag} {i : Nat} {v : V} {σ : L2.St} {H : Hp} {Q : L2.St → Hp → Prop} (t : tG K (aName i) v σ H Q) : gName i v σ H Q := by
  obtain ⟨x, ρ, S, m, s, r, t⟩ := t
  unfold aName at t
  split at t
  · exact Fin.here (R := fun ρ' S' m' H' => ∀ σ', StR K ρ' S' m' σ' H' → Q σ' H') t s.sto _ (s.set r i)
  · exact t.elim
/-- name = e -/
theorem rs_set {W : WX} {i : Nat} {x : Str} {e : Expr} {f : EF} {pos' : Pos} (hN : X.N.Nodup) (hi : X.N[i]? = some x) (hx : Loc X.env.scope x) (he : RE X W e f) (hs : swapsWith e (some (.Name x pos')) pos.line X.env = pure false := by rfl)
    (hf : X.fn x = true ∨ X.env.scope.names.lookup x = some .local := by first | exact .inl rfl | exact .inr rfl | assumption) : RS X W (.Assign [.Name x pos'] e pos) (sAsg f (aName i)) :=
  PSof (ps_set hN hi hx he hs hf) fun D σ H t => by
    obtain ⟨ρ, S, m, s, t⟩ := tS_asg t
    exact ⟨ρ, S, m, s, Fin.mono t (fun x S1 m1 H1 e1 k1 t1 v rv => tG_name (t1 v rv)) fun _ _ _ z => z⟩
/-- a, b = x, y of plain local names -/
def sPar (i j : Nat) (fs : Env → Sto → Out (List Vl)) : SF := fun ρ S => (fs ρ S).lift ρ fun xs S1 => match xs with
  | [x, y] => if i < ρ.length ∧ j < ρ.length then .ok (.nx ((ρ.set i (some x)).set j (some y))) S1 else .stuck
  | _ => .stuck
theorem rs_par {W : WX} {i j : Nat} {x y : Str} {a b : Expr} {fs : Env → Sto → Out (List Vl)} {px py pt : Pos} {kt k2 pt2} (hc : X.calm = true) (hN : X.N.Nodup) (hi : X.N[i]? = some x) (hj : X.N[j]? = some y) (hij : i ≠ j)
    (hx : X.env.scope.names.lookup x = some .local) (hy : X.env.scope.names.lookup y = some .local) (ha : RA X W [a, b] fs)
    (hw : swappedStores [.Tuple [.Name x px, .Name y py] kt pt] (.Tuple [a, b] k2 pt2) X.env = pure (some [x, y]))
    (hs : swapsWithSole [.Tuple [.Name x px, .Name y py] kt pt] (.Tuple [a, b] k2 pt2) pos.line X.env = pure false := by rfl) :
    RS X W (.Assign [.Tuple [.Name x px, .Name y py] kt pt] (.Tuple [a, b] k2 pt2) pos) (sPar i j fs) := by
  refine PSof (ps_par hc hN hi hj hij hx hy ha hw hs) fun D σ H ⟨ρ, S, m, s, t⟩ => ?_
  refine ⟨ρ, S, m, s, Fin.mono (Fin.lift s t) (fun xs S1 m1 H1 e1 k1 t1 vs rvs => ?_) fun _ _ _ z => z⟩
  split at t1
  · cases rvs with
    | cons r1 rr =>
      cases rr with
      | cons r2 rr =>
        cases rr
        split at t1
        · exact ⟨_, _, rfl, Fin.here (R := fun fl S' m' H' => EndF X.K W D fl S' m' H') t1 k1 _ (((s.ext e1 k1).set r1 i).set r2 j)⟩
        · exact t1.elim
  · exact t1.elim
end

/-! ### what is walked; for -/
/-- the iterator J gives the items xs, whatever comes between -/
structure Xw (K : Frag) (H : Hp) (S : Sto) (m : Mp) (H' : Hp) (S' : Sto) (m' : Mp) : Prop where
  len : S.length ≤ S'.length
  mp : ∀ n, n < S.length → m'.f n = m.f n
  kp : Kp H (hid S m) H' (hid S' m')
  kpT : KpT K H H'
  frz : ∀ a o u, H a = some (.frz o u) → H' a = some (.frz o u)
theorem Xt.w {K : Frag} {H H' : Hp} {S S' : Sto} {m m' : Mp} (x : Xt H S m H' S' m') (k : Sok K H S m) : Xw K H S m H' S' m' :=
  ⟨x.len, x.mp, x.kp, x.kpT k, fun a _ _ h => (x.keep a _ h (k.notLive h (fun _ z => by cases z) fun _ z => by cases z)).1⟩
def Yl (K : Frag) (J : It) (xs : List Vl) (S : Sto) (m : Mp) (H : Hp) : Prop := ∀ S' m' H', Xw K H S m H' S' m' → Sok K H' S' m' → ∀ i : Nat,
  (∀ x, xs[i]? = some x → J.go i H' ∧ ∀ y H2, J.yld i H' y H2 → Xt H' S' m' H2 S' m' ∧ Sok K H2 S' m' ∧ RpV K H2 S' m' x y) ∧ (xs.length ≤ i → J.stop i H')
def tI (K : Frag) (W : WX) (f : Env → Sto → Out (List Vl)) : TI := fun σ H R => ∃ ρ S m, StR K ρ S m σ H ∧ Fin K (f ρ S) S m H (fun xs S' m' H' => ∀ J, Yl K J xs S' m' H' → R J H') fun c d H' => W c d σ H'
theorem PIof {X : Cx} {tg it : Expr} {t t' : TI} (h : PI X tg it t) (i : ∀ σ H R, t' σ H R → t σ H R) : PI X tg it t' := ⟨fun pins s σ H R I q => h.run pins s σ H R I (i σ H R q)⟩
abbrev RI (X : Cx) (W : WX) (tg it : Expr) (f : Env → Sto → Out (List Vl)) : Prop := PI X tg it (tI X.K W f)
def loopF (a : AF) (b : SF) : List Vl → SF
  | [], ρ, S => .ok (.nx ρ) S
  | x :: xs, ρ, S => (a x ρ S).bind fun ρ1 S1 => (b ρ1 S1).bind fun fl S2 => match fl with
    | .nx ρ2 => loopF a b xs ρ2 S2
    | .ct ρ2 => loopF a b xs ρ2 S2
    | .bk ρ2 => .ok (.nx ρ2) S2
    | fl => .ok fl S2
def sFor (f : Env → Sto → Out (List Vl)) (a : AF) (b : SF) : SF := fun ρ S => (f ρ S).lift ρ fun xs S1 => loopF a b xs ρ S1
section
variable {X : Cx} {W : WX} {tg it : Expr} {body : List Stmt} {f : Env → Sto → Out (List Vl)} {a : AF} {b : SF} {pos : Pos}
theorem rs_for (hp : PassesOwn (model X.prog X.w) X.A X.env X.xe) (hc : X.calm = true) (hi : RI X W tg it f) (hg : RG X tg a) (hb : RSs X W body b)
    (hs : ∀ x, foldedSetIterable it X.env x = pure x := by intro _; rfl) : RS X W (.For tg it body [] pos) (sFor f a b) := by
  refine PSof (ps_for hp hc hi hg hb hs) fun D σ H ⟨ρ, S, m, s, t⟩ => ?_
  refine ⟨ρ, S, m, s, Fin.mono (Fin.lift s t) (fun xs S1 m1 H1 e1 k1 t1 J yl => ?_) fun _ _ _ z => z⟩
  refine ⟨fun i n σ2 H2 => n = xs.length - i ∧ i ≤ xs.length ∧ ∃ ρ2 S2 m2, Xt H1 S1 m1 H2 S2 m2 ∧ StR X.K ρ2 S2 m2 σ2 H2 ∧ FinS X.K W D (loopF a b (xs.drop i) ρ2 S2) S2 m2 H2,
    ⟨xs.length, by simp, Nat.zero_le _, ρ, S1, m1, .refl, s.ext e1 k1, by simpa using t1⟩, ?_⟩
  rintro i n σ2 H2 ⟨rfl, hi, ρ2, S2, m2, e2, s2, t2⟩
  obtain ⟨y1, y2⟩ := yl S2 m2 H2 (e2.w k1) s2.sto i
  by_cases hlt : i < xs.length
  · obtain ⟨go, yd⟩ := y1 xs[i] (by simp [hlt])
    rw [List.drop_eq_getElem_cons hlt] at t2
    refine .inr ⟨go, fun σ3 H3 => ∃ ρ3 S3 m3, Xt H1 S1 m1 H3 S3 m3 ∧ StR X.K ρ3 S3 m3 σ3 H3 ∧ FinS X.K W D (loopF a b (xs.drop (i + 1)) ρ3 S3) S3 m3 H3,
      fun σ3 H3 z => ⟨xs.length - (i + 1), by omega, rfl, hlt, z⟩, fun y H3 hy => ?_⟩
    obtain ⟨e3, k3, r3⟩ := yd y H3 hy
    have s3 := s2.ext e3 k3
    have t3 := FinS.later e3 t2
    unfold loopF at t3
    refine ⟨xs[i], ρ2, S2, m2, s3, r3, Fin.mono (Fin.bind t3) (fun ρ4 S4 m4 H4 e4 k4 t4 σ4 s4 => ?_) fun _ _ _ z => z⟩
    refine ⟨ρ4, S4, m4, s4, Fin.mono (Fin.bind t4) (fun fl S5 m5 H5 e5 k5 t5 => ?_) fun _ _ _ z => z⟩
    have e15 := ((e2.trans e3).trans e4).trans e5
    cases fl with
    | nx ρ5 => exact fun σ5 s5 => ⟨ρ5, S5, m5, e15, s5, t5⟩
    | ct ρ5 => exact fun σ5 s5 => ⟨ρ5, S5, m5, e15, s5, t5⟩
    | bk ρ5 => exact fun σ5 s5 => Fin.here (R := fun fl S' m' H' => EndF X.K W D fl S' m' H') t5 k5 σ5 s5
    | rt x => exact Fin.here (R := fun fl S' m' H' => EndF X.K W D fl S' m' H') t5 k5
    | ex c p x => exact Fin.here (R := fun fl S' m' H' => EndF X.K W D fl S' m' H') t5 k5
  · have e : i = xs.length := by omega
    subst e
    rw [List.drop_length] at t2
    exact .inl ⟨y2 (Nat.le_refl _), Fin.here (R := fun fl S' m' H' => EndF X.K W D fl S' m' H') t2 s2.sto σ2 s2⟩
end
end Ev

end
section
namespace Ev
open PySem PySem.Spec PyProof.Rows L2

/-! ### walked: lists, tuples, texts, ranges, zip -/
def toItems (x : Vl) (S : Sto) : Out (List Vl) := match x with
  | .d (.list xs) => .ok (xs.map .d) S
  | .d (.tuple xs) => .ok (xs.map .d) S
  | .d (.str z) => .ok (z.cps.toList.map fun c => .d (.str ⟨#[c]⟩)) S
  | .z xs => .ok (xs.map .d) S
  | _ => .stuck
def iVl (f : EF) : Env → Sto → Out (List Vl) := fun ρ S => (f ρ S).bind toItems
section
variable {K : Frag} {H : Hp} {S : Sto} {m : Mp}
theorem yl_list {a : Addr} {ds : List PyData} {vs : List V} (k : Sok K H S m) (h : H a = some (.lst vs)) (hn : ¬ hid S m a) (l : RpL K H (hid S m) ds vs) : Yl K (Itl K a) (ds.map .d) S m H := by
  intro S' m' H' e k' i
  obtain ⟨h', _⟩ := e.kp a _ h hn
  have l' := RpL.ext e.kp e.kpT ds l
  refine ⟨fun x hx => ?_, fun hi => ⟨vs, SqL.of h', by rw [← l.length]; simpa using hi⟩⟩
  rw [List.getElem?_map] at hx
  cases q : ds[i]? with
  | none => rw [q] at hx; cases hx
  | some d =>
    rw [q] at hx
    cases hx
    obtain ⟨v, hv, rv⟩ := l'.get q
    refine ⟨⟨vs, v, SqL.of h', hv⟩, fun y H2 ⟨e2, hy⟩ => ?_⟩
    subst e2
    have := hy vs (SqL.of h')
    rw [hv] at this
    cases this
    exact ⟨.refl, k', rv⟩
theorem yl_frz {a : Addr} {ds : List PyData} {vs : List V} (k : Sok K H S m) (h : SzL K H a vs) (l : RpL K H (hid S m) ds vs) : Yl K (Itl K a) (ds.map .d) S m H := by
  intro S' m' H' e k' i
  have q' : SqL K H' a vs := (h.keep fun o h => e.frz a _ _ h).sql
  have l' := RpL.ext e.kp e.kpT ds l
  refine ⟨fun x hx => ?_, fun hi => ⟨vs, q', by rw [← l.length]; simpa using hi⟩⟩
  rw [List.getElem?_map] at hx
  cases q : ds[i]? with
  | none => rw [q] at hx; cases hx
  | some d =>
    rw [q] at hx
    cases hx
    obtain ⟨v, hv, rv⟩ := l'.get q
    refine ⟨⟨vs, v, q', hv⟩, fun y H2 ⟨e2, hy⟩ => ?_⟩
    subst e2
    have := hy vs q'
    rw [hv] at this
    cases this
    exact ⟨.refl, k', rv⟩
theorem yl_tup {a : Addr} {ds : List PyData} {vs : List V} (k : Sok K H S m) (h : SqT K H a vs) (l : RpL K H (hid S m) ds vs) : Yl K (Itt K a) (ds.map .d) S m H := by
  intro S' m' H' e k' i
  have h' := e.kpT _ _ h
  have l' := RpL.ext e.kp e.kpT ds l
  refine ⟨fun x hx => ?_, fun hi => ⟨vs, h', by rw [← l.length]; simpa using hi⟩⟩
  rw [List.getElem?_map] at hx
  cases q : ds[i]? with
  | none => rw [q] at hx; cases hx
  | some d =>
    rw [q] at hx
    cases hx
    obtain ⟨v, hv, rv⟩ := l'.get q
    refine ⟨⟨vs, v, h', hv⟩, fun y H2 ⟨e2, hy⟩ => ?_⟩
    subst e2
    have := hy vs h'
    rw [hv] at this
    cases this
    exact ⟨.refl, k', rv⟩
theorem yl_str {z : Str} (k : Sok K H S m) : Yl K (Its z) (z.cps.toList.map fun c => .d (.str ⟨#[c]⟩)) S m H := by
  intro S' m' H' e k' i
  refine ⟨fun x hx => ?_, fun hi => (show z.cps.size ≤ i by simpa using hi)⟩
  rw [List.getElem?_map] at hx
  cases q : z.cps.toList[i]? with
  | none => rw [q] at hx; cases hx
  | some c =>
    rw [q] at hx
    cases hx
    rw [Array.getElem?_toList] at q
    refine ⟨(Array.getElem?_eq_some_iff.mp q).1, fun y H2 ⟨e2, c', hc, hy⟩ => ?_⟩
    subst e2
    rw [q] at hc
    cases hc
    subst hy
    exact ⟨.refl, k', .str _⟩
theorem yl_rng {lo : Int} {n : Nat} (k : Sok K H S m) : Yl K (Itr lo n) ((List.range n).map fun i => .d (.int (lo + (i : Nat)))) S m H := by
  intro S' m' H' e k' i
  refine ⟨fun x hx => ?_, fun hi => (show n ≤ i by simpa using hi)⟩
  rw [List.getElem?_map] at hx
  cases q : (List.range n)[i]? with
  | none => rw [q] at hx; cases hx
  | some j =>
    rw [q] at hx
    cases hx
    obtain ⟨hi, ej⟩ := List.getElem?_eq_some_iff.mp q
    rw [List.getElem_range] at ej
    subst ej
    refine ⟨(show i < n by simpa using hi), fun y H2 ⟨e2, hy⟩ => ?_⟩
    subst e2
    subst hy
    exact ⟨.refl, k', .int _⟩
theorem yl_rngC {lo c : Int} {n : Nat} (k : Sok K H S m) : Yl K (Itc lo c n) ((List.range n).map fun i => .d (.int (lo + (i : Nat) * c))) S m H := by
  intro S' m' H' e k' i
  refine ⟨fun x hx => ?_, fun hi => (show n ≤ i by simpa using hi)⟩
  rw [List.getElem?_map] at hx
  cases q : (List.range n)[i]? with
  | none => rw [q] at hx; cases hx
  | some j =>
    rw [q] at hx
    cases hx
    obtain ⟨hi, ej⟩ := List.getElem?_eq_some_iff.mp q
    rw [List.getElem_range] at ej
    subst ej
    refine ⟨(show i < n by simpa using hi), fun y H2 ⟨e2, hy⟩ => ?_⟩
    subst e2
    subst hy
    exact ⟨.refl, k', .int _⟩
end
section
variable {X : Cx} {W : WX} {tg : Expr} {pos p : Pos}
/-- a value that is a list or the script -/
def toL (x : Vl) (S : Sto) : Out (List Vl) := match x with
  | .d (.list xs) => .ok (xs.map .d) S
  | .z xs => .ok (xs.map .d) S
  | _ => .stuck
def toTp (x : Vl) (S : Sto) : Out (List Vl) := match x with
  | .d (.tuple xs) => .ok (xs.map .d) S
  | _ => .stuck
def toSt (x : Vl) (S : Sto) : Out (List Vl) := match x with
  | .d (.str z) => .ok (z.cps.toList.map fun c => .d (.str ⟨#[c]⟩)) S
  | _ => .stuck
def iBy (h : Vl → Sto → Out (List Vl)) (f : EF) : Env → Sto → Out (List Vl) := fun ρ S => (f ρ S).bind h
theorem ri_list {e : Expr} {f : EF} (he : RE X W e f) : RI X W tg e (iBy toL f) := by
  refine PIof (pi_list he) fun σ H R ⟨ρ, S, m, s, t⟩ => ?_
  refine ⟨ρ, S, m, s, Fin.mono (Fin.bind t) (fun x S1 m1 H1 e1 k1 t1 v rv => ?_) fun _ _ _ z => z⟩
  unfold toL at t1
  split at t1
  · have r' : Rp X.K H1 (hid S1 m1) _ v := rv
    cases r' with
    | lst h1 h2 h3 => exact ⟨_, rfl, ⟨_, SqL.of h1⟩, Fin.here (R := fun xs S' m' H' => ∀ J, Yl X.K J xs S' m' H' → R J H') t1 k1 _ (yl_list k1 h1 h2 h3)⟩
  · obtain ⟨a, vs, rfl, h1, l1⟩ := rv
    exact ⟨_, rfl, ⟨_, h1.sql⟩, Fin.here (R := fun xs S' m' H' => ∀ J, Yl X.K J xs S' m' H' → R J H') t1 k1 _ (yl_frz k1 h1 l1)⟩
  · exact t1.elim
theorem ri_tup {e : Expr} {f : EF} (he : RE X W e f) : RI X W tg e (iBy toTp f) := by
  refine PIof (pi_tup he) fun σ H R ⟨ρ, S, m, s, t⟩ => ?_
  refine ⟨ρ, S, m, s, Fin.mono (Fin.bind t) (fun x S1 m1 H1 e1 k1 t1 v rv => ?_) fun _ _ _ z => z⟩
  unfold toTp at t1
  split at t1
  · have r' : Rp X.K H1 (hid S1 m1) _ v := rv
    cases r' with
    | tup h1 h3 => exact ⟨_, rfl, ⟨_, h1⟩, Fin.here (R := fun xs S' m' H' => ∀ J, Yl X.K J xs S' m' H' → R J H') t1 k1 _ (yl_tup k1 h1 h3)⟩
  · exact t1.elim
theorem ri_str {e : Expr} {f : EF} (he : RE X W e f) : RI X W tg e (iBy toSt f) := by
  refine PIof (pi_str he) fun σ H R ⟨ρ, S, m, s, t⟩ => ?_
  refine ⟨ρ, S, m, s, Fin.mono (Fin.bind t) (fun x S1 m1 H1 e1 k1 t1 v rv => ?_) fun _ _ _ z => z⟩
  unfold toSt at t1
  split at t1
  · cases rv
    exact ⟨_, rfl, Fin.here (R := fun xs S' m' H' => ∀ J, Yl X.K J xs S' m' H' → R J H') t1 k1 _ (yl_str k1)⟩
  · exact t1.elim
/-- any of these: by the kinds of values -/
theorem pi_any {e : Expr} {t1 t2 t3 : TI} (h1 : PI X tg e t1) (h2 : PI X tg e t2) (h3 : PI X tg e t3) : PI X tg e fun σ H R => t1 σ H R ∨ t2 σ H R ∨ t3 σ H R :=
  ⟨fun pins s σ H R I q => q.elim (h1.run pins s σ H R I) fun q => q.elim (h2.run pins s σ H R I) (h3.run pins s σ H R I)⟩
theorem ri_val {e : Expr} {f : EF} (he : RE X W e f) : RI X W tg e (iBy toItems f) := by
  refine PIof (pi_any (ri_list he) (ri_tup he) (ri_str he)) fun σ H R ⟨ρ, S, m, s, t⟩ => ?_
  have key : ∀ (h : Vl → Sto → Out (List Vl)), (∀ x S', f ρ S = .ok x S' → h x S' = toItems x S') → tI X.K W (iBy h f) σ H R := fun h e => by
    refine ⟨ρ, S, m, s, ?_⟩
    have : iBy h f ρ S = iBy toItems f ρ S := by
      unfold iBy
      cases q : f ρ S with
      | ok x S' => exact e x S' q
      | exc c p S' => rfl
      | stuck => rfl
    rw [this]
    exact t
  cases q : f ρ S with
  | stuck => exact .inl (key _ fun x S' e => by rw [q] at e; cases e)
  | exc c p S' => exact .inl (key _ fun x S' e => by rw [q] at e; cases e)
  | ok x S' =>
    cases x with
    | z xs => exact .inl (key _ fun x S' e => by rw [q] at e; cases e; rfl)
    | r n => exact .inl (key _ fun x S' e => by rw [q] at e; cases e; rfl)
    | x _ _ _ _ => exact .inl (key _ fun x S' e => by rw [q] at e; cases e; rfl)
    | d d =>
      cases d with
      | list xs => exact .inl (key _ fun x S' e => by rw [q] at e; cases e; rfl)
      | tuple xs => exact .inr (.inl (key _ fun x S' e => by rw [q] at e; cases e; rfl))
      | str xs => exact .inr (.inr (key _ fun x S' e => by rw [q] at e; cases e; rfl))
      | none => exact .inl (key _ fun x S' e => by rw [q] at e; cases e; rfl)
      | bool _ => exact .inl (key _ fun x S' e => by rw [q] at e; cases e; rfl)
      | int _ => exact .inl (key _ fun x S' e => by rw [q] at e; cases e; rfl)
      | dict _ => exact .inl (key _ fun x S' e => by rw [q] at e; cases e; rfl)
/-! ranges -/
def rngL (lo hi : Int) : List Vl := (List.range (hi - lo).toNat).map fun i => .d (.int (lo + (i : Nat)))
def fit62 (i : Int) : Bool := decide (-(2 ^ 62) ≤ i ∧ i < 2 ^ 62)
def toRng1 (xs : List Vl) (S : Sto) : Out (List Vl) := match xs with
  | [.d (.int j)] => if fit62 j then .ok (rngL 0 j) S else .stuck
  | _ => .stuck
def toRng2 (xs : List Vl) (S : Sto) : Out (List Vl) := match xs with
  | [.d (.int i), .d (.int j)] => if fit62 i && fit62 j then .ok (rngL i j) S else .stuck
  | _ => .stuck
def rngC (i j c : Int) : List Vl := (List.range (Builtin.Range.rangeSize i j c).toNat).map fun q => .d (.int (i + (q : Nat) * c))
def toRng3 (xs : List Vl) (S : Sto) : Out (List Vl) := match xs with
  | [.d (.int i), .d (.int j), .d (.int c)] => if c ≠ 0 ∧ c.natAbs < 1073741824 ∧ Builtin.Range.small i j c = true ∧ 0 ≤ Builtin.Range.rangeSize i j c then .ok (rngC i j c) S else .stuck
  | _ => .stuck
def iBys (h : List Vl → Sto → Out (List Vl)) (fs : Env → Sto → Out (List Vl)) : Env → Sto → Out (List Vl) := fun ρ S => (fs ρ S).bind h
theorem ri_rng1 {a : Expr} {fs : Env → Sto → Out (List Vl)} (hg : Gl X "range") (hm : X.mg "range" = none) (ha : RA X W [a] fs) (hs : starEach [a] X.env = [(false, eval a X.env)] := by rfl) : RI X W tg (.Call (.Name "range" p) [a] [] pos) (iBys toRng1 fs) := by
  refine PIof (pi_range1 hg hm ha hs) fun σ H R ⟨ρ, S, m, s, t⟩ => ?_
  refine ⟨ρ, S, m, s, Fin.mono (Fin.bind t) (fun xs S1 m1 H1 e1 k1 t1 vs rvs => ?_) fun _ _ _ z => z⟩
  unfold toRng1 at t1
  split at t1
  · rename_i j
    split at t1
    · rename_i hf
      have hf' : -(2 ^ 62) ≤ j ∧ j < 2 ^ 62 := of_decide_eq_true hf
      cases rvs with
      | cons r1 rr =>
        cases rr
        cases r1
        refine ⟨j, rfl, hf'.1, hf'.2, ?_⟩
        have q := Fin.here (R := fun xs S' m' H' => ∀ J, Yl X.K J xs S' m' H' → R J H') t1 k1 (Itr 0 (j - 0).toNat) (yl_rng k1)
        rw [Int.sub_zero] at q
        exact q
    · exact t1.elim
  · exact t1.elim
theorem ri_rng2 {a b : Expr} {fs : Env → Sto → Out (List Vl)} (hg : Gl X "range") (hm : X.mg "range" = none) (ha : RA X W [a, b] fs) (hs : starEach [a, b] X.env = [(false, eval a X.env), (false, eval b X.env)] := by rfl) (hs2 : starEach [b] X.env = [(false, eval b X.env)] := by rfl) :
    RI X W tg (.Call (.Name "range" p) [a, b] [] pos) (iBys toRng2 fs) := by
  refine PIof (pi_range2 hg hm ha hs hs2) fun σ H R ⟨ρ, S, m, s, t⟩ => ?_
  refine ⟨ρ, S, m, s, Fin.mono (Fin.bind t) (fun xs S1 m1 H1 e1 k1 t1 vs rvs => ?_) fun _ _ _ z => z⟩
  unfold toRng2 at t1
  split at t1
  · rename_i i j
    split at t1
    · rename_i hf
      rw [Bool.and_eq_true] at hf
      have h1 : -(2 ^ 62) ≤ i ∧ i < 2 ^ 62 := of_decide_eq_true hf.1
      have h2 : -(2 ^ 62) ≤ j ∧ j < 2 ^ 62 := of_decide_eq_true hf.2
      cases rvs with
      | cons r1 rr =>
        cases rr with
        | cons r2 rr =>
          cases rr
          cases r1
          cases r2
          exact ⟨i, j, rfl, ⟨h1.1, h1.2, h2.1, h2.2⟩, Fin.here (R := fun xs S' m' H' => ∀ J, Yl X.K J xs S' m' H' → R J H') t1 k1 _ (yl_rng k1)⟩
    · exact t1.elim
  · exact t1.elim
theorem ri_rng3 {a b c : Expr} {fs : Env → Sto → Out (List Vl)} (hg : Gl X "range") (hm : X.mg "range" = none) (ha : RA X W [a, b, c] fs)
    (hs : starEach [a, b, c] X.env = (false, eval a X.env) :: starEach [b, c] X.env := by rfl) (hpl : (backTo pos (starEach [b, c] X.env)).any (·.1) = false := by rfl) :
    RI X W tg (.Call (.Name "range" p) [a, b, c] [] pos) (iBys toRng3 fs) := by
  refine PIof (pi_range3 hg hm ha hs hpl) fun σ H R ⟨ρ, S, m, s, t⟩ => ?_
  refine ⟨ρ, S, m, s, Fin.mono (Fin.bind t) (fun xs S1 m1 H1 e1 k1 t1 vs rvs => ?_) fun _ _ _ z => z⟩
  unfold toRng3 at t1
  split at t1
  · rename_i i j c
    split at t1
    · rename_i hf
      cases rvs with
      | cons r1 rr =>
        cases rr with
        | cons r2 rr =>
          cases rr with
          | cons r3 rr =>
            cases rr
            cases r1
            cases r2
            cases r3
            exact ⟨i, j, c, _, rfl, ⟨hf.1, hf.2.1, hf.2.2.1, (Int.toNat_of_nonneg hf.2.2.2).symm⟩, Fin.here (R := fun xs S' m' H' => ∀ J, Yl X.K J xs S' m' H' → R J H') t1 k1 _ (yl_rngC k1)⟩
    · exact t1.elim
  · exact t1.elim
end
end Ev

end
section
namespace Ev
open PySem PySem.Spec PyProof.Rows L2

/-! ### comprehensions -/
/-- a comprehension's target: a name; some names of a tuple -/
inductive CT where
  | nm (i : Nat)
  | tp (is : List Nat)
def wipeE (ρ : Env) : List Nat → Env
  | [] => ρ
  | v :: vs => (wipeE ρ vs).set v none
def bindAll : List Nat → List PyData → Env → Env
  | i :: is, d :: ds, ρ => bindAll is ds (ρ.set i (some (.d d)))
  | _, _, ρ => ρ
def CT.bind (t : CT) (x : Vl) (ρ : Env) : Option Env := match t with
  | .nm i => if i < ρ.length then some (ρ.set i (some x)) else none
  | .tp is => match x with
    | .d (.tuple ds) => if ds.length = is.length ∧ is.all (fun i => decide (i < ρ.length)) = true then some (bindAll is ds ρ) else none
    | _ => none
def CT.slots : CT → List Nat
  | .nm i => [i]
  | .tp is => is
def Out.calm {α : Type} (o : Out α) : Out α := match o with
  | .exc _ _ _ => .stuck
  | o => o
def compL (vs : List Nat) (t : CT) (p : BF) (f : EF) : List Vl → Env → Sto → Out (List PyData)
  | [], _, S => .ok [] S
  | x :: xs, ρ, S => match t.bind x (wipeE ρ vs) with
    | none => .stuck
    | some ρ1 => (p ρ1 S).calm.bind fun b S1 => if b = true then (f ρ1 S1).calm.bind fun y S2 => (match y with
        | .d d => (compL vs t p f xs ρ S2).bind fun r S3 => .ok (d :: r) S3
        | _ => .stuck) else compL vs t p f xs ρ S1
def eComp (vs : List Nat) (fi : Env → Sto → Out (List Vl)) (t : CT) (p : BF) (f : EF) : EF := fun ρ S => (fi ρ S).bind fun xs S1 => if xs.length ≤ sizeLine then (compL vs t p f xs ρ S1).bind fun ds S2 => .ok (.d (.list ds)) S2 else .stuck
def pYes : BF := fun _ S => .ok true S
/-- the target's reading -/
def gNms : List Nat → TGs
  | [] => gNil
  | i :: is => gCons (gName i) (gNms is)
def CT.g (K : Frag) : CT → TG
  | .nm i => gName i
  | .tp is => gTup K is.length (gNms is)

theorem wipe_set {σ : L2.St} {x : Option V} : ∀ {vs : List Nat} {i : Nat}, i ∈ vs → wipe (σ.set i x) vs = wipe σ vs
  | v :: vs, i, h => by
    show (wipe (σ.set i x) vs).set v none = (wipe σ vs).set v none
    by_cases hi : i ∈ vs
    · rw [wipe_set hi]
    · have e : i = v := by
        rcases List.mem_cons.mp h with e | e
        · exact e
        · exact absurd e hi
      subst e
      have : ∀ (ws : List Nat), (wipe (σ.set i x) ws).set i none = (wipe σ ws).set i none := by
        intro ws
        induction ws with
        | nil => show (σ.set i x).set i none = σ.set i none; rw [List.set_set]
        | cons w ws ih =>
          show ((wipe (σ.set i x) ws).set w none).set i none = ((wipe σ ws).set w none).set i none
          by_cases hw : w = i
          · subst hw; rw [List.set_set, List.set_set]; exact ih
          · rw [List.set_comm _ _ hw, List.set_comm _ _ hw, ih]
      exact this vs
theorem wipe_idem (σ : L2.St) (vs : List Nat) : wipe (wipe σ vs) vs = wipe σ vs := by
  have : ∀ ws : List Nat, (∀ w ∈ ws, w ∈ vs) → wipe (wipe σ ws) vs = wipe σ vs := by
    intro ws
    induction ws with
    | nil => intro _; rfl
    | cons w ws ih =>
      intro h
      show wipe ((wipe σ ws).set w none) vs = wipe σ vs
      rw [wipe_set (h w List.mem_cons_self)]
      exact ih fun z hz => h z (List.mem_cons_of_mem _ hz)
  exact this vs fun _ h => h
section
variable {K : Frag} {H : Hp} {S : Sto} {m : Mp} {ρ : Env} {σ : L2.St}
theorem wipeE_len (ρ : Env) : ∀ vs : List Nat, (wipeE ρ vs).length = ρ.length
  | [] => rfl
  | v :: vs => by show ((wipeE ρ vs).set v none).length = _; rw [List.length_set, wipeE_len ρ vs]
theorem StR.setNone (s : StR K ρ S m σ H) (i : Nat) : StR K (ρ.set i none) S m (σ.set i none) H := by
  refine ⟨by rw [List.length_set, List.length_set]; exact s.len, fun j y h => ?_, s.sto⟩
  by_cases e : i = j
  · subst e
    have hi : i < ρ.length := by
      have := (List.getElem?_eq_some_iff.mp h).1
      rwa [List.length_set] at this
    rw [List.getElem?_set_self hi] at h
    cases h
  · rw [List.getElem?_set_ne e] at h
    rw [List.getElem?_set_ne e]
    exact s.loc j y h
theorem StR.wipe (s : StR K ρ S m σ H) : ∀ vs : List Nat, StR K (wipeE ρ vs) S m (L2.wipe σ vs) H
  | [] => s
  | v :: vs => (StR.wipe s vs).setNone v
theorem bindAll_g {Q : L2.St → Hp → Prop} : ∀ {is : List Nat} {ds : List PyData} {vs : List V} {ρ : Env} {σ : L2.St}, ds.length = is.length → StR K ρ S m σ H → RpL K H (hid S m) ds vs →
    (∀ σ2, StR K (bindAll is ds ρ) S m σ2 H → (∀ ws : List Nat, (∀ i ∈ is, i ∈ ws) → L2.wipe σ2 ws = L2.wipe σ ws) → Q σ2 H) → gNms is vs σ H Q
  | [], [], _, _, _, _, s, r, q => by
    cases r
    exact ⟨rfl, q _ s fun _ _ => rfl⟩
  | i :: is, d :: ds, _, ρ, σ, hl, s, r, q => by
    cases r with
    | cons r1 r2 =>
      refine ⟨_, _, rfl, ?_⟩
      refine bindAll_g (is := is) (ds := ds) (by simpa using hl) (s.set (x := .d d) r1 i) r2 fun σ2 s2 hw => q σ2 s2 fun ws h => ?_
      rw [hw ws fun j hj => h j (List.mem_cons_of_mem _ hj), wipe_set (h i List.mem_cons_self)]
theorem CT.bind_g {t : CT} {x : Vl} {v : V} {ρ1 : Env} {Q : L2.St → Hp → Prop} (e : t.bind x ρ = some ρ1) (s : StR K ρ S m σ H) (r : RpV K H S m x v)
    (q : ∀ σ2, StR K ρ1 S m σ2 H → (∀ ws : List Nat, (∀ i ∈ t.slots, i ∈ ws) → L2.wipe σ2 ws = L2.wipe σ ws) → Q σ2 H) : t.g K v σ H Q := by
  cases t with
  | nm i =>
    unfold CT.bind at e
    dsimp only at e
    split at e
    · cases e
      exact q _ (s.set r i) fun ws h => wipe_set (h i (by simp [CT.slots]))
    · cases e
  | tp is =>
    unfold CT.bind at e
    dsimp only at e
    split at e
    · split at e
      · rename_i ds hl
        cases e
        obtain ⟨a, vs, rfl, h1, l1⟩ := asTup_rp r rfl
        exact ⟨a, vs, rfl, h1, by rw [← l1.length]; exact hl.1, bindAll_g hl.1 s l1 q⟩
      · cases e
    · cases e

/-! ### one more list that nothing refers to -/
def zz (m : Mp) (D : Addr) : Mp := ⟨m.f, fun a => m.z a ∨ a = D⟩
theorem Rp.mono {M M' : Addr → Prop} (k : ∀ a, M' a → M a) {d : PyData} {v : V} (r : Rp K H M d v) : Rp K H M' d v := Rp.ext (fun a o h n => ⟨h, fun z => n (k a z)⟩) (fun _ _ h => h) d r
theorem RpL.mono {M M' : Addr → Prop} (k : ∀ a, M' a → M a) {d : List PyData} {v : List V} (r : RpL K H M d v) : RpL K H M' d v := RpL.ext (fun a o h n => ⟨h, fun z => n (k a z)⟩) (fun _ _ h => h) d r
theorem hid_zz {D : Addr} (a : Addr) (h : hid S m a) : hid S (zz m D) a := h.elim .inl fun z => .inr (.inl z)
theorem RpV.unzz {D : Addr} {x : Vl} {v : V} (r : RpV K H S (zz m D) x v) : RpV K H S m x v := by
  cases x with
  | d d => exact Rp.mono hid_zz r
  | z xs => obtain ⟨a, vs, e, h, l⟩ := r; exact ⟨a, vs, e, h, l.mono hid_zz⟩
  | r n => exact r
  | x a dd f p => obtain ⟨e, u, h, l⟩ := r; exact ⟨e, u, h, l.mono hid_zz⟩
theorem Sok.unzz {D : Addr} (k : Sok K H S (zz m D)) : Sok K H S m :=
  ⟨fun n o h => (k.at_ n o h).ext (fun a o h n => ⟨h, fun z => n (hid_zz a z)⟩) (fun _ _ h => h) fun _ h => h, k.inj, fun a z => k.zs a (.inl z)⟩
theorem StR.unzz {D : Addr} (s : StR K ρ S (zz m D) σ H) : StR K ρ S m σ H :=
  ⟨s.len, fun i x h => let ⟨v, e, r⟩ := s.loc i x h; ⟨v, e, r.unzz⟩, s.sto.unzz⟩
/-- the new list at D -/
theorem kp_new {D : Addr} {o : HO} (hD : H D = none) : Kp H (hid S m) (upd H D o) (hid S (zz m D)) := fun a u h n => by
  have ne : a ≠ D := ne_of_none h hD
  refine ⟨by rw [upd_ne ne]; exact h, fun z => ?_⟩
  rcases z with z | z | z
  · exact n (.inl z)
  · exact n (.inr z)
  · exact ne z
theorem kpT_new {D : Addr} {o : HO} (hD : H D = none) : KpT K H (upd H D o) := fun a vs h => by
  rcases h with (h | ⟨u, h⟩) | h
  · exact .inl (.inl (by rw [upd_ne (ne_of_none h hD)]; exact h))
  · exact .inl (.inr ⟨u, by rw [upd_ne (ne_of_none h hD)]; exact h⟩)
  · exact .inr h
theorem RpV.new_zz {D : Addr} {o : HO} (hD : H D = none) {x : Vl} {v : V} (r : RpV K H S m x v) : RpV K (upd H D o) S (zz m D) x v := by
  cases x with
  | d d => exact Rp.ext (kp_new hD) (kpT_new hD) d r
  | z xs =>
    obtain ⟨a, vs, e, h, l⟩ := r
    exact ⟨a, vs, e, h.keep fun o h => by rw [upd_ne (ne_of_none h hD)]; exact h, RpL.ext (kp_new hD) (kpT_new hD) xs l⟩
  | r n => exact r
  | x a dd f p =>
    obtain ⟨e, u, h, l⟩ := r
    exact ⟨e, u, by rw [upd_ne (ne_of_none h hD)]; exact h, Rp.ext (kp_new hD) (kpT_new hD) p l⟩
theorem Sok.new_zz {D : Addr} {o : HO} (k : Sok K H S m) (hD : H D = none) : Sok K (upd H D o) S (zz m D) :=
  ⟨fun n u h => (k.at_ n u h).ext (kp_new hD) (kpT_new hD) fun w e => (show upd H D o (m.f n) = some w by rw [upd_ne (ne_of_none e hD)]; exact e), k.inj, fun a z => by
    rcases z with z | z
    · obtain ⟨⟨u, e⟩, n⟩ := k.zs a z
      exact ⟨⟨u, by rw [upd_ne (ne_of_none e hD)]; exact e⟩, n⟩
    · subst z
      exact ⟨⟨o, upd_same⟩, fun l => live.at_none k hD l⟩⟩
theorem StR.new_zz {D : Addr} {o : HO} (s : StR K ρ S m σ H) (hD : H D = none) : StR K ρ S (zz m D) σ (upd H D o) :=
  ⟨s.len, fun i x h => let ⟨v, e, r⟩ := s.loc i x h; ⟨v, e, r.new_zz hD⟩, s.sto.new_zz hD⟩
/-- the list at D is written -/
theorem kp_set {D : Addr} {o : HO} : Kp H (hid S (zz m D)) (upd H D o) (hid S (zz m D)) := fun a u h n => by
  have ne : a ≠ D := fun z => n (.inr (.inr z))
  exact ⟨by rw [upd_ne ne]; exact h, n⟩
theorem kpT_set {D : Addr} {o : HO} {xs : List V} (hD : H D = some (.lst xs)) : KpT K H (upd H D o) := fun a vs h => by
  rcases h with (h | ⟨u, h⟩) | h
  · exact .inl (.inl (by rw [upd_ne (ne_of h hD (by intro z; cases z))]; exact h))
  · exact .inl (.inr ⟨u, by rw [upd_ne (ne_of h hD (by intro z; cases z))]; exact h⟩)
  · exact .inr h
theorem RpV.set_zz {D : Addr} {o : HO} {xs : List V} (hD : H D = some (.lst xs)) {x : Vl} {v : V} (r : RpV K H S (zz m D) x v) : RpV K (upd H D o) S (zz m D) x v := by
  cases x with
  | d d => exact Rp.ext kp_set (kpT_set hD) d r
  | z xs =>
    obtain ⟨a, vs, e, h, l⟩ := r
    exact ⟨a, vs, e, h.keep fun o h => by rw [upd_ne (ne_of h hD (by intro z; cases z))]; exact h, RpL.ext kp_set (kpT_set hD) xs l⟩
  | r n => exact r
  | x a dd f p =>
    obtain ⟨e, u, h, l⟩ := r
    exact ⟨e, u, by rw [upd_ne (ne_of h hD (by intro z; cases z))]; exact h, Rp.ext kp_set (kpT_set hD) p l⟩
theorem Sok.set_zz {D : Addr} {o : HO} {xs : List V} (k : Sok K H S (zz m D)) (hD : H D = some (.lst xs)) : Sok K (upd H D o) S (zz m D) := by
  have nl : ¬ live S m D := (k.zs D (.inr rfl)).2
  refine ⟨fun n u h => (k.at_ n u h).ext kp_set (kpT_set hD) fun w e => ?_, k.inj, fun a z => ?_⟩
  · have ne : m.f n ≠ D := fun z => nl ⟨n, u, h, z⟩
    show upd H D o (m.f n) = _
    rw [upd_ne ne]; exact e
  · obtain ⟨⟨u, e⟩, n⟩ := k.zs a z
    by_cases q : a = D
    · subst q; exact ⟨⟨o, upd_same⟩, n⟩
    · exact ⟨⟨u, by rw [upd_ne q]; exact e⟩, n⟩
theorem StR.set_zz {D : Addr} {o : HO} {xs : List V} (s : StR K ρ S (zz m D) σ H) (hD : H D = some (.lst xs)) : StR K ρ S (zz m D) σ (upd H D o) :=
  ⟨s.len, fun i x h => let ⟨v, e, r⟩ := s.loc i x h; ⟨v, e, r.set_zz hD⟩, s.sto.set_zz hD⟩
/-- behind a step the same D -/
theorem Xt.ofzz {D : Addr} {H' : Hp} {S' : Sto} {m' : Mp} (x : Xt H S (zz m D) H' S' m') : m' = zz ⟨m'.f, m.z⟩ D ∧ Xt H S m H' S' ⟨m'.f, m.z⟩ := by
  refine ⟨?_, ⟨x.len, x.mp, rfl, x.keep⟩⟩
  cases m' with
  | mk f z =>
    have e : z = (zz m D).z := x.z
    subst e
    rfl
end

/-! ### [e for target in iter if test] -/
section
variable {X : Cx} {W : WX} {elt tg iter : Expr} {ifs : List Expr} {scope : Scope} {own : List (Str × Nat)} {pos : Pos} {fi : Env → Sto → Out (List Vl)} {t : CT} {p : BF} {f : EF}
abbrev WF : WX := fun _ _ _ _ => False
abbrev RTs (X : Cx) (W : WX) (ifs : List Expr) (f : BF) : Prop := PTs X ifs (tT X.K W f)
theorem rts_nil : RTs X W [] pYes := ⟨fun pins s σ H Q I h => pts_nil.run pins s σ H Q I (by
  obtain ⟨ρ, S, m, s, t⟩ := h
  exact Fin.here (S := S) t s.sto)⟩
theorem rts_one {c : Expr} (h : RT X W c p) : RTs X W [c] p := pts_one h
theorem Fin.later {α : Type} {K : Frag} {o : Out α} {S S1 : Sto} {m m1 : Mp} {H H1 : Hp} {R : α → Sto → Mp → Hp → Prop} {E : WE} (e : Xt H S m H1 S1 m1) (h : Fin K o S m H R E) : Fin K o S1 m1 H1 R E := by
  cases o with
  | ok y S2 => exact fun m2 H2 e2 k2 => h m2 H2 (e.trans e2) k2
  | exc c p S2 => exact fun m2 H2 dd v e2 k2 hd r => h m2 H2 dd v (e.trans e2) k2 hd r
  | stuck => exact h
theorem Fin.calm {α : Type} {K : Frag} {o : Out α} {S : Sto} {m : Mp} {H : Hp} {R : α → Sto → Mp → Hp → Prop} {E E' : WE} (h : Fin K o.calm S m H R E) : Fin K o S m H R E' := by
  cases o with
  | ok x S' => exact h
  | exc c p S' => exact h.elim
  | stuck => exact h
theorem Fin.bind0 {α β : Type} {K : Frag} {o : Out α} {k : α → Sto → Out β} {S : Sto} {m : Mp} {H : Hp} {R : β → Sto → Mp → Hp → Prop} {E : WE} (h : Fin K (o.bind k) S m H R E) : Fin K o S m H (fun x S1 _ _ => Fin K (k x S1) S m H R E) E := by
  cases o with
  | ok x S' => exact fun _ _ _ _ => h
  | exc c p S' => exact h
  | stuck => exact h
theorem Fin.zz {α : Type} {K : Frag} {o : Out α} {S0 S : Sto} {m0 m : Mp} {H0 H : Hp} {D : Addr} {R R' : α → Sto → Mp → Hp → Prop} {E E' : WE} (h : Fin K o.calm S0 m0 H0 R E) (x : Xt H0 S0 m0 H S m)
    (q : ∀ y S' mm H', Xt H S (zz m D) H' S' (zz mm D) → Xt H0 S0 m0 H' S' mm → Sok K H' S' (Ev.zz mm D) → R y S' mm H' → R' y S' (Ev.zz mm D) H') : Fin K o S (Ev.zz m D) H R' E' := by
  cases o with
  | ok y S' =>
    intro m' H' e k
    obtain ⟨em, x1⟩ := e.ofzz
    rw [em] at e k ⊢
    exact q y S' _ H' e (x.trans x1) k (h _ H' (x.trans x1) k.unzz)
  | exc c p S' => exact h.elim
  | stuck => exact h
theorem Xw.step {K : Frag} {H H1 H2 : Hp} {S S1 S2 : Sto} {m m1 m2 : Mp} (w : Xw K H S m H1 S1 m1) (e : Xt H1 S1 m1 H2 S2 m2) (k : Sok K H1 S1 m1) : Xw K H S m H2 S2 m2 := by
  have v := e.w k
  exact ⟨Nat.le_trans w.len v.len, fun n h => (v.mp n (Nat.lt_of_lt_of_le h w.len)).trans (w.mp n h), fun a o h n => by
    obtain ⟨q1, q2⟩ := w.kp a o h n
    exact v.kp a o q1 q2, fun a vs h => v.kpT a vs (w.kpT a vs h), fun a o u h => v.frz a o u (w.frz a o u h)⟩
/-- the state of a list that is being made at D, seen from the start -/
structure Lcs (K : Frag) (H1 : Hp) (S1 : Sto) (m1 : Mp) (D : Addr) (ρ : Env) (σ : L2.St) (acc : List PyData) (av : List V) (S : Sto) (m : Mp) (H : Hp) : Prop where
  xt : Xt H1 S1 m1 H S m
  st : StR K ρ S (zz m D) σ H
  at_ : H D = some (.lst av)
  rp : RpL K H (hid S (zz m D)) acc av
  xw : Xw K H1 S1 m1 H S (zz m D)
section
variable {K : Frag} {H1 H H' : Hp} {S1 S S' : Sto} {m1 m mm : Mp} {D : Addr} {σ : L2.St} {acc : List PyData} {av : List V} {ρ : Env}
theorem Lcs.start (k : Sok K H1 S1 m1) (s : StR K ρ S1 m1 σ H1) (hD : H1 D = none) : Lcs K H1 S1 m1 D ρ σ [] [] S1 m1 (upd H1 D (.lst [])) :=
  ⟨.new hD, s.new_zz hD, upd_same, .nil, ⟨Nat.le_refl _, fun _ _ => rfl, kp_new hD, kpT_new hD, fun a o u e => by rw [upd_ne (ne_of_none e hD)]; exact e⟩⟩
theorem Lcs.nl (c : Lcs K H1 S1 m1 D ρ σ acc av S m H) : ¬ live S (zz m D) D := (c.st.sto.zs D (.inr rfl)).2
theorem Lcs.step (c : Lcs K H1 S1 m1 D ρ σ acc av S m H) (e : Xt H S (zz m D) H' S' (zz mm D)) (x : Xt H1 S1 m1 H' S' mm) (k : Sok K H' S' (zz mm D)) : Lcs K H1 S1 m1 D ρ σ acc av S' mm H' :=
  ⟨x, c.st.ext e k, (e.keep D _ c.at_ c.nl).1, RpL.ext e.kp (e.kpT c.st.sto) _ c.rp, c.xw.step e c.st.sto⟩
theorem Lcs.same (c : Lcs K H1 S1 m1 D ρ σ acc av S m H) (e : Xt H S (zz m D) H' S (zz m D)) (k : Sok K H' S (zz m D)) : Lcs K H1 S1 m1 D ρ σ acc av S m H' :=
  c.step e (c.xt.trans ⟨e.len, e.mp, rfl, e.keep⟩) k
theorem Lcs.push (c : Lcs K H1 S1 m1 D ρ σ acc av S m H) (hD : H1 D = none) {d : PyData} {v : V} (r : RpV K H S (zz m D) (.d d) v) : Lcs K H1 S1 m1 D ρ σ (acc ++ [d]) (av ++ [v]) S m (upd H D (.lst (av ++ [v]))) := by
  refine ⟨⟨c.xt.len, c.xt.mp, c.xt.z, fun a o h n => ?_⟩, c.st.set_zz c.at_, upd_same, RpL.ext kp_set (kpT_set c.at_) _ (c.rp.append (.cons r .nil)), ⟨c.xw.len, c.xw.mp, fun a o h n => ?_, fun a vs h => kpT_set c.at_ a vs (c.xw.kpT a vs h), fun a o u h => ?_⟩⟩
  · obtain ⟨q1, q2⟩ := c.xt.keep a o h n
    exact ⟨by rw [upd_ne (ne_of_none h hD)]; exact q1, q2⟩
  · obtain ⟨q1, q2⟩ := c.xw.kp a o h n
    exact kp_set a o q1 q2
  · rw [upd_ne (ne_of_none h hD)]; exact c.xw.frz a o u h
theorem Lcs.done (c : Lcs K H1 S1 m1 D ρ σ acc av S m H) (k : Sok K H1 S1 m1) (hD : H1 D = none) : RpV K H S m (.d (.list acc)) (.ref D) := by
  refine .lst c.at_ (fun z => ?_) (c.rp.mono hid_zz)
  rcases z with z | z
  · exact c.nl z
  · rw [c.xt.z] at z
    exact k.z_none hD z
end
theorem tE_comp {K : Frag} {vs : List Nat} {σ : L2.St} {H : Hp} {Q : VK} (hs : ∀ i ∈ t.slots, i ∈ vs) (h : tE K W (eComp vs fi t p f) σ H Q) : tLc (tI K W fi) (t.g K) (tT K WF p) (tE K WF f) vs σ H Q := by
  obtain ⟨ρ, S, m, s, h⟩ := h
  refine ⟨ρ, S, m, s, Fin.mono (Fin.bind h) (fun xs S1 m1 H1 e1 k1 h1 J yl D hD => ?_) fun _ _ _ z => z⟩
  have s1 := s.ext e1 k1
  split at h1
  · rename_i hz
    let Iv : Nat → Hp → Prop := fun i H2 => i ≤ xs.length ∧ ∃ (acc : List PyData) (av : List V) (S2 : Sto) (m2 : Mp), Lcs K H1 S1 m1 D ρ σ acc av S2 m2 H2 ∧ acc.length ≤ i ∧
        Fin K ((compL vs t p f (xs.drop i) ρ S2).bind fun r S3 => .ok (Vl.d (.list (acc ++ r))) S3) S1 m1 H1 (fun x S' m' H' => ∀ v, RpV K H' S' m' x v → Q v H') fun c d H' => W c d σ H'
    refine ⟨fun i n H2 => n = xs.length - i ∧ Iv i H2, ⟨xs.length, by simp, Nat.zero_le _, [], [], S1, m1, .start k1 s1 hD, Nat.le_refl _, by simpa using h1⟩, ?_⟩
    rintro i n H2 ⟨rfl, hi, acc, av, S2, m2, c2, hl2, h2⟩
    obtain ⟨y1, y2⟩ := yl S2 (zz m2 D) H2 c2.xw c2.st.sto i
    by_cases hlt : i < xs.length
    · obtain ⟨go, yd⟩ := y1 xs[i] (by simp [hlt])
      rw [List.drop_eq_getElem_cons hlt] at h2
      unfold compL at h2
      refine .inr ⟨go, Iv (i + 1), fun H3 z => ⟨xs.length - (i + 1), by omega, rfl, z⟩, fun y H3 hy => ?_⟩
      obtain ⟨e3, k3, r3⟩ := yd y H3 hy
      have c3 := c2.same e3 k3
      cases eb : t.bind xs[i] (wipeE ρ vs) with
      | none => rw [eb] at h2; exact h2.elim
      | some ρ1 =>
        rw [eb] at h2
        dsimp only at h2
        rw [bind_assoc] at h2
        refine CT.bind_g eb (c3.st.wipe vs) r3 fun σ4 s4 hw => ?_
        have hw4 : wipe σ4 vs = wipe σ vs := by rw [hw vs hs, wipe_idem]
        refine ⟨hw4, ρ1, S2, zz m2 D, s4, Fin.zz (Fin.bind0 h2) c3.xt fun b S4 m4 H4 e4 x4 k4 t4 => ?_⟩
        have c4 := c3.step e4 x4 k4
        cases b with
        | false =>
          rw [if_neg Bool.false_ne_true] at t4
          show Iv (i + 1) H4
          exact ⟨hlt, acc, av, S4, m4, c4, Nat.le_succ_of_le hl2, t4⟩
        | true =>
          rw [if_pos rfl, bind_assoc] at t4
          refine ⟨ρ1, S4, zz m4 D, s4.ext e4 k4, Fin.zz (Fin.bind0 t4) c4.xt fun z S5 m5 H5 e5 x5 k5 t5 v rv => ?_⟩
          have c5 := c4.step e5 x5 k5
          cases z with
          | d d =>
            dsimp only at t5
            rw [bind_assoc] at t5
            refine ⟨av, c5.at_, by rw [← c5.rp.length]; omega, hlt, acc ++ [d], _, S5, m5, c5.push hD rv, by simp; omega, ?_⟩
            refine (congrArg (fun o => Fin K o S1 m1 H1 (fun x S' m' H' => ∀ v, RpV K H' S' m' x v → Q v H') fun c d H' => W c d σ H') ?_).mp t5
            congr 1
            funext r S6
            show Out.ok (Vl.d (.list (acc ++ d :: r))) S6 = Out.ok (Vl.d (.list (acc ++ [d] ++ r))) S6
            rw [List.append_assoc]; rfl
          | z _ => exact t5.elim
          | r _ => exact t5.elim
          | x _ _ _ _ => exact t5.elim
    · have e : i = xs.length := by omega
      subst e
      rw [List.drop_length] at h2
      refine .inl ⟨y2 (Nat.le_refl _), ?_⟩
      have q := Fin.ok (R := fun x S' m' H' => ∀ v, RpV K H' S' m' x v → Q v H') h2 c2.xt c2.st.sto.unzz
      refine q _ ?_
      rw [List.append_nil]
      exact c2.done k1 hD
  · exact h1.elim
/-- the target's derivation -/
abbrev RC (X : Cx) (tg : Expr) (t : CT) : Prop := PG X tg (t.g X.K)
theorem rc_nm {i : Nat} {x : Str} (hN : X.N.Nodup) (hi : X.N[i]? = some x) (hx : Loc X.env.scope x) (hf : X.fn x = true ∨ X.env.scope.names.lookup x = some .local := by first | exact .inl rfl | exact .inr rfl | assumption) : RC X (.Name x pos) (.nm i) := pg_name hN hi hx hf
theorem rc_nil : PGs X [] (gNms []) := pgs_nil
theorem rc_cons {i : Nat} {is : List Nat} {x : Str} {es : List Expr} (hN : X.N.Nodup) (hi : X.N[i]? = some x) (hx : Loc X.env.scope x) (h2 : PGs X es (gNms is))
    (hs : (assignEach (.Name x pos :: es) X.env).map (·.2) = assign (.Name x pos) X.env :: (assignEach es X.env).map (·.2) := by rfl) (hf : X.fn x = true ∨ X.env.scope.names.lookup x = some .local := by first | exact .inl rfl | exact .inr rfl | assumption) : PGs X (.Name x pos :: es) (gNms (i :: is)) := pgs_cons (pg_name hN hi hx hf) h2 hs
theorem rc_tup {es : List Expr} {k : Nat} {is : List Nat} (hc : X.calm = true) (h : PGs X es (gNms is)) (hn : (assignEach es X.env).length = is.length := by rfl) (hst : (assignEach es X.env).findIdx? (·.1) = none := by rfl) : RC X (.Tuple es k pos) (.tp is) := pg_tup hc h hn hst
theorem re_lc (hc : X.calm = true) (hN : X.N.Nodup) (hi : RI X W tg iter fi) (ok : BlkOk X.N X.env.scope scope own)
    (hg : ∀ (s : Shared) (H : Hp) (C : Addr) (cl : List (Str × Addr)) (fp : List Addr), RC (X.blk s H scope (compEnvC scope cl C X.env) fp) tg t)
    (ht : ∀ (s : Shared) (H : Hp) (C : Addr) (cl : List (Str × Addr)) (fp : List Addr), RTs (X.blk s H scope (compEnvC scope cl C X.env) fp) WF ifs p)
    (he : ∀ (s : Shared) (H : Hp) (C : Addr) (cl : List (Str × Addr)) (fp : List Addr), RE (X.blk s H scope (compEnvC scope cl C X.env) fp) WF elt f)
    (hv : ∀ i ∈ t.slots, i ∈ own.map (·.2) := by decide) (hs : ∀ x, foldedSetIterable iter X.env x = pure x := by intro _; rfl) :
    RE X W (.ListComp elt [⟨tg, iter, ifs, 0⟩] scope pos) (eComp (own.map (·.2)) fi t p f) :=
  PEof (pe_lc hc hN hi ok hg ht he hs) fun _ _ _ z => tE_comp hv z
theorem rs_setLc {i : Nat} {y : Str} {py spos : Pos} (hc : X.calm = true) (hN : X.N.Nodup) (hy : X.N[i]? = some y) (hyl : X.env.scope.names.lookup y = some .local)
    (hsw : swapsWith (.ListComp elt [⟨tg, iter, ifs, 0⟩] scope pos) (some (.Name y py)) spos.line X.env = pure true) (hi : RI X W tg iter fi) (ok : BlkOk X.N X.env.scope scope own)
    (hg : ∀ (s : Shared) (H : Hp) (C : Addr) (cl : List (Str × Addr)) (fp : List Addr), RC (X.blk s H scope (compEnvC scope cl C X.env) fp) tg t)
    (ht : ∀ (s : Shared) (H : Hp) (C : Addr) (cl : List (Str × Addr)) (fp : List Addr), RTs (X.blk s H scope (compEnvC scope cl C X.env) fp) WF ifs p)
    (he : ∀ (s : Shared) (H : Hp) (C : Addr) (cl : List (Str × Addr)) (fp : List Addr), RE (X.blk s H scope (compEnvC scope cl C X.env) fp) WF elt f)
    (hv : ∀ i ∈ t.slots, i ∈ own.map (·.2) := by decide) (hs : ∀ x, foldedSetIterable iter X.env x = pure x := by intro _; rfl) :
    RS X W (.Assign [.Name y py] (.ListComp elt [⟨tg, iter, ifs, 0⟩] scope pos) spos) (sAsg (eComp (own.map (·.2)) fi t p f) (aName i)) :=
  PSof (ps_setLc hc hN hy hyl hsw hi ok hg ht he hs) fun D σ H z => by
    obtain ⟨ρ, S, m, s, z⟩ := tS_asg z
    exact tE_comp hv ⟨ρ, S, m, s, Fin.mono z (fun x S1 m1 H1 e1 k1 t1 v rv => tG_name (t1 v rv)) fun _ _ _ z => z⟩

/-! ### two clauses -/
variable {tg1 iter1 : Expr} {ifs1 : List Expr} {fi1 : Env → Sto → Out (List Vl)} {t1 : CT} {p1 : BF}
def compL2 (vs : List Nat) (t : CT) (p : BF) (fi1 : Env → Sto → Out (List Vl)) (vs1 : List Nat) (t1 : CT) (p1 : BF) (f : EF) : List Vl → Env → Sto → Out (List PyData)
  | [], _, S => .ok [] S
  | x :: xs, ρ, S => match t.bind x (wipeE ρ vs) with
    | none => .stuck
    | some ρ1 => (p ρ1 S).calm.bind fun b S1 => if b = true then (fi1 ρ1 S1).calm.bind fun ys S2 => if xs.length + 1 ≤ 4000 ∧ ys.length ≤ 4000 then (compL vs1 t1 p1 f ys ρ1 S2).bind fun r S3 => (compL2 vs t p fi1 vs1 t1 p1 f xs ρ S3).bind fun q S4 => .ok (r ++ q) S4 else .stuck
      else compL2 vs t p fi1 vs1 t1 p1 f xs ρ S1
def eComp2 (vs : List Nat) (fi : Env → Sto → Out (List Vl)) (t : CT) (p : BF) (fi1 : Env → Sto → Out (List Vl)) (vs1 : List Nat) (t1 : CT) (p1 : BF) (f : EF) : EF := fun ρ S => (fi ρ S).bind fun xs S1 => if xs.length ≤ 4000 then (compL2 vs t p fi1 vs1 t1 p1 f xs ρ S1).bind fun ds S2 => .ok (.d (.list ds)) S2 else .stuck
theorem tE_comp2 {K : Frag} {vs vs1 : List Nat} {σ : L2.St} {H : Hp} {Q : VK} (hs : ∀ i ∈ t.slots, i ∈ vs) (hs1 : ∀ i ∈ t1.slots, i ∈ vs1) (h : tE K W (eComp2 vs fi t p fi1 vs1 t1 p1 f) σ H Q) :
    tLc2 (tI K W fi) (t.g K) (tT K WF p) (tI K WF fi1) (t1.g K) (tT K WF p1) (tE K WF f) vs vs1 σ H Q := by
  obtain ⟨ρ, S, m, s, h⟩ := h
  refine ⟨ρ, S, m, s, Fin.mono (Fin.bind h) (fun xs S1 m1 H1 e1 k1 h1 J yl D hD => ?_) fun _ _ _ z => z⟩
  have s1 := s.ext e1 k1
  split at h1
  · rename_i hz
    let Iv : Nat → Hp → Prop := fun i H2 => i ≤ xs.length ∧ ∃ (acc : List PyData) (av : List V) (S2 : Sto) (m2 : Mp), Lcs K H1 S1 m1 D ρ σ acc av S2 m2 H2 ∧ acc.length ≤ i * 4000 ∧
        Fin K ((compL2 vs t p fi1 vs1 t1 p1 f (xs.drop i) ρ S2).bind fun r S3 => .ok (Vl.d (.list (acc ++ r))) S3) S1 m1 H1 (fun x S' m' H' => ∀ v, RpV K H' S' m' x v → Q v H') fun c d H' => W c d σ H'
    refine ⟨fun i n H2 => n = xs.length - i ∧ Iv i H2, ⟨xs.length, by simp, Nat.zero_le _, [], [], S1, m1, .start k1 s1 hD, Nat.zero_le _, by simpa using h1⟩, ?_⟩
    rintro i n H2 ⟨rfl, hi, acc, av, S2, m2, c2, hl2, h2⟩
    obtain ⟨y1, y2⟩ := yl S2 (zz m2 D) H2 c2.xw c2.st.sto i
    by_cases hlt : i < xs.length
    · obtain ⟨go, yd⟩ := y1 xs[i] (by simp [hlt])
      rw [List.drop_eq_getElem_cons hlt] at h2
      unfold compL2 at h2
      refine .inr ⟨go, Iv (i + 1), fun H3 z => ⟨xs.length - (i + 1), by omega, rfl, z⟩, fun y H3 hy => ?_⟩
      obtain ⟨e3, k3, r3⟩ := yd y H3 hy
      have c3 := c2.same e3 k3
      cases eb : t.bind xs[i] (wipeE ρ vs) with
      | none => rw [eb] at h2; exact h2.elim
      | some ρ1 =>
        rw [eb] at h2
        dsimp only at h2
        rw [bind_assoc] at h2
        refine CT.bind_g eb (c3.st.wipe vs) r3 fun σ4 s4 hw => ?_
        have hw4 : wipe σ4 vs = wipe σ vs := by rw [hw vs hs, wipe_idem]
        refine ⟨hw4, ρ1, S2, zz m2 D, s4, Fin.zz (Fin.bind0 h2) c3.xt fun b S4 m4 H4 e4 x4 k4 t4 => ?_⟩
        have c4 := c3.step e4 x4 k4
        cases b with
        | false =>
          rw [if_neg Bool.false_ne_true] at t4
          show Iv (i + 1) H4
          exact ⟨hlt, acc, av, S4, m4, c4, by omega, t4⟩
        | true =>
          rw [if_pos rfl, bind_assoc] at t4
          refine ⟨ρ1, S4, zz m4 D, s4.ext e4 k4, Fin.zz (Fin.bind0 t4) c4.xt fun ys S5 m5 H5 e5 x5 k5 t5 J1 yl1 => ?_⟩
          have c5 := c4.step e5 x5 k5
          have s5 := (s4.ext e4 k4).ext e5 k5
          split at t5
          · rename_i hz2
            rw [bind_assoc] at t5
            let I1 : Nat → Hp → Prop := fun j H6 => j ≤ ys.length ∧ ∃ (ac : List PyData) (aw : List V) (S6 : Sto) (m6 : Mp), Lcs K H1 S1 m1 D ρ σ (acc ++ ac) aw S6 m6 H6 ∧ StR K ρ1 S6 (zz m6 D) σ4 H6 ∧ Xw K H5 S5 (zz m5 D) H6 S6 (zz m6 D) ∧ ac.length ≤ j ∧
                Fin K ((compL vs1 t1 p1 f (ys.drop j) ρ1 S6).bind fun r S3 => (compL2 vs t p fi1 vs1 t1 p1 f (xs.drop (i + 1)) ρ S3).bind fun q S4 => .ok (Vl.d (.list ((acc ++ ac) ++ (r ++ q)))) S4) S1 m1 H1 (fun x S' m' H' => ∀ v, RpV K H' S' m' x v → Q v H') fun c d H' => W c d σ H'
            refine ⟨fun j n H6 => n = ys.length - j ∧ I1 j H6, ⟨ys.length, by simp, Nat.zero_le _, [], av, S5, m5, by rw [List.append_nil]; exact c5, s5, ?_, Nat.zero_le _, ?_⟩, ?_⟩
            · exact (Xt.refl).w k5
            · rw [List.append_nil, List.drop_zero]
              refine (congrArg (fun o => Fin K o S1 m1 H1 (fun x S' m' H' => ∀ v, RpV K H' S' m' x v → Q v H') fun c d H' => W c d σ H') ?_).mp t5
              congr 1
              funext r S6
              rw [bind_assoc]
              rfl
            · rintro j k H6 ⟨rfl, hj, ac, aw, S6, m6, c6, s6, w6, hl6, h6⟩
              obtain ⟨z1, z2⟩ := yl1 S6 (zz m6 D) H6 w6 c6.st.sto j
              by_cases hjt : j < ys.length
              · obtain ⟨go1, yd1⟩ := z1 ys[j] (by simp [hjt])
                rw [List.drop_eq_getElem_cons hjt] at h6
                unfold compL at h6
                refine .inr ⟨go1, I1 (j + 1), fun H3 z => ⟨ys.length - (j + 1), by omega, rfl, z⟩, fun y H7 hy7 => ?_⟩
                obtain ⟨e7, k7, r7⟩ := yd1 y H7 hy7
                have c7 := c6.same e7 k7
                have s7 := s6.ext e7 k7
                have w7 := w6.step e7 c6.st.sto
                cases eb1 : t1.bind ys[j] (wipeE ρ1 vs1) with
                | none => rw [eb1] at h6; exact h6.elim
                | some ρ2 =>
                  rw [eb1] at h6
                  dsimp only at h6
                  rw [bind_assoc] at h6
                  refine CT.bind_g eb1 (s7.wipe vs1) r7 fun σ8 s8 hw8 => ?_
                  have hw9 : wipe σ8 vs1 = wipe σ4 vs1 := by rw [hw8 vs1 hs1, wipe_idem]
                  refine ⟨hw9, ρ2, S6, zz m6 D, s8, Fin.zz (Fin.bind0 h6) c7.xt fun b1 S9 m9 H9 e9 x9 k9 t9 => ?_⟩
                  have c9 := c7.step e9 x9 k9
                  cases b1 with
                  | false =>
                    rw [if_neg Bool.false_ne_true] at t9
                    show I1 (j + 1) H9
                    exact ⟨hjt, ac, aw, S9, m9, c9, s7.ext e9 k9, w7.step e9 k7, Nat.le_succ_of_le hl6, t9⟩
                  | true =>
                    rw [if_pos rfl, bind_assoc] at t9
                    refine ⟨ρ2, S9, zz m9 D, s8.ext e9 k9, Fin.zz (Fin.bind0 t9) c9.xt fun z S10 m10 H10 e10 x10 k10 t10 v rv => ?_⟩
                    have c10 := c9.step e10 x10 k10
                    have s10 := (s7.ext e9 k9).ext e10 k10
                    have w10 := (w7.step e9 k7).step e10 k9
                    cases z with
                    | d d =>
                      dsimp only at t10
                      rw [bind_assoc] at t10
                      have hlen : aw.length = acc.length + ac.length := by rw [← c10.rp.length, List.length_append]
                      have c11 := c10.push hD rv
                      refine ⟨aw, c10.at_, by
                        have : sizeLine ≥ 16004000 := by decide
                        have : i * 4000 ≤ 4000 * 4000 := Nat.mul_le_mul_right _ (by omega)
                        omega, hjt, ac ++ [d], _, S10, m10, by rw [← List.append_assoc]; exact c11, s10.set_zz c10.at_, ⟨w10.len, w10.mp, fun a o h n => ?_, fun a vs h => kpT_set c10.at_ a vs (w10.kpT a vs h), fun a o u h => ?_⟩, by simp; omega, ?_⟩
                      · obtain ⟨q1, q2⟩ := w10.kp a o h n
                        exact kp_set a o q1 q2
                      · have q := w10.frz a o u h
                        rw [upd_ne (ne_of q c10.at_ (by intro z; cases z))]; exact q
                      · refine (congrArg (fun o => Fin K o S1 m1 H1 (fun x S' m' H' => ∀ v, RpV K H' S' m' x v → Q v H') fun c d H' => W c d σ H') ?_).mp t10
                        congr 1
                        funext r S6
                        show ((compL2 vs t p fi1 vs1 t1 p1 f (xs.drop (i + 1)) ρ S6).bind fun q S4 => Out.ok (Vl.d (PyData.list ((acc ++ ac) ++ (d :: r ++ q)))) S4) = _
                        congr 1
                        funext q S7
                        show Out.ok (Vl.d (PyData.list ((acc ++ ac) ++ (d :: r ++ q)))) S7 = Out.ok (Vl.d (PyData.list ((acc ++ (ac ++ [d])) ++ (r ++ q)))) S7
                        congr 3
                        simp [List.append_assoc]
                    | z _ => exact t10.elim
                    | r _ => exact t10.elim
                    | x _ _ _ _ => exact t10.elim
              · have e : j = ys.length := by omega
                subst e
                refine .inl ⟨z2 (Nat.le_refl _), ?_⟩
                rw [List.drop_length] at h6
                refine ⟨hlt, acc ++ ac, aw, S6, m6, c6, ?_, ?_⟩
                · rw [List.length_append]; omega
                · exact h6
          · exact t5.elim
    · have e : i = xs.length := by omega
      subst e
      rw [List.drop_length] at h2
      refine .inl ⟨y2 (Nat.le_refl _), ?_⟩
      have q := Fin.ok (R := fun x S' m' H' => ∀ v, RpV K H' S' m' x v → Q v H') h2 c2.xt c2.st.sto.unzz
      refine q _ ?_
      rw [List.append_nil]
      exact c2.done k1 hD
  · exact h1.elim
section
variable {vs1 : List Nat}
theorem re_lc2 (hc : X.calm = true) (hN : X.N.Nodup) (hi : RI X W tg iter fi) (ok : BlkOk X.N X.env.scope scope own)
    (hg : ∀ (s : Shared) (H : Hp) (C : Addr) (cl : List (Str × Addr)) (fp : List Addr), RC (X.blk s H scope (compEnvC scope cl C X.env) fp) tg t)
    (ht : ∀ (s : Shared) (H : Hp) (C : Addr) (cl : List (Str × Addr)) (fp : List Addr), RTs (X.blk s H scope (compEnvC scope cl C X.env) fp) WF ifs p)
    (hi1 : ∀ (s : Shared) (H : Hp) (C : Addr) (cl : List (Str × Addr)) (fp : List Addr), RI (X.blk s H scope (compEnvC scope cl C X.env) fp) WF tg1 iter1 fi1)
    (hg1 : ∀ (s : Shared) (H : Hp) (C : Addr) (cl : List (Str × Addr)) (fp : List Addr), RC (X.blk s H scope (compEnvC scope cl C X.env) fp) tg1 t1)
    (ht1 : ∀ (s : Shared) (H : Hp) (C : Addr) (cl : List (Str × Addr)) (fp : List Addr), RTs (X.blk s H scope (compEnvC scope cl C X.env) fp) WF ifs1 p1)
    (he : ∀ (s : Shared) (H : Hp) (C : Addr) (cl : List (Str × Addr)) (fp : List Addr), RE (X.blk s H scope (compEnvC scope cl C X.env) fp) WF elt f)
    (hv : ∀ i ∈ t.slots, i ∈ own.map (·.2) := by decide) (hv1 : ∀ i ∈ t1.slots, i ∈ vs1 := by decide) (hvv : ∀ i ∈ vs1, i ∈ own.map (·.2) := by decide) (hs : ∀ x, foldedSetIterable iter X.env x = pure x := by intro _; rfl) (hs1 : ∀ env x, foldedSetIterable iter1 env x = pure x := by intro _ _; rfl) :
    RE X W (.ListComp elt [⟨tg, iter, ifs, 0⟩, ⟨tg1, iter1, ifs1, 0⟩] scope pos) (eComp2 (own.map (·.2)) fi t p fi1 vs1 t1 p1 f) :=
  PEof (pe_lc2 hc hN hi ok hvv hg ht hi1 hg1 ht1 he hs hs1) fun _ _ _ z => tE_comp2 hv hv1 z
theorem rs_setLc2 {i : Nat} {y : Str} {py spos : Pos} (hc : X.calm = true) (hN : X.N.Nodup) (hy : X.N[i]? = some y) (hyl : X.env.scope.names.lookup y = some .local)
    (hsw : swapsWith (.ListComp elt [⟨tg, iter, ifs, 0⟩, ⟨tg1, iter1, ifs1, 0⟩] scope pos) (some (.Name y py)) spos.line X.env = pure true) (hi : RI X W tg iter fi) (ok : BlkOk X.N X.env.scope scope own)
    (hg : ∀ (s : Shared) (H : Hp) (C : Addr) (cl : List (Str × Addr)) (fp : List Addr), RC (X.blk s H scope (compEnvC scope cl C X.env) fp) tg t)
    (ht : ∀ (s : Shared) (H : Hp) (C : Addr) (cl : List (Str × Addr)) (fp : List Addr), RTs (X.blk s H scope (compEnvC scope cl C X.env) fp) WF ifs p)
    (hi1 : ∀ (s : Shared) (H : Hp) (C : Addr) (cl : List (Str × Addr)) (fp : List Addr), RI (X.blk s H scope (compEnvC scope cl C X.env) fp) WF tg1 iter1 fi1)
    (hg1 : ∀ (s : Shared) (H : Hp) (C : Addr) (cl : List (Str × Addr)) (fp : List Addr), RC (X.blk s H scope (compEnvC scope cl C X.env) fp) tg1 t1)
    (ht1 : ∀ (s : Shared) (H : Hp) (C : Addr) (cl : List (Str × Addr)) (fp : List Addr), RTs (X.blk s H scope (compEnvC scope cl C X.env) fp) WF ifs1 p1)
    (he : ∀ (s : Shared) (H : Hp) (C : Addr) (cl : List (Str × Addr)) (fp : List Addr), RE (X.blk s H scope (compEnvC scope cl C X.env) fp) WF elt f)
    (hv : ∀ i ∈ t.slots, i ∈ own.map (·.2) := by decide) (hv1 : ∀ i ∈ t1.slots, i ∈ vs1 := by decide) (hvv : ∀ i ∈ vs1, i ∈ own.map (·.2) := by decide) (hs : ∀ x, foldedSetIterable iter X.env x = pure x := by intro _; rfl) (hs1 : ∀ env x, foldedSetIterable iter1 env x = pure x := by intro _ _; rfl) :
    RS X W (.Assign [.Name y py] (.ListComp elt [⟨tg, iter, ifs, 0⟩, ⟨tg1, iter1, ifs1, 0⟩] scope pos) spos) (sAsg (eComp2 (own.map (·.2)) fi t p fi1 vs1 t1 p1 f) (aName i)) :=
  PSof (ps_setLc2 hc hN hy hyl hsw hi ok hvv hg ht hi1 hg1 ht1 he hs hs1) fun D σ H z => by
    obtain ⟨ρ, S, m, s, z⟩ := tS_asg z
    exact tE_comp2 hv hv1 ⟨ρ, S, m, s, Fin.mono z (fun x S1 m1 H1 e1 k1 t1 v rv => tG_name (t1 v rv)) fun _ _ _ z => z⟩
end
end
end Ev

end
section
namespace Ev
open PySem PySem.Spec PyProof.Rows L2

/-! ### functions -/
abbrev DF := List Vl → Sto → Out Vl
structure FnG (P : Program) (w : World) (K : Frag) (mg : Str → Option Value) (base : Heap) (k : Nat) (f : Addr) (fd : FuncData) (ps : List Str) (g : DF) : Prop where
  run : ∀ (A : Around) (outer : List PySem.Env) (s : Shared) (H : Hp) (args : Args) (us : List Value) (vs : List V) (xs : List Vl) (S : Sto) (m : Mp) (Q : VK) (E : XK), Room k A → A.guards = some [] → Env0 P w K mg base A outer s H → BindsTo s fd args (ps.zip us) → Vals vs us →
    RpVs K H S m xs vs → Sok K H S m → Fin K (g xs S) S m H (fun x S' m' H' => ∀ v, RpV K H' S' m' x v → Q v H') E → codeAny (model P w) A (.call (.ref f) args) (CR (L2.CX P w) outer P w H s Q E) s
/-- what a body does, as a function of np parameters, n names -/
def fnDen (np n : Nat) (b : SF) : DF := fun xs S => if xs.length = np then (b (xs.map some ++ List.replicate (n - np) none) S).calm.bind fun fl S' => match fl with
  | .nx _ => .ok (.d .none) S'
  | .rt x => .ok x S'
  | .ex c p _ => .exc c p S'
  | _ => .stuck else .stuck
theorem RpVs.get {K : Frag} {H : Hp} {S : Sto} {m : Mp} : ∀ {xs : List Vl} {vs : List V} {i : Nat} {x : Vl}, RpVs K H S m xs vs → xs[i]? = some x → ∃ v, vs[i]? = some v ∧ RpV K H S m x v
  | _, _, _, _, .nil, e => by simp at e
  | _, _, 0, _, .cons h t, e => by simp at e; subst e; exact ⟨_, rfl, h⟩
  | _, _, i + 1, _, .cons h t, e => by simpa using RpVs.get (i := i) t (by simpa using e)
theorem StR.start {K : Frag} {H : Hp} {S : Sto} {m : Mp} {xs : List Vl} {vs : List V} {N : List Str} {np : Nat} (r : RpVs K H S m xs vs) (k : Sok K H S m) (hl : xs.length = np) :
    StR K (xs.map some ++ List.replicate (N.length - np) none) S m (L2.start N vs) H := by
  have hv : vs.length = np := by rw [← r.length]; exact hl
  refine ⟨by simp [L2.start, hl, hv], fun i x h => ?_, k⟩
  by_cases hi : i < np
  · rw [List.getElem?_append_left (by simpa [hl] using hi), List.getElem?_map] at h
    cases q : xs[i]? with
    | none => rw [q] at h; cases h
    | some y =>
      rw [q] at h; cases h
      obtain ⟨v, e, rv⟩ := r.get q
      refine ⟨v, ?_, rv⟩
      unfold L2.start
      rw [List.getElem?_append_left (by simpa [hv] using hi), List.getElem?_map, e]
      rfl
  · rw [List.getElem?_append_right (by simpa [hl] using Nat.le_of_not_lt hi), List.getElem?_replicate] at h
    split at h <;> cases h
section
variable {P : Program} {w : World} {K : Frag} {mg : Str → Option Value} {base : Heap} {x : Str} {st : Stmt} {f : Addr} {fd : FuncData}
abbrev cxF (P : Program) (w : World) (K : Frag) (mg : Str → Option Value) (base : Heap) (N : List Str) (x : Str) (sc : Scope) (f : Addr) (cdv : Value) (A : Around) (outer : List PySem.Env) (s : Shared) (H : Hp) (E : XK) : Cx := cxOf (L2.CX P w) P w K mg base N x sc f cdv A outer s H E
abbrev WO (E : XK) : WX := fun c d _ H => E c d H
theorem fnG_of {N ps : List Str} {k : Nat} {b : SF} {x qual : Str} {params : Arguments} {body : List Stmt} {scope : Scope} {dvs : List V} {kws : List (Str × V)} (F : FunD K x qual params body scope dvs kws f fd) (S : FnScope N ps scope) {np n : Nat} (hn : n = N.length) (hnp : np = ps.length)
    (hbody : ∀ (cdv : Value) (A : Around) (outer : List PySem.Env) (s : Shared) (H : Hp) (E : XK), Room k (A.deeper (envOfC qual scope s.heap.objs.size f cdv)) → (A.deeper (envOfC qual scope s.heap.objs.size f cdv)).guards = some [] →
      RSs (cxF P w K mg base N qual scope f cdv A outer s H E) (WO E) body b) : FnG P w K mg base (k + 1) f fd ps (fnDen np n b) := by
  subst hn hnp
  obtain ⟨oc, od, dV, kV, doc, pm, an, cdv, ct, osl, rfl, lk, hcd, _, _⟩ := F.ex
  refine ⟨fun A outer s H args us vs xs S0 m Q E hr gd e0 hb r rx k0 t => ?_⟩
  unfold fnDen at t
  split at t
  · rename_i hl
    have hlv : vs.length = ps.length := by rw [← rx.length]; exact hl
    have kin : K.In s.heap := e0.mod.kin.keeps fun a u q => (e0.bs a u q).1
    have nol : s.heap.NoLimit := e0.mod.nolimit.keeps fun a u q => (e0.bs a u q).1
    have par : ∀ z ∈ ps.zip us, scope.names.lookup z.1 = some .local ∨ (scope.names.lookup z.1 = some .cell ∧ ((cellsFrom (s.heap.objs.size + 1) scope.names []).lookup z.1).isSome = true) := by
      rintro ⟨nm, u⟩ hz
      cases S.par nm (List.of_mem_zip hz).1 with
      | inl q => exact Or.inl q
      | inr q => exact Or.inr ⟨q, PySem.W.cellsFrom_some _ _ _ (.inl q)⟩
    refine codeAny_call_function hr.depth (kin _ _ lk) rfl S.co S.gen rfl (PySem.W.codeRec_of kin hcd) (hb _ _ _ _ (wpAny_newFunctionEnv_cells S.kind par fun en he s1 ic => ?_))
    subst he
    refine ⟨nol.keeps ic.toInCall.keep, codeAny_func ?_⟩
    have I0 : Inv (cxF P w K mg base N qual scope f cdv A outer s H E) [] (L2.start N vs) H s1 := inv_start S hr.hd e0 hlv r ic
    have tt : tS K (WO E) b { nx := fun _ H' => Q .non H', rt := Q } (L2.start N vs) H := by
      refine ⟨_, S0, m, StR.start (N := N) rx k0 hl, ?_⟩
      revert t
      cases b (xs.map some ++ List.replicate (N.length - ps.length) none) S0 with
      | ok fl S1 =>
        cases fl with
        | nx ρ => exact fun t m' H' e kk σ _ => t m' H' e kk _ .non
        | rt y => exact fun t m' H' e kk => t m' H' e kk
        | ex c p ρ => exact fun t m' H' e kk σ dd v _ hd rv => t m' H' dd v e kk hd rv
        | bk ρ => exact fun t => t.elim
        | ct ρ => exact fun t => t.elim
      | exc c p S1 => exact fun t => t.elim
      | stuck => exact fun t => t.elim
    refine wpAny_mono ((hbody cdv A outer s H E (hr.deeper _) gd).run [] s1 (L2.start N vs) H _ I0 tt) (fun fl s' hs => ?_) fun _ _ z => z
    have goal : ∀ {σ' : L2.St} {H' : Hp} {v : V} {u : Value}, Inv (cxF P w K mg base N qual scope f cdv A outer s H E) [] σ' H' s' → RelV v u → Q v H' → CE outer P w H s Q u s' := by
      intro σ' H' v u J rv q
      exact ⟨v, H', J.os, J.bare, J.base, J.hok, rv, q⟩
    cases fl with
    | ret u =>
      obtain ⟨v, σ', H', J, rv, q⟩ := hs
      exact goal J rv q
    | next =>
      obtain ⟨σ', H', J, q⟩ := hs
      exact goal (v := V.non) (u := Value.none) J rfl q
    | brk =>
      obtain ⟨_, _, _, q⟩ := hs
      exact q.elim
    | cont =>
      obtain ⟨_, _, _, q⟩ := hs
      exact q.elim
  · exact t.elim
/-- a def st of the module, named x: where it stands, what it does -/
def Fk (P : Program) (w : World) (K : Frag) (mg : Str → Option Value) (base : Heap) (k : Nat) (st : Stmt) (x : Str) (ps : List Str) (g : DF) : Prop :=
  ∃ f fd, mg x = some (.ref f) ∧ FunD K x x (defArgs st) (defBody st) (defScope st) [] [] f fd ∧ Binds K fd ps [] ∧ FnG P w K mg base k f fd ps g
theorem fk_of {N ps : List Str} {k : Nat} {b : SF} (hm : mg x = some (.ref f)) (F : FunD K x x (defArgs st) (defBody st) (defScope st) [] [] f fd) (S : FnScope N ps (defScope st)) {np n : Nat} (hn : n = N.length) (hnp : np = ps.length)
    (hb : ∀ (kV doc pm : Value) (an : Option Addr) (cdv ct : Value) (us : List Value), us.length = ps.length → bindArgs (PySem.W.fnOf x x (defArgs st) (defBody st) (defScope st) .none kV doc pm an cdv ct) ⟨us, []⟩ = pure (ps.zip us))
    (hbody : ∀ (cdv : Value) (A : Around) (outer : List PySem.Env) (s : Shared) (H : Hp) (E : XK), Room k (A.deeper (envOfC x (defScope st) s.heap.objs.size f cdv)) → (A.deeper (envOfC x (defScope st) s.heap.objs.size f cdv)).guards = some [] →
      RSs (cxF P w K mg base N x (defScope st) f cdv A outer s H E) (WO E) (defBody st) b) : Fk P w K mg base (k + 1) st x ps (fnDen np n b) :=
  ⟨f, fd, hm, F, F.bindsN hb, fnG_of F S hn hnp hbody⟩
end
/-! ### calls -/
section
variable {X : Cx} {W : WX} {k : Nat} {st : Stmt} {x : Str} {ps : List Str} {g : DF} {p pos : Pos} {e : Expr} {es : List Expr} {fs : Env → Sto → Out (List Vl)}
/-- the call's end within the caller -/
theorem run_g {f : Addr} {fd : FuncData} {σ : L2.St} {H : Hp} {s : Shared} {Q : VK} {pins : List (Addr × Obj)} {args : Args} {us : List Value} {vs : List V} {xs : List Vl} {S : Sto} {m : Mp} (F : FnG X.prog X.w X.K X.mg X.base k f fd ps g) (hr : Room k X.A) (gd : X.A.guards = some []) (tk : Takes X W)
    (I : Inv X pins σ H s) (hb : BindsTo s fd args (ps.zip us)) (r : Vals vs us) (rx : RpVs X.K H S m xs vs) (k0 : Sok X.K H S m) (t : Fin X.K (g xs S) S m H (fun x S' m' H' => ∀ v, RpV X.K H' S' m' x v → Q v H') fun c d H' => W c d σ H') :
    wpAny (model X.prog X.w) X.A (call (.ref f) args.pos args.kw) (EP X pins σ Q) X.xe s := by
  refine wpAny_call (codeAny_mono (F.run X.A X.stack s H args us vs xs S m Q (fun c d H' => W c d σ H') hr gd I.env0 hb r rx k0 t) fun q s' hq => ?_)
  cases q with
  | error z => exact passAt tk σ pins H s z s' I hq
  | ok fl => cases fl with
    | ret u => exact I.after hq
    | next => exact hq.elim
    | brk => exact hq.elim
    | cont => exact hq.elim
theorem re_call (F : Fk X.prog X.w X.K X.mg X.base k st x ps g) (hr : Room k X.A) (gd : X.A.guards = some []) (tk : Takes X W) (hg : Gl X x) (ha : RA X W (e :: es) fs)
    (hl : ∀ xs S, xs.length ≠ ps.length → g xs S = .stuck) (hdb : (x == ("__debug__" : Str)) = false := by decide) (he : starEach (e :: es) X.env = (false, eval e X.env) :: starEach es X.env := by rfl) (hpl : (backTo pos (starEach es X.env)).any (·.1) = false := by rfl) :
    RE X W (.Call (.Name x p) (e :: es) [] pos) (eA g fs) := by
  obtain ⟨f, fd, hm, FD, bd, F⟩ := F
  refine ⟨fun pins s σ H Q I ⟨ρ, S, m, t0, t⟩ => ?_⟩
  have ta : tA X.K W fs σ H fun vs H1 => ∃ xs S1 m1, RpVs X.K H1 S1 m1 xs vs ∧ Sok X.K H1 S1 m1 ∧ Fin X.K (g xs S1) S1 m1 H1 (fun x S' m' H' => ∀ v, RpV X.K H' S' m' x v → Q v H') fun c d H' => W c d σ H' :=
    ⟨ρ, S, m, t0, Fin.mono (Fin.bind t) (fun xs S1 m1 H1 _ k1 t1 vs rv => ⟨xs, S1, m1, rv, k1, t1⟩) fun _ _ _ z => z⟩
  refine wpAny_Call_Name_kw (ld_glob I hg hm ?_ hdb)
  refine PySem.W.callWith_K (h₀ := X.base) I.ok.mod.kin FD.kp (thn (ha.run pos pins s σ H _ I ta) fun us s1 ⟨vs, H1, I1, r, xs, S1, m1, rx, k1, t1⟩ => ⟨I1.kIn, ?_⟩) he hpl
  have hlen : us.length = ps.length := by
    rw [← r.length, ← rx.length]
    refine Decidable.byContradiction fun z => ?_
    rw [hl xs S1 z] at t1
    exact t1
  have b := bd s1 us I1.kIn (by rw [List.append_nil]; exact hlen)
  rw [List.append_nil] at b
  exact run_g F hr gd tk I1 b r rx k1 t1
/-! ### by keywords -/
def permL {α : Type} (ix : List Nat) (xs : List α) : List α := ix.filterMap fun i => xs[i]?
theorem permL_vals {ix : List Nat} {vs : List V} {us : List Value} (r : Vals vs us) : Vals (permL ix vs) (permL ix us) := by
  unfold permL
  induction ix with
  | nil => exact .nil
  | cons i ix ih =>
    rw [List.filterMap_cons, List.filterMap_cons]
    cases q : vs[i]? with
    | none =>
      have : us[i]? = none := by rw [List.getElem?_eq_none_iff] at q ⊢; rw [← r.length]; exact q
      rw [this]; exact ih
    | some v =>
      obtain ⟨u, hu, ru⟩ := r.get q
      rw [hu]; exact .cons ru ih
theorem permL_rp {K : Frag} {H : Hp} {S : Sto} {m : Mp} {ix : List Nat} {xs : List Vl} {vs : List V} (r : RpVs K H S m xs vs) : RpVs K H S m (permL ix xs) (permL ix vs) := by
  unfold permL
  induction ix with
  | nil => exact .nil
  | cons i ix ih =>
    rw [List.filterMap_cons, List.filterMap_cons]
    cases q : xs[i]? with
    | none =>
      have : vs[i]? = none := by rw [List.getElem?_eq_none_iff] at q ⊢; rw [← r.length]; exact q
      rw [this]; exact ih
    | some v =>
      obtain ⟨u, hu, ru⟩ := r.get q
      rw [hu]; exact .cons ru ih
theorem RpVs.append {K : Frag} {H : Hp} {S : Sto} {m : Mp} : ∀ {xs ys : List Vl} {vs us : List V}, RpVs K H S m xs vs → RpVs K H S m ys us → RpVs K H S m (xs ++ ys) (vs ++ us)
  | _, _, _, _, .nil, g => g
  | _, _, _, _, .cons h t, g => .cons h (RpVs.append t g)
abbrev RK (X : Cx) (W : WX) (es : List Keyword) (f : Env → Sto → Out (List Vl)) : Prop := PK X es (tA X.K W f)
theorem rk_nil : RK X W [] aNil := PKof pk_nil fun _ _ _ t => tA_nil t
theorem rk_cons {nm : Option Str} {kpos : Pos} {f : EF} {kws : List Keyword} (ha : RE X W e f) (hr : RK X W kws fs) : RK X W (⟨nm, e, kpos⟩ :: kws) (aCons f fs) := PKof (pk_cons ha hr) fun _ _ _ t => tA_cons t
def eCallK (g : DF) (n m : Nat) (ix : List Nat) (fs ks : Env → Sto → Out (List Vl)) : EF := fun ρ S => (fs ρ S).bind fun xs S1 => (ks ρ S1).bind fun zs S2 => if xs.length = n ∧ zs.length = m then g (permL ix (xs ++ zs)) S2 else .stuck
/-- how keywords are bound -/
def KB (st : Stmt) (x : Str) (ps : List Str) (n : Nat) (ks : List Str) (ix : List Nat) : Prop := ∀ (kV doc pm : Value) (an : Option Addr) (cdv ct : Value) (us ws : List Value), us.length = n → ws.length = ks.length →
  bindArgs (PySem.W.fnOf x x (defArgs st) (defBody st) (defScope st) .none kV doc pm an cdv ct) ⟨us, ks.zip ws⟩ = pure (ps.zip (permL ix (us ++ ws)))
theorem KB.to {K : Frag} {st : Stmt} {x : Str} {ps ks : List Str} {n : Nat} {ix : List Nat} {f : Addr} {fd : FuncData} (h : KB st x ps n ks ix) (F : FunD K x x (defArgs st) (defBody st) (defScope st) [] [] f fd) (s : Shared) (us ws : List Value) (h1 : us.length = n) (h2 : ws.length = ks.length) :
    BindsTo s fd ⟨us, ks.zip ws⟩ (ps.zip (permL ix (us ++ ws))) := by
  obtain ⟨oc, od, dV, kV, doc, pm, an, cdv, ct, osl, rfl, lk, hcd, hD, hK⟩ := F.ex
  rcases hD with ⟨_, rfl⟩ | ⟨z, _⟩
  · exact .of_eq (h kV doc pm an cdv ct us ws h1 h2)
  · exact absurd rfl z
variable {kws : List Keyword} {kf : Env → Sto → Out (List Vl)} {n : Nat} {ks : List Str} {ix : List Nat}
theorem re_callK (F : Fk X.prog X.w X.K X.mg X.base k st x ps g) (hr : Room k X.A) (gd : X.A.guards = some []) (tk : Takes X W) (hg : Gl X x) (ha : RA X W (e :: es) fs) (hkw : RK X W kws kf) (kb : KB st x ps n ks ix)
    (hall : (backToKw pos (keywordEach kws X.env)).all (·.1.isSome) = true := by rfl) (hks : (backToKw pos (keywordEach kws X.env)).filterMap (·.1) = ks := by rfl)
    (hdb : (x == ("__debug__" : Str)) = false := by decide) (he : starEach (e :: es) X.env = (false, eval e X.env) :: starEach es X.env := by rfl)
    (hpl : ((backTo pos (starEach (e :: es) X.env)).any (·.1) || (backToKw pos (keywordEach kws X.env)).any (·.1.isNone)) = false := by rfl) :
    RE X W (.Call (.Name x p) (e :: es) kws pos) (eCallK g n ks.length ix fs kf) := by
  obtain ⟨f, fd, hm, FD, bd, F⟩ := F
  refine ⟨fun pins s σ H Q I ⟨ρ, S, m, t0, t⟩ => ?_⟩
  have ta : tA X.K W fs σ H fun vs H1 => tA X.K W kf σ H1 fun zs H2 => ∃ xs ys S2 m2, RpVs X.K H2 S2 m2 xs vs ∧ RpVs X.K H2 S2 m2 ys zs ∧ Sok X.K H2 S2 m2 ∧ (xs.length = n ∧ ys.length = ks.length) ∧ Fin X.K (g (permL ix (xs ++ ys)) S2) S2 m2 H2 (fun x S' m' H' => ∀ v, RpV X.K H' S' m' x v → Q v H') fun c d H' => W c d σ H' := by
    refine ⟨ρ, S, m, t0, Fin.mono (Fin.bind t) (fun xs S1 m1 H1 e1 k1 t1 vs rv => ?_) fun _ _ _ z => z⟩
    refine ⟨ρ, S1, m1, t0.ext e1 k1, Fin.mono (Fin.bind t1) (fun ys S2 m2 H2 e2 k2 t2 zs rz => ?_) fun _ _ _ z => z⟩
    split at t2
    · rename_i hl
      exact ⟨xs, ys, S2, m2, rv.ext e2 k1, rz, k2, hl, t2⟩
    · exact t2.elim
  refine wpAny_Call_Name_kw (ld_glob I hg hm ?_ hdb)
  refine PySem.W.callWith_KW (h₀ := X.base) I.ok.mod.kin FD.kp hall (thn (ha.run pos pins s σ H _ I ta) fun us s1 ⟨vs, H1, I1, r, q⟩ => ?_) hpl he
  refine thn (hkw.run pos pins s1 σ H1 _ I1 q) fun ws s2 ⟨zs, H2, I2, rz, xs, ys, S2, m2, rx, ry, k2, hl, t2⟩ => ⟨I2.kIn, ?_⟩
  rw [hks]
  exact run_g (args := ⟨us, ks.zip ws⟩) F hr gd tk I2 (kb.to FD s2 us ws (by rw [← r.length, ← rx.length]; exact hl.1) (by rw [← rz.length, ← ry.length]; exact hl.2)) (permL_vals (r.append rz)) (permL_rp (rx.append ry)) k2 t2
theorem re_callK0 (F : Fk X.prog X.w X.K X.mg X.base k st x ps g) (hr : Room k X.A) (gd : X.A.guards = some []) (tk : Takes X W) (hg : Gl X x) (hkw : RK X W kws kf) (kb : KB st x ps 0 ks ix)
    (hall : (backToKw pos (keywordEach kws X.env)).all (·.1.isSome) = true := by rfl) (hks : (backToKw pos (keywordEach kws X.env)).filterMap (·.1) = ks := by rfl)
    (hdb : (x == ("__debug__" : Str)) = false := by decide)
    (hpl : ((backTo pos (starEach [] X.env)).any (·.1) || (backToKw pos (keywordEach kws X.env)).any (·.1.isNone)) = false := by rfl) :
    RE X W (.Call (.Name x p) [] kws pos) (eCallK g 0 ks.length ix aNil kf) := by
  obtain ⟨f, fd, hm, FD, bd, F⟩ := F
  refine ⟨fun pins s σ H Q I ⟨ρ, S, m, t0, t⟩ => ?_⟩
  have ta : tA X.K W kf σ H fun zs H2 => ∃ ys S2 m2, RpVs X.K H2 S2 m2 ys zs ∧ Sok X.K H2 S2 m2 ∧ ys.length = ks.length ∧ Fin X.K (g (permL ix ys) S2) S2 m2 H2 (fun x S' m' H' => ∀ v, RpV X.K H' S' m' x v → Q v H') fun c d H' => W c d σ H' := by
    refine ⟨ρ, S, m, t0, Fin.mono (Fin.bind (show Fin X.K ((kf ρ S).bind fun zs S2 => if ([] : List Vl).length = 0 ∧ zs.length = ks.length then g (permL ix ([] ++ zs)) S2 else .stuck) S m H _ _ from t)) (fun ys S2 m2 H2 e2 k2 t2 zs rz => ?_) fun _ _ _ z => z⟩
    split at t2
    · rename_i hl
      exact ⟨ys, S2, m2, rz, k2, hl.2, t2⟩
    · exact t2.elim
  refine wpAny_Call_Name_kw (ld_glob I hg hm ?_ hdb)
  refine PySem.W.callWith_KW0 (h₀ := X.base) I.ok.mod.kin FD.kp hall (thn (hkw.run pos pins s σ H _ I ta) fun ws s2 ⟨zs, H2, I2, rz, ys, S2, m2, ry, k2, hl, t2⟩ => ⟨I2.kIn, ?_⟩) hpl
  rw [hks]
  exact run_g (args := ⟨[], ks.zip ws⟩) F hr gd tk I2 (kb.to FD s2 [] ws rfl (by rw [← rz.length, ← ry.length]; exact hl)) (permL_vals (by simpa using rz)) (permL_rp (by simpa using ry)) k2 t2
end
theorem fnDen_len {np n : Nat} {b : SF} (xs : List Vl) (S : Sto) (h : xs.length ≠ np) : fnDen np n b xs S = .stuck := if_neg h
end Ev

end
section
namespace Ev
open PySem PySem.Spec PyProof.Rows L2

def mp0 : Mp := ⟨fun _ => 0, fun _ => False⟩
theorem sok0 {K : Frag} {H : Hp} : Sok K H [] mp0 := ⟨fun n o h => by simp at h, fun i j oi oj h => by simp at h, fun a h => h.elim⟩
/-- the law's call over one abstract heap -/
theorem end_at {P : Program} {w : World} {K : Frag} {mg mb : Str → Option Value} {k : Nat} {fa a : Addr} {fd : FuncData} {x : Str} {g : DF} {s₁ : Shared} {vs : List Value} {ns : List Int} {H : Hp}
    (KX : K.In s₁.heap) (hns : s₁.heap.Ns mainGlobals mg) (hb : s₁.heap.Ns builtinsNs mb) (hbb : ∀ x : Str, x ≠ "__name__" → mb x = bootBuiltins x) (hlim : s₁.heap.NoLimit) (hg : s₁.gens = #[])
    (ha : s₁.heap.get? a = some { cls := .type "list", data := .seq vs.toArray }) (hr : Room k callerA)
    (F : ∀ base : Heap, K.In base → base.Ns mainGlobals mg → FnG P w K mg base k fa fd [x] g) (hbind : ∀ (s : Shared) (u : Value), BindsTo s fd ⟨[u], []⟩ [(x, u)])
    (hgo : ∃ S', g [.z (ns.map .int)] [] = .ok (.d (.bool true)) S')
    (hO : Only H) (hS : SzL K H a (ns.map V.int)) (hok : HOk P w H s₁.heap) (hA : ∀ b, H b ≠ none → b = a) (hK : H a ≠ none → K.lookup a = none) :
    codeAny (model P w) callerA (.call (.ref fa) ⟨[.ref a], []⟩) (fun r s' => r = .ok (.ret (.bool true)) ∧ OldK s₁.heap s'.heap ∧ s'.os = s₁.os ∧ AllBare s'.gens) s₁ := by
  have noDict : ∀ {b : Addr} {o : Obj} {es : Array DictEntry} {n : Nat}, s₁.heap.get? b = some o → o.data = .dict es n → H b = none := by
    intro b o es n e d
    refine Decidable.byContradiction fun z => ?_
    obtain rfl := hA b z
    rw [ha] at e
    cases e
    exact nomatch (show Data.seq vs.toArray _ = Data.dict es n from d)
  have ns' : ∀ {b : Addr} {m : Str → Option Value}, s₁.heap.Ns b m → (hidT s₁.heap H).Ns b m := by
    rintro b m ⟨o, es, n, e, d, r⟩
    exact ⟨o, es, n, hidT_get e (noDict e d), d, r⟩
  have kin : K.In (hidT s₁.heap H) := by
    intro b o e
    refine hidT_get (KX b o e) (Decidable.byContradiction fun z => ?_)
    obtain rfl := hA b z
    rw [hK z] at e
    cases e
  obtain ⟨mc, l1, l2⟩ := hlim
  have md : Mod K mg (hidT s₁.heap H) := ⟨kin, ns' hns, ⟨mb, ns' hb, hbb⟩, mc, ns' l1, l2⟩
  have en : Env0 P w K mg (hidT s₁.heap H) callerA [] s₁ H := ⟨rfl, md, fun b o => of_hidT, Nat.le_of_eq (hidT_size _ _), trivial, (fun b hb => nomatch hb), hok, .of_eq hg⟩
  obtain ⟨S', hgo⟩ := hgo
  have call := (F _ kin (ns' hns)).run callerA [] s₁ H ⟨[.ref a], []⟩ [.ref a] [.ref a] [.z (ns.map .int)] [] mp0 (fun v _ => v = .bl true) (fun _ _ _ => False) hr rfl en (hbind s₁ (.ref a)) (.cons rfl .nil)
    (.cons ⟨a, _, rfl, hS, RpL.of_ints ns⟩ .nil) sok0 (by rw [hgo]; exact fun m' H' _ _ v rv => by cases rv; rfl)
  refine codeAny_mono call fun r s' h => ?_
  cases r with
  | error e =>
    obtain ⟨_, _, _, _, _, _, _, _, _, _, _, _, z⟩ := h
    exact z.elim
  | ok fl => cases fl with
    | next => exact h.elim
    | brk => exact h.elim
    | cont => exact h.elim
    | ret u =>
      obtain ⟨v, H', os, bare, un, hok', r', q⟩ := h
      obtain rfl : v = V.bl true := q
      obtain rfl : u = Value.bool true := r'
      refine ⟨rfl, OldK.of_keep fun b o e => ?_, os, bare⟩
      rcases hO b with z | ⟨ob, xs, z⟩
      · exact un.keep b o e z (fun y => nomatch y) (by simp)
      · have q1 := (hok b _ z).1
        have q2 := (hok' b _ (un.frzs b _ _ z)).1
        rw [e] at q1
        cases q1
        exact q2
theorem law_g {P : Program} {w : World} {K : Frag} {mg mb : Str → Option Value} {k : Nat} {fa a : Addr} {fd : FuncData} {x : Str} {g : DF} {s₁ : Shared} {vs : List Value} {ns : List Int}
    (KX : K.In s₁.heap) (hns : s₁.heap.Ns mainGlobals mg) (hb : s₁.heap.Ns builtinsNs mb) (hbb : ∀ x : Str, x ≠ "__name__" → mb x = bootBuiltins x) (hlim : s₁.heap.NoLimit) (hg : s₁.gens = #[])
    (ha : s₁.heap.get? a = some { cls := .type "list", data := .seq vs.toArray }) (hi : IntsAre vs ns) (hl : ns.length ≤ sizeLine) (hr : Room k callerA)
    (F : ∀ base : Heap, K.In base → base.Ns mainGlobals mg → FnG P w K mg base k fa fd [x] g) (hbind : ∀ (s : Shared) (u : Value), BindsTo s fd ⟨[u], []⟩ [(x, u)])
    (hgo : ∃ S', g [.z (ns.map .int)] [] = .ok (.d (.bool true)) S') :
    codeAny (model P w) callerA (.call (.ref fa) ⟨[.ref a], []⟩) (fun r s' => r = .ok (.ret (.bool true)) ∧ OldK s₁.heap s'.heap ∧ s'.os = s₁.os ∧ AllBare s'.gens) s₁ := by
  have rv := vals_ints hi
  have len := hi.length
  cases hk : K.lookup a with
  | some o =>
    have e := KX a o hk
    rw [ha] at e
    cases e
    have own : ∀ H' : Hp, SqL K H' a (ns.map V.int) := fun H' => .inr ⟨_, vs.toArray, _, hk, rfl, rfl, rfl, by rw [List.size_toArray, len]; exact hl, by simpa using rv⟩
    exact end_at (H := fun _ => none) KX hns hb hbb hlim hg ha hr F hbind hgo (fun _ => .inl rfl) (.inr own) (fun b u z => nomatch (show (none : Option HO) = some u from z)) (fun b z => absurd rfl z) fun z => absurd rfl z
  | none =>
    refine end_at (H := upd (fun _ => none) a (.frz { cls := .type "list", data := .seq vs.toArray } (.lst (ns.map V.int)))) KX hns hb hbb hlim hg ha hr F hbind hgo (fun b => ?_) (.inl ⟨_, upd_same⟩) (fun b u z => ?_) (fun b z => ?_) fun _ => hk
    · by_cases q : b = a
      · subst q; exact .inr ⟨_, _, upd_same⟩
      · exact .inl (upd_ne q)
    · by_cases q : b = a
      · subst q
        rw [upd_same] at z
        cases z
        exact ⟨ha, by rw [List.length_map]; exact hl, vs, _, rv, ha⟩
      · rw [upd_ne q] at z
        cases z
    · refine Decidable.byContradiction fun q => z ?_
      rw [upd_ne q]
/-- the end of a law's head -/
theorem walk_g {l : PySem.W.OpenLaw} {n k : Nat} {q : Program} {loose : List Str} {XP : (Str → Option Value) → Heap → Prop} {YP : World → Heap → Prop} {d : DefRec} {x : Str} {g : DF}
    (hn : l.most = some n) (hn2 : n ≤ sizeLine) (hdf : d.params.defaults = []) (hr : Room k callerA)
    (F : ∀ (w : World) (mg : Str → Option Value) (fa : Addr) (h : Heap), YP w h → h.Ns mainGlobals mg → mg d.name = some (.ref fa) →
      ∃ (K : Frag) (fd : FuncData), K.In h ∧ (∀ (s : Shared) (u : Value), BindsTo s fd ⟨[u], []⟩ [(x, u)]) ∧ ∀ base : Heap, K.In base → base.Ns mainGlobals mg → FnG l.prog w K mg base k fa fd [x] g)
    (hgo : ∀ ns : List Int, ns.length ≤ n → ∃ S', g [.z (ns.map .int)] [] = .ok (.d (.bool true)) S') :
    PySem.W.WalkO q loose XP YP l.row.toRowW d [] (fun f vs => PySem.call f vs) := by
  refine Att.attach_call hn hdf fun w s₀ s₁ mg mb fa o pm cd doc a vs ns G Y ho hd hcd hmg hobj hints hlen hg => ?_
  obtain ⟨K, fd, KX, hb, hF⟩ := F w mg fa _ Y G.T.g hmg
  exact law_g KX G.T.g G.T.b G.T.builtins G.T.nolimit hg hobj hints (Nat.le_trans hlen hn2) hr hF hb (hgo ns hlen)
end Ev

end
section
namespace Ev
open PySem PySem.Spec PyProof.Rows L2

/-! ### errors of one's own: class c with the one attribute attrOf c -/
/-- what is looked at in the written part -/
def owB (K : Frag) (c f : Str) : Bool :=
  (match K.lookup (He.ga K c) with
    | some ⟨.type "type", _, .cls cd, sl⟩ => (match cd.mro, sl.toList with
      | .ref C' :: bm, [_, _, _, _, some (.builtin n), _] => C' == He.ga K c && (n == "ValueError.__new__" && (!cd.hasDel && (cd.hasDict && PySem.HandSPX.refsVE bm)))
      | _, _ => false)
    | _ => false) &&
  (decide (PySem.W.findIn K (.ref (He.ga K c)) "__setattr__" = some (some (.builtin "object.__setattr__"))) &&
  (decide (PySem.W.subIn K (.ref (He.ga K c)) (.type "BaseException") = some true) &&
  (decide (PySem.W.typeIn K (.ref (He.ga K c)) = some (.type "type")) &&
  (PySem.W.keepIn K (.ref (He.ga K c)) &&
  (decide (PySem.W.findIn K (.ref (He.ga K c)) "__init__" = some (some (.ref (He.ma K (He.ga K c) "__init__")))) &&
  (decide (PySem.W.typeIn K (.ref (He.ma K (He.ga K c) "__init__")) = some (.type "function")) &&
  (decide (PySem.W.findIn K (.ref (He.ga K c)) f = some none) &&
  (xfB K (He.ga K c) && decide (PySem.W.nsIn K mainGlobals c = some (some (.ref (He.ga K c)))))))))))) 
structure Ow (K : Frag) (c f : Str) : Prop where
  oex : OexC K (He.ga K c)
  iC : PySem.W.findIn K (.ref (He.ga K c)) "__init__" = some (some (.ref (He.ma K (He.ga K c) "__init__")))
  tI : PySem.W.typeIn K (.ref (He.ma K (He.ga K c) "__init__")) = some (.type "function")
  noF : PySem.W.findIn K (.ref (He.ga K c)) f = some none
  xf : XfC K (He.ga K c)
  at_ : PySem.W.nsIn K mainGlobals c = some (some (.ref (He.ga K c)))
theorem ow_cls {K : Frag} {C : Addr} (h : (match K.lookup C with
    | some ⟨.type "type", _, .cls cd, sl⟩ => (match cd.mro, sl.toList with
      | .ref C' :: bm, [_, _, _, _, some (.builtin n), _] => C' == C && (n == "ValueError.__new__" && (!cd.hasDel && (cd.hasDict && PySem.HandSPX.refsVE bm)))
      | _, _ => false)
    | _ => false) = true) :
    ∃ nm q N bs bm sn sub ab col dd k0 k1 k2 k3 k5, K.lookup C = some (excClassObj nm q C N bs bm true sn sub ab col dd k0 k1 k2 k3 k5 "ValueError.__new__") ∧ PySem.HandSPX.refsVE bm = true := by
  split at h
  · rename_i dd cd sl ho
    split at h
    · rename_i C' bm k0 k1 k2 k3 n k5 hm hs
      simp only [Bool.and_eq_true, beq_iff_eq, Bool.not_eq_true'] at h
      obtain ⟨rfl, rfl, h1, h2, h3⟩ := h
      obtain ⟨nm, bs, mro, ns, qn, hd, sn, sub, ab, col, del⟩ := cd
      dsimp only at hm h1 h2
      subst hm h1 h2
      obtain ⟨l⟩ := sl
      dsimp only at hs
      subst hs
      exact ⟨nm, qn, ns, bs, bm, sn, sub, ab, col, dd, k0, k1, k2, k3, k5, ho, h3⟩
    · cases h
  · cases h
theorem ow_of {K : Frag} {c f : Str} (h : owB K c f = true) : Ow K c f := by
  obtain ⟨h1, h⟩ := He.ba h
  obtain ⟨h2, h⟩ := He.ba h
  obtain ⟨h3, h⟩ := He.ba h
  obtain ⟨h4, h⟩ := He.ba h
  obtain ⟨h5, h⟩ := He.ba h
  obtain ⟨h6, h⟩ := He.ba h
  obtain ⟨h7, h⟩ := He.ba h
  obtain ⟨h8, h⟩ := He.ba h
  obtain ⟨h9, h10⟩ := He.ba h
  exact ⟨⟨ow_cls h1, of_decide_eq_true h2, of_decide_eq_true h3, of_decide_eq_true h4, h5⟩, of_decide_eq_true h6, of_decide_eq_true h7, of_decide_eq_true h8, xfB_ok h9, of_decide_eq_true h10⟩
/-- what __init__ does -/
def spIn (C : Addr) (f : Str) : Sp := fun vs H Q _ => ∃ (a : Addr) (v : V), vs = [.ref a, v] ∧ H a = some (exo a C none) ∧ ∀ dx, H dx = none → dx ≠ a → Q .non (upd (upd H dx (exd dx [(f, v)])) a (exo a C (some dx)))
/-- an error class, ready for use -/
structure Er (P : Program) (w : World) (K : Frag) (mg : Str → Option Value) (base : Heap) (c : Str) : Prop where
  ow : Ow K c (attrOf c)
  glo : mg c = some (.ref (He.ga K c))
  init : ∃ fd, FnOk P w K mg base (L2.CX P w) 1 (He.ma K (He.ga K c) "__init__") fd ["self", attrOf c] (spIn (He.ga K c) (attrOf c)) ∧ Binds K fd ["self", attrOf c] []
theorem in_given : FnScope ["self", "given"] ["self", "given"] { kind := .function, names := [("self", .local), ("given", .local)], isGenerator := false, isCoroutine := false, more := [] } :=
  ⟨rfl, rfl, rfl, by decide +kernel, rfl, by decide +kernel, by decide +kernel⟩
theorem in_index : FnScope ["self", "index"] ["self", "index"] { kind := .function, names := [("self", .local), ("index", .local)], isGenerator := false, isCoroutine := false, more := [] } :=
  ⟨rfl, rfl, rfl, by decide +kernel, rfl, by decide +kernel, by decide +kernel⟩
theorem er_of {P : Program} {w : World} {K : Frag} {mg : Str → Option Value} {base : Heap} {c f qual : Str} {params : Arguments} {body : List Stmt} {scope : Scope} {fd : FuncData} {q1 q2 q3 q4 : Pos}
    (hf : attrOf c = f) (o : Ow K c f) (g : mg c = some (.ref (He.ga K c))) (F : FunD K "__init__" qual params body scope [] [] (He.ma K (He.ga K c) "__init__") fd) (S : FnScope ["self", f] ["self", f] scope)
    (hb : body = [.Assign [.Attribute (.Name "self" q1) f q2] (.Name f q3) q4])
    (hv : ∀ (X : Cx), X.env.scope = scope → Vis X.env.scope "self" ∧ Vis X.env.scope f) (hd : (f == ("__debug__" : Str)) = false) (hcd : (f == ("__classdict__" : Str)) = false)
    (hbind : ∀ (kV doc pm : Value) (an : Option Addr) (cdv ct : Value) (us : List Value), us.length = 2 → bindArgs (PySem.W.fnOf "__init__" qual params body scope .none kV doc pm an cdv ct) ⟨us, []⟩ = pure ((["self", f] : List Str).zip us)) : Er P w K mg base c := by
  subst hf
  subst hb
  refine ⟨o, g, fd, ?_, F.bindsN fun kV doc pm an cdv ct us hl => hbind kV doc pm an cdv ct us hl⟩
  refine F.ok S (fun vs H Q E h => ?_) (fun cdv A outer s H vs Q E hr h => ⟨tOst K (attrOf c) (tVar 0) (tVar 1), ?_, ?_⟩)
  · obtain ⟨a, v, rfl, _⟩ := h; rfl
  · obtain ⟨v1, v2⟩ := hv (cxOf (L2.CX P w) P w K mg base ["self", attrOf c] qual scope (He.ma K (He.ga K c) "__init__") cdv A outer s H E) rfl
    exact pss_one (ps_ost (pe_var (i := 0) rfl v1) (pe_var (i := 1) rfl v2 hd hcd))
  · obtain ⟨a, v, rfl, h1, h2⟩ := h
    exact ⟨v, rfl, .ref a, rfl, a, He.ga K c, rfl, o.oex, o.noF, .inl ⟨h1, h2⟩⟩
/-! ### raise C(e) -/
def sRaise (c : Str) (f : EF) : SF := fun ρ S => (f ρ S).lift ρ fun x S1 => .ok (.ex c x ρ) S1
section
variable {X : Cx} {W : WX} {c : Str} {e : Expr} {f : EF} {p pos pos2 : Pos}
theorem init_heap {H1 : Hp} {a dx C : Addr} {y : Str} {v : V} (ha : H1 a = none) (hd : H1 dx = none) (ne : dx ≠ a) :
    upd (del (upd (upd (upd H1 a (exo a C none)) dx (exd dx [(y, v)])) a (exo a C (some dx))) a) dx (.xd [(y, v)]) = upd H1 dx (.xd [(y, v)]) := by
  funext b
  by_cases h1 : b = dx
  · subst h1; rw [upd_same, upd_same]
  · rw [upd_ne h1, upd_ne h1]
    by_cases h2 : b = a
    · subst h2; rw [del_same, ha]
    · rw [del_ne h2, upd_ne h2, upd_ne h1, upd_ne h2]
theorem rs_raise (hc : X.calm = true) (tk : Takes X W) (E : Er X.prog X.w X.K X.mg X.base c) (hr : Room 2 X.A) (hg : Gl X c) (ha : RE X W e f)
    (hdb : (c == ("__debug__" : Str)) = false := by decide) (he : starEach (e :: []) X.env = (false, eval e X.env) :: starEach [] X.env := by rfl) (hpl : (backTo pos (starEach [] X.env)).any (·.1) = false := by rfl) :
    RS X W (.Raise (some (.Call (.Name c p) [e] [] pos)) none pos2) (sRaise c f) := by
  obtain ⟨fd, F, b⟩ := E.init
  refine PSof (ps_raise hc tk (pmk_oex (x := c) E.ow.oex E.ow.iC E.ow.tI F hr b .nil (fun _ _ _ _ _ _ _ ⟨_, _, _, _, _, _, _, _, _, _, _, _, z⟩ => z.elim) hg E.glo (ra_cons ha ra_nil he) hdb he hpl)) fun D σ H ⟨ρ, S, m, s, t⟩ => ?_
  refine ⟨ρ, S, m, s, ?_⟩
  show Fin X.K ((f ρ S).bind fun x S1 => .ok [x] S1) S m H _ _
  have t' := Fin.lift s t
  revert t'
  cases f ρ S with
  | stuck => exact fun z => z
  | exc c' p' S' => exact fun z => z
  | ok x S1 =>
    intro t' m' H' e1 k1 vs rvs
    cases rvs with
    | @cons _ _ v _ rv rn =>
      cases rn
      refine ⟨Nat.succ_le_of_lt (by simp), fun a hn => ⟨a, _, rfl, upd_same, fun dx hdx ne => ?_⟩⟩
      have hdx' : H' dx = none := by
        rw [upd_ne ne] at hdx; exact hdx
      refine ⟨rfl, dx, [(attrOf c, v)], upd_same, ?_, hdx', ?_⟩
      · rw [upd_ne ne, upd_same]
      · rw [init_heap hn hdx' ne]
        have q := t' m' H' e1 k1
        have x1 : Xt H' S1 m' (upd H' dx (.xd [(attrOf c, v)])) S1 m' := .new hdx'
        exact q m' _ x1 (k1.new hdx') σ dx v ((s.ext e1 k1).ext x1 (k1.new hdx')) upd_same (rv.ext x1 k1)
end
/-! ### e.f of a caught one; try .. except C as e: .. -/
def eXf (i : Nat) (a : Addr) (d : Option Addr) (y : Str) : EF := fun ρ S => match ρ[i]? with
  | some (some (.x a' dd f p)) => if a' = a ∧ d = some dd ∧ f = y then .ok (.d p) S else .stuck
  | _ => .stuck
theorem re_xf {X : Cx} {a : Addr} {c n : Str} {oe : Obj} {cls : Value} {d : Option Addr} {pn : List (Addr × Obj)} {i : Nat} {pos pos2 : Pos} (E : Er X.prog X.w X.K X.mg X.base c) (hcl : cls = .ref (He.ga X.K c)) (hz : Zc cls d oe) (hf : ∃ vs, oe.data = .fields vs) (hN : X.N[i]? = some n) (hv : Vis X.env.scope n) {y : Str} (hy : attrOf c = y)
    (hd : (n == ("__debug__" : Str)) = false := by decide) (hcd : (n == ("__classdict__" : Str)) = false := by decide)
    (hb : attributeBase (.Name n pos) y X.env (eval (.Name n pos) X.env) = eval (.Name n pos) X.env := by rfl) : RE (X.suite a ((a, oe) :: pn)) WF (.Attribute (.Name n pos) y pos2) (eXf i a d y) := by
  subst hy
  subst hcl
  refine PEof (pe_xf E.ow.xf E.ow.noF hz hf (pe_var (X := X.suite a ((a, oe) :: pn)) (i := i) hN hv hd hcd) hb) fun σ H Q ⟨ρ, S, m, s, t⟩ => ?_
  unfold eXf at t
  split at t
  · rename_i a' dd f p e
    split at t
    · rename_i h
      obtain ⟨rfl, rfl, rfl⟩ := h
      obtain ⟨v, e2, rfl, u, h1, rp⟩ := s.loc i _ e
      exact ⟨_, e2, rfl, rfl, dd, _, u, rfl, h1, by simp [List.lookup], t.here s.sto u rp⟩
    · exact t.elim
  · exact t.elim
/-- both return the same -/
def flEq : Flw → Flw → Prop
  | .rt x, .rt y => x = y
  | _, _ => False
/-- which classes the clause takes; su: the suite, by the exception -/
def sTry (h : Str → Option Bool) (i : Nat) (b : SF) (su : PyData → SF) : SF := fun ρ S => (b ρ S).bind fun fl S1 => match fl with
  | .ex c p ρ1 => match h c with
    | some true => match p with
      | .d q => if i < ρ1.length then (su q (ρ1.set i none) S1).calm.bind fun fl S2 => match fl with
        | .nx ρ2 => .ok (.nx (ρ2.set i none)) S2
        | .bk ρ2 => .ok (.bk (ρ2.set i none)) S2
        | .ct ρ2 => .ok (.ct (ρ2.set i none)) S2
        | .ex _ _ _ => .stuck
        | .rt x => .ok (.rt x) S2
        else .stuck
      | _ => .stuck
    | some false => .ok (.ex c p ρ1) S1
    | none => .stuck
  | fl => .ok fl S1
section
variable {X : Cx} {x n : Str} {i : Nat} {body suite : List Stmt} {b₀ : Stmt} {np pos pos' : Pos} {W : WX} {b : SF} {su : PyData → SF} {sa : Addr → Option Addr → SF} {h : Str → Option Bool}
theorem rs_try (hs : X.stack = X.env :: X.outer) (hf : X.env.frame = some X.env.locals) (hN : X.N.Nodup) (hi : X.N[i]? = some n) (hln : X.env.kindOf n = some .local) (hc : Names X x (.ref (He.ga X.K x))) (tk : Takes X W)
    (hh : ∀ c z, h c = some z → PySem.W.exmOne X.K (.ref (He.ga X.K c)) (.ref (He.ga X.K x)) = some z) (hat : ∀ c, h c = some true → attrOf c = attrOf x ∧ c = x)
    (hb : ∀ (W : WX) (pn : List (Addr × Obj)) (xe : Value → Shared → Prop), Takes (X.tr pn xe) W → PassesOwn (model X.prog X.w) X.A X.env xe → RSs (X.tr pn xe) W body b)
    (hsu : ∀ (a : Addr) (oe : Obj) (d : Option Addr) (pn : List (Addr × Obj)), Zc (.ref (He.ga X.K x)) d oe → (∃ vs, oe.data = .fields vs) → RSs (X.suite a ((a, oe) :: pn)) WF (b₀ :: suite) (sa a d))
    (heq : ∀ (a dd : Addr) (q : PyData) (ρ : Env) (S : Sto), i < ρ.length → ∀ fl S', su q (ρ.set i none) S = .ok fl S' → (∃ fl', sa a (some dd) (ρ.set i (some (.x a dd (attrOf x) q))) S = .ok fl' S' ∧ flEq fl fl')) :
    RS X W (.Try body [.ExceptHandler (some (.Name x np)) (some n) (b₀ :: suite) pos'] [] [] pos) (sTry h i b su) := by
  refine PSof (ps_try_as (c := .ref (He.ga X.K x)) (tb := fun W => tS X.K W b) (ts := fun a cls d => fun D σ H => cls = .ref (He.ga X.K x) ∧ tS X.K WF (sa a d) D σ H) (Wout := W) hs hf hN hi hln hc tk hb (fun a oe cls d pn hz hfl => ⟨fun pins s σ H D I q => ?_⟩)) fun D σ H t => ?_
  · obtain ⟨e, q⟩ := q
    subst e
    exact (hsu a oe d pn hz hfl).run pins s σ H D I q
  · obtain ⟨ρ, S, m, s, t⟩ := t
    refine ⟨ρ, S, m, s, Fin.mono (Fin.bind t) (fun fl S1 m1 H1 e1 k1 t1 => ?_) fun _ _ _ z => z⟩
    cases fl with
    | nx ρ1 => exact fun σ' s' => Fin.here (R := fun fl S' m' H' => EndF X.K W D fl S' m' H') t1 k1 σ' s'
    | rt y => exact Fin.here (R := fun fl S' m' H' => EndF X.K W D fl S' m' H') t1 k1
    | bk ρ1 => exact fun σ' s' => Fin.here (R := fun fl S' m' H' => EndF X.K W D fl S' m' H') t1 k1 σ' s'
    | ct ρ1 => exact fun σ' s' => Fin.here (R := fun fl S' m' H' => EndF X.K W D fl S' m' H') t1 k1 σ' s'
    | ex c p ρ1 =>
      intro σ' dd v s' hd rv
      dsimp only at t1
      split at t1
      · rename_i hcb
        split at t1
        · rename_i q
          obtain ⟨ha, rfl⟩ := hat c hcb
          refine ⟨true, hh _ _ hcb, fun _ a na => ⟨rfl, ?_⟩, fun z => Bool.noConfusion z⟩
          refine ⟨ρ1.set i (some (.x a dd (attrOf c) q)), S1, m1, s'.set (x := .x a dd (attrOf c) q) ⟨rfl, v, hd, rv⟩ i, ?_⟩
          split at t1
          · rename_i hlen
            cases es : su q (ρ1.set i none) S1 with
            | stuck => rw [es] at t1; exact t1.elim
            | exc _ _ _ => rw [es] at t1; exact t1.elim
            | ok fl2 S2 =>
              rw [es] at t1
              obtain ⟨fl', e2, hm⟩ := heq a dd q ρ1 S1 hlen fl2 S2 es
              rw [e2]
              cases fl2 with
              | rt y =>
                cases fl' with
                | rt z => obtain rfl : y = z := hm; exact t1
                | _ => exact (show False from hm).elim
              | _ => exact (show False by revert hm; cases fl' <;> exact id).elim
          · exact t1.elim
        · exact t1.elim
      · rename_i hcb
        refine ⟨false, hh _ _ hcb, fun z => Bool.noConfusion z, fun _ => ?_⟩
        exact Fin.here (R := fun fl S' m' H' => EndF X.K W D fl S' m' H') t1 k1 σ' dd v s' hd rv
      · exact t1.elim
end
end Ev

end
section
namespace Ev
open PySem PySem.Spec PyProof.Rows L2

/-! ### calls of built-in functions and types -/
/-- h answers as r asks -/
def RB (K : Frag) (r : List V → Hp → VK → Prop) (h : DF) : Prop := ∀ (xs : List Vl) (vs : List V) (S : Sto) (m : Mp) (H : Hp) (Q : VK), RpVs K H S m xs vs → Sok K H S m → FinV K (h xs S) S m H Q (fun _ _ _ => False) → r vs H Q
def dCalm (h : DF) : DF := fun xs S => (h xs S).calm
section
variable {X : Cx} {W : WX} {x : Str} {p pos : Pos} {e : Expr} {es : List Expr} {fs : Env → Sto → Out (List Vl)} {id T : String} {r : List V → Hp → VK → Prop} {h : DF}
theorem tE_blt (rb : RB X.K r h) {σ : L2.St} {H : Hp} {Q : VK} (t : tE X.K W (eA (dCalm h) fs) σ H Q) : tCB r (tA X.K W fs) σ H Q := by
  obtain ⟨ρ, S, m, s, t⟩ := t
  exact ⟨ρ, S, m, s, Fin.mono (Fin.bind t) (fun xs S1 m1 H1 e1 k1 t1 vs rvs => rb xs vs S1 m1 H1 Q rvs k1 (Fin.calm t1)) fun _ _ _ z => z⟩
theorem re_blt (hc : CallR X (.builtin id) r) (rb : RB X.K r h) (hv : bootBuiltins x = some (.builtin id)) (hg : Gl X x) (hm : X.mg x = none) (ha : RA X W (e :: es) fs) (hn : x ≠ "__name__" := by decide) (hdb : (x == ("__debug__" : Str)) = false := by decide)
    (he : starEach (e :: es) X.env = (false, eval e X.env) :: starEach es X.env := by rfl) (hpl : (backTo pos (starEach es X.env)).any (·.1) = false := by rfl) : RE X W (.Call (.Name x p) (e :: es) [] pos) (eA (dCalm h) fs) :=
  PEof (pe_callB hc hg hm hv ha hn hdb he hpl) fun _ _ _ t => tE_blt rb t
theorem re_ty (hc : CallR X (.type T) r) (rb : RB X.K r h) (hv : bootBuiltins x = some (.type T)) (hg : Gl X x) (hm : X.mg x = none) (ha : RA X W (e :: es) fs) (hn : x ≠ "__name__" := by decide) (hdb : (x == ("__debug__" : Str)) = false := by decide)
    (he : starEach (e :: es) X.env = (false, eval e X.env) :: starEach es X.env := by rfl) (hpl : (backTo pos (starEach es X.env)).any (·.1) = false := by rfl) : RE X W (.Call (.Name x p) (e :: es) [] pos) (eA (dCalm h) fs) :=
  PEof (pe_callTy hc hg hm hv ha hn hdb he hpl) fun _ _ _ t => tE_blt rb t
end
/-! ### len -/
def lenOf (x : Vl) (S : Sto) : Option Nat := match x with
  | .d (.str z) => if z.length ≤ sizeLine then some z.length else none
  | .d (.list xs) => some xs.length
  | .d (.tuple xs) => some xs.length
  | .z xs => some xs.length
  | .r n => match S[n]? with
    | some (some (.lst xs)) => some xs.length
    | _ => none
  | _ => none
def hLen : DF := fun xs S => match xs with
  | [x] => match lenOf x S with
    | some n => .ok (.d (.int n)) S
    | none => .stuck
  | _ => .stuck
theorem lenOf_rp {K : Frag} {H : Hp} {S : Sto} {m : Mp} {x : Vl} {v : V} {n : Nat} (r : RpV K H S m x v) (k : Sok K H S m) (e : lenOf x S = some n) : LenV K v H n := by
  unfold lenOf at e
  split at e
  · cases r
    split at e
    · rename_i hz; cases e; exact ⟨hz, rfl⟩
    · cases e
  · cases e
    have r' : Rp K H (hid S m) _ v := r
    cases r' with
    | lst h1 h2 h3 => exact .inl ⟨_, SqL.of h1, h3.length⟩
  · cases e
    have r' : Rp K H (hid S m) _ v := r
    cases r' with
    | tup h1 h3 => exact .inr ⟨_, h1, h3.length⟩
  · cases e
    obtain ⟨a, vs, rfl, h1, h2⟩ := r
    exact .inl ⟨_, h1.sql, h2.length⟩
  · obtain ⟨hn, rfl⟩ := r
    split at e
    · rename_i xs q
      cases e
      obtain ⟨vs, h1, h2⟩ := k.at_ _ _ q
      exact .inl ⟨_, SqL.of h1, h2.length⟩
    · cases e
  · cases e
section
variable {K : Frag}
theorem rb_len : RB K (fun xs H Q => ∃ x n, xs = [x] ∧ LenV K x H n ∧ Q (.int n) H) hLen := by
  intro xs vs S m H Q rvs k t
  unfold hLen at t
  split at t
  · cases rvs with
    | cons r1 rr =>
      cases rr
      split at t
      · rename_i n e
        exact ⟨_, n, rfl, lenOf_rp r1 k e, t.at_ k (.int _)⟩
      · exact t.elim
  · exact t.elim
/-! ### int, abs, divmod, bool -/
def hInt : DF := fun xs S => match xs with
  | [.d (.int i)] => .ok (.d (.int i)) S
  | [.d (.bool b)] => .ok (.d (.int (if b then 1 else 0))) S
  | [.d (.str z)] => match PySem.intText? z with
    | some n => if z.length ≤ 640 then .ok (.d (.int n)) S else .stuck
    | none => .stuck
  | _ => .stuck
theorem rb_int : RB K (fun xs H Q => ((∃ i, xs = [.int i] ∧ Q (.int i) H) ∨ ∃ k, xs = [.bl k] ∧ Q (.int (if k then 1 else 0)) H) ∨ ∃ a n, xs = [.str a] ∧ PySem.intText? a = some n ∧ a.length ≤ 640 ∧ Q (.int n) H) hInt := by
  intro xs vs S m H Q rvs k t
  unfold hInt at t
  split at t
  · cases rvs with
    | cons r1 rr => cases rr; cases r1; exact .inl (.inl ⟨_, rfl, t.at_ k (.int _)⟩)
  · cases rvs with
    | cons r1 rr => cases rr; cases r1; exact .inl (.inr ⟨_, rfl, t.at_ k (.int _)⟩)
  · cases rvs with
    | cons r1 rr =>
      cases rr; cases r1
      split at t
      · rename_i n e
        split at t
        · rename_i hz; exact .inr ⟨_, n, rfl, e, hz, t.at_ k (.int _)⟩
        · exact t.elim
      · exact t.elim
  · exact t.elim
def hAbs : DF := fun xs S => match xs with
  | [.d (.int i)] => .ok (.d (.int (if i < 0 then -i else i))) S
  | _ => .stuck
theorem rb_abs : RB K (fun xs H Q => ∃ i, xs = [.int i] ∧ Q (.int (if i < 0 then -i else i)) H) hAbs := by
  intro xs vs S m H Q rvs k t
  unfold hAbs at t
  split at t
  · cases rvs with
    | cons r1 rr => cases rr; cases r1; exact ⟨_, rfl, t.at_ k (.int _)⟩
  · exact t.elim
def hDivmod : DF := fun xs S => match xs with
  | [.d (.int i), .d (.int j)] => if 0 < j ∧ j < 1073741824 then .ok (.d (.tuple [.int (i / j), .int (i % j)])) S else .stuck
  | _ => .stuck
theorem rb_divmod : RB K (fun xs H Q => ∃ i j, xs = [.int i, .int j] ∧ CDiv i j ∧ ∀ p, H p = none → Q (.ref p) (upd H p (.tup [.int (i / j), .int (i % j)]))) hDivmod := by
  intro xs vs S m H Q rvs k t
  unfold hDivmod at t
  split at t
  · cases rvs with
    | cons r1 rr => cases rr with
      | cons r2 rr =>
        cases rr; cases r1; cases r2
        split at t
        · rename_i hj; exact ⟨_, _, rfl, hj, fun p hp => t.tup k (.cons (.int _) (.cons (.int _) .nil)) hp⟩
        · exact t.elim
  · exact t.elim
/-! ### tuple, list -/
def hTuple : DF := fun xs S => match xs with
  | [x] => match asListZ x S with
    | some ds => .ok (.d (.tuple ds)) S
    | none => match asTup x with
      | some ds => .ok (.d (.tuple ds)) S
      | none => .stuck
  | _ => .stuck
theorem rb_tuple : RB K (fun xs H Q => ∃ p ys, xs = [.ref p] ∧ ((SqL K H p ys ∧ ∀ l, H l = none → Q (.ref l) (upd H l (.tup ys))) ∨ (SqT K H p ys ∧ Q (.ref p) H))) hTuple := by
  intro xs vs S m H Q rvs k t
  unfold hTuple at t
  split at t
  · cases rvs with
    | cons r1 rr =>
      cases rr
      split at t
      · rename_i ds e
        obtain ⟨a, vs, rfl, h1, l1⟩ := asListZ_rp r1 k e
        exact ⟨a, vs, rfl, .inl ⟨h1, fun p hp => t.tup k l1 hp⟩⟩
      · split at t
        · rename_i ds e
          obtain ⟨a, vs, rfl, h1, l1⟩ := asTup_rp r1 e
          exact ⟨a, vs, rfl, .inr ⟨h1, t.at_ k (.tup h1 l1)⟩⟩
        · exact t.elim
  · exact t.elim
def hList : DF := fun xs S => match xs with
  | [x] => match asListZ x S with
    | some ds => .ok (.d (.list ds)) S
    | none => match asTup x with
      | some ds => .ok (.d (.list ds)) S
      | none => .stuck
  | _ => .stuck
theorem rb_list : RB K (fun xs H Q => ∃ p ys, xs = [.ref p] ∧ (SqL K H p ys ∨ SqT K H p ys) ∧ ∀ l, H l = none → Q (.ref l) (upd H l (.lst ys))) hList := by
  intro xs vs S m H Q rvs k t
  unfold hList at t
  split at t
  · cases rvs with
    | cons r1 rr =>
      cases rr
      split at t
      · rename_i ds e
        obtain ⟨a, vs, rfl, h1, l1⟩ := asListZ_rp r1 k e
        exact ⟨a, vs, rfl, .inl h1, fun p hp => t.lst k l1 hp⟩
      · split at t
        · rename_i ds e
          obtain ⟨a, vs, rfl, h1, l1⟩ := asTup_rp r1 e
          exact ⟨a, vs, rfl, .inr h1, fun p hp => t.lst k l1 hp⟩
        · exact t.elim
  · exact t.elim
/-! ### all, any, sum -/
def boolsOf : List PyData → Option (List Bool)
  | [] => some []
  | .bool b :: r => (boolsOf r).map (b :: ·)
  | _ :: _ => none
theorem boolsOf_eq : ∀ {ds : List PyData} {bs : List Bool}, boolsOf ds = some bs → ds = bs.map .bool
  | [], bs, e => by cases e; rfl
  | .bool b :: r, bs, e => by
    simp only [boolsOf, Option.map_eq_some_iff] at e
    obtain ⟨bs', e1, rfl⟩ := e
    rw [boolsOf_eq e1]; rfl
theorem RpL.bools {H : Hp} {M : Addr → Prop} : ∀ {bs : List Bool} {vs : List V}, RpL K H M (bs.map PyData.bool) vs → vs = bs.map V.bl
  | [], _, h => by cases h; rfl
  | n :: ns, _, h => by
    cases h with
    | cons h1 h2 => cases h1; rw [RpL.bools h2]; rfl
def hAll : DF := fun xs S => match xs with
  | [x] => match (asListZ x S).bind boolsOf with
    | some bs => .ok (.d (.bool (bs.all fun b => b))) S
    | none => .stuck
  | _ => .stuck
def hAny : DF := fun xs S => match xs with
  | [x] => match (asListZ x S).bind boolsOf with
    | some bs => .ok (.d (.bool (bs.any fun b => b))) S
    | none => .stuck
  | _ => .stuck
theorem rb_all : RB K (rAll K) hAll := by
  intro xs vs S m H Q rvs k t
  unfold hAll at t
  split at t
  · cases rvs with
    | cons r1 rr =>
      cases rr
      split at t
      · rename_i bs e
        obtain ⟨ds, e1, e2⟩ := Option.bind_eq_some_iff.mp e
        obtain ⟨a, vs, rfl, h1, l1⟩ := asListZ_rp r1 k e1
        rw [boolsOf_eq e2] at l1
        rw [RpL.bools l1] at h1
        exact ⟨a, bs, rfl, h1, t.at_ k (.bl _)⟩
      · exact t.elim
  · exact t.elim
theorem rb_any : RB K (rAny K) hAny := by
  intro xs vs S m H Q rvs k t
  unfold hAny at t
  split at t
  · cases rvs with
    | cons r1 rr =>
      cases rr
      split at t
      · rename_i bs e
        obtain ⟨ds, e1, e2⟩ := Option.bind_eq_some_iff.mp e
        obtain ⟨a, vs, rfl, h1, l1⟩ := asListZ_rp r1 k e1
        rw [boolsOf_eq e2] at l1
        rw [RpL.bools l1] at h1
        exact ⟨a, bs, rfl, h1, t.at_ k (.bl _)⟩
      · exact t.elim
  · exact t.elim
def intsOf : List PyData → Option (List Int)
  | [] => some []
  | .int b :: r => (intsOf r).map (b :: ·)
  | _ :: _ => none
theorem intsOf_eq : ∀ {ds : List PyData} {bs : List Int}, intsOf ds = some bs → ds = bs.map .int
  | [], bs, e => by cases e; rfl
  | .int b :: r, bs, e => by
    simp only [intsOf, Option.map_eq_some_iff] at e
    obtain ⟨bs', e1, rfl⟩ := e
    rw [intsOf_eq e1]; rfl
def hSum : DF := fun xs S => match xs with
  | [x] => match (asListZ x S).bind intsOf with
    | some bs => .ok (.d (.int bs.sum)) S
    | none => .stuck
  | _ => .stuck
theorem rb_sum : RB K (rSum K) hSum := by
  intro xs vs S m H Q rvs k t
  unfold hSum at t
  split at t
  · cases rvs with
    | cons r1 rr =>
      cases rr
      split at t
      · rename_i bs e
        obtain ⟨ds, e1, e2⟩ := Option.bind_eq_some_iff.mp e
        obtain ⟨a, vs, rfl, h1, l1⟩ := asListZ_rp r1 k e1
        rw [intsOf_eq e2] at l1
        rw [RpL.ints l1] at h1
        exact ⟨a, bs, rfl, h1, t.at_ k (.int _)⟩
      · exact t.elim
  · exact t.elim
end
section
variable {X : Cx}
theorem c_int : CallR X (.type "int") (fun xs H Q => ((∃ i, xs = [.int i] ∧ Q (.int i) H) ∨ ∃ k, xs = [.bl k] ∧ Q (.int (if k then 1 else 0)) H) ∨ ∃ a n, xs = [.str a] ∧ PySem.intText? a = some n ∧ a.length ≤ 640 ∧ Q (.int n) H) := CallR.or call_int1 call_int_str
end
/-! ### isinstance with one class -/
def tyOf (x : Vl) (S : Sto) : Option String := match x with
  | .d .none => some "NoneType"
  | .d (.bool _) => some "bool"
  | .d (.int _) => some "int"
  | .d (.str _) => some "str"
  | .d (.list _) => some "list"
  | .d (.tuple _) => some "tuple"
  | .d (.dict _) => none
  | .z _ => none
  | .r n => match S[n]? with
    | some (some (.lst _)) => some "list"
    | some (some (.dic _)) => some "dict"
    | _ => none
  | .x _ _ _ _ => none
theorem tyOf_rp {K : Frag} {H : Hp} {S : Sto} {m : Mp} {x : Vl} {v : V} {t : String} (r : RpV K H S m x v) (k : Sok K H S m) (e : tyOf x S = some t) : TyX K H v (.type t) := by
  unfold tyOf at e
  split at e
  · cases e; cases r; exact .base .non
  · cases e; cases r; exact .base (.bl _)
  · cases e; cases r; exact .base (.int _)
  · cases e; cases r; exact .base (.str _)
  · cases e
    have r' : Rp K H (hid S m) _ v := r
    cases r' with
    | lst h1 h2 h3 => exact .base (.lst h1)
  · cases e
    have r' : Rp K H (hid S m) _ v := r
    cases r' with
    | tup h1 h3 =>
      rcases h1 with (h1 | ⟨o, h1⟩) | ⟨o, its, n, h1, h2, _⟩
      · exact .base (.tup h1)
      · exact .fTuple h1
      · exact .kTuple h1 h2
  · cases e
  · cases e
  · obtain ⟨hn, rfl⟩ := r
    split at e
    · rename_i xs q
      cases e
      obtain ⟨vs, h1, h2⟩ := k.at_ _ _ q
      exact .base (.lst h1)
    · rename_i xs q
      cases e
      obtain ⟨vs, h1, h2⟩ := k.at_ _ _ q
      exact .base (.dK h1)
    · cases e
  · cases e
/-- the classes that are asked after -/
inductive Tk where
  | int | bool | str | tuple | list
def Tk.nm : Tk → String
  | .int => "int" | .bool => "bool" | .str => "str" | .tuple => "tuple" | .list => "list"
/-- of the type t, is it c -/
def isTy (t : String) (c : Tk) : Bool := t == c.nm || (t == "bool" && c.nm == "int")
def eIsi (c : Tk) (f : EF) : EF := fun ρ S => (f ρ S).bind fun x S1 => match tyOf x S1 with
  | some t => .ok (.d (.bool (isTy t c))) S1
  | none => .stuck
theorem kit_ty {K : Frag} {x : Vl} {S : Sto} {t : String} (c : Tk) (e : tyOf x S = some t) : PySem.W.kitOne K (.type t) (.type c.nm) = some (isTy t c) := by
  have key : ∀ t ∈ (["NoneType", "bool", "int", "str", "list", "tuple", "dict"] : List String), PySem.W.kitOne K (.type t) (.type c.nm) = some (isTy t c) := by
    intro t ht
    simp only [List.mem_cons, List.not_mem_nil, or_false] at ht
    rcases ht with rfl | rfl | rfl | rfl | rfl | rfl | rfl <;> cases c <;> kernel_rfl
  refine key t ?_
  unfold tyOf at e
  split at e <;> first | (cases e <;> simp; done) | (split at e <;> cases e <;> simp)
section
variable {X : Cx} {W : WX} {p p2 pos : Pos} {e : Expr} {f : EF} {T : Str}
theorem re_isi (c : Tk) (he : RE X W e f) (hg : Gl X "isinstance") (hm : X.mg "isinstance" = none) (hgT : Gl X T) (hmT : X.mg T = none) (hvT : bootBuiltins T = some (.type c.nm)) (hnT : T ≠ "__name__" := by decide) (hdT : (T == ("__debug__" : Str)) = false := by decide)
    (hs1 : starEach [e, .Name T p2] X.env = (false, eval e X.env) :: starEach [.Name T p2] X.env := by rfl) (hs2 : starEach [.Name T p2] X.env = (false, eval (.Name T p2) X.env) :: starEach [] X.env := by rfl) (hpl : (backTo pos (starEach [.Name T p2] X.env)).any (·.1) = false := by rfl) :
    RE X W (.Call (.Name "isinstance" p) [e, .Name T p2] [] pos) (eIsi c f) := by
  refine PEof (pe_callB call_isi hg hm PyProof.Rows.Boot.«isinstance» (pa_cons he (pa_cons (pe_bltn (v := .ty c.nm) hgT hmT hvT rfl hnT hdT) pa_nil hs2) hs1) (by decide) (by decide) hs1 hpl) fun σ H Q ⟨ρ, S, m, s, t⟩ => ?_
  refine ⟨ρ, S, m, s, Fin.mono (Fin.bind t) (fun x S1 m1 H1 e1 k1 t1 v rv => ?_) fun _ _ _ z => z⟩
  split at t1
  · rename_i ty et
    exact ⟨v, .ty c.nm, .type ty, .type c.nm, isTy ty c, rfl, .ty _, tyOf_rp rv k1 et, kit_ty c et, FinV.at_ t1 k1 (.bl _)⟩
  · exact t1.elim
end
end Ev

end
section
namespace Ev
open PySem PySem.Spec PyProof.Rows L2

/-! ### slices -/
abbrev OF := Env → Sto → Out (Option Int)
def oNone : OF := fun _ S => .ok none S
def oSome (f : EF) : OF := fun ρ S => (f ρ S).bind fun x S1 => match x with
  | .d (.int i) => .ok (some i) S1
  | _ => .stuck
def tO (K : Frag) (W : WX) (f : OF) : TO := fun σ H Q => ∃ ρ S m, StR K ρ S m σ H ∧ Fin K (f ρ S) S m H (fun x S' m' H' => Q x H') fun c d H' => W c d σ H'
abbrev RO (X : Cx) (W : WX) (e : Option Expr) (f : OF) : Prop := PO X e (tO X.K W f)
theorem POof {X : Cx} {e : Option Expr} {t t' : TO} (h : PO X e t) (i : ∀ σ H Q, t' σ H Q → t σ H Q) : PO X e t' := ⟨fun pins s σ H Q I q => h.run pins s σ H Q I (i σ H Q q)⟩
section
variable {X : Cx} {W : WX} {e : Expr} {f : EF} {pos p2 : Pos}
theorem ro_none : RO X W none oNone := POof po_none fun σ H Q ⟨ρ, S, m, s, t⟩ => Fin.here (S := S) t s.sto
theorem ro_some (h : RE X W e f) : RO X W (some e) (oSome f) := POof (po_some h) fun σ H Q ⟨ρ, S, m, s, t⟩ => by
  refine ⟨ρ, S, m, s, Fin.mono (Fin.bind t) (fun x S1 m1 H1 e1 k1 t1 v rv => ?_) fun _ _ _ z => z⟩
  split at t1
  · cases rv; exact ⟨_, rfl, Fin.here (S := S1) t1 k1⟩
  · exact t1.elim
def cutD (xs : List PyData) (lo hi : Option Int) : List PyData := (xs.drop (HT.sIx xs.length 0 lo)).take (HT.sIx xs.length xs.length hi - HT.sIx xs.length 0 lo)
theorem cutD_rp {K : Frag} {H : Hp} {M : Addr → Prop} {xs : List PyData} {vs : List V} (l : RpL K H M xs vs) (lo hi : Option Int) : RpL K H M (cutD xs lo hi) (cutV vs lo hi) := by
  unfold cutD cutV
  rw [l.length]
  exact (l.drop _).take _
def hSl (x : Vl) (lo hi : Option Int) (S : Sto) : Out Vl := match asListZ x S with
  | some ds => .ok (.d (.list (cutD ds lo hi))) S
  | none => match x with
    | .d (.tuple ds) => .ok (.d (.tuple (cutD ds lo hi))) S
    | .d (.str z) => if z.length ≤ sizeLine then .ok (.d (.str (cutS z lo hi))) S else .stuck
    | _ => .stuck
def eSl (f : EF) (l h : OF) : EF := fun ρ S => (f ρ S).bind fun x S1 => (l ρ S1).bind fun lo S2 => (h ρ S2).bind fun hi S3 => (hSl x lo hi S3).calm
theorem cutD_whole {xs : List PyData} {lo hi : Option Int} (h : HT.sIx xs.length 0 lo = 0 ∧ HT.sIx xs.length xs.length hi = xs.length) : cutD xs lo hi = xs := by
  unfold cutD
  rw [h.1, h.2]; simp
theorem re_sl {l h : OF} {lo hi : Option Expr} (he : RE X W e f) (hl : RO X W lo l) (hh : RO X W hi h) : RE X W (.Subscript e (.Slice lo hi none p2) pos) (eSl f l h) := by
  refine PEof (pe_slice (SlR.or sl_list (SlR.or sl_tupA sl_str)) he hl hh) fun σ H Q ⟨ρ, S, m, s, t⟩ => ?_
  refine ⟨ρ, S, m, s, Fin.mono (Fin.bind t) (fun x S1 m1 H1 e1 k1 t1 v rv => ?_) fun _ _ _ z => z⟩
  have s1 := s.ext e1 k1
  refine ⟨ρ, S1, m1, s1, Fin.mono (Fin.bind t1) (fun lo S2 m2 H2 e2 k2 t2 => ?_) fun _ _ _ z => z⟩
  have s2 := s1.ext e2 k2
  refine ⟨ρ, S2, m2, s2, Fin.mono (Fin.bind t2) (fun hi S3 m3 H3 e3 k3 t3 => ?_) fun _ _ _ z => z⟩
  have r3 := (rv.ext e2 k1).ext e3 k2
  have t4 : FinV X.K (hSl x lo hi S3) S3 m3 H3 Q fun _ _ _ => False := Fin.calm t3
  unfold hSl at t4
  split at t4
  · rename_i ds q
    obtain ⟨a, vs, rfl, h1, l1⟩ := asListZ_rp r3 k3 q
    exact .inl ⟨a, vs, rfl, h1, fun p hp => t4.lst k3 (cutD_rp l1 lo hi) hp⟩
  · split at t4
    · rename_i ds q
      obtain ⟨a, vs, rfl, h1, l1⟩ := asTup_rp (xs := ds) r3 rfl
      have hl := l1.length
      refine .inr (.inl ⟨a, vs, rfl, h1, fun hw => ?_, fun hw p hp => t4.tup k3 (cutD_rp l1 lo hi) hp⟩)
      rw [← hl] at hw
      rw [cutD_whole hw] at t4
      exact t4.at_ k3 r3
    · split at t4
      · rename_i hz
        cases r3
        exact .inr (.inr ⟨_, rfl, hz, t4.at_ k3 (.str _)⟩)
      · exact t4.elim
    · exact t4.elim
/-! ### xs[::-1] of a list -/
def hRevL (x : Vl) (S : Sto) : Out Vl := match asListZ x S with
  | some ds => .ok (.d (.list ds.reverse)) S
  | none => .stuck
def eRevL (f : EF) : EF := fun ρ S => (f ρ S).bind fun x S1 => (hRevL x S1).calm
theorem re_revL {k : Nat} {p1 p3 : Pos} (he : RE X W e f) : RE X W (.Subscript e (.Slice none none (some (.UnaryOp .USub (.Constant (.int 1) k p1) p2)) p3) pos) (eRevL f) := by
  refine PEof (pe_revL he) fun σ H Q ⟨ρ, S, m, s, t⟩ => ?_
  refine ⟨ρ, S, m, s, Fin.mono (Fin.bind t) (fun x S1 m1 H1 e1 k1 t1 v rv => ?_) fun _ _ _ z => z⟩
  have t2 : FinV X.K (hRevL x S1) S1 m1 H1 Q fun _ _ _ => False := Fin.calm t1
  unfold hRevL at t2
  split at t2
  · rename_i ds q
    obtain ⟨a, vs, rfl, h1, l1⟩ := asListZ_rp rv k1 q
    exact ⟨a, vs, rfl, h1, fun p hp => t2.lst k1 l1.reverse hp⟩
  · exact t2.elim
/-! ### a changed list that is changed no more -/
theorem Fin.frz {K : Frag} {H : Hp} {S : Sto} {m : Mp} {n : Nat} {o : SO} (k : Sok K H S m) (h : S[n]? = some (some o)) : Xt H S m H (S.set n none) m ∧ Sok K H (S.set n none) m := by
  have hn := (List.getElem?_eq_some_iff.mp h).1
  have lv : ∀ a, live (S.set n none) m a → live S m a := by
    rintro a ⟨j, u, hj, e⟩
    by_cases q : n = j
    · subst q; rw [List.getElem?_set_self hn] at hj; cases hj
    · rw [List.getElem?_set_ne q] at hj; exact ⟨j, u, hj, e⟩
  have old : ∀ (j : Nat) (u : SO), (S.set n none)[j]? = some (some u) → S[j]? = some (some u) := by
    intro j u hj
    by_cases q : n = j
    · subst q; rw [List.getElem?_set_self hn] at hj; cases hj
    · rw [List.getElem?_set_ne q] at hj; exact hj
  have x : Xt H S m H (S.set n none) m := ⟨by simp, fun _ _ => rfl, rfl, fun a u e q => ⟨e, fun z => q (lv a z)⟩⟩
  exact ⟨x, ⟨fun j u hj => (k.at_ j u (old j u hj)).ext x.kp (x.kpT k) fun _ e => e, fun i j oi oj hi hj e => k.inj i j oi oj (old i oi hi) (old j oj hj) e, x.zs k.zs⟩⟩
def hFrz (x : Vl) (S : Sto) : Out Vl := match x with
  | .r n => match S[n]? with
    | some (some (.lst xs)) => .ok (.d (.list xs)) (S.set n none)
    | _ => .stuck
  | _ => .stuck
def eFrz (f : EF) : EF := fun ρ S => (f ρ S).bind hFrz
theorem re_frz (he : RE X W e f) : RE X W e (eFrz f) := by
  refine PEof he fun σ H Q ⟨ρ, S, m, s, t⟩ => ?_
  refine ⟨ρ, S, m, s, Fin.mono (Fin.bind t) (fun x S1 m1 H1 e1 k1 t1 v rv => ?_) fun _ _ _ z => z⟩
  unfold hFrz at t1
  split at t1
  · split at t1
    · rename_i n _ xs q
      obtain ⟨x2, k2⟩ := Fin.frz k1 q
      obtain ⟨hn, rfl⟩ := rv
      obtain ⟨vs, h1, h2⟩ := k1.at_ _ _ q
      refine t1 m1 H1 x2 k2 _ (.lst h1 (fun z => ?_) (RpL.ext x2.kp (x2.kpT k1) _ h2))
      rcases z with ⟨j, u, hj, e⟩ | z
      · by_cases qq : n = j
        · subst qq; rw [List.getElem?_set_self (List.getElem?_eq_some_iff.mp q).1] at hj; cases hj
        · rw [List.getElem?_set_ne qq] at hj
          exact qq (k1.inj _ _ _ _ q hj e.symm)
      · exact (k1.zs _ z).2 ⟨n, _, q, rfl⟩
    · exact t1.elim
  · exact t1.elim
/-! ### methods of a text with one argument -/
variable {id : String} {name : Str} {apos : Pos} {o a : Expr} {g : EF} {r : V → List V → Hp → VK → Prop}
def eM1 (h : Str → Vl → Sto → Out Vl) (f g : EF) : EF := fun ρ S => (f ρ S).bind fun x S1 => match x with
  | .d (.str z) => (g ρ S1).bind fun y S2 => (h z y S2).calm
  | _ => .stuck
theorem re_m1 {h : Str → Vl → Sto → Out Vl} (slot : Slot "str" name id) (ty : typeOf (.builtin id) = pure (.type "method_descriptor")) (rule : MtR X id r)
    (rb : ∀ (z : Str) (y : Vl) (u : V) (S : Sto) (m : Mp) (H : Hp) (Q : VK), RpV X.K H S m y u → Sok X.K H S m → FinV X.K (h z y S) S m H Q (fun _ _ _ => False) → r (.str z) [u] H Q)
    (ho : RE X W o f) (ha : RE X W a g) (hs : starEach [a] X.env = [(false, eval a X.env)] := by rfl) (hbase : attributeBase o name X.env (eval o X.env) = eval o X.env := by rfl) (hline : (apos.endLine == pos.line) = true := by rfl) :
    RE X W (.Call (.Attribute o name apos) [a] [] pos) (eM1 h f g) := by
  refine PEof (pe_m1 slot ty rule ho ha hs hbase hline) fun σ H Q ⟨ρ, S, m, s, t⟩ => ?_
  refine ⟨ρ, S, m, s, Fin.mono (Fin.bind t) (fun x S1 m1 H1 e1 k1 t1 v rv => ?_) fun _ _ _ z => z⟩
  split at t1
  · cases rv
    exact ⟨⟨_, rfl⟩, ρ, S1, m1, s.ext e1 k1, Fin.mono (Fin.bind t1) (fun y S2 m2 H2 e2 k2 t2 u ru => rb _ y u S2 m2 H2 Q ru k2 (Fin.calm t2)) fun _ _ _ z => z⟩
  · exact t1.elim
def strsOf : List PyData → Option (List Str)
  | [] => some []
  | .str b :: r => (strsOf r).map (b :: ·)
  | _ :: _ => none
theorem strsOf_eq : ∀ {ds : List PyData} {bs : List Str}, strsOf ds = some bs → ds = bs.map .str
  | [], bs, e => by cases e; rfl
  | .str b :: r, bs, e => by
    simp only [strsOf, Option.map_eq_some_iff] at e
    obtain ⟨bs', e1, rfl⟩ := e
    rw [strsOf_eq e1]; rfl
theorem strsOf_map : ∀ bs : List Str, strsOf (bs.map .str) = some bs
  | [] => rfl
  | b :: r => by simp [strsOf, strsOf_map r]
def hJoin (z : Str) (y : Vl) (S : Sto) : Out Vl := match ((asListZ y S).or (asTup y)).bind strsOf with
  | some ys => if (ys.map (·.length)).sum + ys.length * z.length ≤ 16777216 then .ok (.d (.str (Txt.join z ys))) S else .stuck
  | none => .stuck
theorem re_join (ho : RE X W o f) (ha : RE X W a g) (hs : starEach [a] X.env = [(false, eval a X.env)] := by rfl) (hbase : attributeBase o "join" X.env (eval o X.env) = eval o X.env := by rfl) (hline : (apos.endLine == pos.line) = true := by rfl) :
    RE X W (.Call (.Attribute o "join" apos) [a] [] pos) (eM1 hJoin f g) := by
  refine re_m1 F.slot_str_join F.type_str_join mt_join (fun z y u S m H Q ru k t => ?_) ho ha hs hbase hline
  unfold hJoin at t
  split at t
  · rename_i ys q
    obtain ⟨ds, q1, q2⟩ := Option.bind_eq_some_iff.mp q
    split at t
    · rename_i hz
      have e := strsOf_eq q2
      subst e
      rcases Option.or_eq_some_iff.mp q1 with q1 | ⟨_, q1⟩
      · obtain ⟨a, vs, rfl, h1, l1⟩ := asListZ_rp ru k q1
        rw [l1.strs] at h1
        exact ⟨z, a, ys, rfl, rfl, .inl h1, hz, t.at_ k (.str _)⟩
      · obtain ⟨a, vs, rfl, h1, l1⟩ := asTup_rp ru q1
        rw [l1.strs] at h1
        exact ⟨z, a, ys, rfl, rfl, .inr h1, hz, t.at_ k (.str _)⟩
    · exact t.elim
  · exact t.elim
def hSplit (z : Str) (y : Vl) (S : Sto) : Out Vl := match y with
  | .d (.str b) => if (b.length == 0) = false ∧ z.length + 2 ≤ sizeLine then .ok (.d (.list ((Txt.split z b).map .str))) S else .stuck
  | _ => .stuck
theorem re_split (ho : RE X W o f) (ha : RE X W a g) (hs : starEach [a] X.env = [(false, eval a X.env)] := by rfl) (hbase : attributeBase o "split" X.env (eval o X.env) = eval o X.env := by rfl) (hline : (apos.endLine == pos.line) = true := by rfl) :
    RE X W (.Call (.Attribute o "split" apos) [a] [] pos) (eM1 hSplit f g) := by
  refine re_m1 F.slot_str_split F.type_str_split mt_split (fun z y u S m H Q ru k t => ?_) ho ha hs hbase hline
  unfold hSplit at t
  split at t
  · split at t
    · rename_i hz
      cases ru
      exact ⟨z, _, rfl, rfl, hz.1, hz.2, fun p hp => t.lst k (RpL.of_strs _) hp⟩
    · exact t.elim
  · exact t.elim
def hIndexS (z : Str) (y : Vl) (S : Sto) : Out Vl := match y with
  | .d (.str b) => match Builtin.Str.occurrences z b 0 z.length 1 with
    | i :: _ => .ok (.d (.int (i : Nat))) S
    | [] => .stuck
  | _ => .stuck
theorem re_indexS (ho : RE X W o f) (ha : RE X W a g) (hs : starEach [a] X.env = [(false, eval a X.env)] := by rfl) (hbase : attributeBase o "index" X.env (eval o X.env) = eval o X.env := by rfl) (hline : (apos.endLine == pos.line) = true := by rfl) :
    RE X W (.Call (.Attribute o "index" apos) [a] [] pos) (eM1 hIndexS f g) := by
  refine re_m1 F.slot_str_index F.type_str_index mt_sindex (fun z y u S m H Q ru k t => ?_) ho ha hs hbase hline
  unfold hIndexS at t
  split at t
  · split at t
    · rename_i i rest q
      cases ru
      exact ⟨z, _, i, rest, rfl, rfl, q, t.at_ k (.int _)⟩
    · exact t.elim
  · exact t.elim
/-! ### xs.append(e) -/
def hAppend (n : Nat) (y : Vl) (S : Sto) : Out Vl := match S[n]?, y with
  | some (some (.lst xs)), .d d => if xs.length < sizeLine then .ok (.d .none) (S.set n (some (.lst (xs ++ [d])))) else .stuck
  | _, _ => .stuck
def eAppend (f g : EF) : EF := fun ρ S => (f ρ S).bind fun x S1 => match x with
  | .r n => match S1[n]? with
    | some (some (.lst _)) => (g ρ S1).bind fun y S2 => (hAppend n y S2).calm
    | _ => .stuck
  | _ => .stuck
theorem re_append (ho : RE X W o f) (ha : RE X W a g) (hs : starEach [a] X.env = (false, eval a X.env) :: starEach [] X.env := by rfl) (hbase : attributeBase o "append" X.env (eval o X.env) = eval o X.env := by rfl)
    (hfew : ((backTo pos (starEach (a :: []) X.env)).all (fun x => !x.1) && (backToKw pos (keywordEach [] X.env)).all (fun x => x.1.isSome)
      && decide ((a :: []).length + ([] : List Keyword).length + (if ([] : List Keyword).isEmpty then 0 else 1) < 30)) = true := by rfl)
    (hline : (apos.endLine == pos.line) = true := by rfl) (hplain : (backTo pos (starEach [] X.env)).any (·.1) = false := by rfl) :
    RE X W (.Call (.Attribute o "append" apos) [a] [] pos) (eAppend f g) := by
  refine PEof (pe_bm F.plainAttrs_list F.slot_list_append F.type_list_append mt_append ho (ra_cons ha ra_nil hs) hbase hfew hline hs hplain) fun σ H Q ⟨ρ, S, m, s, t⟩ => ?_
  refine ⟨ρ, S, m, s, Fin.mono (Fin.bind t) (fun x S1 m1 H1 e1 k1 t1 v rv => ?_) fun _ _ _ z => z⟩
  split at t1
  · split at t1
    · rename_i n _ xs q
      obtain ⟨hn, rfl⟩ := rv
      obtain ⟨vs, h1, h2⟩ := k1.at_ _ _ q
      refine ⟨.inl ⟨rfl, vs, SqL.of h1⟩, ρ, S1, m1, s.ext e1 k1, ?_⟩
      show Fin X.K ((g ρ S1).bind fun y S2 => .ok [y] S2) S1 m1 H1 _ _
      have t2 := Fin.bind t1
      revert t2
      cases g ρ S1 with
      | stuck => exact fun z => z
      | exc c' p' S' => exact fun z => z
      | ok y S2 =>
        intro t2 m2 H2 e2 k2 us rus
        have t3 := t2 m2 H2 e2 k2
        cases rus with
        | @cons _ _ u0 _ r1 rn =>
          cases rn
          have t4 : FinV X.K (hAppend n y S2) S2 m2 H2 Q fun _ _ _ => False := Fin.calm t3
          unfold hAppend at t4
          split at t4
          · rename_i xs2 d q2
            split at t4
            · rename_i hz
              obtain ⟨vs2, h3, h4⟩ := k2.at_ _ _ q2
              have em : m2.f n = m1.f n := e2.mp n hn
              refine ⟨m1.f n, vs2, _, rfl, rfl, by rw [← em]; exact h3, by rw [← h4.length]; exact hz, ?_⟩
              rw [← em]
              have x3 : Xt H2 S2 m2 (upd H2 (m2.f n) (.lst (vs2 ++ [u0]))) (S2.set n (some (.lst (xs2 ++ [d])))) m2 := .set q2
              exact t4 m2 _ x3 (k2.set q2 ⟨_, upd_same, RpL.ext x3.kp (x3.kpT k2) _ (h4.append (.cons r1 .nil))⟩) _ .non
            · exact t4.elim
          · exact t4.elim
    · exact t1.elim
  · exact t1.elim
end
end Ev

end
section
namespace Ev
open PySem PySem.Spec PyProof.Rows L2

/-! ### lists and tuples that stay -/
def lstOf (x : Vl) : Option (List PyData) := match x with
  | .d (.list xs) => some xs
  | .z xs => some xs
  | _ => none
section
variable {K : Frag} {H : Hp} {S : Sto} {m : Mp}
theorem lstOf_rp {x : Vl} {v : V} {ds : List PyData} (r : RpV K H S m x v) (e : lstOf x = some ds) : ∃ a vs, v = .ref a ∧ RpL K H (hid S m) ds vs ∧ ∀ S' m' H', Xw K H S m H' S' m' → SqL K H' a vs := by
  unfold lstOf at e
  split at e
  · cases e
    have r' : Rp K H (hid S m) _ v := r
    cases r' with
    | lst h1 h2 h3 => exact ⟨_, _, rfl, h3, fun S' m' H' w => SqL.of (w.kp _ _ h1 h2).1⟩
  · cases e
    obtain ⟨a, vs, rfl, h1, h2⟩ := r
    exact ⟨a, vs, rfl, h2, fun S' m' H' w => (h1.keep fun o h => w.frz a _ _ h).sql⟩
  · cases e
theorem asTup_stay {x : Vl} {v : V} {ds : List PyData} (r : RpV K H S m x v) (e : asTup x = some ds) : ∃ a vs, v = .ref a ∧ RpL K H (hid S m) ds vs ∧ ∀ S' m' H', Xw K H S m H' S' m' → SqT K H' a vs := by
  obtain ⟨a, vs, rfl, h1, l1⟩ := asTup_rp r e
  exact ⟨a, vs, rfl, l1, fun S' m' H' w => w.kpT _ _ h1⟩
def pairs : List PyData → List PyData → List Vl
  | x :: xs, y :: ys => .d (.tuple [x, y]) :: pairs xs ys
  | _, _ => []
theorem pairs_get : ∀ {xs ys : List PyData} {i : Nat} {z : Vl}, (pairs xs ys)[i]? = some z → ∃ x y, xs[i]? = some x ∧ ys[i]? = some y ∧ z = .d (.tuple [x, y])
  | [], _, _, _, h => by simp [pairs] at h
  | _ :: _, [], _, _, h => by simp [pairs] at h
  | x :: xs, y :: ys, 0, z, h => by simp [pairs] at h; exact ⟨x, y, rfl, rfl, h.symm⟩
  | x :: xs, y :: ys, i + 1, z, h => by
    obtain ⟨a, b, h1, h2, h3⟩ := pairs_get (i := i) (show (pairs xs ys)[i]? = some z by simpa [pairs] using h)
    exact ⟨a, b, by simpa using h1, by simpa using h2, h3⟩
theorem pairs_len : ∀ {xs ys : List PyData} {i : Nat}, (pairs xs ys).length ≤ i → xs.length ≤ i ∨ ys.length ≤ i
  | [], _, _, _ => .inl (Nat.zero_le _)
  | _ :: _, [], _, _ => .inr (Nat.zero_le _)
  | x :: xs, y :: ys, 0, h => by simp [pairs] at h
  | x :: xs, y :: ys, i + 1, h => by
    rcases pairs_len (xs := xs) (ys := ys) (i := i) (by simpa [pairs] using h) with q | q
    · exact .inl (by simpa using q)
    · exact .inr (by simpa using q)
theorem new_pair {H' : Hp} {S' : Sto} {m' : Mp} {T : Addr} {x y : PyData} {v u : V} (k : Sok K H' S' m') (hT : H' T = none) (r1 : Rp K H' (hid S' m') x v) (r2 : Rp K H' (hid S' m') y u) :
    Xt H' S' m' (upd H' T (.tup [v, u])) S' m' ∧ Sok K (upd H' T (.tup [v, u])) S' m' ∧ RpV K (upd H' T (.tup [v, u])) S' m' (.d (.tuple [x, y])) (.ref T) :=
  ⟨.new hT, k.new hT, Rp.newTup k hT (.cons r1 (.cons r2 .nil))⟩
theorem yl_zip {a b : Addr} {ds es : List PyData} {vs us : List V} (l1 : RpL K H (hid S m) ds vs) (l2 : RpL K H (hid S m) es us) (h1 : ∀ S' m' H', Xw K H S m H' S' m' → SqL K H' a vs) (h2 : ∀ S' m' H', Xw K H S m H' S' m' → SqL K H' b us) :
    Yl K (Itz K a b) (pairs ds es) S m H := by
  intro S' m' H' w k i
  have q1 := h1 _ _ _ w
  have q2 := h2 _ _ _ w
  have l1' := RpL.ext w.kp w.kpT ds l1
  have l2' := RpL.ext w.kp w.kpT es l2
  refine ⟨fun z hz => ?_, fun hi => ⟨vs, us, q1, q2, ?_⟩⟩
  · obtain ⟨x, y, e1, e2, rfl⟩ := pairs_get hz
    obtain ⟨v, hv, rv⟩ := l1'.get e1
    obtain ⟨u, hu, ru⟩ := l2'.get e2
    refine ⟨⟨vs, us, v, u, q1, q2, hv, hu⟩, fun y' H2 ⟨T, v', u', e3, hT, e4, f1, f2⟩ => ?_⟩
    subst e3 e4
    have g1 := f1 vs q1
    have g2 := f2 us q2
    rw [hv] at g1
    rw [hu] at g2
    cases g1
    cases g2
    exact new_pair k hT rv ru
  · rcases pairs_len hi with q | q
    · exact .inl (by rw [← l1.length]; exact q)
    · exact .inr (by rw [← l2.length]; exact q)
theorem yl_zipT {a b : Addr} {ds es : List PyData} {vs us : List V} (l1 : RpL K H (hid S m) ds vs) (l2 : RpL K H (hid S m) es us) (h1 : ∀ S' m' H', Xw K H S m H' S' m' → SqT K H' a vs) (h2 : ∀ S' m' H', Xw K H S m H' S' m' → SqT K H' b us) :
    Yl K (RZ.ItzT K a b) (pairs ds es) S m H := by
  intro S' m' H' w k i
  have q1 := h1 _ _ _ w
  have q2 := h2 _ _ _ w
  have l1' := RpL.ext w.kp w.kpT ds l1
  have l2' := RpL.ext w.kp w.kpT es l2
  refine ⟨fun z hz => ?_, fun hi => ⟨vs, us, q1, q2, ?_⟩⟩
  · obtain ⟨x, y, e1, e2, rfl⟩ := pairs_get hz
    obtain ⟨v, hv, rv⟩ := l1'.get e1
    obtain ⟨u, hu, ru⟩ := l2'.get e2
    refine ⟨⟨vs, us, v, u, q1, q2, hv, hu⟩, fun y' H2 ⟨T, v', u', e3, hT, e4, f1, f2⟩ => ?_⟩
    subst e3 e4
    have g1 := f1 vs q1
    have g2 := f2 us q2
    rw [hv] at g1
    rw [hu] at g2
    cases g1
    cases g2
    exact new_pair k hT rv ru
  · rcases pairs_len hi with q | q
    · exact .inl (by rw [← l1.length]; exact q)
    · exact .inr (by rw [← l2.length]; exact q)
/-- the numbered items -/
def numbered : Nat → List PyData → List Vl
  | _, [] => []
  | i, x :: xs => .d (.tuple [.int (i : Nat), x]) :: numbered (i + 1) xs
theorem numbered_get : ∀ {xs : List PyData} {j i : Nat} {z : Vl}, (numbered j xs)[i]? = some z → ∃ x, xs[i]? = some x ∧ z = .d (.tuple [.int ((j + i : Nat) : Int), x])
  | [], _, _, _, h => by simp [numbered] at h
  | x :: xs, j, 0, z, h => by simp [numbered] at h; exact ⟨x, rfl, h.symm⟩
  | x :: xs, j, i + 1, z, h => by
    obtain ⟨a, h1, h2⟩ := numbered_get (j := j + 1) (i := i) (show (numbered (j + 1) xs)[i]? = some z by simpa [numbered] using h)
    exact ⟨a, by simpa using h1, by rw [h2, Nat.add_right_comm]; rfl⟩
theorem numbered_len : ∀ (xs : List PyData) (j : Nat), (numbered j xs).length = xs.length
  | [], _ => rfl
  | x :: xs, j => by simp [numbered, numbered_len xs (j + 1)]
theorem yl_enum {a : Addr} {ds : List PyData} {vs : List V} (l1 : RpL K H (hid S m) ds vs) (h1 : ∀ S' m' H', Xw K H S m H' S' m' → SqL K H' a vs) : Yl K (Ite K a) (numbered 0 ds) S m H := by
  intro S' m' H' w k i
  have q1 := h1 _ _ _ w
  have l1' := RpL.ext w.kp w.kpT ds l1
  refine ⟨fun z hz => ?_, fun hi => ⟨vs, q1, by rw [← l1.length, ← numbered_len ds 0]; exact hi⟩⟩
  obtain ⟨x, e1, rfl⟩ := numbered_get hz
  obtain ⟨v, hv, rv⟩ := l1'.get e1
  refine ⟨⟨vs, v, q1, hv⟩, fun y' H2 ⟨T, v', e3, hT, e4, f1⟩ => ?_⟩
  subst e3 e4
  have g1 := f1 vs q1
  rw [hv] at g1
  cases g1
  have := new_pair k hT (.int ((0 + i : Nat) : Int)) rv
  rw [Nat.zero_add] at this
  rw [Nat.zero_add]
  exact this
end
def iZip (f g : EF) : Env → Sto → Out (List Vl) := fun ρ S => (f ρ S).bind fun x S1 => (g ρ S1).bind fun y S2 => match lstOf x, lstOf y with
  | some xs, some ys => .ok (pairs xs ys) S2
  | _, _ => match asTup x, asTup y with
    | some xs, some ys => .ok (pairs xs ys) S2
    | _, _ => .stuck
section
variable {X : Cx} {W : WX} {e e2 : Expr} {f g : EF} {p pos tpos : Pos} {elts : List Expr} {kk : Nat}
theorem ri_zip (hg : Gl X "zip") (hm : X.mg "zip" = none) (ha : RE X W e f) (hb : RE X W e2 g) (hs : starEach [e, e2] X.env = (false, eval e X.env) :: starEach [e2] X.env := by rfl) (hs2 : starEach [e2] X.env = (false, eval e2 X.env) :: starEach [] X.env := by rfl)
    (hpl : (backTo pos (starEach [e2] X.env)).any (·.1) = false := by rfl) : RI X W (.Tuple elts kk tpos) (.Call (.Name "zip" p) [e, e2] [] pos) (iZip f g) := by
  refine PIof (RZ.pi_zipA hg hm (pa_cons ha (pa_cons hb pa_nil hs2) hs) hs hpl) fun σ H R ⟨ρ, S, m, s, t⟩ => ?_
  refine ⟨ρ, S, m, s, Fin.mono (Fin.bind t) (fun x S1 m1 H1 e1 k1 t1 v rv => ?_) fun _ _ _ z => z⟩
  refine ⟨ρ, S1, m1, s.ext e1 k1, Fin.mono (Fin.bind t1) (fun y S2 m2 H2 e2 k2 t2 u ru => ?_) fun _ _ _ z => z⟩
  have rv2 := rv.ext e2 k1
  split at t2
  · rename_i xs ys q1 q2
    obtain ⟨a, vs, rfl, l1, h1⟩ := lstOf_rp rv2 q1
    obtain ⟨b, us, rfl, l2, h2⟩ := lstOf_rp ru q2
    have w0 := (Xt.refl (H := H2) (S := S2) (m := m2)).w k2
    exact ⟨a, b, vs, us, rfl, .inl ⟨h1 _ _ _ w0, h2 _ _ _ w0, Fin.here (R := fun xs S' m' H' => ∀ J, Yl X.K J xs S' m' H' → R J H') t2 k2 _ (yl_zip l1 l2 h1 h2)⟩⟩
  · split at t2
    · rename_i xs ys q1 q2
      obtain ⟨a, vs, rfl, l1, h1⟩ := asTup_stay rv2 q1
      obtain ⟨b, us, rfl, l2, h2⟩ := asTup_stay ru q2
      have w0 := (Xt.refl (H := H2) (S := S2) (m := m2)).w k2
      exact ⟨a, b, vs, us, rfl, .inr ⟨h1 _ _ _ w0, h2 _ _ _ w0, Fin.here (R := fun xs S' m' H' => ∀ J, Yl X.K J xs S' m' H' → R J H') t2 k2 _ (yl_zipT l1 l2 h1 h2)⟩⟩
    · exact t2.elim
def iEnumL (f : EF) : Env → Sto → Out (List Vl) := fun ρ S => (f ρ S).bind fun x S1 => match lstOf x with
  | some xs => .ok (numbered 0 xs) S1
  | none => .stuck
theorem ri_enumL (hg : Gl X "enumerate") (hm : X.mg "enumerate" = none) (ha : RE X W e f) (hs : starEach [e] X.env = [(false, eval e X.env)] := by rfl) : RI X W (.Tuple elts kk tpos) (.Call (.Name "enumerate" p) [e] [] pos) (iEnumL f) := by
  refine PIof (pi_enum hg hm (pa_cons ha pa_nil hs) hs) fun σ H R ⟨ρ, S, m, s, t⟩ => ?_
  refine ⟨ρ, S, m, s, Fin.mono (Fin.bind t) (fun x S1 m1 H1 e1 k1 t1 v rv => ?_) fun _ _ _ z => z⟩
  split at t1
  · rename_i xs q1
    obtain ⟨a, vs, rfl, l1, h1⟩ := lstOf_rp rv q1
    exact ⟨a, vs, rfl, h1 _ _ _ ((Xt.refl (H := H1) (S := S1) (m := m1)).w k1), Fin.here (R := fun xs S' m' H' => ∀ J, Yl X.K J xs S' m' H' → R J H') t1 k1 _ (yl_enum l1 h1)⟩
  · exact t1.elim
/-! ### list(range(e)), list(range(a, b)) -/
def rgD (a b : Int) : List PyData := (List.range (b - a).toNat).map fun i => PyData.int (a + (i : Nat))
theorem rgD_rp {K : Frag} {H : Hp} {M : Addr → Prop} (a b : Int) : RpL K H M (rgD a b) (rgV a b) := by
  unfold rgD rgV
  induction List.range (b - a).toNat with
  | nil => exact .nil
  | cons i r ih => exact .cons (.int _) ih
def okRg (a b : Int) : Bool := decide (-(2 ^ 62) ≤ a ∧ a < 2 ^ 62 ∧ -(2 ^ 62) ≤ b ∧ b < 2 ^ 62 ∧ (b - a).toNat ≤ 2 ^ 24)
def eLstRg (f : EF) : EF := fun ρ S => (f ρ S).bind fun x S1 => match x with
  | .d (.int n) => if okRg 0 n = true then .ok (.d (.list (rgD 0 n))) S1 else .stuck
  | _ => .stuck
theorem re_lstRg {p2 pos2 : Pos} (hc : X.calm = true) (hg : Gl X "list") (hm : X.mg "list" = none) (hg2 : Gl X "range") (hm2 : X.mg "range" = none) (he : RE X W e f) (na : starEach [e] X.env = (false, eval e X.env) :: starEach [] X.env := by rfl)
    (na2 : starEach [.Call (.Name "range" p2) [e] [] pos2] X.env = (false, eval (.Call (.Name "range" p2) [e] [] pos2) X.env) :: starEach [] X.env := by rfl) :
    RE X W (.Call (.Name "list" p) [.Call (.Name "range" p2) [e] [] pos2] [] pos) (eLstRg f) := by
  refine PEof (pe_listRg hc hg hm (prg_1 hg2 hm2 he na) na2) fun σ H Q ⟨ρ, S, m, s, t⟩ => ?_
  refine ⟨ρ, S, m, s, Fin.mono (Fin.bind t) (fun x S1 m1 H1 e1 k1 t1 v rv => ?_) fun _ _ _ z => z⟩
  split at t1
  · split at t1
    · rename_i n hz
      cases rv
      exact ⟨n, rfl, of_decide_eq_true (p := -(2 ^ 62) ≤ (0 : Int) ∧ (0 : Int) < 2 ^ 62 ∧ -(2 ^ 62) ≤ n ∧ n < 2 ^ 62 ∧ (n - 0).toNat ≤ 2 ^ 24) hz, fun q hq => FinV.lst t1 k1 (rgD_rp 0 n) hq⟩
    · exact t1.elim
  · exact t1.elim
/-! ### f-strings -/
def eFmt (f : EF) : EF := fun ρ S => (f ρ S).bind fun x S1 => match x with
  | .d (.str y) => if y.length ≤ sizeLine then .ok (.d (.str y)) S1 else .stuck
  | .d (.int i) => if i.natAbs.log2 < 1920 then .ok (.d (.str (toString i))) S1 else .stuck
  | _ => .stuck
theorem re_fmt (he : RE X W e f) : RE X W (.FormattedValue e (-1) none pos) (eFmt f) := by
  refine PEof (pe_fmt he) fun σ H Q ⟨ρ, S, m, s, t⟩ => ?_
  refine ⟨ρ, S, m, s, Fin.mono (Fin.bind t) (fun x S1 m1 H1 e1 k1 t1 v rv => ?_) fun _ _ _ z => z⟩
  split at t1
  · split at t1
    · rename_i hz; cases rv; exact .inl ⟨_, rfl, hz, FinV.at_ t1 k1 (.str _)⟩
    · exact t1.elim
  · split at t1
    · rename_i hz; cases rv; exact .inr ⟨_, rfl, hz, FinV.at_ t1 k1 (.str _)⟩
    · exact t1.elim
  · exact t1.elim
theorem re_joined1 (he : RE X W e f) : RE X W (.JoinedStr [e] pos) f := pe_joined1 he
/-! ### *xs in a display -/
def aStar (f : EF) (g : Env → Sto → Out (List Vl)) : Env → Sto → Out (List Vl) := fun ρ S => (f ρ S).bind fun x S1 => match (lstOf x).or (asTup x) with
  | some xs => (g ρ S1).bind fun ys S2 => .ok (xs.map .d ++ ys) S2
  | none => .stuck
variable {es : List Expr} {fs : Env → Sto → Out (List Vl)}
theorem ra_star (he : RE X W e f) (hr : RA X W es fs) (hs : starEach (.Starred e p :: es) X.env = (true, eval e X.env) :: starEach es X.env := by rfl) : RA X W (.Starred e p :: es) (aStar f fs) := by
  refine PAof (StX.pa_star he hr hs) fun σ H Q ⟨ρ, S, m, s, t⟩ => ?_
  refine ⟨ρ, S, m, s, Fin.mono (Fin.bind t) (fun x S1 m1 H1 e1 k1 t1 v rv => ?_) fun _ _ _ z => z⟩
  split at t1
  · rename_i xs q
    have key : ∃ a vs, v = .ref a ∧ RpL X.K H1 (hid S1 m1) xs vs ∧ (SqT X.K H1 a vs ∨ SqL X.K H1 a vs) := by
      have w0 := (Xt.refl (H := H1) (S := S1) (m := m1)).w k1
      rcases Option.or_eq_some_iff.mp q with q | ⟨_, q⟩
      · obtain ⟨a, vs, rfl, l1, h1⟩ := lstOf_rp rv q
        exact ⟨a, vs, rfl, l1, .inr (h1 _ _ _ w0)⟩
      · obtain ⟨a, vs, rfl, l1, h1⟩ := asTup_stay rv q
        exact ⟨a, vs, rfl, l1, .inl (h1 _ _ _ w0)⟩
    obtain ⟨a, vs, rfl, l1, hq⟩ := key
    refine ⟨a, vs, rfl, hq, ρ, S1, m1, s.ext e1 k1, Fin.mono (Fin.bind t1) (fun ys S2 m2 H2 e2 k2 t2 us rus => ?_) fun _ _ _ z => z⟩
    exact Fin.here (S := S2) (R := fun xs S' m' H' => ∀ vs, RpVs X.K H' S' m' xs vs → Q vs H') t2 k2 _ ((RpL.vals (RpL.ext e2.kp (e2.kpT k1) _ l1)).append rus)
  · exact t1.elim
end
/-! ### * -/
def small64 (i : Int) : Bool := decide (-(2 ^ 64) < i ∧ i < 2 ^ 64)
def repS (x : Str) (n : Int) : Str := Txt.mul x n
def oMul (x y : Vl) (S : Sto) : Out Vl := match x, y with
  | .d (.int i), .d (.int j) => if small64 i || small64 j then .ok (.d (.int (i * j))) S else .stuck
  | .d (.str z), .d (.int j) => if 0 ≤ j ∧ j ≤ 1000 ∧ z.length ≤ 1000 then .ok (.d (.str (Txt.mul z j))) S else .stuck
  | .d (.list xs), .d (.int j) => if 0 ≤ j ∧ j ≤ 1000 ∧ xs.length ≤ 1000 then .ok (.d (.list (List.replicate j.toNat xs).flatten)) S else .stuck
  | .d (.tuple xs), .d (.int j) => if 2 ≤ j ∧ j ≤ 1000 ∧ xs.length ≤ 1000 ∧ xs ≠ [] then .ok (.d (.tuple (List.replicate j.toNat xs).flatten)) S else .stuck
  | _, _ => .stuck
theorem quiet_oMul : Quiet2 oMul := by
  intro x y S c p S'
  unfold oMul
  split
  · split <;> simp
  · split <;> simp
  · split <;> simp
  · split <;> simp
  · simp
theorem RpL.rep {K : Frag} {H : Hp} {M : Addr → Prop} {xs : List PyData} {vs : List V} (l : RpL K H M xs vs) : ∀ n, RpL K H M (List.replicate n xs).flatten (List.replicate n vs).flatten
  | 0 => .nil
  | n + 1 => by
    rw [List.replicate_succ, List.replicate_succ, List.flatten_cons, List.flatten_cons]
    exact l.append (RpL.rep l n)
theorem mulOk {z : Str} {j : Int} (h : 0 ≤ j ∧ j ≤ 1000 ∧ z.length ≤ 1000) : MulOk z j := by
  obtain ⟨h1, h2, h3⟩ := h
  refine ⟨?_, fun a b => ?_, fun a b => ?_⟩
  · simp; omega
  · have e : (2 ^ 63 - 1 : Int) = 9223372036854775807 := by decide
    have hj : 0 < j := by omega
    have : (1000 : Int) ≤ 9223372036854775807 / j := by
      rw [Int.le_ediv_iff_mul_le hj]
      omega
    rw [e]; omega
  · unfold Builtin.Str.tooLong
    have : z.length * j.toNat ≤ 1000 * 1000 := Nat.mul_le_mul h3 (by omega)
    rw [sizeLine_eq]
    exact decide_eq_false (by omega)
section
variable {X : Cx}
theorem op_oMul : OpR X (binaryOp .Mult) (rOp X.K oMul) := by
  rintro pins s σ H v u vv uu Q I rv ru ⟨x, y, S, m, r1, r2, k, fin⟩
  unfold oMul at fin
  split at fin
  · split at fin
    · rename_i i j hz
      cases r1; cases r2
      refine op_mul pins s σ H _ _ vv uu Q I rv ru ⟨i, j, rfl, rfl, ?_, FinV.at_ fin k (.int _)⟩
      rcases Bool.or_eq_true_iff.mp hz with q | q
      · exact .inl (of_decide_eq_true q)
      · exact .inr (of_decide_eq_true q)
    · exact fin.elim
  · split at fin
    · rename_i z j hz
      cases r1; cases r2
      obtain ⟨t, rfl⟩ := rv
      obtain ⟨t', rfl⟩ := ru
      exact SB.mul (mulOk hz) fun t' k' => ⟨.str _, H, I.tok _, ⟨_, rfl⟩, FinV.at_ fin k (.str _)⟩
    · exact fin.elim
  · split at fin
    · rename_i xs j hz
      have r1' : Rp X.K H (hid S m) _ v := r1
      cases r1' with
      | lst h1 h2 h3 =>
        cases r2
        refine op_rep pins s σ H _ _ vv uu Q I rv ru ⟨_, j, _, rfl, rfl, h1, by omega, by omega, ?_, fun p hp => FinV.lst fin k (h3.rep _) hp⟩
        have : xs.length * j.toNat ≤ 1000 * 1000 := Nat.mul_le_mul hz.2.2 (by omega)
        rw [← h3.length, sizeLine_eq]
        omega
    · exact fin.elim
  · split at fin
    · rename_i xs j hz
      obtain ⟨a, vs, rfl, h1, l1⟩ := asTup_rp (xs := xs) r1 rfl
      cases r2
      refine op_repT pins s σ H _ _ vv uu Q I rv ru ⟨a, j, vs, rfl, rfl, h1, fun z => hz.2.2.2 ?_, hz.1, hz.2.1, by rw [← l1.length]; exact hz.2.2.1, fun p hp => FinV.tup fin k (l1.rep _) hp⟩
      subst z
      cases xs with
      | nil => rfl
      | cons _ _ => cases l1
    · exact fin.elim
  · exact fin.elim
end
end Ev

end
section
namespace Ev
open PySem PySem.Spec PyProof.Rows L2

/-! ### str(x) -/
def okShow (d : PyData) : Bool := d.showable && (!d.hasDict && (decide (d.depth ≤ 60) && decide (d.shown.length ≤ sizeLine)))
def isCon : PyData → Bool
  | .list _ => true
  | .tuple _ => true
  | _ => false
def rStrD (K : Frag) : List V → Hp → VK → Prop := fun xs H Q => ∃ a d, xs = [.ref a] ∧ Dp K H (.ref a) d ∧ okShow d = true ∧ Q (.str d.shown) H
section
variable {X : Cx}
theorem call_strD {k : Nat} (hr : Room k X.A) (hg : X.A.guards = some []) : CallR X (.type "str") (rStrD X.K) := by
  intro pins s σ H xs us Q I r h
  obtain ⟨a, d, rfl, dp, ok, q⟩ := h
  obtain ⟨u, rfl, rx⟩ := vals1 r
  obtain rfl : u = Value.ref a := rx
  unfold okShow at ok
  simp only [Bool.and_eq_true, decide_eq_true_eq, Bool.not_eq_true'] at ok
  obtain ⟨h1, h2, h3, h4⟩ := ok
  obtain ⟨as, rd⟩ := Dp.reads I d _ _ dp rfl
  have hu := hr.un
  refine PySem.str_of_reads rd h1 (PyData.noDict_hsm h2) hg (by omega) (fun _ _ e => e) (fun h' t tk hk => ?_) h4
  exact ⟨.str d.shown, H, I.kept (t' := tk) hk, ⟨_, rfl⟩, q⟩
def hStr : DF := fun xs S => match xs with
  | [.d (.str z)] => .ok (.d (.str z)) S
  | [.d (.int i)] => if i.natAbs.log2 < 1920 then .ok (.d (.str (toString i))) S else .stuck
  | [.d d] => if isCon d = true ∧ okShow d = true then .ok (.d (.str d.shown)) S else .stuck
  | _ => .stuck
theorem rb_str {K : Frag} : RB K (fun xs H Q => (∃ a, xs = [.str a] ∧ Q (.str a) H) ∨ (∃ i : Int, xs = [.int i] ∧ i.natAbs.log2 < 1920 ∧ Q (.str (toString i)) H) ∨ rStrD K xs H Q) hStr := by
  intro xs vs S m H Q rvs k t
  unfold hStr at t
  split at t
  · cases rvs with
    | cons r1 rr => cases rr; cases r1; exact .inl ⟨_, rfl, t.at_ k (.str _)⟩
  · cases rvs with
    | cons r1 rr =>
      cases rr; cases r1
      split at t
      · rename_i hz; exact .inr (.inl ⟨_, rfl, hz, t.at_ k (.str _)⟩)
      · exact t.elim
  · cases rvs with
    | cons r1 rr =>
      cases rr
      split at t
      · rename_i hz
        have r' : Rp K H (hid S m) _ _ := r1
        have dp := Rp.dp _ r'
        cases r' with
        | lst h1 h2 h3 => exact .inr (.inr ⟨_, _, rfl, dp, hz.2, t.at_ k (.str _)⟩)
        | tup h1 h3 => exact .inr (.inr ⟨_, _, rfl, dp, hz.2, t.at_ k (.str _)⟩)
        | _ => exact absurd hz.1 Bool.false_ne_true
      · exact t.elim
  · exact t.elim
theorem c_str {k : Nat} (hr : Room k X.A) (hg : X.A.guards = some []) : CallR X (.type "str") (fun xs H Q => (∃ a, xs = [.str a] ∧ Q (.str a) H) ∨ (∃ i : Int, xs = [.int i] ∧ i.natAbs.log2 < 1920 ∧ Q (.str (toString i)) H) ∨ rStrD X.K xs H Q) :=
  CallR.or SkE.call_str_str (CallR.or call_str_int (call_strD hr hg))
end
end Ev

end
section
namespace Ev
open PySem PySem.Spec PyProof.Rows L2

/-! ### short words for derivations -/
section
variable {X : Cx} {W : WX} {a b c e : Expr} {f g k : EF} {pos p p2 : Pos} {x : Str}
theorem rv (i : Nat) {x : Str} {pos : Pos} (hN : X.N[i]? = some x := by rfl) (hv : Vis X.env.scope x := by first | exact Or.inl rfl | exact Or.inr (Or.inl rfl) | exact Or.inr (Or.inr rfl)) (hd : (x == ("__debug__" : Str)) = false := by decide) (hcd : (x == ("__classdict__" : Str)) = false := by decide) :
    RE X W (.Name x pos) (eVar i) := re_var hN hv hd hcd
theorem gI {i : Int} (h : ∃ t, X.mg x = some (.int i t)) (hg : Gl X x := by rfl) (hd : (x == ("__debug__" : Str)) = false := by decide) : RE X W (.Name x pos) (eC (.int i)) := by
  obtain ⟨t, e⟩ := h
  exact re_glob (v := .int i) hg e ⟨t, rfl⟩ (fun _ _ => .int i) hd
theorem gS {z : Str} (h : ∃ t, X.mg x = some (.str z t)) (hg : Gl X x := by rfl) (hd : (x == ("__debug__" : Str)) = false := by decide) : RE X W (.Name x pos) (eC (.str z)) := by
  obtain ⟨t, e⟩ := h
  exact re_glob (v := .str z) hg e ⟨t, rfl⟩ (fun _ _ => .str z) hd
theorem oadd (ha : RE X W a f) (hb : RE X W b g) : RE X W (.BinOp a .Add b pos) (e2 oAdd f g) := re_bin quiet_oAdd op_oAdd ha hb
theorem osub (ha : RE X W a f) (hb : RE X W b g) : RE X W (.BinOp a .Sub b pos) (e2 oSub f g) := re_bin quiet_oInt op_oSub ha hb
theorem omul (ha : RE X W a f) (hb : RE X W b g) : RE X W (.BinOp a .Mult b pos) (e2 oMul f g) := re_bin quiet_oMul op_oMul ha hb
theorem ofdiv (ha : RE X W a f) (hb : RE X W b g) : RE X W (.BinOp a .FloorDiv b pos) (e2 oFdiv f g) := re_bin quiet_oInt op_oFdiv ha hb
theorem omod (ha : RE X W a f) (hb : RE X W b g) : RE X W (.BinOp a .Mod b pos) (e2 oMod f g) := re_bin quiet_oInt op_oMod ha hb
theorem opow (ha : RE X W a f) (hb : RE X W b g) : RE X W (.BinOp a .Pow b pos) (e2 oPow f g) := re_bin quiet_oInt op_oPow ha hb
theorem oshl (ha : RE X W a f) (hb : RE X W b g) : RE X W (.BinOp a .LShift b pos) (e2 oShl f g) := re_bin quiet_oInt op_oShl ha hb
theorem oshr (ha : RE X W a f) (hb : RE X W b g) : RE X W (.BinOp a .RShift b pos) (e2 oShr f g) := re_bin quiet_oInt op_oShr ha hb
theorem oxor (ha : RE X W a f) (hb : RE X W b g) : RE X W (.BinOp a .BitXor b pos) (e2 oXor f g) := re_bin quiet_oInt op_oXor ha hb
theorem oand (ha : RE X W a f) (hb : RE X W b g) : RE X W (.BinOp a .BitAnd b pos) (e2 oAnd f g) := re_bin quiet_oInt op_oAnd ha hb
theorem vget (ha : RE X W a f) (hb : RE X W b g) (hs : PlainIx b := by intro _ _; rfl) : RE X W (.Subscript a b pos) (e2 oGet f g) := re_get ha hb hs
/-- which comparison -/
structure CmpR (X : Cx) (op : CmpOp) (h : Vl → Vl → Sto → Out Vl) : Prop where
  q : Quiet2 h
  o : OpR X (compareOp op) (rOp X.K h)
theorem kEq {n : Nat} (hr : Room n X.A) : CmpR X .Eq oEq := ⟨quiet_oEq, op_oEq hr⟩
theorem kNe {n : Nat} (hr : Room n X.A) : CmpR X .NotEq oNe := ⟨quiet_oNe, op_oNe hr⟩
theorem kLt : CmpR X .Lt oLt := ⟨quiet_oOrd, op_oLt⟩
theorem kLe : CmpR X .LtE oLe := ⟨quiet_oOrd, op_oLe⟩
theorem kGt : CmpR X .Gt oGt := ⟨quiet_oOrd, op_oGt⟩
theorem kGe : CmpR X .GtE oGe := ⟨quiet_oOrd, op_oGe⟩
theorem kIn {n : Nat} (hr : Room n X.A) : CmpR X .In (oIn false) := ⟨quiet_oIn, op_oIn hr⟩
theorem kNotIn {n : Nat} (hr : Room n X.A) : CmpR X .NotIn (oIn true) := ⟨quiet_oIn, op_oNotIn hr⟩
theorem kIs : CmpR X .Is (oIs false) := ⟨quiet_oIs, op_oIs⟩
theorem kIsNot : CmpR X .IsNot (oIs true) := ⟨quiet_oIs, op_oIsNot⟩
variable {op op' : CmpOp} {h h' : Vl → Vl → Sto → Out Vl}
theorem vcmp (o : CmpR X op h) (ha : RE X W a f) (hb : RE X W b g) (hm : behindInMarks op b = false := by first | exact nomark _ | rfl | with_unfolding_all rfl) : RE X W (.Compare a [op] [b] pos) (e2 h f g) := re_cmp o.q o.o ha hb hm
theorem tcmp (o : CmpR X op h) (ha : RE X W a f) (hb : RE X W b g) (hm : behindInMarks op b = false := by first | exact nomark _ | rfl | with_unfolding_all rfl) : RT X W (.Compare a [op] [b] pos) (eB (e2 h f g)) := rt_cmp o.q o.o ha hb hm
theorem vchain (o : CmpR X op h) (o' : CmpR X op' h') (ha : RE X W a f) (hb : RE X W b g) (hc : RE X W c k) (hm : lastMarks [op, op'] [b, c] = false := by with_unfolding_all rfl) : RE X W (.Compare a [op, op'] [b, c] pos) (eChain h h' f g k) := re_chain o.q o'.q o.o o'.o ha hb hc hm
theorem tchain (o : CmpR X op h) (o' : CmpR X op' h') (ha : RE X W a f) (hb : RE X W b g) (hc : RE X W c k) (hm : lastMarks [op, op'] [b, c] = false := by with_unfolding_all rfl) : RT X W (.Compare a [op, op'] [b, c] pos) (eB (eChain h h' f g k)) := rt_chain o.q o'.q o.o o'.o ha hb hc hm
/-- scalars alone (no room is asked) -/
def scalD : PyData → PyData → Bool
  | .none, .none => true
  | .int _, .int _ => true
  | .bool _, .bool _ => true
  | .str _, .str _ => true
  | .none, .int _ => true
  | .none, .str _ => true
  | .none, .bool _ => true
  | .int _, .none => true
  | .str _, .none => true
  | .bool _, .none => true
  | .int _, .str _ => true
  | .str _, .int _ => true
  | .bool _, .str _ => true
  | .str _, .bool _ => true
  | _, _ => false
end
end Ev

end
section
/-! enumerate(t), t a tuple -/
namespace Ev
open PySem PySem.Spec PyProof.Rows L2

section
abbrev enObj (q : Addr) : Obj := { cls := .type "enumerate", data := .fields #[.none, .bool false, .ref q, rawInt 0, .none, .none] }
theorem enum_made {v : Value} {b : Obj} {Z : Heap → Prop} (B : Begins v b Z) :
    Meets (Builtin.«enumerate.__new__» ⟨[.type "enumerate", v], []⟩) (fun _ F st => Z st.heap ∧ F (.ok (.ret (.ref (st.heap.push b).objs.size))) { st with heap := (st.heap.push b).push (enObj st.heap.objs.size) }) :=
  .of_wp fun prog w A F st z => by
    obtain ⟨hh, gg, dd, kk, oo⟩ := st
    obtain ⟨z1, z2⟩ := z
    have self := sub_enumerate
    have go : ∀ {A2 : Around} {E2 : Value → Shared → Prop} {Q2 : Value → Shared → Prop}, Q2 (.ref hh.objs.size) ⟨hh.push b, gg, dd, kk, oo⟩ → wpAny (model prog w) A2 (pyIter v) Q2 E2 ⟨hh, gg, dd, kk, oo⟩ := fun r => B.iter prog w _ _ ⟨hh, gg, dd, kk, oo⟩ _ z1 r
    wp_walk using go
    refine wpAny_stack_any fun k => wpAny_pure ?_
    split
    · rename_i c _ _ _ _ _
      cases (c == Value.type "enumerate") <;> (wp_walk using go; exact ⟨_, rfl, z2⟩)
    · wp_walk using go
      exact ⟨_, rfl, z2⟩
theorem enum_call {prog : Program} {w : World} {A : Around} {E : Value → Shared → Prop} {st : Shared} {v : Value} {b : Obj} {Z : Heap → Prop} {Q : Value → Shared → Prop} (B : Begins v b Z) (z : Z st.heap)
    (goal : ∀ g, IsEnum g (st.heap.objs.size + 1) st.heap.objs.size 0 .none → g.get? st.heap.objs.size = some b → (∀ c o, st.heap.get? c = some o → g.get? c = some o) → Q (.ref (st.heap.objs.size + 1)) { st with heap := g }) :
    wpAny (model prog w) A (call (.type "enumerate") [v]) Q E st := by
  refine callType_new F.called_enumerate (by decide) (F.typeCall_enumerate_1 _) (F.newCall_enumerate_1 _) (fun o => F.args_object_init_2 o _) F.entry_enumerate_new (enum_made B) ⟨z, ?_⟩
  have sz : (st.heap.push b).objs.size = st.heap.objs.size + 1 := Heap.size_push ..
  have en : IsEnum ((st.heap.push b).push (enObj st.heap.objs.size)) (st.heap.objs.size + 1) st.heap.objs.size 0 .none := by
    have q := Heap.get?_push_size (st.heap.push b) (o := enObj st.heap.objs.size) rfl
    rwa [sz] at q
  show _ ∧ _
  rw [sz]
  exact ⟨⟨_, en, rfl⟩, goal _ en (Heap.get?_push_of_some _ (Heap.get?_push_size _ B.free)) fun c o q => Heap.get?_push_of_some _ (Heap.get?_push_of_some _ q)⟩
end
/-- the tuple xs at a, its items numbered -/
def IteT (K : Frag) (a : Addr) (xs : List V) : It :=
  ⟨fun i H => SqT K H a xs ∧ ∃ x, xs[i]? = some x, fun i H v H' => ∃ T x, v = .ref T ∧ H T = none ∧ H' = upd H T (.tup [.int (i : Nat), x]) ∧ xs[i]? = some x, fun i H => SqT K H a xs ∧ xs.length ≤ i⟩
theorem turn_enumT {P : Program} {w : World} {K : Frag} {elts : List Expr} {kk : Nat} {tpos : Pos} {xs : List V} (a e it : Addr) (ne : e ≠ it) (na : a ≠ it) (nae : e ≠ a) :
    Turn P w K (.Tuple elts kk tpos) (IteT K a xs) [e, it] e (fun i h => (∃ old, IsEnum h e it ((i : Nat) : Int) old) ∧ h.IsTupleIter it a i ∧ i ≤ xs.length) where
  mem := List.mem_cons_self
  obj := by
    rintro i h ⟨⟨old, en⟩, ⟨o, ho, hc, hd⟩, _⟩ b hb
    rcases List.mem_cons.mp hb with rfl | hb
    · exact ⟨_, en, fun v q => nomatch q⟩
    · rw [List.mem_singleton.mp hb]
      exact ⟨o, ho, fun v q => by rw [hd] at q; cases q⟩
  keep := by
    rintro i h h' ⟨⟨old, en⟩, ti, le⟩ k
    exact ⟨⟨old, k e (by simp) _ en⟩, ti.at fun o q => k it (by simp) o q, le⟩
  item := by
    intro X hP hw hK hc i pins s σ H E I hf ⟨⟨old, en⟩, ti, _⟩ ⟨hq, x, hx⟩
    subst hP hw hK
    obtain ⟨us, rv, tp, hz⟩ := I.tuple hq
    obtain ⟨u, hu, ru⟩ := rv.get hx
    have le : e < s.heap.objs.size := Heap.lt_size en
    have li : it < s.heap.objs.size := by obtain ⟨_, q, _⟩ := ti; exact Heap.lt_size q
    have hlt : i < us.toArray.size := by
      have := (List.getElem?_eq_some_iff.mp hu).1
      simpa using this
    have hh : X.A.in1.handled = none := I.ok.hd hc
    refine wpAny_pyNext_enum_itemC (D := Draws.tuple hh it a na us.toArray) en ⟨ti, tp⟩ hlt ne (by simp [ne, nae]) fun y g tk hy out st2 hT hsz kept => ?_
    have ey : y = u := by
      have hy' : us.toArray[i]? = some y := hy
      have : us[i]? = some y := by simpa using hy'
      rw [hu] at this; exact (Option.some.inj this).symm
    subst ey
    refine ⟨_, rfl, wpAny_letOwnedTupleGo_enum (s := { s with heap := g, toks := tk + 1 }) out fun g2 en2 sb => ?_⟩
    have hT2 : g2.get? s.heap.objs.size = some { cls := .type "tuple", data := .seq #[.int (i : Nat) tk, y] } := (sb.2 _ (Nat.ne_of_gt le)).trans hT
    have laid : ObjOk X.prog X.w (upd H s.heap.objs.size (.tup [.int (i : Nat), x])) g2 s.heap.objs.size (.tup [.int (i : Nat), x]) :=
      ⟨by show 2 ≤ sizeLine; decide, [.int (i : Nat) tk, y], .cons ⟨_, rfl⟩ (.cons ru .nil), ⟨_, hT2, rfl, _, rfl⟩⟩
    have J : Inv X pins σ (upd H s.heap.objs.size (.tup [.int (i : Nat), x])) { s with heap := g2, toks := tk + 1 } := by
      refine I.turnedNew (ch := [e, it]) (fun b ob hb q => ?_) hf (Nat.le_refl _) laid
      exact (sb.2 b (fun z => hb (by simp [z]))).trans (kept b ob (fun z => hb (by simp [z])) (fun z => hb (by simp [z])) q)
    refine ⟨.ref s.heap.objs.size, _, J, rfl, ⟨_, x, rfl, I.hok.fresh (Nat.le_refl _), rfl, hx⟩, ⟨⟨y, ?_⟩, ?_, (List.getElem?_eq_some_iff.mp hx).1⟩, fun b hb => ?_⟩
    · have e1 : ((i + 1 : Nat) : Int) = (i : Int) + 1 := by omega
      rw [e1]; exact en2
    · exact st2.1.at fun o q => (sb.2 it (Ne.symm ne)).trans q
    · have lt : b < s.heap.objs.size := by
        rcases List.mem_cons.mp hb with rfl | hb
        · exact le
        · rw [List.mem_singleton.mp hb]; exact li
      rw [upd_ne (Nat.ne_of_lt lt)]
      exact (hf b hb).1
  done := by
    intro X hP hw hK hc i pins s σ H E I hf ⟨⟨old, en⟩, ti, le⟩ ⟨hq, hx⟩
    subst hP hw hK
    obtain ⟨us, rv, tp, hz⟩ := I.tuple hq
    have hh : X.A.in1.handled = none := I.ok.hd hc
    have ei : i = us.toArray.size := by
      rw [List.size_toArray, ← rv.length]; omega
    subst ei
    obtain ⟨f0, f1, f2, f3, f4, f5⟩ := hf it (by simp)
    refine wpAny_pyNext_enum_endD (D := Draws.tuple hh it a na us.toArray) en ⟨ti, tp⟩ fun g eb => ⟨rfl, I.turned (t' := s.toks) (fun b o hb q => eb b o hb q) f0 f1 f3 f4 f5⟩
  self := fun A i s Q E st h => let ⟨⟨_, en⟩, _⟩ := st; wpAny_pyIter_enum en h
theorem yl_enumT {K : Frag} {H : Hp} {S : Sto} {m : Mp} {a : Addr} {ds : List PyData} {vs : List V} (l1 : RpL K H (hid S m) ds vs) (h1 : ∀ S' m' H', Xw K H S m H' S' m' → SqT K H' a vs) : Yl K (IteT K a vs) (numbered 0 ds) S m H := by
  intro S' m' H' w k i
  have q1 := h1 _ _ _ w
  have l1' := RpL.ext w.kp w.kpT ds l1
  refine ⟨fun z hz => ?_, fun hi => ⟨q1, by rw [← l1.length, ← numbered_len ds 0]; exact hi⟩⟩
  obtain ⟨x, e1, rfl⟩ := numbered_get hz
  obtain ⟨v, hv, rv⟩ := l1'.get e1
  refine ⟨⟨q1, v, hv⟩, fun y' H2 ⟨T, v', e3, hT, e4, f1⟩ => ?_⟩
  subst e3 e4
  rw [hv] at f1
  cases f1
  have := new_pair k hT (.int ((0 + i : Nat) : Int)) rv
  rw [Nat.zero_add] at this
  rw [Nat.zero_add]
  exact this
def iEnumT (f : EF) : Env → Sto → Out (List Vl) := fun ρ S => (f ρ S).bind fun x S1 => match asTup x with
  | some xs => .ok (numbered 0 xs) S1
  | none => .stuck
section
variable {X : Cx} {W : WX} {e : Expr} {f : EF} {p pos tpos : Pos} {elts : List Expr} {kk : Nat}
theorem ri_enumT (hg : Gl X "enumerate") (hm : X.mg "enumerate" = none) (ha : RE X W e f) (hs : starEach [e] X.env = [(false, eval e X.env)] := by rfl) : RI X W (.Tuple elts kk tpos) (.Call (.Name "enumerate" p) [e] [] pos) (iEnumT f) := by
  refine ⟨fun pins s σ H R I ⟨ρ, S, m, t0, t⟩ => ?_⟩
  have ta : tA X.K W (aCons f aNil) σ H fun vs H1 => ∃ a xs, vs = [.ref a] ∧ SqT X.K H1 a xs ∧ R (IteT X.K a xs) H1 := by
    refine ⟨ρ, S, m, t0, ?_⟩
    show Fin X.K ((f ρ S).bind fun x S1 => .ok [x] S1) S m H _ _
    have t1 := Fin.bind t
    revert t1
    cases f ρ S with
    | stuck => exact fun z => z
    | exc c p' S' => exact fun z => z
    | ok x S1 =>
      intro t1 m1 H1 e1 k1 vs rvs
      have t2 := t1 m1 H1 e1 k1
      cases rvs with
      | cons r1 rn =>
        cases rn
        dsimp only at t2
        split at t2
        · rename_i xs q
          obtain ⟨a, vs, rfl, l1, h1⟩ := asTup_stay r1 q
          exact ⟨a, vs, rfl, h1 _ _ _ ((Xt.refl (H := H1) (S := S1) (m := m1)).w k1), Fin.here (R := fun xs S' m' H' => ∀ J, Yl X.K J xs S' m' H' → R J H') t2 k1 _ (yl_enumT l1 h1)⟩
        · exact t2.elim
  refine Call_ (ld_blt I hg hm boot_enumerate (PyProof.Rows.callWith_type1 (thn ((ra_cons ha ra_nil hs).run pos pins s σ H _ I ta) fun us s1 ⟨vs, H1, I1, r1, q1⟩ => ?_) hs rfl))
  obtain ⟨a, xs, ex, hq, q⟩ := q1
  subst ex
  cases r1 with
  | cons r rr =>
    cases rr
    cases r
    obtain ⟨its, rv, tp, hz⟩ := I1.tuple hq
    obtain ⟨o1, ho1, _⟩ := id tp
    have la : a < s1.heap.objs.size := Heap.lt_size ho1
    refine enum_call (begins_tuple a its.toArray) tp fun g en hit kept => wpAny_pyIter_enum en ?_
    have I2 : Inv X pins σ H1 { s1 with heap := g } := I1.kept (t' := s1.toks) kept
    refine ⟨s1.heap.objs.size + 1, [s1.heap.objs.size + 1, s1.heap.objs.size], _, _, H1, rfl, I2, turn_enumT a (s1.heap.objs.size + 1) s1.heap.objs.size (Nat.succ_ne_self _) (Nat.ne_of_lt la) (Nat.ne_of_gt (Nat.lt_succ_of_lt la)), ⟨⟨.none, en⟩, ⟨_, hit, rfl, rfl⟩, Nat.zero_le _⟩, fun b hb => ?_, q⟩
    have hle : s1.heap.objs.size ≤ b := by
      rcases List.mem_cons.mp hb with z | z
      · rw [z]; exact Nat.le_succ _
      · rw [List.mem_singleton.mp z]; exact Nat.le_refl _
    exact I1.fpOk hle (I1.hok.fresh hle)
end
end Ev

end
section
/-! sorted(set(xs)), xs a list or a tuple of ints or of texts -/
namespace Ev
open PySem PySem.Spec PyProof.Rows L2

/-- the key that an entry's value is -/
def kv : Value → Option Key
  | .int i _ => some (.inl i)
  | .str x _ => some (.inr x)
  | _ => none
theorem kv_is {P : Program} {w : World} {k : Key} {v : Value} : (mixKind P w).is k v = true ↔ kv v = some k := by
  constructor
  · intro h
    rcases keyIs_shape h with ⟨i, t, rfl, rfl⟩ | ⟨x, t, rfl, rfl⟩ <;> rfl
  · intro h
    cases v with
    | int i t => cases h; exact keyIs_int i t
    | str x t => cases h; exact keyIs_str x t
    | _ => cases h
theorem kv_scan {v : Value} {k : Key} (h : kv v = some k) : v.scannable = true := by
  cases v with
  | int i t => rfl
  | str x t => rfl
  | _ => cases h
/-- a set's entries: a key each, with its hash -/
def Ent (P : Program) (w : World) (e : Int × Value) : Prop := ∃ k, kv e.2 = some k ∧ e.1 = (mixKind P w).hash k
def kvs (l : List (Int × Value)) : List (Option Key) := l.map fun e => kv e.2
/-- the set at a holds the keys ks, each once, and can be walked -/
def SG (P : Program) (w : World) (h : Heap) (a : Addr) (ks : List (Option Key)) : Prop :=
  ∃ (o : Obj) (es : Array (Int × Value)) (n : Nat) (t : SetTable), (h.get? a = some o ∧ o.ExactSet ∧ o.data = .set es n t) ∧ (∀ e ∈ es.toList, Ent P w e) ∧ (kvs es.toList).Perm ks ∧ es.size < scanBound ∧ t.fits es.size = true ∧
    Ris t.place.toList ∧ (w.params.followText "set-order" = true ∨ t.led = true)
section
variable {P : Program} {w : World} {A : Around} {E : Value → Shared → Prop} {s : Shared} {a : Addr} {ks : List (Option Key)}
theorem Ent.all {l : List (Int × Value)} (g : ∀ e ∈ l, Ent P w e) : ElemsOf (mixKind P w) l := by
  intro e he
  obtain ⟨k, h1, h2⟩ := g e he
  exact ⟨⟨k, kv_is.mpr h1, h2⟩, kv_scan h1⟩
theorem put_at {h : Heap} {o : Obj} {es es2 : Array (Int × Value)} {n : Nat} {t t2 : SetTable} (ho : h.get? a = some o) (hd : o.data = .set es n t) :
    (h.update a (Obj.putSet es2 t2)).get? a = some { o with data := .set es2 (n + 1) t2 } := by
  have z := Heap.get?_update_self (Obj.putSet es2 t2) ho (by rw [putSet_of es2 t2 hd]; rfl)
  rwa [putSet_of es2 t2 hd] at z
/-- what stands behind the entry: stored, perhaps laid anew -/
theorem sg_store {gw : Bool → Sem Unit} (hgw : ∀ (b : Bool) (s2 : Shared) (Q2 : Unit → Shared → Prop), Q2 () s2 → wpAny (model P w) A (gw b) Q2 E s2) {o : Obj} {es es2 : Array (Int × Value)} {n : Nat} {t t2 : SetTable} {wd : Bool} {R : Option Bool → Shared → Prop}
    (ho : s.heap.get? a = some o) (hx : o.ExactSet) (hd : o.data = .set es n t) (g : ∀ e ∈ es2.toList, Ent P w e) (pm : (kvs es2.toList).Perm ks) (hb : es2.size < scanBound) (hf : t2.fits es2.size = true) (hr : Ris t2.place.toList) (hl : w.params.followText "set-order" = true ∨ t2.led = true)
    (fin : ∀ h', Heap.SameBut a s.heap h' → SG P w h' a ks → R (some true) { s with heap := h' }) :
    wpAny (model P w) A (do
      storeSet a es2 t2
      if (!wd && t2.tooFull) = true then do
        gw (relayAll t2 es2 (SetTable.grown es2.size)).2.2
        storeSet a (relayAll t2 es2 (SetTable.grown es2.size)).1 (relayAll t2 es2 (SetTable.grown es2.size)).2.1
        pure (some true)
      else pure (some true)) R E s := by
  have at1 := put_at (a := a) (es2 := es2) (t2 := t2) ho hd
  have same1 := Heap.SameBut.update s.heap a (Obj.putSet es2 t2)
  refine wpAny_bind (wpAny_storeSet_of ho hd ?_ (fits_of_scanBound hb))
  split
  · have p1 := relayAll_perm t2 es2 (SetTable.grown es2.size)
    have p2 := relayAll_fits t2 es2 (SetTable.grown es2.size)
    have p3 := relayAll_ris t2 es2 (SetTable.grown es2.size)
    have p4 := relayAll_led t2 es2 (SetTable.grown es2.size)
    revert p1 p2 p3 p4
    generalize relayAll t2 es2 (SetTable.grown es2.size) = Y
    obtain ⟨es3, t3, gave⟩ := Y
    dsimp only
    intro p1 p2 p3 p4
    have sz : es3.size < scanBound := by
      have := p1.length_eq
      rw [Array.length_toList, Array.length_toList] at this
      omega
    refine wpAny_bind (hgw _ _ _ (wpAny_bind (wpAny_storeSet_of at1 rfl ?_ (fits_of_scanBound sz))))
    refine wpAny_pure (fin _ (same1.trans (Heap.SameBut.update _ a _)) ?_)
    exact ⟨_, es3, _, t3, ⟨put_at at1 rfl, hx, rfl⟩, fun e he => g e (p1.mem_iff.mp he), (p1.map _).trans pm, sz, p2, p3, hl.imp id fun z => by rw [p4]; exact z⟩
  · exact wpAny_pure (fin _ same1 ⟨_, es2, _, t2, ⟨at1, hx, rfl⟩, g, pm, hb, hf, hr, hl⟩)
theorem sg_add {k : Key} {v : Value} {Q : Bool → Shared → Prop} (R : SG P w s.heap a ks) (hv : kv v = some k) (room : ks.length + 1 < scanBound)
    (h1 : some k ∈ ks → SG P w s.heap a ks → Q false s) (h2 : some k ∉ ks → ∀ h', Heap.SameBut a s.heap h' → SG P w h' a (some k :: ks) → Q true { s with heap := h' }) :
    wpAny (model P w) A (setAddHashed a v ((mixKind P w).hash k)) Q E s := by
  have R0 := R
  obtain ⟨o, es, n, t, ⟨ho, hx, hd⟩, g, pm, hb, hf, hr, hl⟩ := R
  have isk : (mixKind P w).is k v = true := kv_is.mpr hv
  have sc := kv_scan hv
  have el := Ent.all (P := P) (w := w) g
  unfold setAddHashed setAddHashedIn
  refine wpAny_holding (wpAny_bind (wpAny_setState_of ho hd hf ?_))
  dsimp only
  rw [byScan_of sc hb el]
  simp only [↓reduceIte]
  unfold setAddByScan
  refine wpAny_bind (wpAny_bind (wpAny_rule (wpAny_bind (wpAny_setScan_of isk ho hd hf el ?_))))
  have mem_iff : some k ∈ ks ↔ ∃ e ∈ es.toList, (mixKind P w).is k e.2 = true := by
    rw [← pm.mem_iff]
    unfold kvs
    rw [List.mem_map]
    exact ⟨fun ⟨e, he, q⟩ => ⟨e, he, kv_is.mpr q⟩, fun ⟨e, he, q⟩ => ⟨e, he, kv_is.mp q⟩⟩
  cases look : List.findIdx? (fun e => (mixKind P w).is k e.2) es.toList with
  | some j =>
    dsimp only
    obtain ⟨lt, yes, _⟩ := List.findIdx?_eq_some_iff_getElem.mp look
    exact wpAny_pure (wpAny_pure (h1 (mem_iff.mpr ⟨_, List.getElem_mem lt, yes⟩) R0))
  | none =>
    dsimp only
    have out : some k ∉ ks := fun z => by
      obtain ⟨e, he, q⟩ := mem_iff.mp z
      have c := List.findIdx?_eq_none_iff.mp look e he
      rw [q] at c
      cases c
    have free : ∀ (b : Bool) {s2 : Shared} {Q2 : Unit → Shared → Prop}, Q2 () s2 → wpAny (model P w) A (match b with | true => rule "set.scan.the-table-gave-way" | false => pure ()) Q2 E s2 := by
      intro b s2 Q2 q
      cases b
      · exact wpAny_pure q
      · exact wpAny_rule q
    have l1 := layNew_perm t es ((mixKind P w).hash k) v
    have l2 := layNew_fits t es ((mixKind P w).hash k) v
    have l3 := layNew_ris t es ((mixKind P w).hash k) v hr
    have l4 := layNew_led t es ((mixKind P w).hash k) v
    revert l1 l2 l3 l4
    generalize layNew t es ((mixKind P w).hash k) v = Y
    obtain ⟨es2, t2, wd, gave⟩ := Y
    dsimp only
    intro l1 l2 l3 l4
    rw [Array.toList_push] at l1
    have pc : es2.toList.Perm (((mixKind P w).hash k, v) :: es.toList) := l1.trans (List.perm_append_singleton _ _)
    have g2 : ∀ e ∈ es2.toList, Ent P w e := fun e he => by
      rcases List.mem_cons.mp (pc.mem_iff.mp he) with z | z
      · rw [z]; exact ⟨k, hv, rfl⟩
      · exact g e z
    have pm2 : (kvs es2.toList).Perm (some k :: ks) := by
      refine (pc.map _).trans ?_
      rw [List.map_cons]
      dsimp only
      rw [hv]
      exact pm.cons _
    have len : es2.size = ks.length + 1 := by
      have := pm2.length_eq
      unfold kvs at this
      rw [List.length_map, Array.length_toList] at this
      simpa using this
    have b2 : es2.size < scanBound := by rw [len]; exact room
    have led2 : w.params.followText "set-order" = true ∨ t2.led = true := hl.imp id fun z => by rw [l4]; exact z
    refine wpAny_bind (free _ ?_)
    split
    · refine wpAny_bind ?_
      rw [hashByValue_scannable 8 sc]
      refine wpAny_pure (sg_store (ks := some k :: ks) ?_ ho hx hd g2 pm2 b2 ?_ ?_ ?_ ?_)
      · intro b s2 Q2 q; cases b <;> first | exact wpAny_pure q | exact wpAny_rule q
      · first | (split <;> first | exact l2 | exact SetTable.fits_plain_off l2) | exact l2
      · first | (split <;> exact l3) | exact l3
      · first | (split <;> exact led2) | exact led2
      · intro h' sb r; dsimp only; exact wpAny_pure (h2 out h' sb r)
    · refine wpAny_bind (wpAny_pure ?_)
      simp only [↓reduceIte]
      refine sg_store (ks := some k :: ks) ?_ ho hx hd g2 pm2 b2 l2 l3 led2 ?_
      · intro b s2 Q2 q; cases b <;> first | exact wpAny_pure q | exact wpAny_rule q
      · intro h' sb r; dsimp only; exact wpAny_pure (h2 out h' sb r)
theorem SG.keep {h h' : Heap} (R : SG P w h a ks) (k : ∀ o, h.get? a = some o → h'.get? a = some o) : SG P w h' a ks := by
  obtain ⟨o, es, n, t, ⟨ho, r⟩, q⟩ := R
  exact ⟨o, es, n, t, ⟨k o ho, r⟩, q⟩
open Classical in
/-- the keys so far -/
noncomputable def seen : List Key → List (Option Key)
  | [] => []
  | k :: r => if some k ∈ seen r then seen r else some k :: seen r
theorem mem_seen {x : Option Key} : ∀ {l : List Key}, x ∈ seen l ↔ ∃ k ∈ l, x = some k
  | [] => by simp [seen]
  | k :: r => by
    unfold seen
    have ih := mem_seen (x := x) (l := r)
    split
    · rename_i h
      rw [ih]
      constructor
      · rintro ⟨j, hj, e⟩; exact ⟨j, List.mem_cons_of_mem _ hj, e⟩
      · rintro ⟨j, hj, e⟩
        rcases List.mem_cons.mp hj with rfl | hj
        · rw [← e] at h; exact ih.mp h
        · exact ⟨j, hj, e⟩
    · rw [List.mem_cons, ih]
      constructor
      · rintro (e | ⟨j, hj, e⟩)
        · exact ⟨k, List.mem_cons_self, e⟩
        · exact ⟨j, List.mem_cons_of_mem _ hj, e⟩
      · rintro ⟨j, hj, e⟩
        rcases List.mem_cons.mp hj with rfl | hj
        · exact .inl e
        · exact .inr ⟨j, hj, e⟩
theorem seen_nodup : ∀ l : List Key, (seen l).Nodup
  | [] => List.Pairwise.nil
  | k :: r => by
    unfold seen
    split
    · exact seen_nodup r
    · rename_i h; exact List.nodup_cons.mpr ⟨h, seen_nodup r⟩
theorem seen_len : ∀ l : List Key, (seen l).length ≤ l.length
  | [] => Nat.le_refl _
  | k :: r => by
    unfold seen
    have := seen_len r
    split
    · exact Nat.le_succ_of_le this
    · simpa using this
theorem take_rev {α : Type} {l : List α} {i : Nat} {x : α} (h : l[i]? = some x) : (l.take (i + 1)).reverse = x :: (l.take i).reverse := by
  rw [List.take_add_one, h]
  simp
/-! ### set(xs) -/
abbrev set0 (w : World) : Obj := { cls := .type "set", dict := none, data := .set #[] 0 (.fresh 0 0 (!w.params.followText "set-order")) }
theorem sg_fresh {h : Heap} (e : h.get? a = some (set0 w)) : SG P w h a [] := by
  refine ⟨_, #[], 0, _, ⟨e, ⟨rfl, rfl, rfl⟩, rfl⟩, fun _ he => by simp at he, List.Perm.nil, by decide, by rfl, List.Pairwise.nil, ?_⟩
  cases q : w.params.followText "set-order"
  · exact .inr rfl
  · exact .inl rfl
/-- the loop of set.update over what gives the values vs -/
theorem sg_loop {I : Addr} {fp wr : List Addr} {G : Array GenState → Array GenState → Prop} {n : Nat} {Pv : Nat → Value → Prop} {St : Nat → Shared → Prop} {R : Result → Shared → Prop} (W : WalksS P w A.in1 I fp wr G n Pv St) (D : Addr) (out : D ∉ fp) (js : List Key)
    (len : js.length = n) (few : js.length < 4000) (val : ∀ i v, Pv i v → ∃ k, js[i]? = some k ∧ kv v = some k) :
    ∀ (r i : Nat) (s : Shared), n - i = r → i ≤ n → St i s → SG P w s.heap D (seen (js.take i).reverse) →
      (∀ s', Moved (D :: wr) G s s' → SG P w s'.heap D (seen js.reverse) → R (.ok (.ret .none)) s') → codeAny (model P w) A (.builtin "set.update.loop" ⟨[.ref D, .ref I], []⟩) R s := by
  have outw : D ∉ wr := fun z => out (W.sub _ z)
  have more : ∀ b ∈ wr, b ∈ D :: wr := fun b hb => List.mem_cons_of_mem _ hb
  intro r
  induction r with
  | zero =>
    intro i s hr hi st sg fin
    obtain rfl : i = n := by omega
    refine codeAny_builtin F.entry_set_update_loop ?_
    rw [Around.under_plainId F.plain_set_update_loop _]
    show wpAny _ A.in1 (pyNext (.ref I) >>= _) _ _ s
    refine wpAny_bind (W.done s _ _ st fun s' mv => ?_)
    show wpAny _ A.in1 (ret Value.none) _ _ s'
    refine wpAny_pure (fin s' (mv.mono more) ?_)
    have q := sg.keep (h' := s'.heap) fun o e => mv.heap D o outw e
    rwa [← len, List.take_length] at q
  | succ r ih =>
    intro i s hr hi st sg fin
    have lt : i < n := by omega
    refine codeAny_builtin F.entry_set_update_loop ?_
    rw [Around.under_plainId F.plain_set_update_loop _]
    show wpAny _ A.in1 (pyNext (.ref I) >>= _) _ _ s
    refine wpAny_bind (W.item i s _ _ lt st fun v s2 hv st2 mv => ?_)
    obtain ⟨k, hk, kvk⟩ := val i v hv
    have sg2 := sg.keep (h' := s2.heap) fun o e => mv.heap D o outw e
    show wpAny _ A.in1 (holding [v] (setAdd D v) >>= _) _ _ s2
    refine wpAny_bind (wpAny_holding ?_)
    unfold setAdd
    refine wpAny_holding (wpAny_bind ((mixKind P w).pyHash (k := k) (kv_is.mpr kvk) ?_))
    have lenT : (seen (js.take i).reverse).length + 1 < scanBound := by
      have h1 := seen_len (js.take i).reverse
      rw [List.length_reverse, List.length_take] at h1
      have : scanBound = 4096 := rfl
      omega
    have tk := take_rev hk
    refine sg_add (s := { s2 with toks := s2.toks + 1 }) sg2 kvk lenT (fun isin R2 => ?_) fun isout h' sb R2 => ?_
    · refine wpAny_pure ⟨plainId_quiet F.plain_set_update_loop _, ih (i + 1) _ (by omega) lt (W.frame _ s2 _ _ st2 (Nat.le_succ _) fun b hb o e => e) ?_ fun s3 mv3 sg3 => fin s3 (Moved.trans W.gtrans ((mv.mono more).then_heap (Nat.le_succ _) fun b o hb e => e) mv3) sg3⟩
      rw [tk]
      unfold seen
      rw [if_pos isin]
      exact R2
    · refine wpAny_pure ⟨plainId_quiet F.plain_set_update_loop _, ih (i + 1) _ (by omega) lt (W.frame _ s2 _ _ st2 (Nat.le_succ _) fun b hb o e => ?_) ?_ fun s3 mv3 sg3 => fin s3 (Moved.trans W.gtrans ((mv.mono more).then_heap (Nat.le_succ _) fun b o hb e => ?_) mv3) sg3⟩
      · rw [sb.2 b (fun z : b = D => out (by rw [← z]; exact hb))]; exact e
      · rw [tk]
        unfold seen
        rw [if_neg isout]
        exact R2
      · rw [sb.2 b (fun z : b = D => hb (by rw [z]; exact List.mem_cons_self))]; exact e
end
end Ev

end
section
/-! set(xs) -/
namespace Ev
open PySem PySem.Spec PyProof.Rows L2
section
variable {P : Program} {w : World} {A : Around} {E : Value → Shared → Prop} {s : Shared}
theorem set_of_list {l : Addr} {vs : Array Value} {js : List Key} {Q : Value → Shared → Prop} (hh : A.handled = none) (src : s.heap.IsList l vs) (keys : ∀ (i : Nat) (v : Value), vs[i]? = some v → ∃ k, js[i]? = some k ∧ kv v = some k) (len : js.length = vs.size) (few : js.length < 4000)
    (goal : ∀ (g : Heap) (tk : Nat), SG P w g s.heap.objs.size (seen js.reverse) → (∀ b o, s.heap.get? b = some o → g.get? b = some o) → Q (.ref s.heap.objs.size) { s with heap := g, toks := tk }) :
    wpAny (model P w) A (call (.type "set") [.ref l]) Q E s := by
  have ⟨c, tl, isMro⟩ := F.called_set.mro
  have isMade := F.called_set.made
  have isSub := F.called_set.sub
  have noType := F.called_set.notType
  have may := F.called_set.canCreate
  have few1 := F.typeCall_set_1 (.ref l)
  refine wpAny_call (codeAny_of_tree (?_ : wpAny _ _ (callAny (.type "set") _) _ _ _))
  refine wpAny_pure ⟨Code.quiet_builtin _ (by decide +kernel), codeAny_builtin F.entry_type_call ?_⟩
  rw [Around.under_plain (weight_type_call_type "set" [.ref l] []) rfl]
  repeat (any_goals (first | assumption | wp_step))
  refine codeAny_mono (code_set_led1 (.ref l) (E := E) (Q₁ := fun q z => q = .ref s.heap.objs.size ∧ z = { s with heap := s.heap.push (set0 w) }) ⟨rfl, rfl⟩) fun r z hz => ?_
  rcases r with er | fl
  · exact hz
  · cases fl with
    | ret q =>
      obtain ⟨rfl, rfl⟩ := hz
      have at0 : (s.heap.push (set0 w)).get? s.heap.objs.size = some (set0 w) := Heap.get?_push_size _ rfl
      have isT : Shared.TypeIs { s with heap := s.heap.push (set0 w) } (.ref s.heap.objs.size) "set" := ⟨_, at0, rfl⟩
      have ini := F.called_set.init.lookup
      have inb := F.called_set.init.bind (.ref s.heap.objs.size)
      repeat (any_goals (first | assumption | wp_step))
      refine codeAny_mono (codeAny_call_builtin (R := wants (fun r z => r = .none ∧ ∃ g tk, z = { s with heap := g, toks := tk } ∧ SG P w g s.heap.objs.size (seen js.reverse) ∧ ∀ b o, s.heap.get? b = some o → g.get? b = some o) E) F.called_set.init.plain F.entry_set_init (check_set_init_1 isT ?_)) fun r2 z2 hz2 => ?_
      · obtain ⟨ol, ho, hc, n, hd⟩ := src
        obtain ⟨oc, od, dt, sl⟩ := ol
        dsimp only at hc hd
        subst hc hd
        have ho2 : (s.heap.push (set0 w)).get? l = some { cls := .type "list", dict := od, data := .seq vs n, slots := sl } := Heap.get?_push_of_some _ ho
        have noS := F.sub_list_set
        have noF := F.sub_list_frozenset
        have noD : (Value.type "list" == Value.type "dict") = false := by decide
        have src2 : (s.heap.push (set0 w)).IsList l vs := ⟨_, ho2, rfl, n, rfl⟩
        unfold Builtin.«set.__init__» noKeywords Builtin.Frozenset.updateFrom
        generalize iterOf : pyIter = PI
        wp_walk
        subst iterOf
        refine wpAny_pyIter_list src2 (wpAny_bind (wpAny_runValue ?_))
        have lt : l < s.heap.objs.size := Heap.lt_size ho
        have hh3 : A.in1.in1.in1.handled = none := hh
        have z1 : (s.heap.push (set0 w)).objs.size = s.heap.objs.size + 1 := Heap.size_push ..
        have nl : l ≠ (s.heap.push (set0 w)).objs.size := by rw [z1]; exact Nat.ne_of_lt (Nat.lt_succ_of_lt lt)
        have nf : s.heap.objs.size ∉ [(s.heap.push (set0 w)).objs.size, l] := by
          rw [z1]
          intro m
          rcases List.mem_cons.mp m with m | m
          · exact absurd m (Nat.ne_of_lt (Nat.lt_succ_self _))
          · exact absurd (List.mem_singleton.mp m) (Nat.ne_of_gt lt)
        refine sg_loop ((Walks.list hh3 _ l nl vs).toS) s.heap.objs.size nf js len few keys (vs.size - 0) 0 _ (by omega) (Nat.zero_le _) ⟨⟨_, Heap.get?_push_size _ rfl, rfl, rfl⟩, src2.push _⟩ ?fresh ?fin
        case fresh =>
          rw [List.take_zero]
          exact sg_fresh (Heap.get?_push_of_some _ at0)
        case fin =>
          intro z3 mv sg
          obtain ⟨g, gg, dd, tk, oo⟩ := z3
          obtain rfl : gg = s.gens := mv.gens
          obtain rfl : dd = s.drawn := mv.drawn
          obtain rfl : oo = s.os := mv.os
          show wpAny _ _ _ _ _ _
          refine wpAny_pure ?_
          show wpAny _ _ (ret Value.none) _ _ _
          refine wpAny_pure ⟨rfl, g, tk, rfl, sg, fun b o e => ?_⟩
          have lb := Heap.lt_size e
          refine mv.heap b o (fun m => ?_) (Heap.get?_push_of_some _ (Heap.get?_push_of_some _ e))
          rcases List.mem_cons.mp m with m | m
          · exact absurd m (Nat.ne_of_lt lb)
          · have e2 := List.mem_singleton.mp m
            rw [z1] at e2
            exact absurd e2 (Nat.ne_of_lt (Nat.lt_succ_of_lt lb))
      · rcases r2 with er | fl2
        · exact hz2
        · cases fl2 with
          | ret q =>
            obtain ⟨rfl, g, tk, rfl, sg, k⟩ := hz2
            repeat (any_goals (first | assumption | wp_step))
            exact goal g tk sg k
          | _ => exact hz2.elim
    | _ => exact hz.elim
theorem set_of_tuple {l : Addr} {vs : Array Value} {js : List Key} {Q : Value → Shared → Prop} (hh : A.handled = none) (src : s.heap.IsTuple l vs) (keys : ∀ (i : Nat) (v : Value), vs[i]? = some v → ∃ k, js[i]? = some k ∧ kv v = some k) (len : js.length = vs.size) (few : js.length < 4000)
    (goal : ∀ (g : Heap) (tk : Nat), SG P w g s.heap.objs.size (seen js.reverse) → (∀ b o, s.heap.get? b = some o → g.get? b = some o) → Q (.ref s.heap.objs.size) { s with heap := g, toks := tk }) :
    wpAny (model P w) A (call (.type "set") [.ref l]) Q E s := by
  have ⟨c, tl, isMro⟩ := F.called_set.mro
  have isMade := F.called_set.made
  have isSub := F.called_set.sub
  have noType := F.called_set.notType
  have may := F.called_set.canCreate
  have few1 := F.typeCall_set_1 (.ref l)
  refine wpAny_call (codeAny_of_tree (?_ : wpAny _ _ (callAny (.type "set") _) _ _ _))
  refine wpAny_pure ⟨Code.quiet_builtin _ (by decide +kernel), codeAny_builtin F.entry_type_call ?_⟩
  rw [Around.under_plain (weight_type_call_type "set" [.ref l] []) rfl]
  repeat (any_goals (first | assumption | wp_step))
  refine codeAny_mono (code_set_led1 (.ref l) (E := E) (Q₁ := fun q z => q = .ref s.heap.objs.size ∧ z = { s with heap := s.heap.push (set0 w) }) ⟨rfl, rfl⟩) fun r z hz => ?_
  rcases r with er | fl
  · exact hz
  · cases fl with
    | ret q =>
      obtain ⟨rfl, rfl⟩ := hz
      have at0 : (s.heap.push (set0 w)).get? s.heap.objs.size = some (set0 w) := Heap.get?_push_size _ rfl
      have isT : Shared.TypeIs { s with heap := s.heap.push (set0 w) } (.ref s.heap.objs.size) "set" := ⟨_, at0, rfl⟩
      have ini := F.called_set.init.lookup
      have inb := F.called_set.init.bind (.ref s.heap.objs.size)
      repeat (any_goals (first | assumption | wp_step))
      refine codeAny_mono (codeAny_call_builtin (R := wants (fun r z => r = .none ∧ ∃ g tk, z = { s with heap := g, toks := tk } ∧ SG P w g s.heap.objs.size (seen js.reverse) ∧ ∀ b o, s.heap.get? b = some o → g.get? b = some o) E) F.called_set.init.plain F.entry_set_init (check_set_init_1 isT ?_)) fun r2 z2 hz2 => ?_
      · obtain ⟨ol, ho, hc, n, hd⟩ := src
        obtain ⟨oc, od, dt, sl⟩ := ol
        dsimp only at hc hd
        subst hc hd
        have ho2 : (s.heap.push (set0 w)).get? l = some { cls := .type "tuple", dict := od, data := .seq vs n, slots := sl } := Heap.get?_push_of_some _ ho
        have noS := PySem.F.sub_tuple_set
        have noF := PySem.F.sub_tuple_frozenset
        have noD : (Value.type "tuple" == Value.type "dict") = false := by decide
        have src2 : (s.heap.push (set0 w)).IsTuple l vs := ⟨_, ho2, rfl, n, rfl⟩
        unfold Builtin.«set.__init__» noKeywords Builtin.Frozenset.updateFrom
        generalize iterOf : pyIter = PI
        wp_walk
        subst iterOf
        refine wpAny_pyIter_tuple src2 (wpAny_bind (wpAny_runValue ?_))
        have lt : l < s.heap.objs.size := Heap.lt_size ho
        have hh3 : A.in1.in1.in1.handled = none := hh
        have z1 : (s.heap.push (set0 w)).objs.size = s.heap.objs.size + 1 := Heap.size_push ..
        have nl : l ≠ (s.heap.push (set0 w)).objs.size := by rw [z1]; exact Nat.ne_of_lt (Nat.lt_succ_of_lt lt)
        have nf : s.heap.objs.size ∉ [(s.heap.push (set0 w)).objs.size, l] := by
          rw [z1]
          intro m
          rcases List.mem_cons.mp m with m | m
          · exact absurd m (Nat.ne_of_lt (Nat.lt_succ_self _))
          · exact absurd (List.mem_singleton.mp m) (Nat.ne_of_gt lt)
        refine sg_loop ((Walks.tuple hh3 _ l nl vs).toS) s.heap.objs.size nf js len few keys (vs.size - 0) 0 _ (by omega) (Nat.zero_le _) ⟨⟨_, Heap.get?_push_size _ rfl, rfl, rfl⟩, src2.push _⟩ ?fresh ?fin
        case fresh =>
          rw [List.take_zero]
          exact sg_fresh (Heap.get?_push_of_some _ at0)
        case fin =>
          intro z3 mv sg
          obtain ⟨g, gg, dd, tk, oo⟩ := z3
          obtain rfl : gg = s.gens := mv.gens
          obtain rfl : dd = s.drawn := mv.drawn
          obtain rfl : oo = s.os := mv.os
          show wpAny _ _ _ _ _ _
          refine wpAny_pure ?_
          show wpAny _ _ (ret Value.none) _ _ _
          refine wpAny_pure ⟨rfl, g, tk, rfl, sg, fun b o e => ?_⟩
          have lb := Heap.lt_size e
          refine mv.heap b o (fun m => ?_) (Heap.get?_push_of_some _ (Heap.get?_push_of_some _ e))
          rcases List.mem_cons.mp m with m | m
          · exact absurd m (Nat.ne_of_lt lb)
          · have e2 := List.mem_singleton.mp m
            rw [z1] at e2
            exact absurd e2 (Nat.ne_of_lt (Nat.lt_succ_of_lt lb))
      · rcases r2 with er | fl2
        · exact hz2
        · cases fl2 with
          | ret q =>
            obtain ⟨rfl, g, tk, rfl, sg, k⟩ := hz2
            repeat (any_goals (first | assumption | wp_step))
            exact goal g tk sg k
          | _ => exact hz2.elim
    | _ => exact hz.elim
end
end Ev

end
section
/-! sorted(set(xs)) -/
namespace Ev
open PySem PySem.Spec PyProof.Rows L2
open PySem.W (EachIs AllAlike Sortable dataLe)

/-- the items that are sorted: keys of one kind -/
structure Sk (β : Type) where
  key : β → Key
  enc : β → PyData
  inj : ∀ x y, key x = key y → x = y
  reads : ∀ (h : Heap) (v : Value) (b : β), kv v = some (key b) → Reads h v (enc b) []
  rel : ∀ (v : Value) (b : β), kv v = some (key b) → RelV (kV (key b)) v
  alike : ∀ b c, PySem.W.alike (enc b) (enc c) = true
  srt : ∀ b, enc b ≠ .none ∧ ∀ xs, enc b ≠ .tuple xs
  depth : ∀ b, (enc b).depth ≤ 1
def skI : Sk Int where
  key := .inl
  enc := .int
  inj := fun x y h => Sum.inl.inj h
  reads := fun h v b e => by
    cases v with
    | int i t => cases e; exact .int _ _
    | str x t => cases e
    | _ => cases e
  rel := fun v b e => by
    cases v with
    | int i t => cases e; exact ⟨t, rfl⟩
    | str x t => cases e
    | _ => cases e
  alike := fun _ _ => rfl
  srt := fun _ => ⟨by simp, by simp⟩
  depth := fun _ => by simp [PyData.depth]
def skS : Sk Str where
  key := .inr
  enc := .str
  inj := fun x y h => Sum.inr.inj h
  reads := fun h v b e => by
    cases v with
    | int i t => cases e
    | str x t => cases e; exact .str _ _
    | _ => cases e
  rel := fun v b e => by
    cases v with
    | int i t => cases e
    | str x t => cases e; exact ⟨t, rfl⟩
    | _ => cases e
  alike := fun _ _ => rfl
  srt := fun _ => ⟨by simp, by simp⟩
  depth := fun _ => by simp [PyData.depth]
section
variable {P : Program} {w : World} {A : Around} {E : Value → Shared → Prop} {s : Shared} {β : Type} {a : Addr}
theorem each_of (sk : Sk β) : ∀ {vs : List Value} {bs : List β}, vs.map kv = bs.map (fun b => some (sk.key b)) → EachIs (fun v b => kv v = some (sk.key b)) vs bs
  | [], [], _ => .nil
  | [], _ :: _, h => by cases h
  | _ :: _, [], h => by cases h
  | v :: vs, b :: bs, h => by
    simp only [List.map_cons, List.cons.injEq] at h
    exact .cons h.1 (each_of sk h.2)
/-- a permutation's items come from items -/
theorem unmap (sk : Sk β) : ∀ {l : List (Option Key)}, (∀ x ∈ l, ∃ b, x = some (sk.key b)) → ∃ bs : List β, l = bs.map fun b => some (sk.key b)
  | [], _ => ⟨[], rfl⟩
  | x :: l, h => by
    obtain ⟨b, e⟩ := h x List.mem_cons_self
    obtain ⟨bs, e2⟩ := unmap sk (l := l) fun y hy => h y (List.mem_cons_of_mem _ hy)
    exact ⟨b :: bs, by rw [e, e2]; rfl⟩
theorem sort_sg (sk : Sk β) {js : List β} {Q : Value → Shared → Prop} (R : SG P w s.heap a (seen (js.map sk.key).reverse)) (hh : A.handled = none) (few : js.length < 4000) (hu : A.units + 40 < cLine)
    (fin : ∀ (z : Shared) (p : Addr) (out : List Value) (bs : List β) (c : Nat), (∀ b o, s.heap.get? b = some o → z.heap.get? b = some o) → z.gens = s.gens → z.os = s.os → s.heap.objs.size ≤ p → z.heap.get? p = some (seqObj "list" out.toArray c) →
      EachIs (fun v b => kv v = some (sk.key b)) out bs → (∀ b, b ∈ bs ↔ b ∈ js) → bs.Nodup → (∃ l : List β, bs = l.mergeSort (dataLe false sk.enc)) → Q (.ref p) z) :
    wpAny (model P w) A (call (.builtin "sorted") [.ref a]) Q E s := by
  obtain ⟨o, es, n, t, ⟨ho, hx, hd⟩, g, pm, hb, hf, hr, hl⟩ := R
  refine Calls.call_function_entry kind_sorted plain_sorted entry_sorted (args_sorted1 _) ?_
  unfold Builtin.«sorted»
  refine wpAny_bind (m := checkCount "sorted" 1 1 _) (wpAny_pure (wpAny_bind (collect_set (A := A.in1) hh ⟨o, ho, hx.1, hd⟩ hf hb hr hl fun z vs k1 sz g1 o1 pv => ?_)))
  have keys : (vs.map kv).Perm (seen (js.map sk.key).reverse) := by
    refine (pv.map kv).trans ?_
    rw [List.map_map]
    exact pm
  have members : ∀ x ∈ vs.map kv, ∃ b, x = some (sk.key b) := by
    intro x hx
    obtain ⟨k, hk, e⟩ := mem_seen.mp (keys.mem_iff.mp hx)
    obtain ⟨b, _, eb⟩ := List.mem_map.mp (List.mem_reverse.mp hk)
    exact ⟨b, by rw [e, ← eb]⟩
  obtain ⟨bs, eb⟩ := unmap sk members
  have ea := each_of sk eb
  have lenv : vs.length = bs.length := by
    have := congrArg List.length eb
    simpa using this
  have lenb : bs.length ≤ js.length := by
    have h1 := keys.length_eq
    have h2 := seen_len (js.map sk.key).reverse
    rw [eb, List.length_map] at h1
    rw [List.length_reverse, List.length_map] at h2
    omega
  have lsz : sizeLine = 16777216 := sizeLine_eq
  refine wpAny_bind (wpAny_newList ?_ (by omega))
  have at1 : (z.heap.push (seqObj "list" vs.toArray 0)).get? z.heap.objs.size = some (seqObj "list" vs.toArray 0) := Heap.get?_push_size _ rfl
  have no : z.heap.get? z.heap.objs.size = none := by
    cases q : z.heap.get? z.heap.objs.size with
    | none => rfl
    | some o => exact absurd (Heap.lt_size q) (Nat.lt_irrefl _)
  refine wpAny_bind (wpAny_holding (PySem.W.list_sort_data (s := { z with heap := z.heap.push (seqObj "list" vs.toArray 0) }) (enc := sk.enc) at1 ea (ea.mono fun v b q => ⟨[], sk.reads _ _ _ q, by simp⟩) ?_ ?_ (by omega) ?_ fun out hlen he => ?_))
  · intro d hd d' hd'
    obtain ⟨b, _, rfl⟩ := List.mem_map.mp hd
    obtain ⟨b', _, rfl⟩ := List.mem_map.mp hd'
    exact sk.alike b b'
  · refine .inr fun d hd => ?_
    obtain ⟨b, _, rfl⟩ := List.mem_map.mp hd
    exact sk.srt b
  · intro b _
    have := sk.depth b
    show A.units + 1 + 1 + _ < _
    omega
  · obtain ⟨c, hc⟩ := sortedHeap_at (vs := vs) (out := out.toArray) at1
    have nod : bs.Nodup := by
      have h1 := keys.nodup_iff.mpr (seen_nodup _)
      rw [eb] at h1
      exact List.Pairwise.of_map _ (fun x y hne e => hne (by rw [e])) h1
    refine wpAny_pure ⟨_, rfl, fin _ z.heap.objs.size out _ c (fun b u q => ?_) g1 o1 sz hc he (fun b => ?_) ((List.mergeSort_perm bs (dataLe false sk.enc)).nodup_iff.mpr nod) ⟨bs, rfl⟩⟩
    · have q2 := k1 b u q
      have lt := Heap.lt_size q2
      show (sortedHeap (z.heap.push (seqObj "list" vs.toArray 0)) z.heap.objs.size vs out.toArray).get? b = some u
      rw [sortedHeap_old (Nat.ne_of_lt lt) (by rw [size_push']; exact Nat.lt_succ_of_lt lt)]
      exact Heap.get?_push_of_some _ q2
    · rw [(List.mergeSort_perm bs (dataLe false sk.enc)).mem_iff]
      have m1 : b ∈ bs ↔ some (sk.key b) ∈ vs.map kv := by
        rw [eb, List.mem_map]
        exact ⟨fun h => ⟨b, h, rfl⟩, fun ⟨c, hc, e⟩ => by rw [← sk.inj c b (Option.some.inj e)]; exact hc⟩
      rw [m1, keys.mem_iff, mem_seen]
      constructor
      · rintro ⟨k, hk, e⟩
        obtain ⟨c, hc, ec⟩ := List.mem_map.mp (List.mem_reverse.mp hk)
        have : sk.key b = sk.key c := by rw [ec]; exact Option.some.inj e
        rw [sk.inj b c this]; exact hc
      · intro hb
        exact ⟨sk.key b, List.mem_reverse.mpr (List.mem_map_of_mem hb), rfl⟩
end
end Ev

end
section
/-! the rule for sorted(set(xs)) -/
namespace Ev
open PySem PySem.Spec PyProof.Rows L2
open PySem.W (EachIs AllAlike Sortable dataLe)

/-- each once -/
def dd {α : Type} [DecidableEq α] : List α → List α
  | [] => []
  | x :: r => if x ∈ r then dd r else x :: dd r
theorem mem_dd {α : Type} [DecidableEq α] {x : α} : ∀ {l : List α}, x ∈ dd l ↔ x ∈ l
  | [] => Iff.rfl
  | y :: r => by
    unfold dd
    have ih := mem_dd (x := x) (l := r)
    split
    · rename_i h
      rw [ih, List.mem_cons]
      exact ⟨.inr, fun z => z.elim (fun e => e ▸ h) id⟩
    · rw [List.mem_cons, List.mem_cons, ih]
theorem nodup_dd {α : Type} [DecidableEq α] : ∀ l : List α, (dd l).Nodup
  | [] => List.Pairwise.nil
  | y :: r => by
    unfold dd
    split
    · exact nodup_dd r
    · rename_i h
      exact List.nodup_cons.mpr ⟨fun z => h (mem_dd.mp z), nodup_dd r⟩
def leS (a b : Str) : Bool := decide (a.cps.toList ≤ b.cps.toList)
def leI (a b : Int) : Bool := decide (a ≤ b)
def sortI (ns : List Int) : List Int := (dd ns).mergeSort leI
def sortS (xs : List Str) : List Str := (dd xs).mergeSort leS
theorem str_ext {a b : Str} (h : a.cps.toList = b.cps.toList) : a = b := by
  obtain ⟨x⟩ := a
  obtain ⟨y⟩ := b
  have : x = y := Array.toList_inj.mp h
  rw [this]
theorem leS_anti (a b : Str) (h1 : leS a b = true) (h2 : leS b a = true) : a = b := str_ext (List.le_antisymm (of_decide_eq_true h1) (of_decide_eq_true h2))
theorem leS_trans (a b c : Str) (h1 : leS a b = true) (h2 : leS b c = true) : leS a c = true := decide_eq_true (List.le_trans (of_decide_eq_true (p := a.cps.toList ≤ b.cps.toList) h1) (of_decide_eq_true (p := b.cps.toList ≤ c.cps.toList) h2))
theorem leS_total (a b : Str) : (leS a b || leS b a) = true := by
  rcases List.le_total a.cps.toList b.cps.toList with h | h
  · rw [Bool.or_eq_true]; exact .inl (decide_eq_true h)
  · rw [Bool.or_eq_true]; exact .inr (decide_eq_true h)
theorem leI_trans (a b c : Int) (h1 : leI a b = true) (h2 : leI b c = true) : leI a c = true := by
  unfold leI at *
  simp only [decide_eq_true_eq] at *
  omega
theorem leI_total (a b : Int) : (leI a b || leI b a) = true := by
  unfold leI
  simp only [Bool.or_eq_true, decide_eq_true_eq]
  omega
theorem leI_anti (a b : Int) (h1 : leI a b = true) (h2 : leI b a = true) : a = b := by
  unfold leI at *
  simp only [decide_eq_true_eq] at *
  omega
/-- sorted, each once, of the same members: the same -/
theorem one_sorted {α : Type} (le : α → α → Bool) (anti : ∀ a b, le a b = true → le b a = true → a = b) {l m : List α} (h1 : l.Pairwise (fun a b => le a b = true)) (h2 : m.Pairwise (fun a b => le a b = true)) (n1 : l.Nodup) (n2 : m.Nodup) (e : ∀ x, x ∈ l ↔ x ∈ m) : l = m :=
  List.Perm.eq_of_pairwise (fun a b _ _ => anti a b) h1 h2 ((List.perm_ext_iff_of_nodup n1 n2).mpr e)
theorem sortI_pw (ns : List Int) : (sortI ns).Pairwise (fun a b => leI a b = true) := List.pairwise_mergeSort leI_trans leI_total _
theorem sortS_pw (ns : List Str) : (sortS ns).Pairwise (fun a b => leS a b = true) := List.pairwise_mergeSort leS_trans leS_total _
theorem sortI_nodup (ns : List Int) : (sortI ns).Nodup := (List.mergeSort_perm _ _).nodup_iff.mpr (nodup_dd ns)
theorem sortS_nodup (ns : List Str) : (sortS ns).Nodup := (List.mergeSort_perm _ _).nodup_iff.mpr (nodup_dd ns)
theorem mem_sortI {ns : List Int} {x : Int} : x ∈ sortI ns ↔ x ∈ ns := by unfold sortI; rw [(List.mergeSort_perm _ _).mem_iff, mem_dd]
theorem mem_sortS {ns : List Str} {x : Str} : x ∈ sortS ns ↔ x ∈ ns := by unfold sortS; rw [(List.mergeSort_perm _ _).mem_iff, mem_dd]
theorem is_sortI {ns bs l : List Int} (e : bs = l.mergeSort (dataLe false PyData.int)) (m : ∀ b, b ∈ bs ↔ b ∈ ns) (n : bs.Nodup) : bs = sortI ns := by
  have h : dataLe false PyData.int = leI := PySem.W.dataLe_int (fun i : Int => i)
  refine one_sorted leI leI_anti ?_ (sortI_pw ns) n (sortI_nodup ns) fun x => (m x).trans mem_sortI.symm
  rw [e, h]
  exact List.pairwise_mergeSort leI_trans leI_total _
theorem is_sortS {ns bs l : List Str} (e : bs = l.mergeSort (dataLe false PyData.str)) (m : ∀ b, b ∈ bs ↔ b ∈ ns) (n : bs.Nodup) : bs = sortS ns := by
  have h : dataLe false PyData.str = leS := PySem.W.dataLe_str (fun i : Str => i)
  refine one_sorted leS leS_anti ?_ (sortS_pw ns) n (sortS_nodup ns) fun x => (m x).trans mem_sortS.symm
  rw [e, h]
  exact List.pairwise_mergeSort leS_trans leS_total _
/-! ### the rule -/
/-- what is asked: a list or tuple of keys of one kind -/
def tSortSet (K : Frag) (te : TE) : TE := fun σ H Q => te σ H fun x H1 => ∃ (l : Addr), x = .ref l ∧
  ((∃ ns : List Int, (SqL K H1 l (ns.map V.int) ∨ SqT K H1 l (ns.map V.int)) ∧ ns.length < 4000 ∧ ∀ p, H1 p = none → Q (.ref p) (upd H1 p (.lst ((sortI ns).map V.int)))) ∨
   (∃ xs : List Str, (SqL K H1 l (xs.map V.str) ∨ SqT K H1 l (xs.map V.str)) ∧ xs.length < 4000 ∧ ∀ p, H1 p = none → Q (.ref p) (upd H1 p (.lst ((sortS xs).map V.str)))))
section
variable {X : Cx} {a : Expr} {ta : TE} {p p2 q pos : Pos}
/-- set, then sorted, from where the argument lies -/
theorem run_ss {β : Type} (sk : Sk β) {k : Nat} (hr : Room k X.A) (hc : X.calm = true) {pins : List (Addr × Obj)} {s : Shared} {σ : L2.St} {H : Hp} {Q : VK} {l : Addr} {js : List β} (I : Inv X pins σ H s) (hq : SqL X.K H l (js.map fun b => kV (sk.key b)) ∨ SqT X.K H l (js.map fun b => kV (sk.key b))) (few : js.length < 4000) (res : List β → List β)
    (un : ∀ bs, (∃ l : List β, bs = l.mergeSort (dataLe false sk.enc)) → (∀ b, b ∈ bs ↔ b ∈ js) → bs.Nodup → bs = res js) (fin : ∀ p, H p = none → Q (.ref p) (upd H p (.lst ((res js).map fun b => kV (sk.key b)))))
    {R : Value → Shared → Prop} (hR : ∀ v s2, wpAny (model X.prog X.w) X.A (call (.builtin "sorted") [v]) (EP X pins σ Q) X.xe s2 → R v s2) : wpAny (model X.prog X.w) X.A (call (.type "set") [.ref l]) R X.xe s := by
  have core : ∀ (us : List Value), Vals (js.map fun b => kV (sk.key b)) us → (∀ (i : Nat) (v : Value), us.toArray[i]? = some v → ∃ j, (js.map sk.key)[i]? = some j ∧ kv v = some j) := by
    intro us
    generalize js = js
    induction js generalizing us with
    | nil => intro r i v hv; cases r; simp at hv
    | cons b bs ih =>
      intro r i v hv
      rw [List.map_cons] at r
      cases r with
      | @cons _ u _ ur ru rr =>
        cases i with
        | zero =>
          have : u = v := by simpa using hv
          subst this
          refine ⟨sk.key b, rfl, ?_⟩
          cases hk : sk.key b with
          | inl i => rw [hk] at ru; obtain ⟨t, rfl⟩ := ru; rfl
          | inr x => rw [hk] at ru; obtain ⟨t, rfl⟩ := ru; rfl
        | succ i =>
          have := ih ur rr i v (by simpa using hv)
          simpa using this
  have after : ∀ (g : Heap) (tk : Nat), SG X.prog X.w g s.heap.objs.size (seen (js.map sk.key).reverse) → (∀ b o, s.heap.get? b = some o → g.get? b = some o) → R (.ref s.heap.objs.size) { s with heap := g, toks := tk } := by
    intro g tk sg keep
    refine hR _ _ ?_
    have un2 := hr.un
    refine sort_sg (s := { s with heap := g, toks := tk }) sk sg (I.ok.hd hc) few (by omega) fun z p out bs c k1 gn os lp at1 ea mem nod srt => ?_
    have e := un bs srt mem nod
    subst e
    have rel : ∀ {out : List Value} {bs : List β}, EachIs (fun v b => kv v = some (sk.key b)) out bs → Vals (bs.map fun b => kV (sk.key b)) out := by
      intro out bs h
      induction h with
      | nil => exact .nil
      | cons h1 h2 ih => exact .cons (sk.rel _ _ h1) ih
    have keep2 : ∀ b o, s.heap.get? b = some o → z.heap.get? b = some o := fun b o q => k1 b o (keep b o q)
    have lp' : s.heap.objs.size ≤ p := by
      have h0 : s.heap.objs.size ≤ g.objs.size := by
        obtain ⟨o, es, n, t, ⟨ho, _⟩, _⟩ := sg
        exact Nat.le_of_lt (Heap.lt_size ho)
      exact Nat.le_trans h0 lp
    have hn : H p = none := I.hok.fresh lp'
    have rv := rel ea
    have zl : ((res js).map fun b => kV (sk.key b)).length ≤ sizeLine := by
      have h1 : (res js).length ≤ js.length := List.Nodup.length_le_of_subset nod fun b hb => (mem b).mp hb
      rw [List.length_map, sizeLine_eq]
      omega
    have J : Inv X pins σ (upd H p (.lst ((res js).map fun b => kV (sk.key b)))) { s with heap := z.heap, gens := z.gens, drawn := z.drawn, toks := z.toks } :=
      I.call (ch := []) (Un.laid keep2 lp' hn) (I.hok.laid keep2 lp' ⟨zl, out, c, rv, at1⟩) (by rw [gn]; exact I.bare) (fun _ z => nomatch z)
    have ez : z = { s with heap := z.heap, gens := z.gens, drawn := z.drawn, toks := z.toks } := by
      obtain ⟨a1, a2, a3, a4, a5⟩ := z
      have : a5 = s.os := os
      rw [this]
    rw [ez]
    exact ⟨.ref p, _, J, rfl, fin p hn⟩
  rcases hq with hq | hq
  · obtain ⟨us, rv, pl, _⟩ := I.list hq
    have len : (js.map sk.key).length = us.toArray.size := by
      have := rv.length
      simpa using this
    exact set_of_list (I.ok.hd hc) pl.isList (core us rv) len (by simpa using few) after
  · obtain ⟨us, rv, pl, _⟩ := I.tuple hq
    have len : (js.map sk.key).length = us.toArray.size := by
      have := rv.length
      simpa using this
    exact set_of_tuple (I.ok.hd hc) pl (core us rv) len (by simpa using few) after
theorem pe_sortSet {k : Nat} (hr : Room k X.A) (hc : X.calm = true) (hg : Gl X "sorted") (hm : X.mg "sorted" = none) (hg2 : Gl X "set") (hm2 : X.mg "set" = none) (ha : PE X a ta)
    (na : starEach [a] X.env = (false, eval a X.env) :: starEach [] X.env := by rfl) : PE X (.Call (.Name "sorted" p) [.Call (.Name "set" p2) [a] [] q] [] pos) (tSortSet X.K ta) := by
  refine ⟨fun pins s σ H Q I h => ?_⟩
  refine Call_ (ld_blt I hg hm PyProof.Rows.Boot.«sorted» ?_)
  refine PyProof.Rows.callWith_builtin1 (PyProof.Rows.args_cons ?_ rfl) rfl rfl
  refine Call_ (ld_blt I hg2 hm2 PyProof.Rows.Boot.«set» ?_)
  refine PyProof.Rows.callWith_type1 (PyProof.Rows.args_cons (thn (ha.run pins s σ H _ I h) fun v s1 ⟨x, H1, I1, r1, q1⟩ => PyProof.Rows.args_nil ?_) na) na rfl
  obtain ⟨l, rfl, q1⟩ := q1
  cases r1
  have hR : ∀ v s2, wpAny (model X.prog X.w) X.A (call (.builtin "sorted") [v]) (EP X pins σ Q) X.xe s2 → wpAny (model X.prog X.w) X.A (spliced (backTo pos (starEach [] X.env))) (fun vs s₂ => wpAny (model X.prog X.w) X.A (call (.builtin "sorted") (v :: vs)) (EP X pins σ Q) X.xe s₂) X.xe s2 :=
    fun v s2 z => PyProof.Rows.args_nil z
  rcases q1 with ⟨ns, hq, few, fin⟩ | ⟨xs, hq, few, fin⟩
  · exact run_ss skI hr hc I1 hq few sortI (fun bs ⟨l, e⟩ m n => is_sortI e m n) fin hR
  · exact run_ss skS hr hc I1 hq few sortS (fun bs ⟨l, e⟩ m n => is_sortS e m n) fin hR
def hSortSet (x : Vl) (S : Sto) : Out Vl := match (asListZ x S).or (asTup x) with
  | some ds => if ds.length < 4000 then match intsOf ds with
      | some ns => .ok (.d (.list ((sortI ns).map .int))) S
      | none => match strsOf ds with
        | some xs => .ok (.d (.list ((sortS xs).map .str))) S
        | none => .stuck
    else .stuck
  | none => .stuck
def eSortSet (f : EF) : EF := fun ρ S => (f ρ S).bind fun x S1 => (hSortSet x S1).calm
theorem re_sortSet {W : WX} {f : EF} {k : Nat} (hr : Room k X.A) (hc : X.calm = true) (hg : Gl X "sorted") (hm : X.mg "sorted" = none) (hg2 : Gl X "set") (hm2 : X.mg "set" = none) (ha : RE X W a f)
    (na : starEach [a] X.env = (false, eval a X.env) :: starEach [] X.env := by rfl) : RE X W (.Call (.Name "sorted" p) [.Call (.Name "set" p2) [a] [] q] [] pos) (eSortSet f) := by
  refine PEof (pe_sortSet hr hc hg hm hg2 hm2 ha na) fun σ H Q ⟨ρ, S, m, s, t⟩ => ?_
  refine ⟨ρ, S, m, s, Fin.mono (Fin.bind t) (fun x S1 m1 H1 e1 k1 t1 v rv => ?_) fun _ _ _ z => z⟩
  have t2 : FinV X.K (hSortSet x S1) S1 m1 H1 Q fun _ _ _ => False := Fin.calm t1
  unfold hSortSet at t2
  split at t2
  · rename_i ds e
    have src : ∃ l vs, v = .ref l ∧ (SqL X.K H1 l vs ∨ SqT X.K H1 l vs) ∧ RpL X.K H1 (hid S1 m1) ds vs := by
      rcases Option.or_eq_some_iff.mp e with e | ⟨_, e⟩
      · obtain ⟨l, vs, rfl, h1, l1⟩ := asListZ_rp rv k1 e
        exact ⟨l, vs, rfl, .inl h1, l1⟩
      · obtain ⟨l, vs, rfl, h1, l1⟩ := asTup_rp rv e
        exact ⟨l, vs, rfl, .inr h1, l1⟩
    obtain ⟨l, vs, rfl, hq, l1⟩ := src
    split at t2
    · rename_i few
      refine ⟨l, rfl, ?_⟩
      split at t2
      · rename_i ns en
        have ed := intsOf_eq en
        subst ed
        rw [l1.ints] at hq
        exact .inl ⟨ns, hq, by simpa using few, fun p hp => t2.lst k1 (RpL.of_ints _) hp⟩
      · split at t2
        · rename_i xs en
          have ed := strsOf_eq en
          subst ed
          rw [l1.strs] at hq
          exact .inr ⟨xs, hq, by simpa using few, fun p hp => t2.lst k1 (RpL.of_strs _) hp⟩
        · exact t2.elim
    · exact t2.elim
  · exact t2.elim
end
end Ev

end
section
/-! first, *rest = a list -/
namespace Ev
open PySem PySem.Spec PyProof.Rows L2

section
variable {prog : Program} {w : World} {A : Around} {E : Value → Shared → Prop} {st : Shared}
theorem one_star {l : Addr} {x : Value} {xs : List Value} {Q : List Value → Shared → Prop} (src : st.heap.IsList l (x :: xs).toArray) (hh : A.handled = none) (few : xs.length ≤ 16000)
    (goal : ∀ (g : Heap) (tk : Nat), (∀ b o, st.heap.get? b = some o → g.get? b = some o) → Q [x, .ref g.objs.size] { st with heap := g.push { cls := .type "list", data := .seq xs.toArray }, toks := tk }) :
    wpAny (model prog w) A (unpackItems (.ref l) 2 (some 1)) Q E st := by
  have lsz : sizeLine = 16777216 := sizeLine_eq
  have nl : l ≠ st.heap.objs.size := by obtain ⟨o, ho, _⟩ := src; exact Nat.ne_of_lt (Heap.lt_size ho)
  unfold unpackItems notIterableAtAll
  refine wpAny_bind (wpAny_bind (wpAny_specialOf src.typeIs slot_list_iter.lookup (wpAny_pure ?_)))
  simp only [Bool.false_eq_true, if_false]
  refine wpAny_bind (wpAny_holding (wpAny_pyIter_list src (wpAny_bind (wpAny_holding (PySem.W.kun_draw nl 1 0 _ _ ⟨_, Heap.get?_push_size _ rfl, rfl, rfl⟩ (src.push _) (by simp) fun g1 it1 sb1 => ?_)))))
  have src1 : g1.IsList l (x :: xs).toArray := (src.push _).extBut sb1.extBut nl
  rw [Nat.zero_add] at it1
  obtain ⟨oi, hoi, _⟩ := id it1
  obtain ⟨ol, hol, _⟩ := id src1
  rw [if_neg (by simp)]
  refine wpAny_bind (wpAny_holding (PySem.W.kun_collect (s := { st with heap := g1 }) (T := "list_iterator") (.inr (.inr (.inl rfl))) (Walks.list (A := A.in1) hh st.heap.objs.size l nl (x :: xs).toArray) (fun j u z => z.1.typeIs) (k := 1) (by simp) ⟨it1, src1⟩ (Heap.lt_size hoi) (Heap.lt_size hol) (fun g2 tk k2 => ?_) (by simp; omega)))
  have keep : ∀ b o, st.heap.get? b = some o → g2.get? b = some o := fun b o e => k2 b o (Nat.ne_of_lt (Heap.lt_size e)) (sb1.extBut b o (Nat.ne_of_lt (Heap.lt_size e)) (Heap.get?_push_of_some _ e))
  have dr : (x :: xs).toArray.toList.drop 1 = xs := by simp
  rw [dr]
  show wpAny _ _ (if xs.length < 0 then _ else _) _ _ _
  rw [if_neg (Nat.not_lt_zero _)]
  show wpAny _ _ (newList (xs.take (xs.length - 0)) >>= fun d => pure ((x :: xs).toArray.toList.take 1 ++ [d] ++ xs.drop (xs.length - 0))) _ _ _
  rw [Nat.sub_zero, List.take_length, List.drop_length]
  refine wpAny_bind (wpAny_newList ?_ (by omega))
  refine wpAny_pure ?_
  exact goal g2 tk keep
end
/-- first, *rest = e -/
def sStar (i j : Nat) (f : EF) : SF := fun ρ S => (f ρ S).lift ρ fun x S1 => match lstOf x with
  | some (d :: ds) => if i < ρ.length ∧ j < ρ.length ∧ ds.length ≤ 16000 then .ok (.nx ((ρ.set i (some (.d d))).set j (some (.d (.list ds))))) S1 else .stuck
  | _ => .stuck
/-- the target's reading -/
def gStar (K : Frag) (i j : Nat) : TG := fun v σ H Q => ∃ a x xs, v = .ref a ∧ SqL K H a (x :: xs) ∧ xs.length ≤ 16000 ∧ ∀ p, H p = none → Q ((σ.set i (some x)).set j (some (.ref p))) (upd H p (.lst xs))
section
variable {X : Cx} {W : WX} {e : Expr} {f : EF} {pos p1 p2 p3 p4 : Pos} {kk : Nat} {i j : Nat} {x y : Str}
theorem pg_star (hc : X.calm = true) (hN : X.N.Nodup) (hi : X.N[i]? = some x) (hj : X.N[j]? = some y) (hx : Loc X.env.scope x) (hy : Loc X.env.scope y) (h1 : X.fn x = true ∨ X.env.scope.names.lookup x = some .local) (h2 : X.fn y = true ∨ X.env.scope.names.lookup y = some .local)
    (hs : assignEach [.Name x p1, .Starred (.Name y p2) p3] X.env = [(false, assign (.Name x p1) X.env), (true, assign (.Name y p2) X.env)]) : PG X (.Tuple [.Name x p1, .Starred (.Name y p2) p3] kk pos) (gStar X.K i j) := by
  refine ⟨fun pins s σ H v u Q I r ⟨a, z, zs, ev, hq, hz, q⟩ => ?_⟩
  subst ev
  cases r
  obtain ⟨its, rv, pl, _⟩ := I.list hq
  cases rv with
  | @cons _ u0 _ us r0 rr =>
    have len : us.length ≤ 16000 := by rw [← rr.length]; exact hz
    rw [PyProof.Rows.assign_Tuple]
    refine wpAny_bind (wpAny_standAt ?_)
    unfold unpack
    rw [hs]
    refine wpAny_bind (wpAny_holding (one_star pl.isList (I.ok.hd hc) len fun g tk keep => ?_))
    have I1 : Inv X pins σ H { s with heap := g, toks := tk } := I.kept (t' := tk) keep
    have I2 : Inv X pins σ (upd H g.objs.size (.lst zs)) { s with heap := g.push { cls := .type "list", data := .seq us.toArray }, toks := tk } :=
      I1.laid (t' := tk) (fun b o e => Heap.get?_push_of_some _ e) (Nat.le_refl _) ⟨by rw [sizeLine_eq]; omega, us, 0, rr, Heap.get?_push_size _ rfl⟩
    show wpAny _ _ (assignInOrder [assign (.Name x p1) X.env, assign (.Name y p2) X.env] [u0, .ref g.objs.size]) _ _ _
    refine assignInOrder_cons (thn ((pg_name (pos := p1) hN hi hx h1).run pins _ σ _ z u0 (Q := fun σ' H' => σ' = σ.set i (some z) ∧ H' = upd H g.objs.size (.lst zs)) I2 r0 ⟨rfl, rfl⟩) fun _ s1 ⟨σ1, H1, I3, e1, e2⟩ => ?_)
    subst e1 e2
    refine assignInOrder_cons (thn ((pg_name (pos := p2) hN hj hy h2).run pins _ _ _ (.ref g.objs.size) (.ref g.objs.size) (Q := fun σ' H' => σ' = (σ.set i (some z)).set j (some (.ref g.objs.size)) ∧ H' = upd H g.objs.size (.lst zs)) I3 rfl ⟨rfl, rfl⟩) fun _ s2 ⟨σ2, H2, I4, e1, e2⟩ => ?_)
    subst e1 e2
    exact assignInOrder_nil ⟨_, _, I4, q _ (I1.hok.fresh (Nat.le_refl _))⟩
theorem rs_star (hc : X.calm = true) (hN : X.N.Nodup) (hi : X.N[i]? = some x) (hj : X.N[j]? = some y) (hij : i ≠ j) (hx : X.env.scope.names.lookup x = some .local) (hy : X.env.scope.names.lookup y = some .local) (he : RE X W e f)
    (hs : assignEach [.Name x p1, .Starred (.Name y p2) p3] X.env = [(false, assign (.Name x p1) X.env), (true, assign (.Name y p2) X.env)] := by rfl)
    (hw0 : swapsWithSole [.Tuple [.Name x p1, .Starred (.Name y p2) p3] kk p4] e pos.line X.env = pure false := by rfl) (hw : swappedStores [.Tuple [.Name x p1, .Starred (.Name y p2) p3] kk p4] e X.env = pure none := by rfl)
    (h1 : (assignEach [.Tuple [.Name x p1, .Starred (.Name y p2) p3] kk p4] X.env).map (·.2) = [assign (.Tuple [.Name x p1, .Starred (.Name y p2) p3] kk p4) X.env] := by rfl) :
    RS X W (.Assign [.Tuple [.Name x p1, .Starred (.Name y p2) p3] kk p4] e pos) (sStar i j f) := by
  refine PSof (ps_asg he (pg_star hc hN hi hj (.inl hx) (.inl hy) (.inr hx) (.inr hy) hs) hw0 hw h1) fun D σ H ⟨ρ, S, m, s, t⟩ => ?_
  refine ⟨ρ, S, m, s, Fin.mono (Fin.lift s t) (fun v S1 m1 H1 e1 k1 t1 u ru => ?_) fun _ _ _ z => z⟩
  split at t1
  · rename_i d ds q
    split at t1
    · rename_i hl
      obtain ⟨a, vs, rfl, l1, hq⟩ := lstOf_rp ru q
      cases l1 with
      | @cons _ _ v0 vr r1 rr =>
        refine ⟨a, v0, vr, rfl, hq _ _ _ ((Xt.refl (H := H1) (S := S1) (m := m1)).w k1), by rw [← rr.length]; exact hl.2.2, fun p hp => ?_⟩
        have x2 : Xt H1 S1 m1 (upd H1 p (.lst vr)) S1 m1 := .new hp
        have k2 : Sok X.K (upd H1 p (.lst vr)) S1 m1 := k1.new hp
        have s2 := (s.ext e1 k1).ext x2 k2
        have rp := Rp.newLst k1 hp rr
        exact t1 m1 _ x2 k2 _ ((s2.set (x := .d d) (Rp.ext x2.kp (x2.kpT k1) _ r1) i).set (x := .d (.list ds)) rp j)
    · exact t1.elim
  · exact t1.elim
end
end Ev

end
section
/-! t[::-1], t a tuple -/
namespace Ev
open PySem PySem.Spec PyProof.Rows L2

section
variable {prog : Program} {w : World} {A : Around} {E : Value → Shared → Prop} {s : Shared}
theorem places_back (n : Nat) : Builtin.Slice.slicePlaces ((n : Int) - 1) (-1) (-1) = n := by
  unfold Builtin.Slice.slicePlaces
  have h1 : ¬ ((-1 : Int) > 0) := by decide
  simp only [h1, if_false]
  by_cases h : (n : Int) - 1 > -1
  · have e : ((n : Int) - 1 - -1 - 1) / (- -1) + 1 = (n : Int) := by
      rw [show (- -1 : Int) = 1 by decide, Int.ediv_one]
      omega
    simp only [h, if_true, e, Int.toNat_natCast]
  · have e : n = 0 := by omega
    subst e
    simp
theorem applied_back {sl : Addr} {vl vu vs : Value} {n : Nat} {Q : Int × Int × Nat → Shared → Prop} (hs : s.heap.IsSliceOf sl vl vu vs) (pl : IsPart vl none) (pu : IsPart vu none) (ps : IsPart vs (some (-1)))
    (h : Q ((n : Int) - 1, -1, n) s) : wpAny (model prog w) A (Builtin.Slice.sliceApplied (.ref sl) (pure (n : Int))) Q E s := by
  obtain ⟨os, hos, hcs, hds⟩ := id hs
  unfold Builtin.Slice.sliceApplied Builtin.Slice.sliceFields
  refine wpAny_bind (wpAny_bind (wpAny_field hos hds (x := vl) rfl (wpAny_bind (wpAny_field hos hds (x := vu) rfl (wpAny_bind (wpAny_field hos hds (x := vs) rfl (wpAny_pure ?_)))))))
  refine wpAny_bind (HT.slicePart_ ps ?_)
  show wpAny _ _ (if ((-1 : Int) == 0) = true then _ else _) _ _ s
  rw [if_neg (by decide)]
  refine wpAny_bind (HT.slicePart_ pl (wpAny_bind (HT.slicePart_ pu (wpAny_bind (wpAny_pure ?_)))))
  show wpAny _ _ (pure ((n : Int) - 1, (-1 : Int), Builtin.Slice.slicePlaces ((n : Int) - 1) (-1) (-1))) _ _ s
  rw [places_back]
  exact wpAny_pure h
theorem fm_congr {α β : Type} {f g : α → Option β} : ∀ {l : List α}, (∀ x ∈ l, f x = g x) → l.filterMap f = l.filterMap g
  | [], _ => rfl
  | x :: l, h => by
    rw [List.filterMap_cons, List.filterMap_cons, h x (by simp), fm_congr fun y hy => h y (by simp [hy])]
theorem pick_back (xs : Array Value) : ((List.range xs.size).filterMap fun (m : Nat) => xs[(((xs.size : Int) - 1) + (m : Int) * (-1)).toNat]?).toArray = xs.toList.reverse.toArray := by
  have e : (List.range xs.size).filterMap (fun (m : Nat) => xs[(((xs.size : Int) - 1) + (m : Int) * (-1)).toNat]?) = ((List.range xs.size).map fun k => xs.size - 1 - k).filterMap (xs[·]?) := by
    rw [List.filterMap_map]
    refine fm_congr fun m hm => ?_
    have := List.mem_range.mp hm
    show xs[_]? = xs[_]?
    have q : (((xs.size : Int) - 1) + (m : Int) * (-1)).toNat = xs.size - 1 - m := by omega
    rw [q]
  rw [e, PySem.W.krv_range, List.filterMap_reverse, PySem.W.krv_all]
theorem getItem_tuple_back {t sl : Addr} {items : Array Value} {vl vu vs : Value} {Q : Value → Shared → Prop} (ht : IsTup s.heap t items) (hs : s.heap.IsSliceOf sl vl vu vs) (pl : IsPart vl none) (pu : IsPart vu none) (ps : IsPart vs (some (-1)))
    (h : Q (.ref s.heap.objs.size) { s with heap := s.heap.push { cls := .type "tuple", data := .seq items.toList.reverse.toArray } })
    (hsz : items.size ≤ sizeLine) : wpAny (model prog w) A (getItem (.ref t) (.ref sl)) Q E s := by
  have htake : sizeOk (.seq items.toList.reverse.toArray) := by
    show items.toList.reverse.toArray.size ≤ sizeLine
    rw [List.size_toArray, List.length_reverse, Array.length_toList]
    exact hsz
  obtain ⟨os, hos, hcs, hds⟩ := id hs
  have hTs : s.TypeIs (.ref sl) "slice" := ⟨os, hos, hcs⟩
  unfold getItem
  try with_reducible refine wpAny_holding ?_
  first | refine wpAny_bind (wpAny_pure ?_) | skip
  refine wpAny_bind (wpAny_sequenceKey ht.typeIs (by decide) ?_)
  refine wpAny_bind (wpAny_callSpecial?_slot (name := Str.ofString "__getitem__") ht.typeIs PyProof.Rows.slot_tuple_getitem
    (wpAny_call_entry PyProof.Rows.slot_tuple_getitem ht.typeIs entry_tuple_getitem ?_ (args_tuple_getitem _ _)))
  show wpAny _ _ (Builtin.Tuple.tupleItemsOf (.ref t) >>= _) _ _ s
  refine wpAny_bind (tupleItemsOf_ ht ?_)
  refine wpAny_bind (wpAny_typeOf hTs ?_)
  rw [if_pos (by decide)]
  refine wpAny_bind (applied_back hs pl pu ps ?_)
  have hno : ¬ ((((items.size : Int) - 1) == 0 && (-1 : Int) == 1 && items.size == items.size) = true) := by
    intro q
    rw [Bool.and_eq_true, Bool.and_eq_true] at q
    have q1 : (-1 : Int) = 1 := eq_of_beq q.1.2
    omega
  show wpAny _ _ (if (((items.size : Int) - 1) == 0 && (-1 : Int) == 1 && items.size == items.size) = true then _ else _) _ _ s
  rw [if_neg hno, pick_back]
  first
    | exact wpAny_bind (m := Builtin.Tuple.tupleExact _) (wpAny_newObj_type (wpAny_pure ⟨_, rfl, wpAny_pure h⟩) htake)
    | exact wpAny_bind (m := Builtin.Tuple.tupleExact _) (wpAny_newObj_type (wpAny_bind (wpAny_pure (wpAny_pure ⟨_, rfl, wpAny_pure h⟩))) htake)
    | exact wpAny_bind (wpAny_bind (m := Builtin.Tuple.tupleExact _) (wpAny_newObj_type (wpAny_pure (wpAny_pure ⟨_, rfl, wpAny_pure h⟩)) htake))
    | exact wpAny_bind (wpAny_bind (m := Builtin.Tuple.tupleExact _) (wpAny_newObj_type (wpAny_pure ⟨_, rfl, wpAny_pure h⟩) htake))
end
def tRevT (K : PySem.W.Frag) (te : TE) : TE := fun σ H Q => te σ H fun x H1 => ∃ a xs, x = .ref a ∧ SqT K H1 a xs ∧ ∀ p, H1 p = none → Q (.ref p) (upd H1 p (.tup xs.reverse))
theorem pe_revT {X : Cx} {e : Expr} {te : TE} {k : Nat} {p1 p2 p3 pos : Pos} (he : PE X e te) : PE X (.Subscript e (.Slice none none (some (.UnaryOp .USub (.Constant (.int 1) k p1) p2)) p3) pos) (tRevT X.K te) := by
  refine ⟨fun pins s σ H Q I h => ?_⟩
  refine Subscript_ (thn (he.run pins s σ H _ I h) fun v s1 ⟨x, H1, I1, r1, q1⟩ => ?_)
  obtain ⟨a, xs, ex, hx, q⟩ := q1
  subst ex
  cases r1
  have hst : PO X (some (.UnaryOp .USub (.Constant (.int 1) k p1) p2)) (tPart (tUn (rU fun i => .int (-i)) (tC (.int 1)))) := po_some (pe_un un_neg pe_int)
  refine wpAny_Slice (thn (po_none.run pins s1 σ H1 (fun o H2 => o = none ∧ H2 = H1) I1 ⟨rfl, rfl⟩) fun vl s2 ⟨l, H2, I2, pl, el, e2⟩ => ?_)
  subst el e2
  refine thn (po_none.run pins s2 σ H2 (fun o H3 => o = none ∧ H3 = H2) I2 ⟨rfl, rfl⟩) fun vu s3 ⟨u, H3, I3, pu, eu, e3⟩ => ?_
  subst eu e3
  refine thn (hst.run pins s3 σ H3 (fun o H4 => o = some (-1) ∧ H4 = H3) I3 ⟨1, rfl, -1, rfl, rfl, rfl⟩) fun vs s4 ⟨o, H4, I4, ps, eo, e4⟩ => ?_
  subst eo e4
  have I5 : Inv X pins σ H4 { s4 with heap := s4.heap.push { cls := .type "slice", data := .fields #[vl, vu, vs] } } := I4.kept (t' := s4.toks) fun b ob q => Heap.get?_push_of_some _ q
  obtain ⟨its, r, ht, hz⟩ := I5.tuple hx
  have hlen := r.length
  show wpAny (model X.prog X.w) X.A (subscriptTail e (.Slice none none (some (.UnaryOp .USub (.Constant (.int 1) k p1) p2)) p3) (.ref a) (.ref s4.heap.objs.size)) (EP X pins σ Q) X.xe { s4 with heap := s4.heap.push { cls := .type "slice", data := .fields #[vl, vu, vs] } }
  refine tail_any (ops := [.ref a, .ref s4.heap.objs.size]) ht.typeIs (PyProof.Rows.slot_tuple_getitem.lookup) ?_ (by with_unfolding_all rfl)
  refine getItem_tuple_back ht (Heap.IsSliceOf.new _ vl vu vs) pl pu ps ?_ (by rw [List.size_toArray]; omega)
  refine ⟨.ref _, _, I5.laid (t' := s4.toks) (o := .tup xs.reverse) (fun b ob q => Heap.get?_push_of_some _ q) (Nat.le_refl _) ?_, rfl, q _ (I5.hok.fresh (Nat.le_refl _))⟩
  exact ⟨by rw [List.length_reverse]; exact hz, _, r.reverse, IsTup.new _ _⟩
def hRevT (x : Vl) (S : Sto) : Out Vl := match asTup x with
  | some ds => .ok (.d (.tuple ds.reverse)) S
  | none => .stuck
def eRevT (f : EF) : EF := fun ρ S => (f ρ S).bind fun x S1 => (hRevT x S1).calm
theorem re_revT {X : Cx} {W : WX} {e : Expr} {f : EF} {pos p2 : Pos} {k : Nat} {p1 p3 : Pos} (he : RE X W e f) : RE X W (.Subscript e (.Slice none none (some (.UnaryOp .USub (.Constant (.int 1) k p1) p2)) p3) pos) (eRevT f) := by
  refine PEof (pe_revT he) fun σ H Q ⟨ρ, S, m, s, t⟩ => ?_
  refine ⟨ρ, S, m, s, Fin.mono (Fin.bind t) (fun x S1 m1 H1 e1 k1 t1 v rv => ?_) fun _ _ _ z => z⟩
  have t2 : FinV X.K (hRevT x S1) S1 m1 H1 Q fun _ _ _ => False := Fin.calm t1
  unfold hRevT at t2
  split at t2
  · rename_i ds q
    obtain ⟨a, vs, rfl, h1, l1⟩ := asTup_rp rv q
    exact ⟨a, vs, rfl, h1, fun p hp => t2.tup k1 l1.reverse hp⟩
  · exact t2.elim
end Ev

end
section
namespace Ev
open PySem PySem.Spec PyProof.Rows L2

/-! ### list + list, a new changed one -/
def oAddR (x y : Vl) (S : Sto) : Out Vl := match asList x S, asList y S with
  | some a, some b => if a.length + b.length ≤ sizeLine then .ok (.r S.length) (S ++ [some (.lst (a ++ b))]) else .stuck
  | _, _ => .stuck
theorem quiet_oAddR : Quiet2 oAddR := by
  intro x y S c p S'
  unfold oAddR
  split
  · split <;> simp
  · simp
section
variable {X : Cx} {W : WX} {a b e : Expr} {f g : EF} {pos p p2 : Pos}
theorem op_oAddR : OpR X (binaryOp .Add) (rOp X.K oAddR) := by
  rintro pins s σ H v u vv uu Q I rv ru ⟨x, y, S, m, r1, r2, k, fin⟩
  unfold oAddR at fin
  split at fin
  · split at fin
    · rename_i e1 e2 hz
      obtain ⟨a, vs, rfl, h1, l1⟩ := asList_rp r1 k e1
      obtain ⟨b, ws, rfl, h2, l2⟩ := asList_rp r2 k e2
      have n1 := l1.length
      have n2 := l2.length
      refine op_cat pins s σ H _ _ vv uu Q I rv ru ⟨a, b, vs, ws, rfl, rfl, h1, h2, by omega, fun p hp => ?_⟩
      obtain ⟨x, k'⟩ := fresh_lst k hp (RpL.append l1 l2)
      exact fin _ _ x k' _ ⟨by simp, by rw [mx_eq]⟩
    · exact fin.elim
  · exact fin.elim
theorem oaddR (ha : RE X W a f) (hb : RE X W b g) : RE X W (.BinOp a .Add b pos) (e2 oAddR f g) := re_bin quiet_oAddR op_oAddR ha hb

/-! ### minus -/
def oNeg (x : Vl) (S : Sto) : Out Vl := match x with
  | .d (.int i) => .ok (.d (.int (-i))) S
  | _ => .stuck
theorem quiet_oNeg : Quiet1 oNeg := by
  intro x S c p S'
  unfold oNeg
  split <;> simp
theorem un_oNeg : UnR X (unaryOp .USub) (rUn X.K oNeg) := by
  rintro pins s σ H v vv Q I rv ⟨x, S, m, r1, k, fin⟩
  unfold oNeg at fin
  split at fin
  · cases r1
    exact un_neg pins s σ H _ vv Q I rv ⟨_, rfl, FinV.at_ fin k (.int _)⟩
  · exact fin.elim
theorem re_neg (ha : RE X W a f) : RE X W (.UnaryOp .USub a pos) (e1 oNeg f) := re_un quiet_oNeg un_oNeg ha

/-! ### == of scalars -/
def eqSc : PyData → PyData → Bool
  | .none, .none => true
  | .int i, .int j => i == j
  | .bool i, .bool j => i == j
  | .str i, .str j => i == j
  | _, _ => false
def oEqS (x y : Vl) (S : Sto) : Out Vl := match x, y with
  | .d (.str a), .d (.str b) => .ok (.d (.bool (decide (a = b)))) S
  | .d .none, .d (.str _) => .ok (.d (.bool false)) S
  | .d (.int a), .d (.int b) => .ok (.d (.bool (decide (a = b)))) S
  | _, _ => .stuck
theorem quiet_oEqS : Quiet2 oEqS := by
  intro x y S c p S'
  unfold oEqS
  split <;> simp
theorem op_oEqS : OpR X (compareOp .Eq) (rOp X.K oEqS) := by
  rintro pins s σ H v u vv uu Q I rv ru ⟨x, y, S, m, r1, r2, k, fin⟩
  unfold oEqS at fin
  split at fin
  · cases r1; cases r2
    refine op_eq pins s σ H _ _ vv uu Q I rv ru ⟨rfl, ?_⟩
    have e : ∀ a b : Str, decide (V.str a = V.str b) = decide (a = b) := fun a b => by rw [dec_str, Bool.eq_iff_iff]; simp
    rw [e]
    exact FinV.at_ fin k (.bl _)
  · cases r1; cases r2
    refine op_eq pins s σ H _ _ vv uu Q I rv ru ⟨rfl, ?_⟩
    have e : ∀ b : Str, decide (V.non = V.str b) = false := fun b => decide_eq_false fun z => by cases z
    rw [e]
    exact FinV.at_ fin k (.bl _)
  · cases r1; cases r2
    refine op_eq pins s σ H _ _ vv uu Q I rv ru ⟨rfl, ?_⟩
    have e : ∀ a b : Int, decide (V.int a = V.int b) = decide (a = b) := fun a b => by rw [dec_int, Bool.eq_iff_iff]; simp
    rw [e]
    exact FinV.at_ fin k (.bl _)
  · exact fin.elim
theorem kEqS : CmpR X .Eq oEqS := ⟨quiet_oEqS, op_oEqS⟩

/-! ### a suite that answers e.f == name -/
theorem eqs {i j : Nat} {a dd : Addr} {x : Str} {q : PyData} {ρ : Env} {S : Sto} (hij : i ≠ j) (hi : i < ρ.length) (fl : Flw) (S' : Sto)
    (e : sRet (e2 oEqS (eC q) (eVar j)) (ρ.set i none) S = .ok fl S') : ∃ fl', sRet (e2 oEqS (eXf i a (some dd) x) (eVar j)) (ρ.set i (some (.x a dd x q))) S = .ok fl' S' ∧ flEq fl fl' := by
  have h1 : eXf i a (some dd) x (ρ.set i (some (.x a dd x q))) S = .ok (.d q) S := by
    unfold eXf
    rw [List.getElem?_set_self hi]
    simp
  have h2 : eVar j (ρ.set i (some (.x a dd x q))) S = eVar j (ρ.set i none) S := by
    unfold eVar
    rw [List.getElem?_set_ne hij, List.getElem?_set_ne hij]
  have e1 : sRet (e2 oEqS (eC q) (eVar j)) (ρ.set i none) S = ((eVar j (ρ.set i none) S).bind fun y S2 => oEqS (.d q) y S2).lift (ρ.set i none) fun x S1 => .ok (.rt x) S1 := rfl
  have e3 : sRet (e2 oEqS (eXf i a (some dd) x) (eVar j)) (ρ.set i (some (.x a dd x q))) S = ((eVar j (ρ.set i none) S).bind fun y S2 => oEqS (.d q) y S2).lift (ρ.set i (some (.x a dd x q))) fun x S1 => .ok (.rt x) S1 := by
    unfold sRet Ev.e2
    rw [h1]
    show ((eVar j (ρ.set i (some (.x a dd x q))) S).bind _).lift _ _ = _
    rw [h2]
  rw [e1] at e
  rw [e3]
  have key : ∀ c p S', ((eVar j (ρ.set i none) S).bind fun y S2 => oEqS (.d q) y S2) ≠ .exc c p S' := by
    intro c p S'
    have : eVar j (ρ.set i none) S = .stuck ∨ ∃ y, eVar j (ρ.set i none) S = .ok y S := by
      unfold eVar
      split
      · exact .inr ⟨_, rfl⟩
      · exact .inl rfl
    rcases this with h | ⟨y, h⟩ <;> rw [h]
    · exact fun z => by cases z
    · exact quiet_oEqS _ _ _ _ _ _
  revert e
  cases hc : ((eVar j (ρ.set i none) S).bind fun y S2 => oEqS (.d q) y S2) with
  | ok y S2 => intro e; cases e; exact ⟨_, rfl, rfl⟩
  | exc c p S2 => exact absurd hc (key c p S2)
  | stuck => intro e; cases e

/-! ### text.replace of written texts: a token must be out -/
def eRepl (f : EF) (y z : Str) : EF := fun ρ S => (f ρ S).bind fun x S1 => match x with
  | .d (.str x) => if x.length + (x.length + 1) * z.length ≤ 16777216 then .ok (.d (.str (Txt.replace x y z))) S1 else .stuck
  | _ => .stuck
abbrev RET (X : Cx) (W : WX) (e : Expr) (f : EF) : Prop := PET X e (tE X.K W f)
abbrev RAT (X : Cx) (W : WX) (es : List Expr) (f : Env → Sto → Out (List Vl)) : Prop := PAT X es (tA X.K W f)
/-- behind e a token is out -/
def RE1 (X : Cx) (W : WX) (e : Expr) (f : EF) : Prop :=
  ∀ (pins : List (Addr × Obj)) (s : Shared) (σ : L2.St) (H : Hp) (Q : VK), Inv X pins σ H s → tE X.K W f σ H Q → wpAny (model X.prog X.w) X.A (eval e X.env) (fun v s' => 1 ≤ s'.toks ∧ EP X pins σ Q v s') X.xe s
variable {es : List Expr} {fs : Env → Sto → Out (List Vl)} {y z : Str} {j k : Nat} {c0 c1 apos : Pos}
theorem ret_repl (ho : RE X W a f) (hyz : (y == z) = false := by decide)
    (hst : starEach [.Constant (.str y) j c0, .Constant (.str z) k c1] X.env = [(false, eval (.Constant (.str y) j c0) X.env), (false, eval (.Constant (.str z) k c1) X.env)] := by rfl)
    (hbase : attributeBase a "replace" X.env (eval a X.env) = eval a X.env := by rfl) (hline : (apos.endLine == pos.line) = true := by rfl) :
    RET X W (.Call (.Attribute a "replace" apos) [.Constant (.str y) j c0, .Constant (.str z) k c1] [] pos) (eRepl f y z) := by
  intro pins s σ H Q h0 I ⟨ρ, S, m, t0, t⟩
  refine CwR.pet_replC ho hyz hst hbase hline pins s σ H Q h0 I ⟨ρ, S, m, t0, Fin.mono (Fin.bind t) (fun x S1 m1 H1 e1 k1 t1 v rv => ?_) fun _ _ _ z => z⟩
  split at t1
  · split at t1
    · rename_i hz
      cases rv
      exact ⟨_, rfl, hz, FinV.at_ t1 k1 (.str _)⟩
    · exact t1.elim
  · exact t1.elim
theorem ret_of (h : RE X W e f) : RET X W e f := CwR.PET.of h
theorem ret_add (ha : RET X W a f) (hb : RE X W b g) : RET X W (.BinOp a .Add b pos) (e2 oAdd f g) := fun pins s σ H Q h0 I t =>
  CwR.pet_op op_oAdd ha (CwR.PET.of hb) pins s σ H Q h0 I (tE_2 quiet_oAdd t)
theorem re1_addC (ha : RE X W a f) : RE1 X W (.BinOp a .Add (.Constant (.str y) j c0) pos) (e2 oAdd f (eC (.str y))) := by
  intro pins s σ H Q I t
  have t' := tE_2 quiet_oAdd t
  refine wpAny_BinOp (thn (ha.run pins s σ H _ I t') fun v s1 ⟨x, H1, I1, r1, q1⟩ => ?_)
  have q2 := (re_str (X := X) (W := W) (i := y) (j := j) (pos := c0)).run pins s1 σ H1 _ I1 q1
  refine Calls.Constant_str ?_
  obtain ⟨ρ, S, m, s0, fin⟩ := q1
  have q4 := fin.here s0.sto _ (.str y)
  exact wpAny_mono (wpAny_toks_of (n := 1) (by show 1 ≤ s1.toks + 1; omega) (op_oAdd pins _ σ H1 x (.str y) v (.str y s1.toks) Q (I1.tok _) r1 ⟨_, rfl⟩ q4)) (fun _ _ z => z) fun _ _ z => z.2
theorem ra_cons1 (ha : RE1 X W a f) (hr : RAT X W es fs) (hs : starEach (a :: es) X.env = (false, eval a X.env) :: starEach es X.env := by rfl) : RA X W (a :: es) (aCons f fs) := by
  refine ⟨fun pos pins s σ H Q I h => ?_⟩
  rw [hs]
  show wpAny _ _ (spliced ((false, eval a X.env) :: backTo pos (starEach es X.env))) _ _ s
  refine Calls.spliced_cons (thn (ha pins s σ H _ I (tA_cons h)) fun u s1 ⟨h1, x, H1, I1, r1, q1⟩ => ?_)
  exact thn (hr pos pins s1 σ H1 _ h1 I1 q1) fun us s2 ⟨xs, H2, I2, r2, q2⟩ => ⟨x :: xs, H2, I2, .cons r1 r2, q2⟩
theorem rat_cons (ha : RET X W a f) (hr : RAT X W es fs) (hs : starEach (a :: es) X.env = (false, eval a X.env) :: starEach es X.env := by rfl) : RAT X W (a :: es) (aCons f fs) := fun pos pins s σ H Q h0 I t =>
  pat_cons ha hr hs pos pins s σ H Q h0 I (tA_cons t)
theorem rat_of (h : RA X W es fs) : RAT X W es fs := fun pos pins s σ H Q _ I t => h.run pos pins s σ H Q I t
end
end Ev

end
section
/-! Ev: rewriting words whose use leaves a trace in the proof (the kernel then unfolds nothing). -/
namespace Ev
open PySem PySem.Spec PyProof.Rows L2
theorem nr {α : Type} {a b : α} (h : a = b) : a = b := h
section
variable {α β : Type} {x : α} {S S1 : Sto} {c : Str} {p : Vl} {ρ : Env}
theorem bind_ok {k : α → Sto → Out β} : (Out.ok x S).bind k = k x S := nr rfl
theorem bind_exc {k : α → Sto → Out β} : (Out.exc c p S).bind k = .exc c p S := nr rfl
theorem bind_stuck {k : α → Sto → Out β} : (Out.stuck : Out α).bind k = .stuck := nr rfl
theorem bind_if {k : α → Sto → Out β} {q : Prop} [Decidable q] {a b : Out α} : (if q then a else b).bind k = if q then a.bind k else b.bind k := by split <;> rfl
theorem lift_ok {k : α → Sto → Out Flw} : (Out.ok x S).lift ρ k = k x S := nr rfl
theorem lift_exc {k : α → Sto → Out Flw} : (Out.exc c p S).lift ρ k = .ok (.ex c p ρ) S := nr rfl
theorem lift_if {k : α → Sto → Out Flw} {q : Prop} [Decidable q] {a b : Out α} : (if q then a else b).lift ρ k = if q then a.lift ρ k else b.lift ρ k := by split <;> rfl
theorem calm_ok : (Out.ok x S).calm = .ok x S := nr rfl
theorem calm_if {q : Prop} [Decidable q] {a b : Out α} : (if q then a else b).calm = if q then a.calm else b.calm := by split <;> rfl
end
section
variable {ρ : Env} {S : Sto} {f g k : EF} {fs gs : Env → Sto → Out (List Vl)} {i j n np : Nat} {d : PyData} {h h' : Vl → Vl → Sto → Out Vl} {h1 : Vl → Sto → Out Vl} {D : DF} {b b' : SF} {p q : BF} {a : AF} {as : AFs} {x : Vl} {xs : List Vl} {t : CT} {vs : List Nat}
theorem r_eVar {x : Vl} (e : ρ[i]? = some (some x)) : eVar i ρ S = .ok x S := by unfold eVar; rw [e]
theorem r_eC : eC d ρ S = .ok (.d d) S := nr rfl
theorem r_e2 : e2 h f g ρ S = (f ρ S).bind fun x S1 => (g ρ S1).bind fun y S2 => h x y S2 := nr rfl
theorem r_e1 : e1 h1 f ρ S = (f ρ S).bind fun x S1 => h1 x S1 := nr rfl
theorem r_eA : eA D fs ρ S = (fs ρ S).bind D := nr rfl
theorem r_aNil : aNil ρ S = .ok [] S := nr rfl
theorem r_aCons : aCons f fs ρ S = (f ρ S).bind fun x S1 => (fs ρ S1).bind fun xs S2 => .ok (x :: xs) S2 := nr rfl
theorem r_eB : eB f ρ S = (f ρ S).bind toB := nr rfl
theorem r_toB {c : Bool} : toB (.d (.bool c)) S = .ok c S := nr rfl
theorem r_eAnd : eAnd f g ρ S = (eB f ρ S).bind fun b S1 => if b = true then g ρ S1 else .ok (.d (.bool false)) S1 := nr rfl
theorem r_eOr : eOr f g ρ S = (eB f ρ S).bind fun b S1 => if b = true then .ok (.d (.bool true)) S1 else g ρ S1 := nr rfl
theorem r_eNot : eNot f ρ S = (eB f ρ S).bind fun b S1 => .ok (.d (.bool (!b))) S1 := nr rfl
theorem r_bAnd : bAnd p q ρ S = (p ρ S).bind fun b S1 => if b = true then q ρ S1 else .ok false S1 := nr rfl
theorem r_bOr : bOr p q ρ S = (p ρ S).bind fun b S1 => if b = true then .ok true S1 else q ρ S1 := nr rfl
theorem r_bNot : bNot p ρ S = (p ρ S).bind fun b S1 => .ok (!b) S1 := nr rfl
theorem r_eIf : eIf p f g ρ S = (p ρ S).bind fun b S1 => if b = true then f ρ S1 else g ρ S1 := nr rfl
theorem r_eChain : eChain h h' f g k ρ S = (f ρ S).bind fun x S1 => (g ρ S1).bind fun y S2 => (h x y S2).bind fun z S3 => (toB z S3).bind fun c S4 => if c = true then (k ρ S4).bind fun w S5 => h' y w S5 else .ok (.d (.bool false)) S4 := nr rfl
theorem r_dCalm : dCalm D xs S = (D xs S).calm := nr rfl
theorem r_iBy {t : Vl → Sto → Out (List Vl)} : iBy t f ρ S = (f ρ S).bind t := nr rfl
theorem r_iBys {t : List Vl → Sto → Out (List Vl)} : iBys t fs ρ S = (fs ρ S).bind t := nr rfl
theorem r_sRet : sRet f ρ S = (f ρ S).lift ρ fun x S1 => .ok (.rt x) S1 := nr rfl
theorem r_sRetN : sRetN ρ S = .ok (.rt (.d .none)) S := nr rfl
theorem r_sExpr : sExpr f ρ S = (f ρ S).lift ρ fun _ S1 => .ok (.nx ρ) S1 := nr rfl
theorem r_sIf : sIf p b b' ρ S = (p ρ S).lift ρ fun c S1 => if c = true then b ρ S1 else b' ρ S1 := nr rfl
theorem r_sNil : sNil ρ S = .ok (.nx ρ) S := nr rfl
theorem r_sSeq : sSeq b b' ρ S = (b ρ S).bind fun fl S1 => match fl with
  | .nx ρ1 => b' ρ1 S1
  | fl => .ok fl S1 := nr rfl
theorem r_sAsg : sAsg f a ρ S = (f ρ S).lift ρ fun x S1 => (a x ρ S1).bind fun ρ1 S2 => .ok (.nx ρ1) S2 := nr rfl
theorem r_aName : aName i x ρ S = if i < ρ.length then .ok (ρ.set i (some x)) S else .stuck := nr rfl
theorem r_sPar : sPar i j fs ρ S = (fs ρ S).lift ρ fun xs S1 => match xs with
  | [x, y] => if i < ρ.length ∧ j < ρ.length then .ok (.nx ((ρ.set i (some x)).set j (some y))) S1 else .stuck
  | _ => .stuck := nr rfl
theorem r_sFor {ff : Env → Sto → Out (List Vl)} : sFor ff a b ρ S = (ff ρ S).lift ρ fun xs S1 => loopF a b xs ρ S1 := nr rfl
theorem r_loop0 : loopF a b [] ρ S = .ok (.nx ρ) S := nr rfl
theorem r_loop1 : loopF a b (x :: xs) ρ S = (a x ρ S).bind fun ρ1 S1 => (b ρ1 S1).bind fun fl S2 => match fl with
    | .nx ρ2 => loopF a b xs ρ2 S2
    | .ct ρ2 => loopF a b xs ρ2 S2
    | .bk ρ2 => .ok (.nx ρ2) S2
    | fl => .ok fl S2 := nr rfl
/-- a def's end: its value, from its body's -/
theorem r_fn : fnDen np n b xs S = if xs.length = np then (b (xs.map some ++ List.replicate (n - np) none) S).calm.bind fun fl S' => match fl with
    | .nx _ => .ok (.d .none) S'
    | .rt x => .ok x S'
    | .ex c p _ => .exc c p S'
    | _ => .stuck else .stuck := nr rfl
theorem r_eIsi {c : Tk} : eIsi c f ρ S = (f ρ S).bind fun x S1 => match tyOf x S1 with
  | some t => .ok (.d (.bool (isTy t c))) S1
  | none => .stuck := nr rfl
theorem r_sRaise {c : Str} : sRaise c f ρ S = (f ρ S).lift ρ fun x S1 => .ok (.ex c x ρ) S1 := nr rfl
theorem r_eSortSet : eSortSet f ρ S = (f ρ S).bind fun x S1 => (hSortSet x S1).calm := nr rfl
theorem r_eM1 {hh : Str → Vl → Sto → Out Vl} : eM1 hh f g ρ S = (f ρ S).bind fun x S1 => match x with
  | .d (.str z) => (g ρ S1).bind fun y S2 => (hh z y S2).calm
  | _ => .stuck := nr rfl
end
end Ev

end
section
namespace K02
open PySem PySem.Spec PyProof.Rows L2 Ev
def top (i : Nat) : Stmt := PySem.Challenge.pw_thirdgames_k02_whole_cards_as_numbers_of.main.body.getD i (.Pass ⟨0, 0, 0, 0⟩)
abbrev s_is_whole : Stmt := top 1
abbrev s_is_between : Stmt := top 2
abbrev s_is_text_of : Stmt := top 3
abbrev s_is_ascending : Stmt := top 4
abbrev s_power_of : Stmt := top 5
abbrev s_is_mark_number : Stmt := top 9
abbrev s_is_card_of : Stmt := top 10
abbrev s_is_any_card : Stmt := top 11
abbrev s_is_hand_of : Stmt := top 12
abbrev s_deck_size : Stmt := top 13
abbrev s_deck_of : Stmt := top 14
abbrev s_number_of_card : Stmt := top 15
abbrev s_card_with : Stmt := top 16
abbrev s_as_hand : Stmt := top 17
abbrev s_others_of : Stmt := top 18
abbrev s_both_of : Stmt := top 19
abbrev s_only_of : Stmt := top 20
abbrev s_check_marks : Stmt := top 29
abbrev s_check_number : Stmt := top 30
abbrev s_check_any_card : Stmt := top 31
abbrev s_check_hand : Stmt := top 32
abbrev s_check_marked_hand : Stmt := top 33
abbrev s_check_two_hands : Stmt := top 34
abbrev s_check_cards : Stmt := top 36
abbrev s_is_card : Stmt := top 37
abbrev s_is_hand : Stmt := top 38
abbrev s_deck : Stmt := top 39
abbrev s_card_number : Stmt := top 40
abbrev s_card_at : Stmt := top 41
abbrev s_hand_of : Stmt := top 42
abbrev s_rest_of : Stmt := top 43
abbrev s_both : Stmt := top 44
abbrev s_either : Stmt := top 45
abbrev s_only : Stmt := top 46
abbrev s_text_of_hand : Stmt := top 50
abbrev s_hand_told : Stmt := top 51
abbrev s_check_told : Stmt := top 53
abbrev s_hand_text : Stmt := top 54
abbrev s_read_hand : Stmt := top 55
abbrev s__law_spring : Stmt := top 57
abbrev s__law_draw : Stmt := top 58
abbrev s__law_equal : Stmt := top 59
abbrev s__law_figures : Stmt := top 60
abbrev s__law_hand : Stmt := top 61
abbrev s__law_some : Stmt := top 62
abbrev s__law_is_refused : Stmt := top 63
abbrev s__law_texts_right : Stmt := top 64
abbrev s__law_round : Stmt := top 65
abbrev s_law : Stmt := top 66
def n_is_whole : List Str := ["value"]
def n_is_between : List Str := ["value", "low", "high"]
def n_is_text_of : List Str := ["value", "signs", "sign"]
def n_is_ascending : List Str := ["row", "one", "two"]
def n_power_of : List Str := ["number", "many", "found", "_"]
def n_is_mark_number : List Str := ["value"]
def n_is_card_of : List Str := ["number", "value"]
def n_is_any_card : List Str := ["value"]
def n_is_hand_of : List Str := ["number", "value", "card"]
def n_deck_size : List Str := ["number"]
def n_deck_of : List Str := ["number", "found", "_", "card", "sort"]
def n_number_of_card : List Str := ["card", "found", "sort"]
def n_card_with : List Str := ["number", "other_number", "_", "found", "rest", "sort"]
def n_as_hand : List Str := ["cards"]
def n_others_of : List Str := ["number", "hand", "card"]
def n_both_of : List Str := ["hand", "other_hand", "card"]
def n_only_of : List Str := ["hand", "other_hand", "card"]
def n_check_marks : List Str := ["number"]
def n_check_number : List Str := ["value", "low", "high"]
def n_check_any_card : List Str := ["card"]
def n_check_hand : List Str := ["number", "hand"]
def n_check_marked_hand : List Str := ["number", "hand"]
def n_check_two_hands : List Str := ["number", "hand", "other_hand"]
def n_check_cards : List Str := ["number", "cards", "index", "card"]
def n_is_card : List Str := ["number", "value"]
def n_is_hand : List Str := ["number", "value"]
def n_deck : List Str := ["number"]
def n_card_number : List Str := ["card"]
def n_card_at : List Str := ["number", "other_number"]
def n_hand_of : List Str := ["number", "cards"]
def n_rest_of : List Str := ["number", "hand"]
def n_both : List Str := ["number", "hand", "other_hand"]
def n_either : List Str := ["number", "hand", "other_hand"]
def n_only : List Str := ["number", "hand", "other_hand"]
def n_text_of_hand : List Str := ["number", "hand"]
def n_hand_told : List Str := ["text", "first", "cards"]
def n_check_told : List Str := ["found", "text"]
def n_hand_text : List Str := ["number", "hand"]
def n_read_hand : List Str := ["text", "found"]
def n__law_spring : List Str := ["script", "place", "cell", "mixed", "one"]
def n__law_draw : List Str := ["spring", "many", "drawn"]
def n__law_equal : List Str := ["told", "due"]
def n__law_figures : List Str := ["many", "value", "text", "place"]
def n__law_hand : List Str := ["many", "values", "value"]
def n__law_some : List Str := ["spring", "many", "turn"]
def n__law_is_refused : List Str := ["text", "e"]
def n__law_texts_right : List Str := ["many", "hand", "text", "bent", "one"]
def n__law_round : List Str := ["spring", "many", "whole", "value", "card", "told", "shared", "named", "odd", "bent", "first", "second", "one", "two", "each"]
def n_law : List Str := ["script", "place"]
/-- what the top has written -/
structure Tp (P : Program) (w : World) (K : Frag) (mg : Str → Option Value) (base : Heap) : Prop where
  b_abs : mg "abs" = none
  b_all : mg "all" = none
  b_any : mg "any" = none
  b_bool : mg "bool" = none
  b_divmod : mg "divmod" = none
  b_enumerate : mg "enumerate" = none
  b_int : mg "int" = none
  b_isinstance : mg "isinstance" = none
  b_len : mg "len" = none
  b_list : mg "list" = none
  b_range : mg "range" = none
  b_set : mg "set" = none
  b_sorted : mg "sorted" = none
  b_str : mg "str" = none
  b_sum : mg "sum" = none
  b_tuple : mg "tuple" = none
  b_zip : mg "zip" = none
  c_BLANK : ∃ t, mg "BLANK" = some (.str " " t)
  c_MARK_NUMBERS : ∃ t, mg "MARK_NUMBERS" = some (.str "1234" t)
  c_MOST_MARKS : ∃ t, mg "MOST_MARKS" = some (.int 4 t)
  c_SORTS : ∃ t, mg "SORTS" = some (.str "012" t)
  e_InvalidCard : Er P w K mg base "InvalidCard"
  h_InvalidCard : ∀ (c : Str) z, (if c = ("InvalidCard" : Str) then some true else none) = some z → PySem.W.exmOne K (.ref (He.ga K c)) (.ref (He.ga K "InvalidCard")) = some z
  e_InvalidCards : Er P w K mg base "InvalidCards"
  h_InvalidCards : ∀ (c : Str) z, (if c = ("InvalidCards" : Str) then some true else none) = some z → PySem.W.exmOne K (.ref (He.ga K c)) (.ref (He.ga K "InvalidCards")) = some z
  e_InvalidHand : Er P w K mg base "InvalidHand"
  h_InvalidHand : ∀ (c : Str) z, (if c = ("InvalidHand" : Str) then some true else none) = some z → PySem.W.exmOne K (.ref (He.ga K c)) (.ref (He.ga K "InvalidHand")) = some z
  e_InvalidNumber : Er P w K mg base "InvalidNumber"
  h_InvalidNumber : ∀ (c : Str) z, (if c = ("InvalidNumber" : Str) then some true else none) = some z → PySem.W.exmOne K (.ref (He.ga K c)) (.ref (He.ga K "InvalidNumber")) = some z
  e_InvalidText : Er P w K mg base "InvalidText"
  h_InvalidText : ∀ (c : Str) z, (if c = ("InvalidText" : Str) then some true else none) = some z → PySem.W.exmOne K (.ref (He.ga K c)) (.ref (He.ga K "InvalidText")) = some z
  d_is_whole : ∃ f fd, mg "is_whole" = some (.ref f) ∧ FunD K "is_whole" "is_whole" (defArgs s_is_whole) (defBody s_is_whole) (defScope s_is_whole) [] [] f fd
  d_is_between : ∃ f fd, mg "is_between" = some (.ref f) ∧ FunD K "is_between" "is_between" (defArgs s_is_between) (defBody s_is_between) (defScope s_is_between) [] [] f fd
  d_is_text_of : ∃ f fd, mg "is_text_of" = some (.ref f) ∧ FunD K "is_text_of" "is_text_of" (defArgs s_is_text_of) (defBody s_is_text_of) (defScope s_is_text_of) [] [] f fd
  d_is_ascending : ∃ f fd, mg "is_ascending" = some (.ref f) ∧ FunD K "is_ascending" "is_ascending" (defArgs s_is_ascending) (defBody s_is_ascending) (defScope s_is_ascending) [] [] f fd
  d_power_of : ∃ f fd, mg "power_of" = some (.ref f) ∧ FunD K "power_of" "power_of" (defArgs s_power_of) (defBody s_power_of) (defScope s_power_of) [] [] f fd
  d_is_mark_number : ∃ f fd, mg "is_mark_number" = some (.ref f) ∧ FunD K "is_mark_number" "is_mark_number" (defArgs s_is_mark_number) (defBody s_is_mark_number) (defScope s_is_mark_number) [] [] f fd
  d_is_card_of : ∃ f fd, mg "is_card_of" = some (.ref f) ∧ FunD K "is_card_of" "is_card_of" (defArgs s_is_card_of) (defBody s_is_card_of) (defScope s_is_card_of) [] [] f fd
  d_is_any_card : ∃ f fd, mg "is_any_card" = some (.ref f) ∧ FunD K "is_any_card" "is_any_card" (defArgs s_is_any_card) (defBody s_is_any_card) (defScope s_is_any_card) [] [] f fd
  d_is_hand_of : ∃ f fd, mg "is_hand_of" = some (.ref f) ∧ FunD K "is_hand_of" "is_hand_of" (defArgs s_is_hand_of) (defBody s_is_hand_of) (defScope s_is_hand_of) [] [] f fd
  d_deck_size : ∃ f fd, mg "deck_size" = some (.ref f) ∧ FunD K "deck_size" "deck_size" (defArgs s_deck_size) (defBody s_deck_size) (defScope s_deck_size) [] [] f fd
  d_deck_of : ∃ f fd, mg "deck_of" = some (.ref f) ∧ FunD K "deck_of" "deck_of" (defArgs s_deck_of) (defBody s_deck_of) (defScope s_deck_of) [] [] f fd
  d_number_of_card : ∃ f fd, mg "number_of_card" = some (.ref f) ∧ FunD K "number_of_card" "number_of_card" (defArgs s_number_of_card) (defBody s_number_of_card) (defScope s_number_of_card) [] [] f fd
  d_card_with : ∃ f fd, mg "card_with" = some (.ref f) ∧ FunD K "card_with" "card_with" (defArgs s_card_with) (defBody s_card_with) (defScope s_card_with) [] [] f fd
  d_as_hand : ∃ f fd, mg "as_hand" = some (.ref f) ∧ FunD K "as_hand" "as_hand" (defArgs s_as_hand) (defBody s_as_hand) (defScope s_as_hand) [] [] f fd
  d_others_of : ∃ f fd, mg "others_of" = some (.ref f) ∧ FunD K "others_of" "others_of" (defArgs s_others_of) (defBody s_others_of) (defScope s_others_of) [] [] f fd
  d_both_of : ∃ f fd, mg "both_of" = some (.ref f) ∧ FunD K "both_of" "both_of" (defArgs s_both_of) (defBody s_both_of) (defScope s_both_of) [] [] f fd
  d_only_of : ∃ f fd, mg "only_of" = some (.ref f) ∧ FunD K "only_of" "only_of" (defArgs s_only_of) (defBody s_only_of) (defScope s_only_of) [] [] f fd
  d_check_marks : ∃ f fd, mg "check_marks" = some (.ref f) ∧ FunD K "check_marks" "check_marks" (defArgs s_check_marks) (defBody s_check_marks) (defScope s_check_marks) [] [] f fd
  d_check_number : ∃ f fd, mg "check_number" = some (.ref f) ∧ FunD K "check_number" "check_number" (defArgs s_check_number) (defBody s_check_number) (defScope s_check_number) [] [] f fd
  d_check_any_card : ∃ f fd, mg "check_any_card" = some (.ref f) ∧ FunD K "check_any_card" "check_any_card" (defArgs s_check_any_card) (defBody s_check_any_card) (defScope s_check_any_card) [] [] f fd
  d_check_hand : ∃ f fd, mg "check_hand" = some (.ref f) ∧ FunD K "check_hand" "check_hand" (defArgs s_check_hand) (defBody s_check_hand) (defScope s_check_hand) [] [] f fd
  d_check_marked_hand : ∃ f fd, mg "check_marked_hand" = some (.ref f) ∧ FunD K "check_marked_hand" "check_marked_hand" (defArgs s_check_marked_hand) (defBody s_check_marked_hand) (defScope s_check_marked_hand) [] [] f fd
  d_check_two_hands : ∃ f fd, mg "check_two_hands" = some (.ref f) ∧ FunD K "check_two_hands" "check_two_hands" (defArgs s_check_two_hands) (defBody s_check_two_hands) (defScope s_check_two_hands) [] [] f fd
  d_check_cards : ∃ f fd, mg "check_cards" = some (.ref f) ∧ FunD K "check_cards" "check_cards" (defArgs s_check_cards) (defBody s_check_cards) (defScope s_check_cards) [] [] f fd
  d_is_card : ∃ f fd, mg "is_card" = some (.ref f) ∧ FunD K "is_card" "is_card" (defArgs s_is_card) (defBody s_is_card) (defScope s_is_card) [] [] f fd
  d_is_hand : ∃ f fd, mg "is_hand" = some (.ref f) ∧ FunD K "is_hand" "is_hand" (defArgs s_is_hand) (defBody s_is_hand) (defScope s_is_hand) [] [] f fd
  d_deck : ∃ f fd, mg "deck" = some (.ref f) ∧ FunD K "deck" "deck" (defArgs s_deck) (defBody s_deck) (defScope s_deck) [] [] f fd
  d_card_number : ∃ f fd, mg "card_number" = some (.ref f) ∧ FunD K "card_number" "card_number" (defArgs s_card_number) (defBody s_card_number) (defScope s_card_number) [] [] f fd
  d_card_at : ∃ f fd, mg "card_at" = some (.ref f) ∧ FunD K "card_at" "card_at" (defArgs s_card_at) (defBody s_card_at) (defScope s_card_at) [] [] f fd
  d_hand_of : ∃ f fd, mg "hand_of" = some (.ref f) ∧ FunD K "hand_of" "hand_of" (defArgs s_hand_of) (defBody s_hand_of) (defScope s_hand_of) [] [] f fd
  d_rest_of : ∃ f fd, mg "rest_of" = some (.ref f) ∧ FunD K "rest_of" "rest_of" (defArgs s_rest_of) (defBody s_rest_of) (defScope s_rest_of) [] [] f fd
  d_both : ∃ f fd, mg "both" = some (.ref f) ∧ FunD K "both" "both" (defArgs s_both) (defBody s_both) (defScope s_both) [] [] f fd
  d_either : ∃ f fd, mg "either" = some (.ref f) ∧ FunD K "either" "either" (defArgs s_either) (defBody s_either) (defScope s_either) [] [] f fd
  d_only : ∃ f fd, mg "only" = some (.ref f) ∧ FunD K "only" "only" (defArgs s_only) (defBody s_only) (defScope s_only) [] [] f fd
  d_text_of_hand : ∃ f fd, mg "text_of_hand" = some (.ref f) ∧ FunD K "text_of_hand" "text_of_hand" (defArgs s_text_of_hand) (defBody s_text_of_hand) (defScope s_text_of_hand) [] [] f fd
  d_hand_told : ∃ f fd, mg "hand_told" = some (.ref f) ∧ FunD K "hand_told" "hand_told" (defArgs s_hand_told) (defBody s_hand_told) (defScope s_hand_told) [] [] f fd
  d_check_told : ∃ f fd, mg "check_told" = some (.ref f) ∧ FunD K "check_told" "check_told" (defArgs s_check_told) (defBody s_check_told) (defScope s_check_told) [] [] f fd
  d_hand_text : ∃ f fd, mg "hand_text" = some (.ref f) ∧ FunD K "hand_text" "hand_text" (defArgs s_hand_text) (defBody s_hand_text) (defScope s_hand_text) [] [] f fd
  d_read_hand : ∃ f fd, mg "read_hand" = some (.ref f) ∧ FunD K "read_hand" "read_hand" (defArgs s_read_hand) (defBody s_read_hand) (defScope s_read_hand) [] [] f fd
  d__law_spring : ∃ f fd, mg "_law_spring" = some (.ref f) ∧ FunD K "_law_spring" "_law_spring" (defArgs s__law_spring) (defBody s__law_spring) (defScope s__law_spring) [] [] f fd
  d__law_draw : ∃ f fd, mg "_law_draw" = some (.ref f) ∧ FunD K "_law_draw" "_law_draw" (defArgs s__law_draw) (defBody s__law_draw) (defScope s__law_draw) [] [] f fd
  d__law_equal : ∃ f fd, mg "_law_equal" = some (.ref f) ∧ FunD K "_law_equal" "_law_equal" (defArgs s__law_equal) (defBody s__law_equal) (defScope s__law_equal) [] [] f fd
  d__law_figures : ∃ f fd, mg "_law_figures" = some (.ref f) ∧ FunD K "_law_figures" "_law_figures" (defArgs s__law_figures) (defBody s__law_figures) (defScope s__law_figures) [] [] f fd
  d__law_hand : ∃ f fd, mg "_law_hand" = some (.ref f) ∧ FunD K "_law_hand" "_law_hand" (defArgs s__law_hand) (defBody s__law_hand) (defScope s__law_hand) [] [] f fd
  d__law_some : ∃ f fd, mg "_law_some" = some (.ref f) ∧ FunD K "_law_some" "_law_some" (defArgs s__law_some) (defBody s__law_some) (defScope s__law_some) [] [] f fd
  d__law_is_refused : ∃ f fd, mg "_law_is_refused" = some (.ref f) ∧ FunD K "_law_is_refused" "_law_is_refused" (defArgs s__law_is_refused) (defBody s__law_is_refused) (defScope s__law_is_refused) [] [] f fd
  d__law_texts_right : ∃ f fd, mg "_law_texts_right" = some (.ref f) ∧ FunD K "_law_texts_right" "_law_texts_right" (defArgs s__law_texts_right) (defBody s__law_texts_right) (defScope s__law_texts_right) [] [] f fd
  d__law_round : ∃ f fd, mg "_law_round" = some (.ref f) ∧ FunD K "_law_round" "_law_round" (defArgs s__law_round) (defBody s__law_round) (defScope s__law_round) [] [] f fd
  d_law : ∃ f fd, mg "law" = some (.ref f) ∧ FunD K "law" "law" (defArgs s_law) (defBody s_law) (defScope s_law) [] [] f fd
section
variable {P : Program} {w : World} {K : Frag} {mg : Str → Option Value} {base : Heap}
/-! is_whole -/
def b_is_whole : SF := sRet (eAnd (eIsi .int (eVar 0)) (eNot (eIsi .bool (eVar 0))))
def den_is_whole : DF := fnDen 1 1 b_is_whole
theorem nd_is_whole : (n_is_whole).Nodup := by decide +kernel
theorem sc_is_whole : FnScope n_is_whole ["value"] (defScope s_is_whole) := ⟨rfl, rfl, rfl, nd_is_whole, rfl, by decide +kernel, by decide +kernel⟩
theorem k_is_whole (T : Tp P w K mg base) : Fk P w K mg base 1 s_is_whole "is_whole" ["value"] den_is_whole := by
  obtain ⟨f, fd, hm, FD⟩ := T.d_is_whole
  refine fk_of hm FD sc_is_whole rfl rfl (fun _ _ _ _ _ _ us hl => match us, hl with | [_], _ => rfl) fun cdv A outer s H E hr gd => ?_
  exact rss_one (rs_ret (re_and (re_isi .int (rv 0) rfl T.b_isinstance rfl T.b_int PyProof.Rows.Boot.«int») (re_one (re_not (re_isi .bool (rv 0) rfl T.b_isinstance rfl T.b_bool PyProof.Rows.Boot.«bool»)))))
/-! is_between -/
def b_is_between : SF := sRet (eAnd (eA den_is_whole (aCons (eVar 0) (aNil))) (eChain oLe oLe (eVar 1) (eVar 0) (eVar 2)))
def den_is_between : DF := fnDen 3 3 b_is_between
theorem nd_is_between : (n_is_between).Nodup := by decide +kernel
theorem sc_is_between : FnScope n_is_between ["value", "low", "high"] (defScope s_is_between) := ⟨rfl, rfl, rfl, nd_is_between, rfl, by decide +kernel, by decide +kernel⟩
theorem k_is_between (T : Tp P w K mg base) : Fk P w K mg base 2 s_is_between "is_between" ["value", "low", "high"] den_is_between := by
  obtain ⟨f, fd, hm, FD⟩ := T.d_is_between
  refine fk_of hm FD sc_is_between rfl rfl (fun _ _ _ _ _ _ us hl => match us, hl with | [_, _, _], _ => rfl) fun cdv A outer s H E hr gd => ?_
  exact rss_one (rs_ret (re_and (re_call (k_is_whole T) (hr.mono (by decide : 1 ≤ 1)) gd (takes_of rfl rfl rfl rfl) rfl (ra_cons (rv 0) (ra_nil)) (fun xs S h => fnDen_len xs S h)) (re_one (vchain kLe kLe (rv 1) (rv 0) (rv 2)))))
/-! is_text_of -/
def b_is_text_of : SF := sRet (eAnd (eIsi .str (eVar 0)) (eA (dCalm hAll) (aCons (eComp [2] (iBy toItems (eVar 0)) (.nm 2) (pYes) (e2 (oIn false) (eVar 2) (eVar 1))) (aNil))))
def den_is_text_of : DF := fnDen 2 3 b_is_text_of
theorem nd_is_text_of : (n_is_text_of).Nodup := by decide +kernel
theorem sc_is_text_of : FnScope n_is_text_of ["value", "signs"] (defScope s_is_text_of) := ⟨rfl, rfl, rfl, nd_is_text_of, rfl, by decide +kernel, by decide +kernel⟩
theorem k_is_text_of (T : Tp P w K mg base) : Fk P w K mg base 1 s_is_text_of "is_text_of" ["value", "signs"] den_is_text_of := by
  obtain ⟨f, fd, hm, FD⟩ := T.d_is_text_of
  refine fk_of hm FD sc_is_text_of rfl rfl (fun _ _ _ _ _ _ us hl => match us, hl with | [_, _], _ => rfl) fun cdv A outer s H E hr gd => ?_
  exact rss_one (rs_ret (re_and (re_isi .str (rv 0) rfl T.b_isinstance rfl T.b_str PyProof.Rows.Boot.«str») (re_one (re_blt (cr_all rfl) rb_all PyProof.Rows.Boot.«all» rfl T.b_all (ra_cons (re_lc rfl nd_is_text_of (ri_val (rv 0)) (own := [("sign", 2)]) (blkOk_by (by kernel_rfl)) (fun _ _ _ _ _ => rc_nm nd_is_text_of rfl (by first | exact Or.inl rfl | exact Or.inr rfl)) (fun _ _ _ _ _ => rts_nil) (fun _ _ _ _ _ => vcmp (kIn hr) (rv 2) (rv 1))) (ra_nil))))))
/-! is_ascending -/
def b_is_ascending : SF := sRet (eA (dCalm hAll) (aCons (eComp [1, 2] (iZip (eVar 0) (eSl (eVar 0) (oSome (eC (.int 1))) (oNone))) (.tp [1, 2]) (pYes) (e2 oLt (eVar 1) (eVar 2))) (aNil)))
def den_is_ascending : DF := fnDen 1 3 b_is_ascending
theorem nd_is_ascending : (n_is_ascending).Nodup := by decide +kernel
theorem sc_is_ascending : FnScope n_is_ascending ["row"] (defScope s_is_ascending) := ⟨rfl, rfl, rfl, nd_is_ascending, rfl, by decide +kernel, by decide +kernel⟩
theorem k_is_ascending (T : Tp P w K mg base) : Fk P w K mg base 1 s_is_ascending "is_ascending" ["row"] den_is_ascending := by
  obtain ⟨f, fd, hm, FD⟩ := T.d_is_ascending
  refine fk_of hm FD sc_is_ascending rfl rfl (fun _ _ _ _ _ _ us hl => match us, hl with | [_], _ => rfl) fun cdv A outer s H E hr gd => ?_
  exact rss_one (rs_ret (re_blt (cr_all rfl) rb_all PyProof.Rows.Boot.«all» rfl T.b_all (ra_cons (re_lc rfl nd_is_ascending (ri_zip rfl T.b_zip (rv 0) (re_sl (rv 0) (ro_some (re_int)) (ro_none))) (own := [("one", 1), ("two", 2)]) (blkOk_by (by kernel_rfl)) (fun _ _ _ _ _ => rc_tup rfl (rc_cons nd_is_ascending rfl (by first | exact Or.inl rfl | exact Or.inr rfl) (rc_cons nd_is_ascending rfl (by first | exact Or.inl rfl | exact Or.inr rfl) (rc_nil)))) (fun _ _ _ _ _ => rts_nil) (fun _ _ _ _ _ => vcmp kLt (rv 1) (rv 2))) (ra_nil))))
/-! power_of -/
def b_power_of : SF := sSeq (sAsg (eC (.int 1)) (aName 2)) (sSeq (sFor (iBys toRng1 (aCons (eVar 1) (aNil))) (aName 3) (sAsg (e2 oMul (eVar 2) (eVar 0)) (aName 2))) (sRet (eVar 2)))
def den_power_of : DF := fnDen 2 4 b_power_of
theorem nd_power_of : (n_power_of).Nodup := by decide +kernel
theorem sc_power_of : FnScope n_power_of ["number", "many"] (defScope s_power_of) := ⟨rfl, rfl, rfl, nd_power_of, rfl, by decide +kernel, by decide +kernel⟩
theorem k_power_of (T : Tp P w K mg base) : Fk P w K mg base 1 s_power_of "power_of" ["number", "many"] den_power_of := by
  obtain ⟨f, fd, hm, FD⟩ := T.d_power_of
  refine fk_of hm FD sc_power_of rfl rfl (fun _ _ _ _ _ _ us hl => match us, hl with | [_, _], _ => rfl) fun cdv A outer s H E hr gd => ?_
  exact rss_cons (rs_set (i := 2) nd_power_of rfl (by first | exact Or.inl rfl | exact Or.inr rfl) (re_int)) (rss_cons (rs_for (passes_of rfl) rfl (ri_rng1 rfl T.b_range (ra_cons (rv 1) (ra_nil))) (rg_name nd_power_of rfl (by first | exact Or.inl rfl | exact Or.inr rfl)) (rss_one (rs_set (i := 2) nd_power_of rfl (by first | exact Or.inl rfl | exact Or.inr rfl) (omul (rv 2) (rv 0))))) (rss_one (rs_ret (rv 2))))
/-! is_mark_number -/
def b_is_mark_number : SF := sRet (eA den_is_between (aCons (eVar 0) (aCons (eC (.int 1)) (aCons (eC (.int 4)) (aNil)))))
def den_is_mark_number : DF := fnDen 1 1 b_is_mark_number
theorem nd_is_mark_number : (n_is_mark_number).Nodup := by decide +kernel
theorem sc_is_mark_number : FnScope n_is_mark_number ["value"] (defScope s_is_mark_number) := ⟨rfl, rfl, rfl, nd_is_mark_number, rfl, by decide +kernel, by decide +kernel⟩
theorem k_is_mark_number (T : Tp P w K mg base) : Fk P w K mg base 3 s_is_mark_number "is_mark_number" ["value"] den_is_mark_number := by
  obtain ⟨f, fd, hm, FD⟩ := T.d_is_mark_number
  refine fk_of hm FD sc_is_mark_number rfl rfl (fun _ _ _ _ _ _ us hl => match us, hl with | [_], _ => rfl) fun cdv A outer s H E hr gd => ?_
  exact rss_one (rs_ret (re_call (k_is_between T) (hr.mono (by decide : 2 ≤ 2)) gd (takes_of rfl rfl rfl rfl) rfl (ra_cons (rv 0) (ra_cons (re_int) (ra_cons (gI T.c_MOST_MARKS) (ra_nil)))) (fun xs S h => fnDen_len xs S h)))
/-! is_card_of -/
def b_is_card_of : SF := sRet (eAnd (eA den_is_text_of (aCons (eVar 1) (aCons (eC (.str "012")) (aNil)))) (e2 oEq (eA (dCalm hLen) (aCons (eVar 1) (aNil))) (eVar 0)))
def den_is_card_of : DF := fnDen 2 2 b_is_card_of
theorem nd_is_card_of : (n_is_card_of).Nodup := by decide +kernel
theorem sc_is_card_of : FnScope n_is_card_of ["number", "value"] (defScope s_is_card_of) := ⟨rfl, rfl, rfl, nd_is_card_of, rfl, by decide +kernel, by decide +kernel⟩
theorem k_is_card_of (T : Tp P w K mg base) : Fk P w K mg base 2 s_is_card_of "is_card_of" ["number", "value"] den_is_card_of := by
  obtain ⟨f, fd, hm, FD⟩ := T.d_is_card_of
  refine fk_of hm FD sc_is_card_of rfl rfl (fun _ _ _ _ _ _ us hl => match us, hl with | [_, _], _ => rfl) fun cdv A outer s H E hr gd => ?_
  exact rss_one (rs_ret (re_and (re_call (k_is_text_of T) (hr.mono (by decide : 1 ≤ 1)) gd (takes_of rfl rfl rfl rfl) rfl (ra_cons (rv 1) (ra_cons (gS T.c_SORTS) (ra_nil))) (fun xs S h => fnDen_len xs S h)) (re_one (vcmp (kEq hr) (re_blt call_len rb_len PyProof.Rows.Boot.«len» rfl T.b_len (ra_cons (rv 1) (ra_nil))) (rv 0)))))
/-! is_any_card -/
def b_is_any_card : SF := sRet (eAnd (eA den_is_text_of (aCons (eVar 0) (aCons (eC (.str "012")) (aNil)))) (eA den_is_mark_number (aCons (eA (dCalm hLen) (aCons (eVar 0) (aNil))) (aNil))))
def den_is_any_card : DF := fnDen 1 1 b_is_any_card
theorem nd_is_any_card : (n_is_any_card).Nodup := by decide +kernel
theorem sc_is_any_card : FnScope n_is_any_card ["value"] (defScope s_is_any_card) := ⟨rfl, rfl, rfl, nd_is_any_card, rfl, by decide +kernel, by decide +kernel⟩
theorem k_is_any_card (T : Tp P w K mg base) : Fk P w K mg base 4 s_is_any_card "is_any_card" ["value"] den_is_any_card := by
  obtain ⟨f, fd, hm, FD⟩ := T.d_is_any_card
  refine fk_of hm FD sc_is_any_card rfl rfl (fun _ _ _ _ _ _ us hl => match us, hl with | [_], _ => rfl) fun cdv A outer s H E hr gd => ?_
  exact rss_one (rs_ret (re_and (re_call (k_is_text_of T) (hr.mono (by decide : 1 ≤ 3)) gd (takes_of rfl rfl rfl rfl) rfl (ra_cons (rv 0) (ra_cons (gS T.c_SORTS) (ra_nil))) (fun xs S h => fnDen_len xs S h)) (re_one (re_call (k_is_mark_number T) (hr.mono (by decide : 3 ≤ 3)) gd (takes_of rfl rfl rfl rfl) rfl (ra_cons (re_blt call_len rb_len PyProof.Rows.Boot.«len» rfl T.b_len (ra_cons (rv 0) (ra_nil))) (ra_nil)) (fun xs S h => fnDen_len xs S h)))))
/-! is_hand_of -/
def b_is_hand_of : SF := sRet (eAnd (eIsi .tuple (eVar 1)) (eAnd (eA (dCalm hAll) (aCons (eComp [2] (iBy toItems (eVar 1)) (.nm 2) (pYes) (eA den_is_card_of (aCons (eVar 0) (aCons (eVar 2) (aNil))))) (aNil))) (eA den_is_ascending (aCons (eVar 1) (aNil)))))
def den_is_hand_of : DF := fnDen 2 3 b_is_hand_of
theorem nd_is_hand_of : (n_is_hand_of).Nodup := by decide +kernel
theorem sc_is_hand_of : FnScope n_is_hand_of ["number", "value"] (defScope s_is_hand_of) := ⟨rfl, rfl, rfl, nd_is_hand_of, rfl, by decide +kernel, by decide +kernel⟩
theorem k_is_hand_of (T : Tp P w K mg base) : Fk P w K mg base 3 s_is_hand_of "is_hand_of" ["number", "value"] den_is_hand_of := by
  obtain ⟨f, fd, hm, FD⟩ := T.d_is_hand_of
  refine fk_of hm FD sc_is_hand_of rfl rfl (fun _ _ _ _ _ _ us hl => match us, hl with | [_, _], _ => rfl) fun cdv A outer s H E hr gd => ?_
  exact rss_one (rs_ret (re_and (re_isi .tuple (rv 1) rfl T.b_isinstance rfl T.b_tuple PyProof.Rows.Boot.«tuple») (re_and (re_blt (cr_all rfl) rb_all PyProof.Rows.Boot.«all» rfl T.b_all (ra_cons (re_lc rfl nd_is_hand_of (ri_val (rv 1)) (own := [("card", 2)]) (blkOk_by (by kernel_rfl)) (fun _ _ _ _ _ => rc_nm nd_is_hand_of rfl (by first | exact Or.inl rfl | exact Or.inr rfl)) (fun _ _ _ _ _ => rts_nil) (fun _ _ _ _ _ => re_call (k_is_card_of T) (hr.mono (by decide : 2 ≤ 2)) gd takes0 rfl (ra_cons (rv 0) (ra_cons (rv 2) (ra_nil))) (fun xs S h => fnDen_len xs S h))) (ra_nil))) (re_one (re_call (k_is_ascending T) (hr.mono (by decide : 1 ≤ 2)) gd (takes_of rfl rfl rfl rfl) rfl (ra_cons (rv 1) (ra_nil)) (fun xs S h => fnDen_len xs S h))))))
/-! deck_size -/
def b_deck_size : SF := sRet (eA den_power_of (aCons (eA (dCalm hLen) (aCons (eC (.str "012")) (aNil))) (aCons (eVar 0) (aNil))))
def den_deck_size : DF := fnDen 1 1 b_deck_size
theorem nd_deck_size : (n_deck_size).Nodup := by decide +kernel
theorem sc_deck_size : FnScope n_deck_size ["number"] (defScope s_deck_size) := ⟨rfl, rfl, rfl, nd_deck_size, rfl, by decide +kernel, by decide +kernel⟩
theorem k_deck_size (T : Tp P w K mg base) : Fk P w K mg base 2 s_deck_size "deck_size" ["number"] den_deck_size := by
  obtain ⟨f, fd, hm, FD⟩ := T.d_deck_size
  refine fk_of hm FD sc_deck_size rfl rfl (fun _ _ _ _ _ _ us hl => match us, hl with | [_], _ => rfl) fun cdv A outer s H E hr gd => ?_
  exact rss_one (rs_ret (re_call (k_power_of T) (hr.mono (by decide : 1 ≤ 1)) gd (takes_of rfl rfl rfl rfl) rfl (ra_cons (re_blt call_len rb_len PyProof.Rows.Boot.«len» rfl T.b_len (ra_cons (gS T.c_SORTS) (ra_nil))) (ra_cons (rv 0) (ra_nil))) (fun xs S h => fnDen_len xs S h)))
/-! deck_of -/
def b_deck_of : SF := sSeq (sAsg (eA mkLst (aCons (eC (.str "")) (aNil))) (aName 1)) (sSeq (sFor (iBys toRng1 (aCons (eVar 0) (aNil))) (aName 2) (sAsg (eComp2 [3, 4] (iBy toItems (eVar 1)) (.nm 3) (pYes) (iBy toItems (eC (.str "012"))) [4] (.nm 4) pYes (e2 oAdd (eVar 3) (eVar 4))) (aName 1))) (sRet (eVar 1)))
def den_deck_of : DF := fnDen 1 5 b_deck_of
theorem nd_deck_of : (n_deck_of).Nodup := by decide +kernel
theorem sc_deck_of : FnScope n_deck_of ["number"] (defScope s_deck_of) := ⟨rfl, rfl, rfl, nd_deck_of, rfl, by decide +kernel, by decide +kernel⟩
theorem k_deck_of (T : Tp P w K mg base) : Fk P w K mg base 1 s_deck_of "deck_of" ["number"] den_deck_of := by
  obtain ⟨f, fd, hm, FD⟩ := T.d_deck_of
  refine fk_of hm FD sc_deck_of rfl rfl (fun _ _ _ _ _ _ us hl => match us, hl with | [_], _ => rfl) fun cdv A outer s H E hr gd => ?_
  exact rss_cons (rs_set (i := 1) nd_deck_of rfl (by first | exact Or.inl rfl | exact Or.inr rfl) (re_lst (ra_cons (re_str) (ra_nil)))) (rss_cons (rs_for (passes_of rfl) rfl (ri_rng1 rfl T.b_range (ra_cons (rv 0) (ra_nil))) (rg_name nd_deck_of rfl (by first | exact Or.inl rfl | exact Or.inr rfl)) (rss_one (rs_setLc2 (i := 1) rfl nd_deck_of rfl rfl (sw_true rfl rfl rfl rfl) (vs1 := [4]) (ri_val (rv 1)) (own := [("card", 3), ("sort", 4)]) (blkOk_by (by kernel_rfl)) (fun _ _ _ _ _ => rc_nm nd_deck_of rfl (by first | exact Or.inl rfl | exact Or.inr rfl)) (fun _ _ _ _ _ => rts_nil) (fun _ _ _ _ _ => ri_val (gS T.c_SORTS)) (fun _ _ _ _ _ => rc_nm nd_deck_of rfl (by first | exact Or.inl rfl | exact Or.inr rfl)) (fun _ _ _ _ _ => rts_nil) (fun _ _ _ _ _ => oadd (rv 3) (rv 4))))) (rss_one (rs_ret (rv 1))))
/-! number_of_card -/
def b_number_of_card : SF := sSeq (sAsg (eC (.int 0)) (aName 1)) (sSeq (sFor (iBy toItems (eVar 0)) (aName 2) (sAsg (e2 oAdd (e2 oMul (eA (dCalm hLen) (aCons (eC (.str "012")) (aNil))) (eVar 1)) (eM1 hIndexS (eC (.str "012")) (eVar 2))) (aName 1))) (sRet (eVar 1)))
def den_number_of_card : DF := fnDen 1 3 b_number_of_card
theorem nd_number_of_card : (n_number_of_card).Nodup := by decide +kernel
theorem sc_number_of_card : FnScope n_number_of_card ["card"] (defScope s_number_of_card) := ⟨rfl, rfl, rfl, nd_number_of_card, rfl, by decide +kernel, by decide +kernel⟩
theorem k_number_of_card (T : Tp P w K mg base) : Fk P w K mg base 1 s_number_of_card "number_of_card" ["card"] den_number_of_card := by
  obtain ⟨f, fd, hm, FD⟩ := T.d_number_of_card
  refine fk_of hm FD sc_number_of_card rfl rfl (fun _ _ _ _ _ _ us hl => match us, hl with | [_], _ => rfl) fun cdv A outer s H E hr gd => ?_
  exact rss_cons (rs_set (i := 1) nd_number_of_card rfl (by first | exact Or.inl rfl | exact Or.inr rfl) (re_int)) (rss_cons (rs_for (passes_of rfl) rfl (ri_val (rv 0)) (rg_name nd_number_of_card rfl (by first | exact Or.inl rfl | exact Or.inr rfl)) (rss_one (rs_set (i := 1) nd_number_of_card rfl (by first | exact Or.inl rfl | exact Or.inr rfl) (oadd (omul (re_blt call_len rb_len PyProof.Rows.Boot.«len» rfl T.b_len (ra_cons (gS T.c_SORTS) (ra_nil))) (rv 1)) (re_indexS (gS T.c_SORTS) (rv 2)))))) (rss_one (rs_ret (rv 1))))
/-! card_with -/
def b_card_with : SF := sSeq (sPar 3 4 (aCons (eC (.str "")) (aCons (eVar 1) (aNil)))) (sSeq (sFor (iBys toRng1 (aCons (eVar 0) (aNil))) (aName 2) (sSeq (sAsg (eA (dCalm hDivmod) (aCons (eVar 4) (aCons (eA (dCalm hLen) (aCons (eC (.str "012")) (aNil))) (aNil)))) (aTup 2 (aConss (aName 4) (aConss (aName 5) (aNils))))) (sAsg (e2 oAdd (e2 oGet (eC (.str "012")) (eVar 5)) (eVar 3)) (aName 3)))) (sRet (eVar 3)))
def den_card_with : DF := fnDen 2 6 b_card_with
theorem nd_card_with : (n_card_with).Nodup := by decide +kernel
theorem sc_card_with : FnScope n_card_with ["number", "other_number"] (defScope s_card_with) := ⟨rfl, rfl, rfl, nd_card_with, rfl, by decide +kernel, by decide +kernel⟩
theorem k_card_with (T : Tp P w K mg base) : Fk P w K mg base 1 s_card_with "card_with" ["number", "other_number"] den_card_with := by
  obtain ⟨f, fd, hm, FD⟩ := T.d_card_with
  refine fk_of hm FD sc_card_with rfl rfl (fun _ _ _ _ _ _ us hl => match us, hl with | [_, _], _ => rfl) fun cdv A outer s H E hr gd => ?_
  exact rss_cons (rs_par (i := 3) (j := 4) rfl nd_card_with rfl rfl (by decide) rfl rfl (ra_cons (re_str) (ra_cons (rv 1) (ra_nil))) (by rfl)) (rss_cons (rs_for (passes_of rfl) rfl (ri_rng1 rfl T.b_range (ra_cons (rv 0) (ra_nil))) (rg_name nd_card_with rfl (by first | exact Or.inl rfl | exact Or.inr rfl)) (rss_cons (rs_asg (re_blt call_divmod rb_divmod PyProof.Rows.Boot.«divmod» rfl T.b_divmod (ra_cons (rv 4) (ra_cons (re_blt call_len rb_len PyProof.Rows.Boot.«len» rfl T.b_len (ra_cons (gS T.c_SORTS) (ra_nil))) (ra_nil)))) (rg_tup rfl (rgs_cons (rg_name nd_card_with rfl (by first | exact Or.inl rfl | exact Or.inr rfl)) (rgs_cons (rg_name nd_card_with rfl (by first | exact Or.inl rfl | exact Or.inr rfl)) (rgs_nil))))) (rss_one (rs_set (i := 3) nd_card_with rfl (by first | exact Or.inl rfl | exact Or.inr rfl) (oadd (vget (gS T.c_SORTS) (rv 5)) (rv 3)))))) (rss_one (rs_ret (rv 3))))
/-! as_hand -/
def b_as_hand : SF := sRet (eA (dCalm hTuple) (aCons (eSortSet (eVar 0)) (aNil)))
def den_as_hand : DF := fnDen 1 1 b_as_hand
theorem nd_as_hand : (n_as_hand).Nodup := by decide +kernel
theorem sc_as_hand : FnScope n_as_hand ["cards"] (defScope s_as_hand) := ⟨rfl, rfl, rfl, nd_as_hand, rfl, by decide +kernel, by decide +kernel⟩
theorem k_as_hand (T : Tp P w K mg base) : Fk P w K mg base 1 s_as_hand "as_hand" ["cards"] den_as_hand := by
  obtain ⟨f, fd, hm, FD⟩ := T.d_as_hand
  refine fk_of hm FD sc_as_hand rfl rfl (fun _ _ _ _ _ _ us hl => match us, hl with | [_], _ => rfl) fun cdv A outer s H E hr gd => ?_
  exact rss_one (rs_ret (re_ty call_tuple_of rb_tuple PyProof.Rows.Boot.«tuple» rfl T.b_tuple (ra_cons (re_sortSet hr rfl rfl T.b_sorted rfl T.b_set (rv 0)) (ra_nil))))
/-! others_of -/
def b_others_of : SF := sRet (eComp [2] (iBy toItems (eA den_deck_of (aCons (eVar 0) (aNil)))) (.nm 2) (eB (e2 (oIn true) (eVar 2) (eVar 1))) (eVar 2))
def den_others_of : DF := fnDen 2 3 b_others_of
theorem nd_others_of : (n_others_of).Nodup := by decide +kernel
theorem sc_others_of : FnScope n_others_of ["number", "hand"] (defScope s_others_of) := ⟨rfl, rfl, rfl, nd_others_of, rfl, by decide +kernel, by decide +kernel⟩
theorem k_others_of (T : Tp P w K mg base) : Fk P w K mg base 2 s_others_of "others_of" ["number", "hand"] den_others_of := by
  obtain ⟨f, fd, hm, FD⟩ := T.d_others_of
  refine fk_of hm FD sc_others_of rfl rfl (fun _ _ _ _ _ _ us hl => match us, hl with | [_, _], _ => rfl) fun cdv A outer s H E hr gd => ?_
  exact rss_one (rs_ret (re_lc rfl nd_others_of (ri_val (re_call (k_deck_of T) (hr.mono (by decide : 1 ≤ 1)) gd (takes_of rfl rfl rfl rfl) rfl (ra_cons (rv 0) (ra_nil)) (fun xs S h => fnDen_len xs S h))) (own := [("card", 2)]) (blkOk_by (by kernel_rfl)) (fun _ _ _ _ _ => rc_nm nd_others_of rfl (by first | exact Or.inl rfl | exact Or.inr rfl)) (fun _ _ _ _ _ => rts_one (tcmp (kNotIn hr) (rv 2) (rv 1))) (fun _ _ _ _ _ => rv 2)))
/-! both_of -/
def b_both_of : SF := sRet (eA (dCalm hTuple) (aCons (eComp [2] (iBy toItems (eVar 0)) (.nm 2) (eB (e2 (oIn false) (eVar 2) (eVar 1))) (eVar 2)) (aNil)))
def den_both_of : DF := fnDen 2 3 b_both_of
theorem nd_both_of : (n_both_of).Nodup := by decide +kernel
theorem sc_both_of : FnScope n_both_of ["hand", "other_hand"] (defScope s_both_of) := ⟨rfl, rfl, rfl, nd_both_of, rfl, by decide +kernel, by decide +kernel⟩
theorem k_both_of (T : Tp P w K mg base) : Fk P w K mg base 1 s_both_of "both_of" ["hand", "other_hand"] den_both_of := by
  obtain ⟨f, fd, hm, FD⟩ := T.d_both_of
  refine fk_of hm FD sc_both_of rfl rfl (fun _ _ _ _ _ _ us hl => match us, hl with | [_, _], _ => rfl) fun cdv A outer s H E hr gd => ?_
  exact rss_one (rs_ret (re_ty call_tuple_of rb_tuple PyProof.Rows.Boot.«tuple» rfl T.b_tuple (ra_cons (re_lc rfl nd_both_of (ri_val (rv 0)) (own := [("card", 2)]) (blkOk_by (by kernel_rfl)) (fun _ _ _ _ _ => rc_nm nd_both_of rfl (by first | exact Or.inl rfl | exact Or.inr rfl)) (fun _ _ _ _ _ => rts_one (tcmp (kIn hr) (rv 2) (rv 1))) (fun _ _ _ _ _ => rv 2)) (ra_nil))))
/-! only_of -/
def b_only_of : SF := sRet (eA (dCalm hTuple) (aCons (eComp [2] (iBy toItems (eVar 0)) (.nm 2) (eB (e2 (oIn true) (eVar 2) (eVar 1))) (eVar 2)) (aNil)))
def den_only_of : DF := fnDen 2 3 b_only_of
theorem nd_only_of : (n_only_of).Nodup := by decide +kernel
theorem sc_only_of : FnScope n_only_of ["hand", "other_hand"] (defScope s_only_of) := ⟨rfl, rfl, rfl, nd_only_of, rfl, by decide +kernel, by decide +kernel⟩
theorem k_only_of (T : Tp P w K mg base) : Fk P w K mg base 1 s_only_of "only_of" ["hand", "other_hand"] den_only_of := by
  obtain ⟨f, fd, hm, FD⟩ := T.d_only_of
  refine fk_of hm FD sc_only_of rfl rfl (fun _ _ _ _ _ _ us hl => match us, hl with | [_, _], _ => rfl) fun cdv A outer s H E hr gd => ?_
  exact rss_one (rs_ret (re_ty call_tuple_of rb_tuple PyProof.Rows.Boot.«tuple» rfl T.b_tuple (ra_cons (re_lc rfl nd_only_of (ri_val (rv 0)) (own := [("card", 2)]) (blkOk_by (by kernel_rfl)) (fun _ _ _ _ _ => rc_nm nd_only_of rfl (by first | exact Or.inl rfl | exact Or.inr rfl)) (fun _ _ _ _ _ => rts_one (tcmp (kNotIn hr) (rv 2) (rv 1))) (fun _ _ _ _ _ => rv 2)) (ra_nil))))
/-! check_marks -/
def b_check_marks : SF := sIf (bNot (eB (eA den_is_mark_number (aCons (eVar 0) (aNil))))) (sRaise "InvalidNumber" (eVar 0)) (sNil)
def den_check_marks : DF := fnDen 1 1 b_check_marks
theorem nd_check_marks : (n_check_marks).Nodup := by decide +kernel
theorem sc_check_marks : FnScope n_check_marks ["number"] (defScope s_check_marks) := ⟨rfl, rfl, rfl, nd_check_marks, rfl, by decide +kernel, by decide +kernel⟩
theorem k_check_marks (T : Tp P w K mg base) : Fk P w K mg base 4 s_check_marks "check_marks" ["number"] den_check_marks := by
  obtain ⟨f, fd, hm, FD⟩ := T.d_check_marks
  refine fk_of hm FD sc_check_marks rfl rfl (fun _ _ _ _ _ _ us hl => match us, hl with | [_], _ => rfl) fun cdv A outer s H E hr gd => ?_
  exact rss_one (rs_if (rt_not (rt_val (re_call (k_is_mark_number T) (hr.mono (by decide : 3 ≤ 3)) gd (takes_of rfl rfl rfl rfl) rfl (ra_cons (rv 0) (ra_nil)) (fun xs S h => fnDen_len xs S h)))) (rss_one (rs_raise rfl (takes_of rfl rfl rfl rfl) T.e_InvalidNumber (hr.mono (by decide : 2 ≤ 3)) rfl (rv 0))) (rss_nil))
/-! check_number -/
def b_check_number : SF := sIf (bNot (eB (eA den_is_between (aCons (eVar 0) (aCons (eVar 1) (aCons (eVar 2) (aNil))))))) (sRaise "InvalidNumber" (eVar 0)) (sNil)
def den_check_number : DF := fnDen 3 3 b_check_number
theorem nd_check_number : (n_check_number).Nodup := by decide +kernel
theorem sc_check_number : FnScope n_check_number ["value", "low", "high"] (defScope s_check_number) := ⟨rfl, rfl, rfl, nd_check_number, rfl, by decide +kernel, by decide +kernel⟩
theorem k_check_number (T : Tp P w K mg base) : Fk P w K mg base 3 s_check_number "check_number" ["value", "low", "high"] den_check_number := by
  obtain ⟨f, fd, hm, FD⟩ := T.d_check_number
  refine fk_of hm FD sc_check_number rfl rfl (fun _ _ _ _ _ _ us hl => match us, hl with | [_, _, _], _ => rfl) fun cdv A outer s H E hr gd => ?_
  exact rss_one (rs_if (rt_not (rt_val (re_call (k_is_between T) (hr.mono (by decide : 2 ≤ 2)) gd (takes_of rfl rfl rfl rfl) rfl (ra_cons (rv 0) (ra_cons (rv 1) (ra_cons (rv 2) (ra_nil)))) (fun xs S h => fnDen_len xs S h)))) (rss_one (rs_raise rfl (takes_of rfl rfl rfl rfl) T.e_InvalidNumber (hr.mono (by decide : 2 ≤ 2)) rfl (rv 0))) (rss_nil))
/-! check_any_card -/
def b_check_any_card : SF := sIf (bNot (eB (eA den_is_any_card (aCons (eVar 0) (aNil))))) (sRaise "InvalidCard" (eVar 0)) (sNil)
def den_check_any_card : DF := fnDen 1 1 b_check_any_card
theorem nd_check_any_card : (n_check_any_card).Nodup := by decide +kernel
theorem sc_check_any_card : FnScope n_check_any_card ["card"] (defScope s_check_any_card) := ⟨rfl, rfl, rfl, nd_check_any_card, rfl, by decide +kernel, by decide +kernel⟩
theorem k_check_any_card (T : Tp P w K mg base) : Fk P w K mg base 5 s_check_any_card "check_any_card" ["card"] den_check_any_card := by
  obtain ⟨f, fd, hm, FD⟩ := T.d_check_any_card
  refine fk_of hm FD sc_check_any_card rfl rfl (fun _ _ _ _ _ _ us hl => match us, hl with | [_], _ => rfl) fun cdv A outer s H E hr gd => ?_
  exact rss_one (rs_if (rt_not (rt_val (re_call (k_is_any_card T) (hr.mono (by decide : 4 ≤ 4)) gd (takes_of rfl rfl rfl rfl) rfl (ra_cons (rv 0) (ra_nil)) (fun xs S h => fnDen_len xs S h)))) (rss_one (rs_raise rfl (takes_of rfl rfl rfl rfl) T.e_InvalidCard (hr.mono (by decide : 2 ≤ 4)) rfl (rv 0))) (rss_nil))
/-! check_hand -/
def b_check_hand : SF := sIf (bNot (eB (eA den_is_hand_of (aCons (eVar 0) (aCons (eVar 1) (aNil)))))) (sRaise "InvalidHand" (eVar 1)) (sNil)
def den_check_hand : DF := fnDen 2 2 b_check_hand
theorem nd_check_hand : (n_check_hand).Nodup := by decide +kernel
theorem sc_check_hand : FnScope n_check_hand ["number", "hand"] (defScope s_check_hand) := ⟨rfl, rfl, rfl, nd_check_hand, rfl, by decide +kernel, by decide +kernel⟩
theorem k_check_hand (T : Tp P w K mg base) : Fk P w K mg base 4 s_check_hand "check_hand" ["number", "hand"] den_check_hand := by
  obtain ⟨f, fd, hm, FD⟩ := T.d_check_hand
  refine fk_of hm FD sc_check_hand rfl rfl (fun _ _ _ _ _ _ us hl => match us, hl with | [_, _], _ => rfl) fun cdv A outer s H E hr gd => ?_
  exact rss_one (rs_if (rt_not (rt_val (re_call (k_is_hand_of T) (hr.mono (by decide : 3 ≤ 3)) gd (takes_of rfl rfl rfl rfl) rfl (ra_cons (rv 0) (ra_cons (rv 1) (ra_nil))) (fun xs S h => fnDen_len xs S h)))) (rss_one (rs_raise rfl (takes_of rfl rfl rfl rfl) T.e_InvalidHand (hr.mono (by decide : 2 ≤ 3)) rfl (rv 1))) (rss_nil))
/-! check_marked_hand -/
def b_check_marked_hand : SF := sSeq (sExpr (eA den_check_marks (aCons (eVar 0) (aNil)))) (sExpr (eA den_check_hand (aCons (eVar 0) (aCons (eVar 1) (aNil)))))
def den_check_marked_hand : DF := fnDen 2 2 b_check_marked_hand
theorem nd_check_marked_hand : (n_check_marked_hand).Nodup := by decide +kernel
theorem sc_check_marked_hand : FnScope n_check_marked_hand ["number", "hand"] (defScope s_check_marked_hand) := ⟨rfl, rfl, rfl, nd_check_marked_hand, rfl, by decide +kernel, by decide +kernel⟩
theorem k_check_marked_hand (T : Tp P w K mg base) : Fk P w K mg base 5 s_check_marked_hand "check_marked_hand" ["number", "hand"] den_check_marked_hand := by
  obtain ⟨f, fd, hm, FD⟩ := T.d_check_marked_hand
  refine fk_of hm FD sc_check_marked_hand rfl rfl (fun _ _ _ _ _ _ us hl => match us, hl with | [_, _], _ => rfl) fun cdv A outer s H E hr gd => ?_
  exact rss_cons (rs_expr (re_call (k_check_marks T) (hr.mono (by decide : 4 ≤ 4)) gd (takes_of rfl rfl rfl rfl) rfl (ra_cons (rv 0) (ra_nil)) (fun xs S h => fnDen_len xs S h))) (rss_one (rs_expr (re_call (k_check_hand T) (hr.mono (by decide : 4 ≤ 4)) gd (takes_of rfl rfl rfl rfl) rfl (ra_cons (rv 0) (ra_cons (rv 1) (ra_nil))) (fun xs S h => fnDen_len xs S h))))
/-! check_two_hands -/
def b_check_two_hands : SF := sSeq (sExpr (eA den_check_marked_hand (aCons (eVar 0) (aCons (eVar 1) (aNil))))) (sExpr (eA den_check_hand (aCons (eVar 0) (aCons (eVar 2) (aNil)))))
def den_check_two_hands : DF := fnDen 3 3 b_check_two_hands
theorem nd_check_two_hands : (n_check_two_hands).Nodup := by decide +kernel
theorem sc_check_two_hands : FnScope n_check_two_hands ["number", "hand", "other_hand"] (defScope s_check_two_hands) := ⟨rfl, rfl, rfl, nd_check_two_hands, rfl, by decide +kernel, by decide +kernel⟩
theorem k_check_two_hands (T : Tp P w K mg base) : Fk P w K mg base 6 s_check_two_hands "check_two_hands" ["number", "hand", "other_hand"] den_check_two_hands := by
  obtain ⟨f, fd, hm, FD⟩ := T.d_check_two_hands
  refine fk_of hm FD sc_check_two_hands rfl rfl (fun _ _ _ _ _ _ us hl => match us, hl with | [_, _, _], _ => rfl) fun cdv A outer s H E hr gd => ?_
  exact rss_cons (rs_expr (re_call (k_check_marked_hand T) (hr.mono (by decide : 5 ≤ 5)) gd (takes_of rfl rfl rfl rfl) rfl (ra_cons (rv 0) (ra_cons (rv 1) (ra_nil))) (fun xs S h => fnDen_len xs S h))) (rss_one (rs_expr (re_call (k_check_hand T) (hr.mono (by decide : 4 ≤ 5)) gd (takes_of rfl rfl rfl rfl) rfl (ra_cons (rv 0) (ra_cons (rv 2) (ra_nil))) (fun xs S h => fnDen_len xs S h))))
/-! check_cards -/
def b_check_cards : SF := sSeq (sIf (bNot (eB (eIsi .tuple (eVar 1)))) (sRaise "InvalidCards" (eC .none)) (sNil)) (sFor (iEnumT (eVar 1)) (aTup 2 (aConss (aName 2) (aConss (aName 3) (aNils)))) (sIf (bNot (eB (eA den_is_card_of (aCons (eVar 0) (aCons (eVar 3) (aNil)))))) (sRaise "InvalidCards" (eVar 2)) (sNil)))
def den_check_cards : DF := fnDen 2 4 b_check_cards
theorem nd_check_cards : (n_check_cards).Nodup := by decide +kernel
theorem sc_check_cards : FnScope n_check_cards ["number", "cards"] (defScope s_check_cards) := ⟨rfl, rfl, rfl, nd_check_cards, rfl, by decide +kernel, by decide +kernel⟩
theorem k_check_cards (T : Tp P w K mg base) : Fk P w K mg base 3 s_check_cards "check_cards" ["number", "cards"] den_check_cards := by
  obtain ⟨f, fd, hm, FD⟩ := T.d_check_cards
  refine fk_of hm FD sc_check_cards rfl rfl (fun _ _ _ _ _ _ us hl => match us, hl with | [_, _], _ => rfl) fun cdv A outer s H E hr gd => ?_
  exact rss_cons (rs_if (rt_not (rt_val (re_isi .tuple (rv 1) rfl T.b_isinstance rfl T.b_tuple PyProof.Rows.Boot.«tuple»))) (rss_one (rs_raise rfl (takes_of rfl rfl rfl rfl) T.e_InvalidCards (hr.mono (by decide : 2 ≤ 2)) rfl (re_non))) (rss_nil)) (rss_one (rs_for (passes_of rfl) rfl (ri_enumT rfl T.b_enumerate (rv 1)) (rg_tup rfl (rgs_cons (rg_name nd_check_cards rfl (by first | exact Or.inl rfl | exact Or.inr rfl)) (rgs_cons (rg_name nd_check_cards rfl (by first | exact Or.inl rfl | exact Or.inr rfl)) (rgs_nil)))) (rss_one (rs_if (rt_not (rt_val (re_call (k_is_card_of T) (hr.mono (by decide : 2 ≤ 2)) gd (takes_of rfl rfl rfl rfl) rfl (ra_cons (rv 0) (ra_cons (rv 3) (ra_nil))) (fun xs S h => fnDen_len xs S h)))) (rss_one (rs_raise rfl (takes_of rfl rfl rfl rfl) T.e_InvalidCards (hr.mono (by decide : 2 ≤ 2)) rfl (rv 2))) (rss_nil)))))
/-! is_card -/
def b_is_card : SF := sSeq (sExpr (eA den_check_marks (aCons (eVar 0) (aNil)))) (sRet (eA den_is_card_of (aCons (eVar 0) (aCons (eVar 1) (aNil)))))
def den_is_card : DF := fnDen 2 2 b_is_card
theorem nd_is_card : (n_is_card).Nodup := by decide +kernel
theorem sc_is_card : FnScope n_is_card ["number", "value"] (defScope s_is_card) := ⟨rfl, rfl, rfl, nd_is_card, rfl, by decide +kernel, by decide +kernel⟩
theorem kb_is_card_0_value_number : KB s_is_card "is_card" ["number", "value"] 0 ["value", "number"] [1, 0] := fun _ _ _ _ _ _ us ws h1 h2 => match us, ws, h1, h2 with | [], [_, _], _, _ => rfl
theorem k_is_card (T : Tp P w K mg base) : Fk P w K mg base 5 s_is_card "is_card" ["number", "value"] den_is_card := by
  obtain ⟨f, fd, hm, FD⟩ := T.d_is_card
  refine fk_of hm FD sc_is_card rfl rfl (fun _ _ _ _ _ _ us hl => match us, hl with | [_, _], _ => rfl) fun cdv A outer s H E hr gd => ?_
  exact rss_cons (rs_expr (re_call (k_check_marks T) (hr.mono (by decide : 4 ≤ 4)) gd (takes_of rfl rfl rfl rfl) rfl (ra_cons (rv 0) (ra_nil)) (fun xs S h => fnDen_len xs S h))) (rss_one (rs_ret (re_call (k_is_card_of T) (hr.mono (by decide : 2 ≤ 4)) gd (takes_of rfl rfl rfl rfl) rfl (ra_cons (rv 0) (ra_cons (rv 1) (ra_nil))) (fun xs S h => fnDen_len xs S h))))
/-! is_hand -/
def b_is_hand : SF := sSeq (sExpr (eA den_check_marks (aCons (eVar 0) (aNil)))) (sRet (eA den_is_hand_of (aCons (eVar 0) (aCons (eVar 1) (aNil)))))
def den_is_hand : DF := fnDen 2 2 b_is_hand
theorem nd_is_hand : (n_is_hand).Nodup := by decide +kernel
theorem sc_is_hand : FnScope n_is_hand ["number", "value"] (defScope s_is_hand) := ⟨rfl, rfl, rfl, nd_is_hand, rfl, by decide +kernel, by decide +kernel⟩
theorem kb_is_hand_0_value_number : KB s_is_hand "is_hand" ["number", "value"] 0 ["value", "number"] [1, 0] := fun _ _ _ _ _ _ us ws h1 h2 => match us, ws, h1, h2 with | [], [_, _], _, _ => rfl
theorem k_is_hand (T : Tp P w K mg base) : Fk P w K mg base 5 s_is_hand "is_hand" ["number", "value"] den_is_hand := by
  obtain ⟨f, fd, hm, FD⟩ := T.d_is_hand
  refine fk_of hm FD sc_is_hand rfl rfl (fun _ _ _ _ _ _ us hl => match us, hl with | [_, _], _ => rfl) fun cdv A outer s H E hr gd => ?_
  exact rss_cons (rs_expr (re_call (k_check_marks T) (hr.mono (by decide : 4 ≤ 4)) gd (takes_of rfl rfl rfl rfl) rfl (ra_cons (rv 0) (ra_nil)) (fun xs S h => fnDen_len xs S h))) (rss_one (rs_ret (re_call (k_is_hand_of T) (hr.mono (by decide : 3 ≤ 4)) gd (takes_of rfl rfl rfl rfl) rfl (ra_cons (rv 0) (ra_cons (rv 1) (ra_nil))) (fun xs S h => fnDen_len xs S h))))
/-! deck -/
def b_deck : SF := sSeq (sExpr (eA den_check_marks (aCons (eVar 0) (aNil)))) (sRet (eA (dCalm hTuple) (aCons (eA den_deck_of (aCons (eVar 0) (aNil))) (aNil))))
def den_deck : DF := fnDen 1 1 b_deck
theorem nd_deck : (n_deck).Nodup := by decide +kernel
theorem sc_deck : FnScope n_deck ["number"] (defScope s_deck) := ⟨rfl, rfl, rfl, nd_deck, rfl, by decide +kernel, by decide +kernel⟩
theorem kb_deck_0_number : KB s_deck "deck" ["number"] 0 ["number"] [0] := fun _ _ _ _ _ _ us ws h1 h2 => match us, ws, h1, h2 with | [], [_], _, _ => rfl
theorem k_deck (T : Tp P w K mg base) : Fk P w K mg base 5 s_deck "deck" ["number"] den_deck := by
  obtain ⟨f, fd, hm, FD⟩ := T.d_deck
  refine fk_of hm FD sc_deck rfl rfl (fun _ _ _ _ _ _ us hl => match us, hl with | [_], _ => rfl) fun cdv A outer s H E hr gd => ?_
  exact rss_cons (rs_expr (re_call (k_check_marks T) (hr.mono (by decide : 4 ≤ 4)) gd (takes_of rfl rfl rfl rfl) rfl (ra_cons (rv 0) (ra_nil)) (fun xs S h => fnDen_len xs S h))) (rss_one (rs_ret (re_ty call_tuple_of rb_tuple PyProof.Rows.Boot.«tuple» rfl T.b_tuple (ra_cons (re_call (k_deck_of T) (hr.mono (by decide : 1 ≤ 4)) gd (takes_of rfl rfl rfl rfl) rfl (ra_cons (rv 0) (ra_nil)) (fun xs S h => fnDen_len xs S h)) (ra_nil)))))
/-! card_number -/
def b_card_number : SF := sSeq (sExpr (eA den_check_any_card (aCons (eVar 0) (aNil)))) (sRet (eA den_number_of_card (aCons (eVar 0) (aNil))))
def den_card_number : DF := fnDen 1 1 b_card_number
theorem nd_card_number : (n_card_number).Nodup := by decide +kernel
theorem sc_card_number : FnScope n_card_number ["card"] (defScope s_card_number) := ⟨rfl, rfl, rfl, nd_card_number, rfl, by decide +kernel, by decide +kernel⟩
theorem kb_card_number_0_card : KB s_card_number "card_number" ["card"] 0 ["card"] [0] := fun _ _ _ _ _ _ us ws h1 h2 => match us, ws, h1, h2 with | [], [_], _, _ => rfl
theorem k_card_number (T : Tp P w K mg base) : Fk P w K mg base 6 s_card_number "card_number" ["card"] den_card_number := by
  obtain ⟨f, fd, hm, FD⟩ := T.d_card_number
  refine fk_of hm FD sc_card_number rfl rfl (fun _ _ _ _ _ _ us hl => match us, hl with | [_], _ => rfl) fun cdv A outer s H E hr gd => ?_
  exact rss_cons (rs_expr (re_call (k_check_any_card T) (hr.mono (by decide : 5 ≤ 5)) gd (takes_of rfl rfl rfl rfl) rfl (ra_cons (rv 0) (ra_nil)) (fun xs S h => fnDen_len xs S h))) (rss_one (rs_ret (re_call (k_number_of_card T) (hr.mono (by decide : 1 ≤ 5)) gd (takes_of rfl rfl rfl rfl) rfl (ra_cons (rv 0) (ra_nil)) (fun xs S h => fnDen_len xs S h))))
/-! card_at -/
def b_card_at : SF := sSeq (sExpr (eA den_check_marks (aCons (eVar 0) (aNil)))) (sSeq (sExpr (eA den_check_number (aCons (eVar 1) (aCons (eC (.int 0)) (aCons (e2 oSub (eA den_deck_size (aCons (eVar 0) (aNil))) (eC (.int 1))) (aNil)))))) (sRet (eA den_card_with (aCons (eVar 0) (aCons (eVar 1) (aNil))))))
def den_card_at : DF := fnDen 2 2 b_card_at
theorem nd_card_at : (n_card_at).Nodup := by decide +kernel
theorem sc_card_at : FnScope n_card_at ["number", "other_number"] (defScope s_card_at) := ⟨rfl, rfl, rfl, nd_card_at, rfl, by decide +kernel, by decide +kernel⟩
theorem kb_card_at_0_other_number_number : KB s_card_at "card_at" ["number", "other_number"] 0 ["other_number", "number"] [1, 0] := fun _ _ _ _ _ _ us ws h1 h2 => match us, ws, h1, h2 with | [], [_, _], _, _ => rfl
theorem k_card_at (T : Tp P w K mg base) : Fk P w K mg base 5 s_card_at "card_at" ["number", "other_number"] den_card_at := by
  obtain ⟨f, fd, hm, FD⟩ := T.d_card_at
  refine fk_of hm FD sc_card_at rfl rfl (fun _ _ _ _ _ _ us hl => match us, hl with | [_, _], _ => rfl) fun cdv A outer s H E hr gd => ?_
  exact rss_cons (rs_expr (re_call (k_check_marks T) (hr.mono (by decide : 4 ≤ 4)) gd (takes_of rfl rfl rfl rfl) rfl (ra_cons (rv 0) (ra_nil)) (fun xs S h => fnDen_len xs S h))) (rss_cons (rs_expr (re_call (k_check_number T) (hr.mono (by decide : 3 ≤ 4)) gd (takes_of rfl rfl rfl rfl) rfl (ra_cons (rv 1) (ra_cons (re_int) (ra_cons (osub (re_call (k_deck_size T) (hr.mono (by decide : 2 ≤ 4)) gd (takes_of rfl rfl rfl rfl) rfl (ra_cons (rv 0) (ra_nil)) (fun xs S h => fnDen_len xs S h)) (re_int)) (ra_nil)))) (fun xs S h => fnDen_len xs S h))) (rss_one (rs_ret (re_call (k_card_with T) (hr.mono (by decide : 1 ≤ 4)) gd (takes_of rfl rfl rfl rfl) rfl (ra_cons (rv 0) (ra_cons (rv 1) (ra_nil))) (fun xs S h => fnDen_len xs S h)))))
/-! hand_of -/
def b_hand_of : SF := sSeq (sExpr (eA den_check_marks (aCons (eVar 0) (aNil)))) (sSeq (sExpr (eA den_check_cards (aCons (eVar 0) (aCons (eVar 1) (aNil))))) (sRet (eA den_as_hand (aCons (eVar 1) (aNil)))))
def den_hand_of : DF := fnDen 2 2 b_hand_of
theorem nd_hand_of : (n_hand_of).Nodup := by decide +kernel
theorem sc_hand_of : FnScope n_hand_of ["number", "cards"] (defScope s_hand_of) := ⟨rfl, rfl, rfl, nd_hand_of, rfl, by decide +kernel, by decide +kernel⟩
theorem kb_hand_of_0_cards_number : KB s_hand_of "hand_of" ["number", "cards"] 0 ["cards", "number"] [1, 0] := fun _ _ _ _ _ _ us ws h1 h2 => match us, ws, h1, h2 with | [], [_, _], _, _ => rfl
theorem k_hand_of (T : Tp P w K mg base) : Fk P w K mg base 5 s_hand_of "hand_of" ["number", "cards"] den_hand_of := by
  obtain ⟨f, fd, hm, FD⟩ := T.d_hand_of
  refine fk_of hm FD sc_hand_of rfl rfl (fun _ _ _ _ _ _ us hl => match us, hl with | [_, _], _ => rfl) fun cdv A outer s H E hr gd => ?_
  exact rss_cons (rs_expr (re_call (k_check_marks T) (hr.mono (by decide : 4 ≤ 4)) gd (takes_of rfl rfl rfl rfl) rfl (ra_cons (rv 0) (ra_nil)) (fun xs S h => fnDen_len xs S h))) (rss_cons (rs_expr (re_call (k_check_cards T) (hr.mono (by decide : 3 ≤ 4)) gd (takes_of rfl rfl rfl rfl) rfl (ra_cons (rv 0) (ra_cons (rv 1) (ra_nil))) (fun xs S h => fnDen_len xs S h))) (rss_one (rs_ret (re_call (k_as_hand T) (hr.mono (by decide : 1 ≤ 4)) gd (takes_of rfl rfl rfl rfl) rfl (ra_cons (rv 1) (ra_nil)) (fun xs S h => fnDen_len xs S h)))))
/-! rest_of -/
def b_rest_of : SF := sSeq (sExpr (eA den_check_marked_hand (aCons (eVar 0) (aCons (eVar 1) (aNil))))) (sRet (eA (dCalm hTuple) (aCons (eA den_others_of (aCons (eVar 0) (aCons (eVar 1) (aNil)))) (aNil))))
def den_rest_of : DF := fnDen 2 2 b_rest_of
theorem nd_rest_of : (n_rest_of).Nodup := by decide +kernel
theorem sc_rest_of : FnScope n_rest_of ["number", "hand"] (defScope s_rest_of) := ⟨rfl, rfl, rfl, nd_rest_of, rfl, by decide +kernel, by decide +kernel⟩
theorem kb_rest_of_0_hand_number : KB s_rest_of "rest_of" ["number", "hand"] 0 ["hand", "number"] [1, 0] := fun _ _ _ _ _ _ us ws h1 h2 => match us, ws, h1, h2 with | [], [_, _], _, _ => rfl
theorem k_rest_of (T : Tp P w K mg base) : Fk P w K mg base 6 s_rest_of "rest_of" ["number", "hand"] den_rest_of := by
  obtain ⟨f, fd, hm, FD⟩ := T.d_rest_of
  refine fk_of hm FD sc_rest_of rfl rfl (fun _ _ _ _ _ _ us hl => match us, hl with | [_, _], _ => rfl) fun cdv A outer s H E hr gd => ?_
  exact rss_cons (rs_expr (re_call (k_check_marked_hand T) (hr.mono (by decide : 5 ≤ 5)) gd (takes_of rfl rfl rfl rfl) rfl (ra_cons (rv 0) (ra_cons (rv 1) (ra_nil))) (fun xs S h => fnDen_len xs S h))) (rss_one (rs_ret (re_ty call_tuple_of rb_tuple PyProof.Rows.Boot.«tuple» rfl T.b_tuple (ra_cons (re_call (k_others_of T) (hr.mono (by decide : 2 ≤ 5)) gd (takes_of rfl rfl rfl rfl) rfl (ra_cons (rv 0) (ra_cons (rv 1) (ra_nil))) (fun xs S h => fnDen_len xs S h)) (ra_nil)))))
/-! both -/
def b_both : SF := sSeq (sExpr (eA den_check_two_hands (aCons (eVar 0) (aCons (eVar 1) (aCons (eVar 2) (aNil)))))) (sRet (eA den_both_of (aCons (eVar 1) (aCons (eVar 2) (aNil)))))
def den_both : DF := fnDen 3 3 b_both
theorem nd_both : (n_both).Nodup := by decide +kernel
theorem sc_both : FnScope n_both ["number", "hand", "other_hand"] (defScope s_both) := ⟨rfl, rfl, rfl, nd_both, rfl, by decide +kernel, by decide +kernel⟩
theorem kb_both_0_other_hand_hand_number : KB s_both "both" ["number", "hand", "other_hand"] 0 ["other_hand", "hand", "number"] [2, 1, 0] := fun _ _ _ _ _ _ us ws h1 h2 => match us, ws, h1, h2 with | [], [_, _, _], _, _ => rfl
theorem k_both (T : Tp P w K mg base) : Fk P w K mg base 7 s_both "both" ["number", "hand", "other_hand"] den_both := by
  obtain ⟨f, fd, hm, FD⟩ := T.d_both
  refine fk_of hm FD sc_both rfl rfl (fun _ _ _ _ _ _ us hl => match us, hl with | [_, _, _], _ => rfl) fun cdv A outer s H E hr gd => ?_
  exact rss_cons (rs_expr (re_call (k_check_two_hands T) (hr.mono (by decide : 6 ≤ 6)) gd (takes_of rfl rfl rfl rfl) rfl (ra_cons (rv 0) (ra_cons (rv 1) (ra_cons (rv 2) (ra_nil)))) (fun xs S h => fnDen_len xs S h))) (rss_one (rs_ret (re_call (k_both_of T) (hr.mono (by decide : 1 ≤ 6)) gd (takes_of rfl rfl rfl rfl) rfl (ra_cons (rv 1) (ra_cons (rv 2) (ra_nil))) (fun xs S h => fnDen_len xs S h))))
/-! either -/
def b_either : SF := sSeq (sExpr (eA den_check_two_hands (aCons (eVar 0) (aCons (eVar 1) (aCons (eVar 2) (aNil)))))) (sRet (eA den_as_hand (aCons (e2 oAdd (eVar 1) (eVar 2)) (aNil))))
def den_either : DF := fnDen 3 3 b_either
theorem nd_either : (n_either).Nodup := by decide +kernel
theorem sc_either : FnScope n_either ["number", "hand", "other_hand"] (defScope s_either) := ⟨rfl, rfl, rfl, nd_either, rfl, by decide +kernel, by decide +kernel⟩
theorem kb_either_0_other_hand_hand_number : KB s_either "either" ["number", "hand", "other_hand"] 0 ["other_hand", "hand", "number"] [2, 1, 0] := fun _ _ _ _ _ _ us ws h1 h2 => match us, ws, h1, h2 with | [], [_, _, _], _, _ => rfl
theorem k_either (T : Tp P w K mg base) : Fk P w K mg base 7 s_either "either" ["number", "hand", "other_hand"] den_either := by
  obtain ⟨f, fd, hm, FD⟩ := T.d_either
  refine fk_of hm FD sc_either rfl rfl (fun _ _ _ _ _ _ us hl => match us, hl with | [_, _, _], _ => rfl) fun cdv A outer s H E hr gd => ?_
  exact rss_cons (rs_expr (re_call (k_check_two_hands T) (hr.mono (by decide : 6 ≤ 6)) gd (takes_of rfl rfl rfl rfl) rfl (ra_cons (rv 0) (ra_cons (rv 1) (ra_cons (rv 2) (ra_nil)))) (fun xs S h => fnDen_len xs S h))) (rss_one (rs_ret (re_call (k_as_hand T) (hr.mono (by decide : 1 ≤ 6)) gd (takes_of rfl rfl rfl rfl) rfl (ra_cons (oadd (rv 1) (rv 2)) (ra_nil)) (fun xs S h => fnDen_len xs S h))))
/-! only -/
def b_only : SF := sSeq (sExpr (eA den_check_two_hands (aCons (eVar 0) (aCons (eVar 1) (aCons (eVar 2) (aNil)))))) (sRet (eA den_only_of (aCons (eVar 1) (aCons (eVar 2) (aNil)))))
def den_only : DF := fnDen 3 3 b_only
theorem nd_only : (n_only).Nodup := by decide +kernel
theorem sc_only : FnScope n_only ["number", "hand", "other_hand"] (defScope s_only) := ⟨rfl, rfl, rfl, nd_only, rfl, by decide +kernel, by decide +kernel⟩
theorem kb_only_0_other_hand_hand_number : KB s_only "only" ["number", "hand", "other_hand"] 0 ["other_hand", "hand", "number"] [2, 1, 0] := fun _ _ _ _ _ _ us ws h1 h2 => match us, ws, h1, h2 with | [], [_, _, _], _, _ => rfl
theorem k_only (T : Tp P w K mg base) : Fk P w K mg base 7 s_only "only" ["number", "hand", "other_hand"] den_only := by
  obtain ⟨f, fd, hm, FD⟩ := T.d_only
  refine fk_of hm FD sc_only rfl rfl (fun _ _ _ _ _ _ us hl => match us, hl with | [_, _, _], _ => rfl) fun cdv A outer s H E hr gd => ?_
  exact rss_cons (rs_expr (re_call (k_check_two_hands T) (hr.mono (by decide : 6 ≤ 6)) gd (takes_of rfl rfl rfl rfl) rfl (ra_cons (rv 0) (ra_cons (rv 1) (ra_cons (rv 2) (ra_nil)))) (fun xs S h => fnDen_len xs S h))) (rss_one (rs_ret (re_call (k_only_of T) (hr.mono (by decide : 1 ≤ 6)) gd (takes_of rfl rfl rfl rfl) rfl (ra_cons (rv 1) (ra_cons (rv 2) (ra_nil))) (fun xs S h => fnDen_len xs S h))))
/-! text_of_hand -/
def b_text_of_hand : SF := sRet (eM1 hJoin (eC (.str " ")) (eA mkLst (aCons (eFmt (eVar 0)) (aStar (eVar 1) (aNil)))))
def den_text_of_hand : DF := fnDen 2 2 b_text_of_hand
theorem nd_text_of_hand : (n_text_of_hand).Nodup := by decide +kernel
theorem sc_text_of_hand : FnScope n_text_of_hand ["number", "hand"] (defScope s_text_of_hand) := ⟨rfl, rfl, rfl, nd_text_of_hand, rfl, by decide +kernel, by decide +kernel⟩
theorem k_text_of_hand (T : Tp P w K mg base) : Fk P w K mg base 1 s_text_of_hand "text_of_hand" ["number", "hand"] den_text_of_hand := by
  obtain ⟨f, fd, hm, FD⟩ := T.d_text_of_hand
  refine fk_of hm FD sc_text_of_hand rfl rfl (fun _ _ _ _ _ _ us hl => match us, hl with | [_, _], _ => rfl) fun cdv A outer s H E hr gd => ?_
  exact rss_one (rs_ret (re_join (gS T.c_BLANK) (re_lst (ra_cons (re_joined1 (re_fmt (rv 0))) (ra_star (rv 1) (ra_nil))))))
/-! hand_told -/
def b_hand_told : SF := sSeq (sIf (bNot (eB (eIsi .str (eVar 0)))) (sRet (eC .none)) (sNil)) (sSeq (sStar 1 2 (eM1 hSplit (eVar 0) (eC (.str " ")))) (sSeq (sIf (bOr (eB (e2 oNe (eA (dCalm hLen) (aCons (eVar 1) (aNil))) (eC (.int 1)))) (eB (e2 (oIn true) (eVar 1) (eSl (eC (.str "1234")) (oNone) (oSome (eC (.int 4))))))) (sRet (eC .none)) (sNil)) (sRet (eIf (eB (eA den_is_hand_of (aCons (eA (dCalm hInt) (aCons (eVar 1) (aNil))) (aCons (eA (dCalm hTuple) (aCons (eVar 2) (aNil))) (aNil))))) (eA mkTup (aCons (eA (dCalm hInt) (aCons (eVar 1) (aNil))) (aCons (eA (dCalm hTuple) (aCons (eVar 2) (aNil))) (aNil)))) (eC .none)))))
def den_hand_told : DF := fnDen 1 3 b_hand_told
theorem nd_hand_told : (n_hand_told).Nodup := by decide +kernel
theorem sc_hand_told : FnScope n_hand_told ["text"] (defScope s_hand_told) := ⟨rfl, rfl, rfl, nd_hand_told, rfl, by decide +kernel, by decide +kernel⟩
theorem k_hand_told (T : Tp P w K mg base) : Fk P w K mg base 4 s_hand_told "hand_told" ["text"] den_hand_told := by
  obtain ⟨f, fd, hm, FD⟩ := T.d_hand_told
  refine fk_of hm FD sc_hand_told rfl rfl (fun _ _ _ _ _ _ us hl => match us, hl with | [_], _ => rfl) fun cdv A outer s H E hr gd => ?_
  exact rss_cons (rs_if (rt_not (rt_val (re_isi .str (rv 0) rfl T.b_isinstance rfl T.b_str PyProof.Rows.Boot.«str»))) (rss_one (rs_ret (re_non))) (rss_nil)) (rss_cons (rs_star (i := 1) (j := 2) rfl nd_hand_told rfl rfl (by decide) rfl rfl (re_split (rv 0) (gS T.c_BLANK))) (rss_cons (rs_if (PW.pt (rw_or (tcmp (kNe hr) (re_blt call_len rb_len PyProof.Rows.Boot.«len» rfl T.b_len (ra_cons (rv 1) (ra_nil))) (re_int)) (rw_or1 (tcmp (kNotIn hr) (rv 1) (re_sl (gS T.c_MARK_NUMBERS) (ro_none) (ro_some (gI T.c_MOST_MARKS))))))) (rss_one (rs_ret (re_non))) (rss_nil)) (rss_one (rs_ret (re_if (rt_val (re_call (k_is_hand_of T) (hr.mono (by decide : 3 ≤ 3)) gd (takes_of rfl rfl rfl rfl) rfl (ra_cons (re_ty c_int rb_int PyProof.Rows.Boot.«int» rfl T.b_int (ra_cons (rv 1) (ra_nil))) (ra_cons (re_ty call_tuple_of rb_tuple PyProof.Rows.Boot.«tuple» rfl T.b_tuple (ra_cons (rv 2) (ra_nil))) (ra_nil))) (fun xs S h => fnDen_len xs S h))) (re_tup (ra_cons (re_ty c_int rb_int PyProof.Rows.Boot.«int» rfl T.b_int (ra_cons (rv 1) (ra_nil))) (ra_cons (re_ty call_tuple_of rb_tuple PyProof.Rows.Boot.«tuple» rfl T.b_tuple (ra_cons (rv 2) (ra_nil))) (ra_nil)))) (re_non))))))
/-! check_told -/
def b_check_told : SF := sIf (eB (e2 (oIs false) (eVar 0) (eC .none))) (sRaise "InvalidText" (eVar 1)) (sNil)
def den_check_told : DF := fnDen 2 2 b_check_told
theorem nd_check_told : (n_check_told).Nodup := by decide +kernel
theorem sc_check_told : FnScope n_check_told ["found", "text"] (defScope s_check_told) := ⟨rfl, rfl, rfl, nd_check_told, rfl, by decide +kernel, by decide +kernel⟩
theorem k_check_told (T : Tp P w K mg base) : Fk P w K mg base 3 s_check_told "check_told" ["found", "text"] den_check_told := by
  obtain ⟨f, fd, hm, FD⟩ := T.d_check_told
  refine fk_of hm FD sc_check_told rfl rfl (fun _ _ _ _ _ _ us hl => match us, hl with | [_, _], _ => rfl) fun cdv A outer s H E hr gd => ?_
  exact rss_one (rs_if (tcmp kIs (rv 0) (re_non)) (rss_one (rs_raise rfl (takes_of rfl rfl rfl rfl) T.e_InvalidText (hr.mono (by decide : 2 ≤ 2)) rfl (rv 1))) (rss_nil))
/-! hand_text -/
def b_hand_text : SF := sSeq (sExpr (eA den_check_marked_hand (aCons (eVar 0) (aCons (eVar 1) (aNil))))) (sRet (eA den_text_of_hand (aCons (eVar 0) (aCons (eVar 1) (aNil)))))
def den_hand_text : DF := fnDen 2 2 b_hand_text
theorem nd_hand_text : (n_hand_text).Nodup := by decide +kernel
theorem sc_hand_text : FnScope n_hand_text ["number", "hand"] (defScope s_hand_text) := ⟨rfl, rfl, rfl, nd_hand_text, rfl, by decide +kernel, by decide +kernel⟩
theorem kb_hand_text_0_hand_number : KB s_hand_text "hand_text" ["number", "hand"] 0 ["hand", "number"] [1, 0] := fun _ _ _ _ _ _ us ws h1 h2 => match us, ws, h1, h2 with | [], [_, _], _, _ => rfl
theorem k_hand_text (T : Tp P w K mg base) : Fk P w K mg base 6 s_hand_text "hand_text" ["number", "hand"] den_hand_text := by
  obtain ⟨f, fd, hm, FD⟩ := T.d_hand_text
  refine fk_of hm FD sc_hand_text rfl rfl (fun _ _ _ _ _ _ us hl => match us, hl with | [_, _], _ => rfl) fun cdv A outer s H E hr gd => ?_
  exact rss_cons (rs_expr (re_call (k_check_marked_hand T) (hr.mono (by decide : 5 ≤ 5)) gd (takes_of rfl rfl rfl rfl) rfl (ra_cons (rv 0) (ra_cons (rv 1) (ra_nil))) (fun xs S h => fnDen_len xs S h))) (rss_one (rs_ret (re_call (k_text_of_hand T) (hr.mono (by decide : 1 ≤ 5)) gd (takes_of rfl rfl rfl rfl) rfl (ra_cons (rv 0) (ra_cons (rv 1) (ra_nil))) (fun xs S h => fnDen_len xs S h))))
/-! read_hand -/
def b_read_hand : SF := sSeq (sAsg (eA den_hand_told (aCons (eVar 0) (aNil))) (aName 1)) (sSeq (sExpr (eA den_check_told (aCons (eVar 1) (aCons (eVar 0) (aNil))))) (sRet (eVar 1)))
def den_read_hand : DF := fnDen 1 2 b_read_hand
theorem nd_read_hand : (n_read_hand).Nodup := by decide +kernel
theorem sc_read_hand : FnScope n_read_hand ["text"] (defScope s_read_hand) := ⟨rfl, rfl, rfl, nd_read_hand, rfl, by decide +kernel, by decide +kernel⟩
theorem kb_read_hand_0_text : KB s_read_hand "read_hand" ["text"] 0 ["text"] [0] := fun _ _ _ _ _ _ us ws h1 h2 => match us, ws, h1, h2 with | [], [_], _, _ => rfl
theorem k_read_hand (T : Tp P w K mg base) : Fk P w K mg base 5 s_read_hand "read_hand" ["text"] den_read_hand := by
  obtain ⟨f, fd, hm, FD⟩ := T.d_read_hand
  refine fk_of hm FD sc_read_hand rfl rfl (fun _ _ _ _ _ _ us hl => match us, hl with | [_], _ => rfl) fun cdv A outer s H E hr gd => ?_
  exact rss_cons (rs_set (i := 1) nd_read_hand rfl (by first | exact Or.inl rfl | exact Or.inr rfl) (re_call (k_hand_told T) (hr.mono (by decide : 4 ≤ 4)) gd (takes_of rfl rfl rfl rfl) rfl (ra_cons (rv 0) (ra_nil)) (fun xs S h => fnDen_len xs S h))) (rss_cons (rs_expr (re_call (k_check_told T) (hr.mono (by decide : 3 ≤ 4)) gd (takes_of rfl rfl rfl rfl) rfl (ra_cons (rv 1) (ra_cons (rv 0) (ra_nil))) (fun xs S h => fnDen_len xs S h))) (rss_one (rs_ret (rv 1))))
/-! _law_spring -/
def b__law_spring : SF := sSeq (sAsg (eIf (eB (e2 oLt (eVar 1) (eA (dCalm hLen) (aCons (eVar 0) (aNil))))) (eA (dCalm hInt) (aCons (e2 oGet (eVar 0) (eVar 1)) (aNil))) (e2 oAdd (e2 oMod (eA (dCalm hInt) (aCons (eA (dCalm hSum) (aCons (eSl (eVar 0) (oNone) (oSome (eC (.int 3)))) (aNil))) (aNil))) (eC (.int 999983))) (e2 oMul (eC (.int 245)) (e2 oAdd (eVar 1) (eC (.int 1)))))) (aName 2)) (sSeq (sAsg (e2 oAdd (eC (.int 50031)) (eVar 1)) (aName 3)) (sSeq (sFor (iBy toItems (e2 oAdd (eA mkLst (aCons (eVar 2) (aNil))) (eSl (eVar 0) (oNone) (oSome (eC (.int 4)))))) (aName 4) (sAsg (e2 oMod (eA (dCalm hInt) (aCons (e2 oAdd (e2 oMul (eVar 3) (eC (.int 39373))) (e2 oMod (eA (dCalm hInt) (aCons (eVar 4) (aNil))) (eC (.int 2147483587)))) (aNil))) (eC (.int 2147483647))) (aName 3))) (sRet (eA mkLstR (aCons (eIf (bOr (eB (e2 oLt (eVar 2) (eC (.int 0)))) (eB (e2 oGe (eVar 2) (e2 oPow (eC (.int 10)) (eC (.int 15)))))) (e2 oMod (eA (dCalm hInt) (aCons (eA (dCalm hAbs) (aCons (eVar 2) (aNil))) (aNil))) (e2 oPow (eC (.int 10)) (eC (.int 60)))) (eC (.int 0))) (aCons (eVar 3) (aNil)))))))
def den__law_spring : DF := fnDen 2 5 b__law_spring
theorem nd__law_spring : (n__law_spring).Nodup := by decide +kernel
theorem sc__law_spring : FnScope n__law_spring ["script", "place"] (defScope s__law_spring) := ⟨rfl, rfl, rfl, nd__law_spring, rfl, by decide +kernel, by decide +kernel⟩
theorem k__law_spring (T : Tp P w K mg base) : Fk P w K mg base 1 s__law_spring "_law_spring" ["script", "place"] den__law_spring := by
  obtain ⟨f, fd, hm, FD⟩ := T.d__law_spring
  refine fk_of hm FD sc__law_spring rfl rfl (fun _ _ _ _ _ _ us hl => match us, hl with | [_, _], _ => rfl) fun cdv A outer s H E hr gd => ?_
  exact rss_cons (rs_set (i := 2) nd__law_spring rfl (by first | exact Or.inl rfl | exact Or.inr rfl) (re_if (tcmp kLt (rv 1) (re_blt call_len rb_len PyProof.Rows.Boot.«len» rfl T.b_len (ra_cons (rv 0) (ra_nil)))) (re_ty c_int rb_int PyProof.Rows.Boot.«int» rfl T.b_int (ra_cons (vget (rv 0) (rv 1)) (ra_nil))) (oadd (omod (re_ty c_int rb_int PyProof.Rows.Boot.«int» rfl T.b_int (ra_cons (re_blt (cr_sum rfl) rb_sum PyProof.Rows.Boot.«sum» rfl T.b_sum (ra_cons (re_sl (rv 0) (ro_none) (ro_some (re_int))) (ra_nil))) (ra_nil))) (re_int)) (omul (re_int) (oadd (rv 1) (re_int)))))) (rss_cons (rs_set (i := 3) nd__law_spring rfl (by first | exact Or.inl rfl | exact Or.inr rfl) (oadd (re_int) (rv 1))) (rss_cons (rs_for (passes_of rfl) rfl (ri_val (oadd (re_lst (ra_cons (rv 2) (ra_nil))) (re_sl (rv 0) (ro_none) (ro_some (re_int))))) (rg_name nd__law_spring rfl (by first | exact Or.inl rfl | exact Or.inr rfl)) (rss_one (rs_set (i := 3) nd__law_spring rfl (by first | exact Or.inl rfl | exact Or.inr rfl) (omod (re_ty c_int rb_int PyProof.Rows.Boot.«int» rfl T.b_int (ra_cons (oadd (omul (rv 3) (re_int)) (omod (re_ty c_int rb_int PyProof.Rows.Boot.«int» rfl T.b_int (ra_cons (rv 4) (ra_nil))) (re_int))) (ra_nil))) (re_int))))) (rss_one (rs_ret (re_lstR (ra_cons (re_if (PW.pt (rw_or (tcmp kLt (rv 2) (re_int)) (rw_or1 (tcmp kGe (rv 2) (opow (re_int) (re_int)))))) (omod (re_ty c_int rb_int PyProof.Rows.Boot.«int» rfl T.b_int (ra_cons (re_blt call_abs rb_abs PyProof.Rows.Boot.«abs» rfl T.b_abs (ra_cons (rv 2) (ra_nil))) (ra_nil))) (opow (re_int) (re_int))) (re_int)) (ra_cons (rv 3) (ra_nil))))))))
/-! _law_draw -/
def b__law_draw : SF := sSeq (sIf (eB (e2 oGt (e2 oGet (eVar 0) (eC (.int 0))) (eC (.int 0)))) (sSeq (sAsg (eA (dCalm hDivmod) (aCons (e2 oGet (eVar 0) (eC (.int 0))) (aCons (eVar 1) (aNil)))) (aTup 2 (aConss (aSub (eVar 0) (eC (.int 0))) (aConss (aName 2) (aNils))))) (sRet (eVar 2))) (sNil)) (sSeq (sAsg (e2 oMod (eA (dCalm hInt) (aCons (e2 oAdd (e2 oMul (e2 oGet (eVar 0) (eC (.int 1))) (eC (.int 39373))) (eC (.int 7177))) (aNil))) (eC (.int 2147483647))) (aSub (eVar 0) (eC (.int 1)))) (sRet (e2 oMod (eA (dCalm hInt) (aCons (e2 oFdiv (e2 oGet (eVar 0) (eC (.int 1))) (eC (.int 1009))) (aNil))) (eVar 1))))
def den__law_draw : DF := fnDen 2 3 b__law_draw
theorem nd__law_draw : (n__law_draw).Nodup := by decide +kernel
theorem sc__law_draw : FnScope n__law_draw ["spring", "many"] (defScope s__law_draw) := ⟨rfl, rfl, rfl, nd__law_draw, rfl, by decide +kernel, by decide +kernel⟩
theorem k__law_draw (T : Tp P w K mg base) : Fk P w K mg base 1 s__law_draw "_law_draw" ["spring", "many"] den__law_draw := by
  obtain ⟨f, fd, hm, FD⟩ := T.d__law_draw
  refine fk_of hm FD sc__law_draw rfl rfl (fun _ _ _ _ _ _ us hl => match us, hl with | [_, _], _ => rfl) fun cdv A outer s H E hr gd => ?_
  exact rss_cons (rs_if (tcmp kGt (vget (rv 0) (re_int)) (re_int)) (rss_cons (rs_asg (re_blt call_divmod rb_divmod PyProof.Rows.Boot.«divmod» rfl T.b_divmod (ra_cons (vget (rv 0) (re_int)) (ra_cons (rv 1) (ra_nil)))) (rg_tup rfl (rgs_cons (rg_sub (rv 0) (re_int)) (rgs_cons (rg_name nd__law_draw rfl (by first | exact Or.inl rfl | exact Or.inr rfl)) (rgs_nil))))) (rss_one (rs_ret (rv 2)))) (rss_nil)) (rss_cons (rs_asg (omod (re_ty c_int rb_int PyProof.Rows.Boot.«int» rfl T.b_int (ra_cons (oadd (omul (vget (rv 0) (re_int)) (re_int)) (re_int)) (ra_nil))) (re_int)) (rg_sub (rv 0) (re_int))) (rss_one (rs_ret (omod (re_ty c_int rb_int PyProof.Rows.Boot.«int» rfl T.b_int (ra_cons (ofdiv (vget (rv 0) (re_int)) (re_int)) (ra_nil))) (rv 1)))))
/-! _law_equal -/
def b__law_equal : SF := sRet (eAnd (e2 oEq (eVar 0) (eVar 1)) (e2 oEq (eA (dCalm hStr) (aCons (eVar 0) (aNil))) (eA (dCalm hStr) (aCons (eVar 1) (aNil)))))
def den__law_equal : DF := fnDen 2 2 b__law_equal
theorem nd__law_equal : (n__law_equal).Nodup := by decide +kernel
theorem sc__law_equal : FnScope n__law_equal ["told", "due"] (defScope s__law_equal) := ⟨rfl, rfl, rfl, nd__law_equal, rfl, by decide +kernel, by decide +kernel⟩
theorem k__law_equal (T : Tp P w K mg base) : Fk P w K mg base 1 s__law_equal "_law_equal" ["told", "due"] den__law_equal := by
  obtain ⟨f, fd, hm, FD⟩ := T.d__law_equal
  refine fk_of hm FD sc__law_equal rfl rfl (fun _ _ _ _ _ _ us hl => match us, hl with | [_, _], _ => rfl) fun cdv A outer s H E hr gd => ?_
  exact rss_one (rs_ret (re_and (vcmp (kEq hr) (rv 0) (rv 1)) (re_one (vcmp (kEq hr) (re_ty (c_str hr gd) rb_str PyProof.Rows.Boot.«str» rfl T.b_str (ra_cons (rv 0) (ra_nil))) (re_ty (c_str hr gd) rb_str PyProof.Rows.Boot.«str» rfl T.b_str (ra_cons (rv 1) (ra_nil)))))))
/-! _law_figures -/
def b__law_figures : SF := sSeq (sAsg (eC (.str "")) (aName 2)) (sSeq (sFor (iBys toRng1 (aCons (eVar 0) (aNil))) (aName 3) (sPar 2 1 (aCons (e2 oAdd (eA (dCalm hStr) (aCons (e2 oMod (eA (dCalm hInt) (aCons (eVar 1) (aNil))) (eC (.int 3))) (aNil))) (eVar 2)) (aCons (e2 oFdiv (eVar 1) (eC (.int 3))) (aNil))))) (sRet (eVar 2)))
def den__law_figures : DF := fnDen 2 4 b__law_figures
theorem nd__law_figures : (n__law_figures).Nodup := by decide +kernel
theorem sc__law_figures : FnScope n__law_figures ["many", "value"] (defScope s__law_figures) := ⟨rfl, rfl, rfl, nd__law_figures, rfl, by decide +kernel, by decide +kernel⟩
theorem k__law_figures (T : Tp P w K mg base) : Fk P w K mg base 1 s__law_figures "_law_figures" ["many", "value"] den__law_figures := by
  obtain ⟨f, fd, hm, FD⟩ := T.d__law_figures
  refine fk_of hm FD sc__law_figures rfl rfl (fun _ _ _ _ _ _ us hl => match us, hl with | [_, _], _ => rfl) fun cdv A outer s H E hr gd => ?_
  exact rss_cons (rs_set (i := 2) nd__law_figures rfl (by first | exact Or.inl rfl | exact Or.inr rfl) (re_str)) (rss_cons (rs_for (passes_of rfl) rfl (ri_rng1 rfl T.b_range (ra_cons (rv 0) (ra_nil))) (rg_name nd__law_figures rfl (by first | exact Or.inl rfl | exact Or.inr rfl)) (rss_one (rs_par (i := 2) (j := 1) rfl nd__law_figures rfl rfl (by decide) rfl rfl (ra_cons (oadd (re_ty (c_str hr gd) rb_str PyProof.Rows.Boot.«str» rfl T.b_str (ra_cons (omod (re_ty c_int rb_int PyProof.Rows.Boot.«int» rfl T.b_int (ra_cons (rv 1) (ra_nil))) (re_int)) (ra_nil))) (rv 2)) (ra_cons (ofdiv (rv 1) (re_int)) (ra_nil))) (by rfl)))) (rss_one (rs_ret (rv 2))))
/-! _law_hand -/
def b__law_hand : SF := sRet (eA (dCalm hTuple) (aCons (eComp [2] (iBy toItems (eSortSet (eVar 1))) (.nm 2) (pYes) (eA den__law_figures (aCons (eVar 0) (aCons (eVar 2) (aNil))))) (aNil)))
def den__law_hand : DF := fnDen 2 3 b__law_hand
theorem nd__law_hand : (n__law_hand).Nodup := by decide +kernel
theorem sc__law_hand : FnScope n__law_hand ["many", "values"] (defScope s__law_hand) := ⟨rfl, rfl, rfl, nd__law_hand, rfl, by decide +kernel, by decide +kernel⟩
theorem k__law_hand (T : Tp P w K mg base) : Fk P w K mg base 2 s__law_hand "_law_hand" ["many", "values"] den__law_hand := by
  obtain ⟨f, fd, hm, FD⟩ := T.d__law_hand
  refine fk_of hm FD sc__law_hand rfl rfl (fun _ _ _ _ _ _ us hl => match us, hl with | [_, _], _ => rfl) fun cdv A outer s H E hr gd => ?_
  exact rss_one (rs_ret (re_ty call_tuple_of rb_tuple PyProof.Rows.Boot.«tuple» rfl T.b_tuple (ra_cons (re_lc rfl nd__law_hand (ri_val (re_sortSet hr rfl rfl T.b_sorted rfl T.b_set (rv 1))) (own := [("value", 2)]) (blkOk_by (by kernel_rfl)) (fun _ _ _ _ _ => rc_nm nd__law_hand rfl (by first | exact Or.inl rfl | exact Or.inr rfl)) (fun _ _ _ _ _ => rts_nil) (fun _ _ _ _ _ => re_call (k__law_figures T) (hr.mono (by decide : 1 ≤ 1)) gd takes0 rfl (ra_cons (rv 0) (ra_cons (rv 2) (ra_nil))) (fun xs S h => fnDen_len xs S h))) (ra_nil))))
/-! _law_some -/
def b__law_some : SF := sRet (eComp [2] (iBys toRng1 (aCons (eA den__law_draw (aCons (eVar 0) (aCons (eC (.int 12)) (aNil)))) (aNil))) (.nm 2) (pYes) (eA den__law_draw (aCons (eVar 0) (aCons (e2 oGet (eA mkTup (aCons (eC (.int 1)) (aCons (eC (.int 3)) (aCons (eC (.int 9)) (aCons (eC (.int 27)) (aCons (eC (.int 81)) (aNil))))))) (eVar 1)) (aNil)))))
def den__law_some : DF := fnDen 2 3 b__law_some
theorem nd__law_some : (n__law_some).Nodup := by decide +kernel
theorem sc__law_some : FnScope n__law_some ["spring", "many"] (defScope s__law_some) := ⟨rfl, rfl, rfl, nd__law_some, rfl, by decide +kernel, by decide +kernel⟩
theorem k__law_some (T : Tp P w K mg base) : Fk P w K mg base 2 s__law_some "_law_some" ["spring", "many"] den__law_some := by
  obtain ⟨f, fd, hm, FD⟩ := T.d__law_some
  refine fk_of hm FD sc__law_some rfl rfl (fun _ _ _ _ _ _ us hl => match us, hl with | [_, _], _ => rfl) fun cdv A outer s H E hr gd => ?_
  exact rss_one (rs_ret (re_lc rfl nd__law_some (ri_rng1 rfl T.b_range (ra_cons (re_call (k__law_draw T) (hr.mono (by decide : 1 ≤ 1)) gd (takes_of rfl rfl rfl rfl) rfl (ra_cons (rv 0) (ra_cons (re_int) (ra_nil))) (fun xs S h => fnDen_len xs S h)) (ra_nil))) (own := [("turn", 2)]) (blkOk_by (by kernel_rfl)) (fun _ _ _ _ _ => rc_nm nd__law_some rfl (by first | exact Or.inl rfl | exact Or.inr rfl)) (fun _ _ _ _ _ => rts_nil) (fun _ _ _ _ _ => re_call (k__law_draw T) (hr.mono (by decide : 1 ≤ 1)) gd takes0 rfl (ra_cons (rv 0) (ra_cons (vget (re_tup (ra_cons (re_int) (ra_cons (re_int) (ra_cons (re_int) (ra_cons (re_int) (ra_cons (re_int) (ra_nil))))))) (rv 1)) (ra_nil))) (fun xs S h => fnDen_len xs S h))))
/-! _law_is_refused -/
def b__law_is_refused : SF := sSeq (sTry (fun c => if c = "InvalidText" then some true else none) 1 (sExpr (eA den_read_hand (aCons (eVar 0) (aNil)))) (fun q => sRet (e2 oEqS (eC q) (eVar 0)))) (sRet (eC (.bool false)))
def den__law_is_refused : DF := fnDen 1 2 b__law_is_refused
theorem nd__law_is_refused : (n__law_is_refused).Nodup := by decide +kernel
theorem sc__law_is_refused : FnScope n__law_is_refused ["text"] (defScope s__law_is_refused) := ⟨rfl, rfl, rfl, nd__law_is_refused, rfl, by decide +kernel, by decide +kernel⟩
theorem k__law_is_refused (T : Tp P w K mg base) : Fk P w K mg base 6 s__law_is_refused "_law_is_refused" ["text"] den__law_is_refused := by
  obtain ⟨f, fd, hm, FD⟩ := T.d__law_is_refused
  refine fk_of hm FD sc__law_is_refused rfl rfl (fun _ _ _ _ _ _ us hl => match us, hl with | [_], _ => rfl) fun cdv A outer s H E hr gd => ?_
  exact rss_cons (rs_try (i := 1) (sa := fun a d => sRet (e2 oEqS (eXf 1 a d "given") (eVar 0))) rfl rfl nd__law_is_refused rfl rfl ⟨rfl, by decide, Or.inl T.e_InvalidText.glo⟩ (takes_of rfl rfl rfl rfl) (T.h_InvalidText) (fun c h => by by_cases e : c = "InvalidText" <;> simp_all) (fun W pn xe tk2 pa2 => rss_one (rs_expr (re_call (k_read_hand T) (hr.mono (by decide : 5 ≤ 5)) gd tk2 rfl (ra_cons (rv 0) (ra_nil)) (fun xs S h => fnDen_len xs S h)))) (fun a oe d pn hz hf => rss_one (rs_ret (vcmp kEqS (re_xf T.e_InvalidText rfl hz hf (i := 1) rfl (Or.inl rfl) rfl) (rv 0)))) (fun a dd q ρ S hi fl S' e => eqs (by decide) hi fl S' e)) (rss_one (rs_ret (re_bl)))
/-! _law_texts_right -/
def b__law_texts_right : SF := sSeq (sAsg (eM1 hJoin (eC (.str " ")) (e2 oAdd (eA mkLst (aCons (eA (dCalm hStr) (aCons (eVar 0) (aNil))) (aNil))) (eA (dCalm hList) (aCons (eVar 1) (aNil))))) (aName 2)) (sSeq (sIf (bNot (eB (eA den__law_equal (aCons (eA mkTup (aCons (eA den_hand_text (aCons (eVar 0) (aCons (eVar 1) (aNil)))) (aCons (eA den_read_hand (aCons (eVar 2) (aNil))) (aCons (eCallK den_hand_text 0 2 [1, 0] aNil (aCons (eVar 1) (aCons (eVar 0) (aNil)))) (aCons (eCallK den_read_hand 0 1 [0] aNil (aCons (eVar 2) (aNil))) (aNil)))))) (aCons (e2 oMul (eA mkTup (aCons (eVar 2) (aCons (eA mkTup (aCons (eVar 0) (aCons (eVar 1) (aNil)))) (aNil)))) (eC (.int 2))) (aNil)))))) (sRet (eC (.bool false))) (sNil)) (sSeq (sAsg (eA mkLstR (aCons (e2 oAdd (eVar 2) (eC (.str " "))) (aCons (e2 oAdd (eC (.str " ")) (eVar 2)) (aCons (e2 oAdd (eRepl (eVar 2) " " "  ") (eC (.str "  "))) (aCons (e2 oAdd (eC (.str "5")) (eSl (eVar 2) (oSome (eC (.int 1))) (oNone))) (aCons (e2 oAdd (eC (.str "0")) (eSl (eVar 2) (oSome (eC (.int 1))) (oNone))) (aCons (e2 oAdd (e2 oAdd (eVar 2) (eC (.str " "))) (e2 oMul (eC (.str "3")) (eVar 0))) (aCons (e2 oAdd (e2 oAdd (eVar 2) (eC (.str " "))) (e2 oMul (eC (.str "0")) (e2 oAdd (eVar 0) (eC (.int 1))))) (aCons (eC (.str "")) (aNil)))))))))) (aName 3)) (sSeq (sIf (eB (e2 oNe (eVar 1) (eA mkTup (aNil)))) (sAsg (e2 oAddR (e2 oAdd (eVar 3) (eA mkLst (aCons (e2 oAdd (e2 oAdd (eVar 2) (eC (.str " "))) (e2 oGet (eVar 1) (eC (.int 0)))) (aCons (eM1 hJoin (eC (.str " ")) (e2 oAdd (e2 oAdd (eA mkLst (aCons (eA (dCalm hStr) (aCons (eVar 0) (aNil))) (aNil))) (eA (dCalm hList) (aCons (eVar 1) (aNil)))) (eA mkLst (aCons (e2 oGet (eVar 1) (e1 oNeg (eC (.int 1)))) (aNil))))) (aCons (e2 oAdd (eVar 2) (eC (.str "\n"))) (aNil)))))) (e2 oMul (eA mkLst (aCons (eSl (eVar 2) (oSome (eC (.int 2))) (oNone)) (aNil))) (eA (dCalm hInt) (aCons (e2 oGt (eVar 0) (eC (.int 1))) (aNil))))) (aName 3)) (sNil)) (sSeq (sIf (eB (e2 oGt (eA (dCalm hLen) (aCons (eVar 1) (aNil))) (eC (.int 1)))) (sExpr (eAppend (eVar 3) (eM1 hJoin (eC (.str " ")) (e2 oAdd (eA mkLst (aCons (eA (dCalm hStr) (aCons (eVar 0) (aNil))) (aNil))) (eA (dCalm hList) (aCons (eRevT (eVar 1)) (aNil))))))) (sNil)) (sRet (eA (dCalm hAll) (aCons (eComp [4] (iBy toItems (eFrz (eVar 3))) (.nm 4) (pYes) (eA den__law_is_refused (aCons (eVar 4) (aNil)))) (aNil))))))))
def den__law_texts_right : DF := fnDen 2 5 b__law_texts_right
theorem nd__law_texts_right : (n__law_texts_right).Nodup := by decide +kernel
theorem sc__law_texts_right : FnScope n__law_texts_right ["many", "hand"] (defScope s__law_texts_right) := ⟨rfl, rfl, rfl, nd__law_texts_right, rfl, by decide +kernel, by decide +kernel⟩
theorem k__law_texts_right (T : Tp P w K mg base) : Fk P w K mg base 7 s__law_texts_right "_law_texts_right" ["many", "hand"] den__law_texts_right := by
  obtain ⟨f, fd, hm, FD⟩ := T.d__law_texts_right
  refine fk_of hm FD sc__law_texts_right rfl rfl (fun _ _ _ _ _ _ us hl => match us, hl with | [_, _], _ => rfl) fun cdv A outer s H E hr gd => ?_
  exact rss_cons (rs_set (i := 2) nd__law_texts_right rfl (by first | exact Or.inl rfl | exact Or.inr rfl) (re_join (re_str) (oadd (re_lst (ra_cons (re_ty (c_str hr gd) rb_str PyProof.Rows.Boot.«str» rfl T.b_str (ra_cons (rv 0) (ra_nil))) (ra_nil))) (re_ty call_list_of rb_list PyProof.Rows.Boot.«list» rfl T.b_list (ra_cons (rv 1) (ra_nil)))))) (rss_cons (rs_if (rt_not (rt_val (re_call (k__law_equal T) (hr.mono (by decide : 1 ≤ 6)) gd (takes_of rfl rfl rfl rfl) rfl (ra_cons (re_tup (ra_cons (re_call (k_hand_text T) (hr.mono (by decide : 6 ≤ 6)) gd (takes_of rfl rfl rfl rfl) rfl (ra_cons (rv 0) (ra_cons (rv 1) (ra_nil))) (fun xs S h => fnDen_len xs S h)) (ra_cons (re_call (k_read_hand T) (hr.mono (by decide : 5 ≤ 6)) gd (takes_of rfl rfl rfl rfl) rfl (ra_cons (rv 2) (ra_nil)) (fun xs S h => fnDen_len xs S h)) (ra_cons (re_callK0 (ks := ["hand", "number"]) (k_hand_text T) (hr.mono (by decide : 6 ≤ 6)) gd (takes_of rfl rfl rfl rfl) rfl (rk_cons (rv 1) (rk_cons (rv 0) (rk_nil))) kb_hand_text_0_hand_number) (ra_cons (re_callK0 (ks := ["text"]) (k_read_hand T) (hr.mono (by decide : 5 ≤ 6)) gd (takes_of rfl rfl rfl rfl) rfl (rk_cons (rv 2) (rk_nil)) kb_read_hand_0_text) (ra_nil)))))) (ra_cons (omul (re_tup (ra_cons (rv 2) (ra_cons (re_tup (ra_cons (rv 0) (ra_cons (rv 1) (ra_nil)))) (ra_nil)))) (re_int)) (ra_nil))) (fun xs S h => fnDen_len xs S h)))) (rss_one (rs_ret (re_bl))) (rss_nil)) (rss_cons (rs_set (i := 3) nd__law_texts_right rfl (by first | exact Or.inl rfl | exact Or.inr rfl) (re_lstR (ra_cons1 (re1_addC (rv 2)) (rat_cons (ret_of (oadd (re_str) (rv 2))) (rat_cons (ret_add (ret_repl (rv 2)) (re_str)) (rat_of (ra_cons (oadd (re_str) (re_sl (rv 2) (ro_some (re_int)) (ro_none))) (ra_cons (oadd (re_str) (re_sl (rv 2) (ro_some (re_int)) (ro_none))) (ra_cons (oadd (oadd (rv 2) (re_str)) (omul (re_str) (rv 0))) (ra_cons (oadd (oadd (rv 2) (re_str)) (omul (re_str) (oadd (rv 0) (re_int)))) (ra_cons (re_str) (ra_nil)))))))))))) (rss_cons (rs_if (tcmp (kNe hr) (rv 1) (re_tup (ra_nil))) (rss_one (rs_set (i := 3) nd__law_texts_right rfl (by first | exact Or.inl rfl | exact Or.inr rfl) (oaddR (oadd (rv 3) (re_lst (ra_cons (oadd (oadd (rv 2) (re_str)) (vget (rv 1) (re_int))) (ra_cons (re_join (re_str) (oadd (oadd (re_lst (ra_cons (re_ty (c_str hr gd) rb_str PyProof.Rows.Boot.«str» rfl T.b_str (ra_cons (rv 0) (ra_nil))) (ra_nil))) (re_ty call_list_of rb_list PyProof.Rows.Boot.«list» rfl T.b_list (ra_cons (rv 1) (ra_nil)))) (re_lst (ra_cons (vget (rv 1) (re_neg (re_int))) (ra_nil))))) (ra_cons (oadd (rv 2) (re_str)) (ra_nil)))))) (omul (re_lst (ra_cons (re_sl (rv 2) (ro_some (re_int)) (ro_none)) (ra_nil))) (re_ty c_int rb_int PyProof.Rows.Boot.«int» rfl T.b_int (ra_cons (vcmp kGt (rv 0) (re_int)) (ra_nil))))))) (rss_nil)) (rss_cons (rs_if (tcmp kGt (re_blt call_len rb_len PyProof.Rows.Boot.«len» rfl T.b_len (ra_cons (rv 1) (ra_nil))) (re_int)) (rss_one (rs_expr (re_append (rv 3) (re_join (re_str) (oadd (re_lst (ra_cons (re_ty (c_str hr gd) rb_str PyProof.Rows.Boot.«str» rfl T.b_str (ra_cons (rv 0) (ra_nil))) (ra_nil))) (re_ty call_list_of rb_list PyProof.Rows.Boot.«list» rfl T.b_list (ra_cons (re_revT (rv 1)) (ra_nil)))))))) (rss_nil)) (rss_one (rs_ret (re_blt (cr_all rfl) rb_all PyProof.Rows.Boot.«all» rfl T.b_all (ra_cons (re_lc rfl nd__law_texts_right (ri_val (re_frz (rv 3))) (own := [("one", 4)]) (blkOk_by (by kernel_rfl)) (fun _ _ _ _ _ => rc_nm nd__law_texts_right rfl (by first | exact Or.inl rfl | exact Or.inr rfl)) (fun _ _ _ _ _ => rts_nil) (fun _ _ _ _ _ => re_call (k__law_is_refused T) (hr.mono (by decide : 6 ≤ 6)) gd takes0 rfl (ra_cons (rv 4) (ra_nil)) (fun xs S h => fnDen_len xs S h))) (ra_nil)))))))))
/-! _law_round -/
def b__law_round : SF := sSeq (sFor (iBy toItems (eA mkTup (aCons (e2 oAdd (eC (.int 1)) (eA den__law_draw (aCons (eVar 0) (aCons (eC (.int 4)) (aNil))))) (aCons (e2 oAdd (eC (.int 1)) (eA den__law_draw (aCons (eVar 0) (aCons (eC (.int 3)) (aNil))))) (aNil))))) (aName 1) (sSeq (sAsg (eA den__law_hand (aCons (eVar 1) (aCons (eLstRg (e2 oGet (eA mkTup (aCons (eC (.int 1)) (aCons (eC (.int 3)) (aCons (eC (.int 9)) (aCons (eC (.int 27)) (aCons (eC (.int 81)) (aNil))))))) (eVar 1))) (aNil)))) (aName 2)) (sSeq (sAsg (eA den__law_draw (aCons (eVar 0) (aCons (e2 oGet (eA mkTup (aCons (eC (.int 1)) (aCons (eC (.int 3)) (aCons (eC (.int 9)) (aCons (eC (.int 27)) (aCons (eC (.int 81)) (aNil))))))) (eVar 1)) (aNil)))) (aName 3)) (sSeq (sAsg (eA den__law_figures (aCons (eVar 1) (aCons (eVar 3) (aNil)))) (aName 4)) (sSeq (sIf (bNot (eB (eA den__law_equal (aCons (eA mkTup (aCons (eA den_deck (aCons (eVar 1) (aNil))) (aCons (eA den_card_number (aCons (eVar 4) (aNil))) (aCons (eA den_card_at (aCons (eVar 1) (aCons (eVar 3) (aNil)))) (aNil))))) (aCons (eA mkTup (aCons (eVar 2) (aCons (eVar 3) (aCons (eVar 4) (aNil))))) (aNil)))))) (sRet (eC (.bool false))) (sNil)) (sSeq (sAsg (eA mkTup (aCons (eA den__law_some (aCons (eVar 0) (aCons (eVar 1) (aNil)))) (aCons (eA den__law_some (aCons (eVar 0) (aCons (eVar 1) (aNil)))) (aNil)))) (aTup 2 (aConss (aName 10) (aConss (aName 11) (aNils))))) (sSeq (sPar 12 13 (aCons (eA den__law_hand (aCons (eVar 1) (aCons (eVar 10) (aNil)))) (aCons (eA den__law_hand (aCons (eVar 1) (aCons (eVar 11) (aNil)))) (aNil)))) (sSeq (sAsg (eA mkTup (aCons (eA den_hand_of (aCons (eVar 1) (aCons (eA (dCalm hTuple) (aCons (eComp [14] (iBy toItems (eVar 10)) (.nm 14) (pYes) (eA den__law_figures (aCons (eVar 1) (aCons (eVar 14) (aNil))))) (aNil))) (aNil)))) (aCons (eA den_rest_of (aCons (eVar 1) (aCons (eVar 12) (aNil)))) (aNil)))) (aName 5)) (sSeq (sIf (bNot (eB (eA den__law_equal (aCons (eVar 5) (aCons (eA mkTup (aCons (eVar 12) (aCons (eA den__law_hand (aCons (eVar 1) (aCons (eComp [14] (iBys toRng1 (aCons (e2 oGet (eA mkTup (aCons (eC (.int 1)) (aCons (eC (.int 3)) (aCons (eC (.int 9)) (aCons (eC (.int 27)) (aCons (eC (.int 81)) (aNil))))))) (eVar 1)) (aNil))) (.nm 14) (eB (e2 (oIn true) (eVar 14) (eVar 10))) (eVar 14)) (aNil)))) (aNil)))) (aNil)))))) (sRet (eC (.bool false))) (sNil)) (sSeq (sAsg (eA mkTup (aCons (eA den_both (aCons (eVar 1) (aCons (eVar 12) (aCons (eVar 13) (aNil))))) (aCons (eA den_either (aCons (eVar 1) (aCons (eVar 12) (aCons (eVar 13) (aNil))))) (aCons (eA den_only (aCons (eVar 1) (aCons (eVar 12) (aCons (eVar 13) (aNil))))) (aNil))))) (aName 5)) (sSeq (sAsg (eComp [14] (iBy toItems (eVar 10)) (.nm 14) (eB (e2 (oIn false) (eVar 14) (eVar 11))) (eVar 14)) (aName 6)) (sSeq (sIf (bNot (eB (eA den__law_equal (aCons (eVar 5) (aCons (eA mkTup (aCons (eA den__law_hand (aCons (eVar 1) (aCons (eVar 6) (aNil)))) (aCons (eA den__law_hand (aCons (eVar 1) (aCons (e2 oAdd (eVar 10) (eVar 11)) (aNil)))) (aCons (eA den__law_hand (aCons (eVar 1) (aCons (eComp [14] (iBy toItems (eVar 10)) (.nm 14) (eB (e2 (oIn true) (eVar 14) (eVar 11))) (eVar 14)) (aNil)))) (aNil))))) (aNil)))))) (sRet (eC (.bool false))) (sNil)) (sSeq (sAsg (eA mkTup (aCons (eCallK den_both 0 3 [2, 1, 0] aNil (aCons (eVar 13) (aCons (eVar 12) (aCons (eVar 1) (aNil))))) (aCons (eCallK den_either 0 3 [2, 1, 0] aNil (aCons (eVar 13) (aCons (eVar 12) (aCons (eVar 1) (aNil))))) (aCons (eCallK den_only 0 3 [2, 1, 0] aNil (aCons (eVar 13) (aCons (eVar 12) (aCons (eVar 1) (aNil))))) (aNil))))) (aName 7)) (sSeq (sIf (bNot (eB (eA den__law_equal (aCons (eVar 7) (aCons (eVar 5) (aNil)))))) (sRet (eC (.bool false))) (sNil)) (sSeq (sAsg (eA mkTup (aCons (eCallK den_deck 0 1 [0] aNil (aCons (eVar 1) (aNil))) (aCons (eCallK den_card_number 0 1 [0] aNil (aCons (eVar 4) (aNil))) (aCons (eCallK den_card_at 0 2 [1, 0] aNil (aCons (eVar 3) (aCons (eVar 1) (aNil)))) (aCons (eCallK den_hand_of 0 2 [1, 0] aNil (aCons (eVar 12) (aCons (eVar 1) (aNil)))) (aCons (eCallK den_rest_of 0 2 [1, 0] aNil (aCons (eA den_rest_of (aCons (eVar 1) (aCons (eVar 12) (aNil)))) (aCons (eVar 1) (aNil)))) (aNil))))))) (aName 7)) (sSeq (sIf (bOr (bNot (eB (eA den__law_equal (aCons (eVar 7) (aCons (eA mkTup (aCons (eVar 2) (aCons (eVar 3) (aCons (eVar 4) (aCons (eVar 12) (aCons (eVar 12) (aNil))))))) (aNil)))))) (bOr (eB (e2 (oIs true) (eCallK den_is_card 0 2 [1, 0] aNil (aCons (eVar 4) (aCons (eVar 1) (aNil)))) (eC (.bool true)))) (eB (e2 (oIs true) (eCallK den_is_hand 0 2 [1, 0] aNil (aCons (eVar 12) (aCons (eVar 1) (aNil)))) (eC (.bool true)))))) (sRet (eC (.bool false))) (sNil)) (sSeq (sAsg (eA mkLst (aCons (e2 oAdd (eVar 4) (eC (.str "0"))) (aCons (eSl (eVar 4) (oSome (eC (.int 1))) (oNone)) (aCons (e2 oMul (eC (.str "3")) (eVar 1)) (aCons (eC .none) (aCons (eA (dCalm hInt) (aCons (eVar 4) (aNil))) (aCons (eA mkLst (aCons (eVar 4) (aNil))) (aCons (eA mkTup (aCons (eVar 4) (aNil))) (aCons (e2 oAdd (eSl (eVar 4) (oNone) (oSome (e1 oNeg (eC (.int 1))))) (eC (.str "a"))) (aCons (eC (.bool true)) (aNil))))))))))) (aName 8)) (sSeq (sIf (bOr (eB (e2 (oIs true) (eA den_is_card (aCons (eVar 1) (aCons (eVar 4) (aNil)))) (eC (.bool true)))) (eB (eA (dCalm hAny) (aCons (eComp [14] (iBy toItems (eVar 8)) (.nm 14) (pYes) (e2 (oIs true) (eA den_is_card (aCons (eVar 1) (aCons (eVar 14) (aNil)))) (eC (.bool false)))) (aNil))))) (sRet (eC (.bool false))) (sNil)) (sSeq (sAsg (eA mkLst (aCons (eA (dCalm hList) (aCons (eVar 12) (aNil))) (aCons (eIf (eB (e2 (oIn false) (eVar 4) (eVar 12))) (e2 oAdd (eVar 12) (eA mkTup (aCons (eVar 4) (aNil)))) (e2 oAdd (eVar 12) (eA mkTup (aCons (e2 oMul (eC (.str "3")) (eVar 1)) (aNil))))) (aCons (eA mkTup (aCons (eVar 4) (aCons (eVar 4) (aNil)))) (aCons (eIf (eB (e2 oGt (eA (dCalm hLen) (aCons (eVar 12) (aNil))) (eC (.int 1)))) (eRevT (eVar 12)) (eC .none)) (aCons (eVar 4) (aCons (eA mkTup (aCons (eA (dCalm hInt) (aCons (eVar 4) (aNil))) (aNil))) (aNil)))))))) (aName 9)) (sIf (bOr (eB (e2 (oIs true) (eA den_is_hand (aCons (eVar 1) (aCons (eVar 12) (aNil)))) (eC (.bool true)))) (bOr (eB (eA (dCalm hAny) (aCons (eComp [14] (iBy toItems (eVar 9)) (.nm 14) (pYes) (e2 (oIs true) (eA den_is_hand (aCons (eVar 1) (aCons (eVar 14) (aNil)))) (eC (.bool false)))) (aNil)))) (bNot (eB (eA den__law_texts_right (aCons (eVar 1) (aCons (eVar 12) (aNil)))))))) (sRet (eC (.bool false))) (sNil))))))))))))))))))))) (sRet (eC (.bool true)))
def den__law_round : DF := fnDen 1 15 b__law_round
theorem nd__law_round : (n__law_round).Nodup := by decide +kernel
theorem sc__law_round : FnScope n__law_round ["spring"] (defScope s__law_round) := ⟨rfl, rfl, rfl, nd__law_round, rfl, by decide +kernel, by decide +kernel⟩
theorem k__law_round (T : Tp P w K mg base) : Fk P w K mg base 8 s__law_round "_law_round" ["spring"] den__law_round := by
  obtain ⟨f, fd, hm, FD⟩ := T.d__law_round
  refine fk_of hm FD sc__law_round rfl rfl (fun _ _ _ _ _ _ us hl => match us, hl with | [_], _ => rfl) fun cdv A outer s H E hr gd => ?_
  exact rss_cons (rs_for (passes_of rfl) rfl (ri_val (re_tup (ra_cons (oadd (re_int) (re_call (k__law_draw T) (hr.mono (by decide : 1 ≤ 7)) gd (takes_of rfl rfl rfl rfl) rfl (ra_cons (rv 0) (ra_cons (re_int) (ra_nil))) (fun xs S h => fnDen_len xs S h))) (ra_cons (oadd (re_int) (re_call (k__law_draw T) (hr.mono (by decide : 1 ≤ 7)) gd (takes_of rfl rfl rfl rfl) rfl (ra_cons (rv 0) (ra_cons (re_int) (ra_nil))) (fun xs S h => fnDen_len xs S h))) (ra_nil))))) (rg_name nd__law_round rfl (by first | exact Or.inl rfl | exact Or.inr rfl)) (rss_cons (rs_set (i := 2) nd__law_round rfl (by first | exact Or.inl rfl | exact Or.inr rfl) (re_call (k__law_hand T) (hr.mono (by decide : 2 ≤ 7)) gd (takes_of rfl rfl rfl rfl) rfl (ra_cons (rv 1) (ra_cons (re_lstRg rfl rfl T.b_list rfl T.b_range (vget (re_tup (ra_cons (re_int) (ra_cons (re_int) (ra_cons (re_int) (ra_cons (re_int) (ra_cons (re_int) (ra_nil))))))) (rv 1))) (ra_nil))) (fun xs S h => fnDen_len xs S h))) (rss_cons (rs_set (i := 3) nd__law_round rfl (by first | exact Or.inl rfl | exact Or.inr rfl) (re_call (k__law_draw T) (hr.mono (by decide : 1 ≤ 7)) gd (takes_of rfl rfl rfl rfl) rfl (ra_cons (rv 0) (ra_cons (vget (re_tup (ra_cons (re_int) (ra_cons (re_int) (ra_cons (re_int) (ra_cons (re_int) (ra_cons (re_int) (ra_nil))))))) (rv 1)) (ra_nil))) (fun xs S h => fnDen_len xs S h))) (rss_cons (rs_set (i := 4) nd__law_round rfl (by first | exact Or.inl rfl | exact Or.inr rfl) (re_call (k__law_figures T) (hr.mono (by decide : 1 ≤ 7)) gd (takes_of rfl rfl rfl rfl) rfl (ra_cons (rv 1) (ra_cons (rv 3) (ra_nil))) (fun xs S h => fnDen_len xs S h))) (rss_cons (rs_if (rt_not (rt_val (re_call (k__law_equal T) (hr.mono (by decide : 1 ≤ 7)) gd (takes_of rfl rfl rfl rfl) rfl (ra_cons (re_tup (ra_cons (re_call (k_deck T) (hr.mono (by decide : 5 ≤ 7)) gd (takes_of rfl rfl rfl rfl) rfl (ra_cons (rv 1) (ra_nil)) (fun xs S h => fnDen_len xs S h)) (ra_cons (re_call (k_card_number T) (hr.mono (by decide : 6 ≤ 7)) gd (takes_of rfl rfl rfl rfl) rfl (ra_cons (rv 4) (ra_nil)) (fun xs S h => fnDen_len xs S h)) (ra_cons (re_call (k_card_at T) (hr.mono (by decide : 5 ≤ 7)) gd (takes_of rfl rfl rfl rfl) rfl (ra_cons (rv 1) (ra_cons (rv 3) (ra_nil))) (fun xs S h => fnDen_len xs S h)) (ra_nil))))) (ra_cons (re_tup (ra_cons (rv 2) (ra_cons (rv 3) (ra_cons (rv 4) (ra_nil))))) (ra_nil))) (fun xs S h => fnDen_len xs S h)))) (rss_one (rs_ret (re_bl))) (rss_nil)) (rss_cons (rs_asg (re_tup (ra_cons (re_call (k__law_some T) (hr.mono (by decide : 2 ≤ 7)) gd (takes_of rfl rfl rfl rfl) rfl (ra_cons (rv 0) (ra_cons (rv 1) (ra_nil))) (fun xs S h => fnDen_len xs S h)) (ra_cons (re_call (k__law_some T) (hr.mono (by decide : 2 ≤ 7)) gd (takes_of rfl rfl rfl rfl) rfl (ra_cons (rv 0) (ra_cons (rv 1) (ra_nil))) (fun xs S h => fnDen_len xs S h)) (ra_nil)))) (rg_tup rfl (rgs_cons (rg_name nd__law_round rfl (by first | exact Or.inl rfl | exact Or.inr rfl)) (rgs_cons (rg_name nd__law_round rfl (by first | exact Or.inl rfl | exact Or.inr rfl)) (rgs_nil))))) (rss_cons (rs_par (i := 12) (j := 13) rfl nd__law_round rfl rfl (by decide) rfl rfl (ra_cons (re_call (k__law_hand T) (hr.mono (by decide : 2 ≤ 7)) gd (takes_of rfl rfl rfl rfl) rfl (ra_cons (rv 1) (ra_cons (rv 10) (ra_nil))) (fun xs S h => fnDen_len xs S h)) (ra_cons (re_call (k__law_hand T) (hr.mono (by decide : 2 ≤ 7)) gd (takes_of rfl rfl rfl rfl) rfl (ra_cons (rv 1) (ra_cons (rv 11) (ra_nil))) (fun xs S h => fnDen_len xs S h)) (ra_nil))) (by rfl)) (rss_cons (rs_set (i := 5) nd__law_round rfl (by first | exact Or.inl rfl | exact Or.inr rfl) (re_tup (ra_cons (re_call (k_hand_of T) (hr.mono (by decide : 5 ≤ 7)) gd (takes_of rfl rfl rfl rfl) rfl (ra_cons (rv 1) (ra_cons (re_ty call_tuple_of rb_tuple PyProof.Rows.Boot.«tuple» rfl T.b_tuple (ra_cons (re_lc rfl nd__law_round (ri_val (rv 10)) (own := [("each", 14)]) (blkOk_by (by kernel_rfl)) (fun _ _ _ _ _ => rc_nm nd__law_round rfl (by first | exact Or.inl rfl | exact Or.inr rfl)) (fun _ _ _ _ _ => rts_nil) (fun _ _ _ _ _ => re_call (k__law_figures T) (hr.mono (by decide : 1 ≤ 7)) gd takes0 rfl (ra_cons (rv 1) (ra_cons (rv 14) (ra_nil))) (fun xs S h => fnDen_len xs S h))) (ra_nil))) (ra_nil))) (fun xs S h => fnDen_len xs S h)) (ra_cons (re_call (k_rest_of T) (hr.mono (by decide : 6 ≤ 7)) gd (takes_of rfl rfl rfl rfl) rfl (ra_cons (rv 1) (ra_cons (rv 12) (ra_nil))) (fun xs S h => fnDen_len xs S h)) (ra_nil))))) (rss_cons (rs_if (rt_not (rt_val (re_call (k__law_equal T) (hr.mono (by decide : 1 ≤ 7)) gd (takes_of rfl rfl rfl rfl) rfl (ra_cons (rv 5) (ra_cons (re_tup (ra_cons (rv 12) (ra_cons (re_call (k__law_hand T) (hr.mono (by decide : 2 ≤ 7)) gd (takes_of rfl rfl rfl rfl) rfl (ra_cons (rv 1) (ra_cons (re_lc rfl nd__law_round (ri_rng1 rfl T.b_range (ra_cons (vget (re_tup (ra_cons (re_int) (ra_cons (re_int) (ra_cons (re_int) (ra_cons (re_int) (ra_cons (re_int) (ra_nil))))))) (rv 1)) (ra_nil))) (own := [("each", 14)]) (blkOk_by (by kernel_rfl)) (fun _ _ _ _ _ => rc_nm nd__law_round rfl (by first | exact Or.inl rfl | exact Or.inr rfl)) (fun _ _ _ _ _ => rts_one (tcmp (kNotIn hr) (rv 14) (rv 10))) (fun _ _ _ _ _ => rv 14)) (ra_nil))) (fun xs S h => fnDen_len xs S h)) (ra_nil)))) (ra_nil))) (fun xs S h => fnDen_len xs S h)))) (rss_one (rs_ret (re_bl))) (rss_nil)) (rss_cons (rs_set (i := 5) nd__law_round rfl (by first | exact Or.inl rfl | exact Or.inr rfl) (re_tup (ra_cons (re_call (k_both T) (hr.mono (by decide : 7 ≤ 7)) gd (takes_of rfl rfl rfl rfl) rfl (ra_cons (rv 1) (ra_cons (rv 12) (ra_cons (rv 13) (ra_nil)))) (fun xs S h => fnDen_len xs S h)) (ra_cons (re_call (k_either T) (hr.mono (by decide : 7 ≤ 7)) gd (takes_of rfl rfl rfl rfl) rfl (ra_cons (rv 1) (ra_cons (rv 12) (ra_cons (rv 13) (ra_nil)))) (fun xs S h => fnDen_len xs S h)) (ra_cons (re_call (k_only T) (hr.mono (by decide : 7 ≤ 7)) gd (takes_of rfl rfl rfl rfl) rfl (ra_cons (rv 1) (ra_cons (rv 12) (ra_cons (rv 13) (ra_nil)))) (fun xs S h => fnDen_len xs S h)) (ra_nil)))))) (rss_cons (rs_setLc (i := 6) rfl nd__law_round rfl rfl (sw_true rfl rfl rfl rfl) (ri_val (rv 10)) (own := [("each", 14)]) (blkOk_by (by kernel_rfl)) (fun _ _ _ _ _ => rc_nm nd__law_round rfl (by first | exact Or.inl rfl | exact Or.inr rfl)) (fun _ _ _ _ _ => rts_one (tcmp (kIn hr) (rv 14) (rv 11))) (fun _ _ _ _ _ => rv 14)) (rss_cons (rs_if (rt_not (rt_val (re_call (k__law_equal T) (hr.mono (by decide : 1 ≤ 7)) gd (takes_of rfl rfl rfl rfl) rfl (ra_cons (rv 5) (ra_cons (re_tup (ra_cons (re_call (k__law_hand T) (hr.mono (by decide : 2 ≤ 7)) gd (takes_of rfl rfl rfl rfl) rfl (ra_cons (rv 1) (ra_cons (rv 6) (ra_nil))) (fun xs S h => fnDen_len xs S h)) (ra_cons (re_call (k__law_hand T) (hr.mono (by decide : 2 ≤ 7)) gd (takes_of rfl rfl rfl rfl) rfl (ra_cons (rv 1) (ra_cons (oadd (rv 10) (rv 11)) (ra_nil))) (fun xs S h => fnDen_len xs S h)) (ra_cons (re_call (k__law_hand T) (hr.mono (by decide : 2 ≤ 7)) gd (takes_of rfl rfl rfl rfl) rfl (ra_cons (rv 1) (ra_cons (re_lc rfl nd__law_round (ri_val (rv 10)) (own := [("each", 14)]) (blkOk_by (by kernel_rfl)) (fun _ _ _ _ _ => rc_nm nd__law_round rfl (by first | exact Or.inl rfl | exact Or.inr rfl)) (fun _ _ _ _ _ => rts_one (tcmp (kNotIn hr) (rv 14) (rv 11))) (fun _ _ _ _ _ => rv 14)) (ra_nil))) (fun xs S h => fnDen_len xs S h)) (ra_nil))))) (ra_nil))) (fun xs S h => fnDen_len xs S h)))) (rss_one (rs_ret (re_bl))) (rss_nil)) (rss_cons (rs_set (i := 7) nd__law_round rfl (by first | exact Or.inl rfl | exact Or.inr rfl) (re_tup (ra_cons (re_callK0 (ks := ["other_hand", "hand", "number"]) (k_both T) (hr.mono (by decide : 7 ≤ 7)) gd (takes_of rfl rfl rfl rfl) rfl (rk_cons (rv 13) (rk_cons (rv 12) (rk_cons (rv 1) (rk_nil)))) kb_both_0_other_hand_hand_number) (ra_cons (re_callK0 (ks := ["other_hand", "hand", "number"]) (k_either T) (hr.mono (by decide : 7 ≤ 7)) gd (takes_of rfl rfl rfl rfl) rfl (rk_cons (rv 13) (rk_cons (rv 12) (rk_cons (rv 1) (rk_nil)))) kb_either_0_other_hand_hand_number) (ra_cons (re_callK0 (ks := ["other_hand", "hand", "number"]) (k_only T) (hr.mono (by decide : 7 ≤ 7)) gd (takes_of rfl rfl rfl rfl) rfl (rk_cons (rv 13) (rk_cons (rv 12) (rk_cons (rv 1) (rk_nil)))) kb_only_0_other_hand_hand_number) (ra_nil)))))) (rss_cons (rs_if (rt_not (rt_val (re_call (k__law_equal T) (hr.mono (by decide : 1 ≤ 7)) gd (takes_of rfl rfl rfl rfl) rfl (ra_cons (rv 7) (ra_cons (rv 5) (ra_nil))) (fun xs S h => fnDen_len xs S h)))) (rss_one (rs_ret (re_bl))) (rss_nil)) (rss_cons (rs_set (i := 7) nd__law_round rfl (by first | exact Or.inl rfl | exact Or.inr rfl) (re_tup (ra_cons (re_callK0 (ks := ["number"]) (k_deck T) (hr.mono (by decide : 5 ≤ 7)) gd (takes_of rfl rfl rfl rfl) rfl (rk_cons (rv 1) (rk_nil)) kb_deck_0_number) (ra_cons (re_callK0 (ks := ["card"]) (k_card_number T) (hr.mono (by decide : 6 ≤ 7)) gd (takes_of rfl rfl rfl rfl) rfl (rk_cons (rv 4) (rk_nil)) kb_card_number_0_card) (ra_cons (re_callK0 (ks := ["other_number", "number"]) (k_card_at T) (hr.mono (by decide : 5 ≤ 7)) gd (takes_of rfl rfl rfl rfl) rfl (rk_cons (rv 3) (rk_cons (rv 1) (rk_nil))) kb_card_at_0_other_number_number) (ra_cons (re_callK0 (ks := ["cards", "number"]) (k_hand_of T) (hr.mono (by decide : 5 ≤ 7)) gd (takes_of rfl rfl rfl rfl) rfl (rk_cons (rv 12) (rk_cons (rv 1) (rk_nil))) kb_hand_of_0_cards_number) (ra_cons (re_callK0 (ks := ["hand", "number"]) (k_rest_of T) (hr.mono (by decide : 6 ≤ 7)) gd (takes_of rfl rfl rfl rfl) rfl (rk_cons (re_call (k_rest_of T) (hr.mono (by decide : 6 ≤ 7)) gd (takes_of rfl rfl rfl rfl) rfl (ra_cons (rv 1) (ra_cons (rv 12) (ra_nil))) (fun xs S h => fnDen_len xs S h)) (rk_cons (rv 1) (rk_nil))) kb_rest_of_0_hand_number) (ra_nil)))))))) (rss_cons (rs_if (PW.pt (rw_or (rt_not (rt_val (re_call (k__law_equal T) (hr.mono (by decide : 1 ≤ 7)) gd (takes_of rfl rfl rfl rfl) rfl (ra_cons (rv 7) (ra_cons (re_tup (ra_cons (rv 2) (ra_cons (rv 3) (ra_cons (rv 4) (ra_cons (rv 12) (ra_cons (rv 12) (ra_nil))))))) (ra_nil))) (fun xs S h => fnDen_len xs S h)))) (rw_or (tcmp kIsNot (re_callK0 (ks := ["value", "number"]) (k_is_card T) (hr.mono (by decide : 5 ≤ 7)) gd (takes_of rfl rfl rfl rfl) rfl (rk_cons (rv 4) (rk_cons (rv 1) (rk_nil))) kb_is_card_0_value_number) (re_bl)) (rw_or1 (tcmp kIsNot (re_callK0 (ks := ["value", "number"]) (k_is_hand T) (hr.mono (by decide : 5 ≤ 7)) gd (takes_of rfl rfl rfl rfl) rfl (rk_cons (rv 12) (rk_cons (rv 1) (rk_nil))) kb_is_hand_0_value_number) (re_bl)))))) (rss_one (rs_ret (re_bl))) (rss_nil)) (rss_cons (rs_set (i := 8) nd__law_round rfl (by first | exact Or.inl rfl | exact Or.inr rfl) (re_lst (ra_cons (oadd (rv 4) (re_str)) (ra_cons (re_sl (rv 4) (ro_some (re_int)) (ro_none)) (ra_cons (omul (re_str) (rv 1)) (ra_cons (re_non) (ra_cons (re_ty c_int rb_int PyProof.Rows.Boot.«int» rfl T.b_int (ra_cons (rv 4) (ra_nil))) (ra_cons (re_lst (ra_cons (rv 4) (ra_nil))) (ra_cons (re_tup (ra_cons (rv 4) (ra_nil))) (ra_cons (oadd (re_sl (rv 4) (ro_none) (ro_some (re_neg (re_int)))) (re_str)) (ra_cons (re_bl) (ra_nil)))))))))))) (rss_cons (rs_if (PW.pt (rw_or (tcmp kIsNot (re_call (k_is_card T) (hr.mono (by decide : 5 ≤ 7)) gd (takes_of rfl rfl rfl rfl) rfl (ra_cons (rv 1) (ra_cons (rv 4) (ra_nil))) (fun xs S h => fnDen_len xs S h)) (re_bl)) (rw_or1 (rt_val (re_blt (cr_any rfl) rb_any PyProof.Rows.Boot.«any» rfl T.b_any (ra_cons (re_lc rfl nd__law_round (ri_val (rv 8)) (own := [("each", 14)]) (blkOk_by (by kernel_rfl)) (fun _ _ _ _ _ => rc_nm nd__law_round rfl (by first | exact Or.inl rfl | exact Or.inr rfl)) (fun _ _ _ _ _ => rts_nil) (fun _ _ _ _ _ => vcmp kIsNot (re_call (k_is_card T) (hr.mono (by decide : 5 ≤ 7)) gd takes0 rfl (ra_cons (rv 1) (ra_cons (rv 14) (ra_nil))) (fun xs S h => fnDen_len xs S h)) (re_bl))) (ra_nil))))))) (rss_one (rs_ret (re_bl))) (rss_nil)) (rss_cons (rs_set (i := 9) nd__law_round rfl (by first | exact Or.inl rfl | exact Or.inr rfl) (re_lst (ra_cons (re_ty call_list_of rb_list PyProof.Rows.Boot.«list» rfl T.b_list (ra_cons (rv 12) (ra_nil))) (ra_cons (re_if (tcmp (kIn hr) (rv 4) (rv 12)) (oadd (rv 12) (re_tup (ra_cons (rv 4) (ra_nil)))) (oadd (rv 12) (re_tup (ra_cons (omul (re_str) (rv 1)) (ra_nil))))) (ra_cons (re_tup (ra_cons (rv 4) (ra_cons (rv 4) (ra_nil)))) (ra_cons (re_if (tcmp kGt (re_blt call_len rb_len PyProof.Rows.Boot.«len» rfl T.b_len (ra_cons (rv 12) (ra_nil))) (re_int)) (re_revT (rv 12)) (re_non)) (ra_cons (rv 4) (ra_cons (re_tup (ra_cons (re_ty c_int rb_int PyProof.Rows.Boot.«int» rfl T.b_int (ra_cons (rv 4) (ra_nil))) (ra_nil))) (ra_nil))))))))) (rss_one (rs_if (PW.pt (rw_or (tcmp kIsNot (re_call (k_is_hand T) (hr.mono (by decide : 5 ≤ 7)) gd (takes_of rfl rfl rfl rfl) rfl (ra_cons (rv 1) (ra_cons (rv 12) (ra_nil))) (fun xs S h => fnDen_len xs S h)) (re_bl)) (rw_or (rt_val (re_blt (cr_any rfl) rb_any PyProof.Rows.Boot.«any» rfl T.b_any (ra_cons (re_lc rfl nd__law_round (ri_val (rv 9)) (own := [("each", 14)]) (blkOk_by (by kernel_rfl)) (fun _ _ _ _ _ => rc_nm nd__law_round rfl (by first | exact Or.inl rfl | exact Or.inr rfl)) (fun _ _ _ _ _ => rts_nil) (fun _ _ _ _ _ => vcmp kIsNot (re_call (k_is_hand T) (hr.mono (by decide : 5 ≤ 7)) gd takes0 rfl (ra_cons (rv 1) (ra_cons (rv 14) (ra_nil))) (fun xs S h => fnDen_len xs S h)) (re_bl))) (ra_nil)))) (rw_or1 (rt_not (rt_val (re_call (k__law_texts_right T) (hr.mono (by decide : 7 ≤ 7)) gd (takes_of rfl rfl rfl rfl) rfl (ra_cons (rv 1) (ra_cons (rv 12) (ra_nil))) (fun xs S h => fnDen_len xs S h)))))))) (rss_one (rs_ret (re_bl))) (rss_nil)))))))))))))))))))))) (rss_one (rs_ret (re_bl)))
/-! law -/
def b_law : SF := sRet (eA (dCalm hAll) (aCons (eComp [1] (iBy toItems (eA mkTup (aCons (eC (.int 0)) (aCons (eC (.int 1)) (aNil))))) (.nm 1) (pYes) (eA den__law_round (aCons (eA den__law_spring (aCons (eVar 0) (aCons (eVar 1) (aNil)))) (aNil)))) (aNil)))
def den_law : DF := fnDen 1 2 b_law
theorem nd_law : (n_law).Nodup := by decide +kernel
theorem sc_law : FnScope n_law ["script"] (defScope s_law) := ⟨rfl, rfl, rfl, nd_law, rfl, by decide +kernel, by decide +kernel⟩
theorem k_law (T : Tp P w K mg base) : Fk P w K mg base 9 s_law "law" ["script"] den_law := by
  obtain ⟨f, fd, hm, FD⟩ := T.d_law
  refine fk_of hm FD sc_law rfl rfl (fun _ _ _ _ _ _ us hl => match us, hl with | [_], _ => rfl) fun cdv A outer s H E hr gd => ?_
  exact rss_one (rs_ret (re_blt (cr_all rfl) rb_all PyProof.Rows.Boot.«all» rfl T.b_all (ra_cons (re_lc rfl nd_law (ri_val (re_tup (ra_cons (re_int) (ra_cons (re_int) (ra_nil))))) (own := [("place", 1)]) (blkOk_by (by kernel_rfl)) (fun _ _ _ _ _ => rc_nm nd_law rfl (by first | exact Or.inl rfl | exact Or.inr rfl)) (fun _ _ _ _ _ => rts_nil) (fun _ _ _ _ _ => re_call (k__law_round T) (hr.mono (by decide : 8 ≤ 8)) gd takes0 rfl (ra_cons (re_call (k__law_spring T) (hr.mono (by decide : 1 ≤ 8)) gd takes0 rfl (ra_cons (rv 0) (ra_cons (rv 1) (ra_nil))) (fun xs S h => fnDen_len xs S h)) (ra_nil)) (fun xs S h => fnDen_len xs S h))) (ra_nil))))
end
end K02

end
section
namespace K02
open PySem PySem.Spec PyProof.Rows L2 Ev


theorem e_is_whole (i : Int) (S : Sto) : den_is_whole [.d (.int i)] S = .ok (.d (.bool true)) S := by
  simp [bind_ok, bind_exc, bind_stuck, lift_ok, lift_exc, calm_ok, bind_if, lift_if, calm_if, r_fn, r_sRet, r_sRetN, r_sSeq, r_sExpr, r_sIf, r_sAsg, r_sNil, r_aName, aNils, aConss, aTup, eVar, r_eC, r_eA, r_aCons, r_aNil, r_e2, r_e1, r_eB, r_toB, r_eAnd, r_eOr, r_eNot, r_bAnd, r_bOr, r_bNot, r_eIf, r_eIsi, tyOf, isTy, Tk.nm, r_dCalm, r_iBy, r_iBys, toItems, toRng1, r_eChain, oOrd, oInt, oIs, isN, mkTup, mkLst, datas, r_sRaise, r_eSortSet, r_eM1, den_is_whole, b_is_whole]
theorem e_is_between (i a b : Int) (S : Sto) : den_is_between [.d (.int i), .d (.int a), .d (.int b)] S = .ok (.d (.bool (decide (a ≤ i) && decide (i ≤ b)))) S := by
  by_cases h : a ≤ i <;> simp [bind_ok, bind_exc, bind_stuck, lift_ok, lift_exc, calm_ok, bind_if, lift_if, calm_if, r_fn, r_sRet, r_sRetN, r_sSeq, r_sExpr, r_sIf, r_sAsg, r_sNil, r_aName, aNils, aConss, aTup, eVar, r_eC, r_eA, r_aCons, r_aNil, r_e2, r_e1, r_eB, r_toB, r_eAnd, r_eOr, r_eNot, r_bAnd, r_bOr, r_bNot, r_eIf, r_eIsi, tyOf, isTy, Tk.nm, r_dCalm, r_iBy, r_iBys, toItems, toRng1, r_eChain, oOrd, oInt, oIs, isN, mkTup, mkLst, datas, r_sRaise, r_eSortSet, r_eM1, den_is_between, b_is_between, e_is_whole, h]
theorem e_is_mark (i : Int) (S : Sto) : den_is_mark_number [.d (.int i)] S = .ok (.d (.bool (decide (1 ≤ i) && decide (i ≤ 4)))) S := by
  simp [bind_ok, bind_exc, bind_stuck, lift_ok, lift_exc, calm_ok, bind_if, lift_if, calm_if, r_fn, r_sRet, r_sRetN, r_sSeq, r_sExpr, r_sIf, r_sAsg, r_sNil, r_aName, aNils, aConss, aTup, eVar, r_eC, r_eA, r_aCons, r_aNil, r_e2, r_e1, r_eB, r_toB, r_eAnd, r_eOr, r_eNot, r_bAnd, r_bOr, r_bNot, r_eIf, r_eIsi, tyOf, isTy, Tk.nm, r_dCalm, r_iBy, r_iBys, toItems, toRng1, r_eChain, oOrd, oInt, oIs, isN, mkTup, mkLst, datas, r_sRaise, r_eSortSet, r_eM1, den_is_mark_number, b_is_mark_number, e_is_between]
/-- a comprehension of one loop without effects -/
theorem compL_map {α : Type} {w : α → Vl} {vs : List Nat} {t : CT} {p : BF} {f : EF} {ρ : Ev.Env} {S : Sto} (ρ' : α → Ev.Env) (b : α → Bool) (g : α → PyData) : ∀ l : List α, (∀ x ∈ l, t.bind (w x) (wipeE ρ vs) = some (ρ' x)) → (∀ x ∈ l, p (ρ' x) S = .ok (b x) S) →
    (∀ x ∈ l, b x = true → f (ρ' x) S = .ok (.d (g x)) S) → compL vs t p f (l.map w) ρ S = .ok ((l.filter b).map g) S
  | [], _, _, _ => rfl
  | x :: xs, h1, h2, h3 => by
    have ih := compL_map (w := w) (vs := vs) (t := t) (p := p) (f := f) (ρ := ρ) (S := S) ρ' b g xs (fun y hy => h1 y (by simp [bind_ok, bind_exc, bind_stuck, lift_ok, lift_exc, calm_ok, bind_if, lift_if, calm_if, r_fn, r_sRet, r_sRetN, r_sSeq, r_sExpr, r_sIf, r_sAsg, r_sNil, r_aName, aNils, aConss, aTup, eVar, r_eC, r_eA, r_aCons, r_aNil, r_e2, r_e1, r_eB, r_toB, r_eAnd, r_eOr, r_eNot, r_bAnd, r_bOr, r_bNot, r_eIf, r_eIsi, tyOf, isTy, Tk.nm, r_dCalm, r_iBy, r_iBys, toItems, toRng1, r_eChain, oOrd, oInt, oIs, isN, mkTup, mkLst, datas, r_sRaise, r_eSortSet, r_eM1, hy])) (fun y hy => h2 y (by simp [bind_ok, bind_exc, bind_stuck, lift_ok, lift_exc, calm_ok, bind_if, lift_if, calm_if, r_fn, r_sRet, r_sRetN, r_sSeq, r_sExpr, r_sIf, r_sAsg, r_sNil, r_aName, aNils, aConss, aTup, eVar, r_eC, r_eA, r_aCons, r_aNil, r_e2, r_e1, r_eB, r_toB, r_eAnd, r_eOr, r_eNot, r_bAnd, r_bOr, r_bNot, r_eIf, r_eIsi, tyOf, isTy, Tk.nm, r_dCalm, r_iBy, r_iBys, toItems, toRng1, r_eChain, oOrd, oInt, oIs, isN, mkTup, mkLst, datas, r_sRaise, r_eSortSet, r_eM1, hy])) (fun y hy => h3 y (by simp [bind_ok, bind_exc, bind_stuck, lift_ok, lift_exc, calm_ok, bind_if, lift_if, calm_if, r_fn, r_sRet, r_sRetN, r_sSeq, r_sExpr, r_sIf, r_sAsg, r_sNil, r_aName, aNils, aConss, aTup, eVar, r_eC, r_eA, r_aCons, r_aNil, r_e2, r_e1, r_eB, r_toB, r_eAnd, r_eOr, r_eNot, r_bAnd, r_bOr, r_bNot, r_eIf, r_eIsi, tyOf, isTy, Tk.nm, r_dCalm, r_iBy, r_iBys, toItems, toRng1, r_eChain, oOrd, oInt, oIs, isN, mkTup, mkLst, datas, r_sRaise, r_eSortSet, r_eM1, hy]))
    rw [List.map_cons]
    unfold compL
    rw [h1 x (by simp [bind_ok, bind_exc, bind_stuck, lift_ok, lift_exc, calm_ok, bind_if, lift_if, calm_if, r_fn, r_sRet, r_sRetN, r_sSeq, r_sExpr, r_sIf, r_sAsg, r_sNil, r_aName, aNils, aConss, aTup, eVar, r_eC, r_eA, r_aCons, r_aNil, r_e2, r_e1, r_eB, r_toB, r_eAnd, r_eOr, r_eNot, r_bAnd, r_bOr, r_bNot, r_eIf, r_eIsi, tyOf, isTy, Tk.nm, r_dCalm, r_iBy, r_iBys, toItems, toRng1, r_eChain, oOrd, oInt, oIs, isN, mkTup, mkLst, datas, r_sRaise, r_eSortSet, r_eM1])]
    simp only [h2 x (by simp [bind_ok, bind_exc, bind_stuck, lift_ok, lift_exc, calm_ok, bind_if, lift_if, calm_if, r_fn, r_sRet, r_sRetN, r_sSeq, r_sExpr, r_sIf, r_sAsg, r_sNil, r_aName, aNils, aConss, aTup, eVar, r_eC, r_eA, r_aCons, r_aNil, r_e2, r_e1, r_eB, r_toB, r_eAnd, r_eOr, r_eNot, r_bAnd, r_bOr, r_bNot, r_eIf, r_eIsi, tyOf, isTy, Tk.nm, r_dCalm, r_iBy, r_iBys, toItems, toRng1, r_eChain, oOrd, oInt, oIs, isN, mkTup, mkLst, datas, r_sRaise, r_eSortSet, r_eM1]), calm_ok, bind_ok]
    by_cases hb : b x = true
    · simp [bind_ok, bind_exc, bind_stuck, lift_ok, lift_exc, calm_ok, bind_if, lift_if, calm_if, r_fn, r_sRet, r_sRetN, r_sSeq, r_sExpr, r_sIf, r_sAsg, r_sNil, r_aName, aNils, aConss, aTup, eVar, r_eC, r_eA, r_aCons, r_aNil, r_e2, r_e1, r_eB, r_toB, r_eAnd, r_eOr, r_eNot, r_bAnd, r_bOr, r_bNot, r_eIf, r_eIsi, tyOf, isTy, Tk.nm, r_dCalm, r_iBy, r_iBys, toItems, toRng1, r_eChain, oOrd, oInt, oIs, isN, mkTup, mkLst, datas, r_sRaise, r_eSortSet, r_eM1, hb, h3 x (by simp [bind_ok, bind_exc, bind_stuck, lift_ok, lift_exc, calm_ok, bind_if, lift_if, calm_if, r_fn, r_sRet, r_sRetN, r_sSeq, r_sExpr, r_sIf, r_sAsg, r_sNil, r_aName, aNils, aConss, aTup, eVar, r_eC, r_eA, r_aCons, r_aNil, r_e2, r_e1, r_eB, r_toB, r_eAnd, r_eOr, r_eNot, r_bAnd, r_bOr, r_bNot, r_eIf, r_eIsi, tyOf, isTy, Tk.nm, r_dCalm, r_iBy, r_iBys, toItems, toRng1, r_eChain, oOrd, oInt, oIs, isN, mkTup, mkLst, datas, r_sRaise, r_eSortSet, r_eM1]) hb, ih]
    · simp [bind_ok, bind_exc, bind_stuck, lift_ok, lift_exc, calm_ok, bind_if, lift_if, calm_if, r_fn, r_sRet, r_sRetN, r_sSeq, r_sExpr, r_sIf, r_sAsg, r_sNil, r_aName, aNils, aConss, aTup, eVar, r_eC, r_eA, r_aCons, r_aNil, r_e2, r_e1, r_eB, r_toB, r_eAnd, r_eOr, r_eNot, r_bAnd, r_bOr, r_bNot, r_eIf, r_eIsi, tyOf, isTy, Tk.nm, r_dCalm, r_iBy, r_iBys, toItems, toRng1, r_eChain, oOrd, oInt, oIs, isN, mkTup, mkLst, datas, r_sRaise, r_eSortSet, r_eM1, hb, ih]
theorem eComp_map {α : Type} {w : α → Vl} {vs : List Nat} {fi : Ev.Env → Sto → Out (List Vl)} {t : CT} {p : BF} {f : EF} {ρ : Ev.Env} {S S1 : Sto} {l : List α} (ρ' : α → Ev.Env) (b : α → Bool) (g : α → PyData) (hi : fi ρ S = .ok (l.map w) S1) (hl : l.length ≤ sizeLine)
    (h1 : ∀ x ∈ l, t.bind (w x) (wipeE ρ vs) = some (ρ' x)) (h2 : ∀ x ∈ l, p (ρ' x) S1 = .ok (b x) S1) (h3 : ∀ x ∈ l, b x = true → f (ρ' x) S1 = .ok (.d (g x)) S1) : eComp vs fi t p f ρ S = .ok (.d (.list ((l.filter b).map g))) S1 := by
  unfold eComp
  rw [hi, bind_ok, if_pos (by simpa [bind_ok, bind_exc, bind_stuck, lift_ok, lift_exc, calm_ok, bind_if, lift_if, calm_if, r_fn, r_sRet, r_sRetN, r_sSeq, r_sExpr, r_sIf, r_sAsg, r_sNil, r_aName, aNils, aConss, aTup, eVar, r_eC, r_eA, r_aCons, r_aNil, r_e2, r_e1, r_eB, r_toB, r_eAnd, r_eOr, r_eNot, r_bAnd, r_bOr, r_bNot, r_eIf, r_eIsi, tyOf, isTy, Tk.nm, r_dCalm, r_iBy, r_iBys, toItems, toRng1, r_eChain, oOrd, oInt, oIs, isN, mkTup, mkLst, datas, r_sRaise, r_eSortSet, r_eM1] using hl), compL_map ρ' b g l h1 h2 h3, bind_ok]
theorem filter_true {α : Type} : ∀ xs : List α, xs.filter (fun _ => true) = xs
  | [] => rfl
  | x :: xs => by simp [bind_ok, bind_exc, bind_stuck, lift_ok, lift_exc, calm_ok, bind_if, lift_if, calm_if, r_fn, r_sRet, r_sRetN, r_sSeq, r_sExpr, r_sIf, r_sAsg, r_sNil, r_aName, aNils, aConss, aTup, eVar, r_eC, r_eA, r_aCons, r_aNil, r_e2, r_e1, r_eB, r_toB, r_eAnd, r_eOr, r_eNot, r_bAnd, r_bOr, r_bNot, r_eIf, r_eIsi, tyOf, isTy, Tk.nm, r_dCalm, r_iBy, r_iBys, toItems, toRng1, r_eChain, oOrd, oInt, oIs, isN, mkTup, mkLst, datas, r_sRaise, r_eSortSet, r_eM1]
theorem boolsOf_map (l : List Bool) : boolsOf (l.map .bool) = some l := by
  induction l with
  | nil => rfl
  | cons b r ih => simp [bind_ok, bind_exc, bind_stuck, lift_ok, lift_exc, calm_ok, bind_if, lift_if, calm_if, r_fn, r_sRet, r_sRetN, r_sSeq, r_sExpr, r_sIf, r_sAsg, r_sNil, r_aName, aNils, aConss, aTup, eVar, r_eC, r_eA, r_aCons, r_aNil, r_e2, r_e1, r_eB, r_toB, r_eAnd, r_eOr, r_eNot, r_bAnd, r_bOr, r_bNot, r_eIf, r_eIsi, tyOf, isTy, Tk.nm, r_dCalm, r_iBy, r_iBys, toItems, toRng1, r_eChain, oOrd, oInt, oIs, isN, mkTup, mkLst, datas, r_sRaise, r_eSortSet, r_eM1, boolsOf, ih]
theorem hAll_map {α : Type} (l : List α) (f : α → Bool) (S : Sto) : hAll [.d (.list (l.map fun x => .bool (f x)))] S = .ok (.d (.bool (l.all f))) S := by
  have e : (l.map fun x => PyData.bool (f x)) = (l.map f).map .bool := by simp [bind_ok, bind_exc, bind_stuck, lift_ok, lift_exc, calm_ok, bind_if, lift_if, calm_if, r_fn, r_sRet, r_sRetN, r_sSeq, r_sExpr, r_sIf, r_sAsg, r_sNil, r_aName, aNils, aConss, aTup, eVar, r_eC, r_eA, r_aCons, r_aNil, r_e2, r_e1, r_eB, r_toB, r_eAnd, r_eOr, r_eNot, r_bAnd, r_bOr, r_bNot, r_eIf, r_eIsi, tyOf, isTy, Tk.nm, r_dCalm, r_iBy, r_iBys, toItems, toRng1, r_eChain, oOrd, oInt, oIs, isN, mkTup, mkLst, datas, r_sRaise, r_eSortSet, r_eM1]
  unfold hAll asListZ asList
  simp only [e, Option.bind_some, boolsOf_map]
  simp [bind_ok, bind_exc, bind_stuck, lift_ok, lift_exc, calm_ok, bind_if, lift_if, calm_if, r_fn, r_sRet, r_sRetN, r_sSeq, r_sExpr, r_sIf, r_sAsg, r_sNil, r_aName, aNils, aConss, aTup, eVar, r_eC, r_eA, r_aCons, r_aNil, r_e2, r_e1, r_eB, r_toB, r_eAnd, r_eOr, r_eNot, r_bAnd, r_bOr, r_bNot, r_eIf, r_eIsi, tyOf, isTy, Tk.nm, r_dCalm, r_iBy, r_iBys, toItems, toRng1, r_eChain, oOrd, oInt, oIs, isN, mkTup, mkLst, datas, r_sRaise, r_eSortSet, r_eM1, List.all_map, Function.comp_def]
/-- of the signs 012 -/
def txtB (s : Str) : Bool := s.cps.toList.all fun c => strIn ⟨#[c]⟩ "012"
theorem e_text (s : Str) (S : Sto) (h : s.length ≤ sizeLine) : den_is_text_of [.d (.str s), .d (.str "012")] S = .ok (.d (.bool (txtB s))) S := by
  have key := eComp_map (w := fun c => .d (.str ⟨#[c]⟩)) (vs := [2]) (fi := iBy toItems (eVar 0)) (t := .nm 2) (p := pYes) (f := e2 (oIn false) (eVar 2) (eVar 1)) (ρ := [some (.d (.str s)), some (.d (.str "012")), none]) (S := S) (S1 := S) (l := s.cps.toList)
    (fun c => [some (.d (.str s)), some (.d (.str "012")), some (.d (.str ⟨#[c]⟩))]) (fun _ => true) (fun c => .bool (strIn ⟨#[c]⟩ "012")) rfl (by simpa [bind_ok, bind_exc, bind_stuck, lift_ok, lift_exc, calm_ok, bind_if, lift_if, calm_if, r_fn, r_sRet, r_sRetN, r_sSeq, r_sExpr, r_sIf, r_sAsg, r_sNil, r_aName, aNils, aConss, aTup, eVar, r_eC, r_eA, r_aCons, r_aNil, r_e2, r_e1, r_eB, r_toB, r_eAnd, r_eOr, r_eNot, r_bAnd, r_bOr, r_bNot, r_eIf, r_eIsi, tyOf, isTy, Tk.nm, r_dCalm, r_iBy, r_iBys, toItems, toRng1, r_eChain, oOrd, oInt, oIs, isN, mkTup, mkLst, datas, r_sRaise, r_eSortSet, r_eM1, Str.length] using h) (fun x hx => rfl) (fun x hx => rfl) (fun x hx _ => by simp [bind_ok, bind_exc, bind_stuck, lift_ok, lift_exc, calm_ok, bind_if, lift_if, calm_if, r_fn, r_sRet, r_sRetN, r_sSeq, r_sExpr, r_sIf, r_sAsg, r_sNil, r_aName, aNils, aConss, aTup, eVar, r_eC, r_eA, r_aCons, r_aNil, r_e2, r_e1, r_eB, r_toB, r_eAnd, r_eOr, r_eNot, r_bAnd, r_bOr, r_bNot, r_eIf, r_eIsi, tyOf, isTy, Tk.nm, r_dCalm, r_iBy, r_iBys, toItems, toRng1, r_eChain, oOrd, oInt, oIs, isN, mkTup, mkLst, datas, r_sRaise, r_eSortSet, r_eM1, oIn])
  rw [filter_true] at key
  simp [bind_ok, bind_exc, bind_stuck, lift_ok, lift_exc, calm_ok, bind_if, lift_if, calm_if, r_fn, r_sRet, r_sRetN, r_sSeq, r_sExpr, r_sIf, r_sAsg, r_sNil, r_aName, aNils, aConss, aTup, eVar, r_eC, r_eA, r_aCons, r_aNil, r_e2, r_e1, r_eB, r_toB, r_eAnd, r_eOr, r_eNot, r_bAnd, r_bOr, r_bNot, r_eIf, r_eIsi, tyOf, isTy, Tk.nm, r_dCalm, r_iBy, r_iBys, toItems, toRng1, r_eChain, oOrd, oInt, oIs, isN, mkTup, mkLst, datas, r_sRaise, r_eSortSet, r_eM1, den_is_text_of, b_is_text_of, key, hAll_map, txtB]
theorem e_text0 (x : PyData) (S : Sto) (h : tyOf (.d x) S ≠ none) (h2 : ∀ s, x ≠ .str s) : den_is_text_of [.d x, .d (.str "012")] S = .ok (.d (.bool false)) S := by
  cases x <;> simp_all [bind_ok, bind_exc, bind_stuck, lift_ok, lift_exc, calm_ok, bind_if, lift_if, calm_if, r_fn, r_sRet, r_sRetN, r_sSeq, r_sExpr, r_sIf, r_sAsg, r_sNil, r_aName, aNils, aConss, aTup, eVar, r_eC, r_eA, r_aCons, r_aNil, r_e2, r_e1, r_eB, r_toB, r_eAnd, r_eOr, r_eNot, r_bAnd, r_bOr, r_bNot, r_eIf, r_eIsi, tyOf, isTy, Tk.nm, r_dCalm, r_iBy, r_iBys, toItems, toRng1, r_eChain, oOrd, oInt, oIs, isN, mkTup, mkLst, datas, r_sRaise, r_eSortSet, r_eM1, den_is_text_of, b_is_text_of]
/-- a card of m marks -/
def cardB (m : Int) : PyData → Bool
  | .str s => txtB s && decide ((s.length : Int) = m)
  | _ => false
/-- what the checks are asked about -/
def okX : PyData → Bool
  | .str s => decide (s.length ≤ sizeLine)
  | .dict _ => false
  | _ => true
theorem e_card (m : Int) (x : PyData) (S : Sto) (h : okX x = true) : den_is_card_of [.d (.int m), .d x] S = .ok (.d (.bool (cardB m x))) S := by
  cases x with
  | str s =>
    have h' : s.length ≤ sizeLine := of_decide_eq_true h
    simp [bind_ok, bind_exc, bind_stuck, lift_ok, lift_exc, calm_ok, bind_if, lift_if, calm_if, r_fn, r_sRet, r_sRetN, r_sSeq, r_sExpr, r_sIf, r_sAsg, r_sNil, r_aName, aNils, aConss, aTup, eVar, r_eC, r_eA, r_aCons, r_aNil, r_e2, r_e1, r_eB, r_toB, r_eAnd, r_eOr, r_eNot, r_bAnd, r_bOr, r_bNot, r_eIf, r_eIsi, tyOf, isTy, Tk.nm, r_dCalm, r_iBy, r_iBys, toItems, toRng1, r_eChain, oOrd, oInt, oIs, isN, mkTup, mkLst, datas, r_sRaise, r_eSortSet, r_eM1, den_is_card_of, b_is_card_of, e_text s S h', cardB]
    by_cases q : txtB s = true
    · simp [bind_ok, bind_exc, bind_stuck, lift_ok, lift_exc, calm_ok, bind_if, lift_if, calm_if, r_fn, r_sRet, r_sRetN, r_sSeq, r_sExpr, r_sIf, r_sAsg, r_sNil, r_aName, aNils, aConss, aTup, eVar, r_eC, r_eA, r_aCons, r_aNil, r_e2, r_e1, r_eB, r_toB, r_eAnd, r_eOr, r_eNot, r_bAnd, r_bOr, r_bNot, r_eIf, r_eIsi, tyOf, isTy, Tk.nm, r_dCalm, r_iBy, r_iBys, toItems, toRng1, r_eChain, oOrd, oInt, oIs, isN, mkTup, mkLst, datas, r_sRaise, r_eSortSet, r_eM1, q, hLen, lenOf, h', oEq, SeqAt.shaped, PyData.canLay0, PyData.depth, PyData.eqv]
      rw [Bool.eq_iff_iff]; simp [bind_ok, bind_exc, bind_stuck, lift_ok, lift_exc, calm_ok, bind_if, lift_if, calm_if, r_fn, r_sRet, r_sRetN, r_sSeq, r_sExpr, r_sIf, r_sAsg, r_sNil, r_aName, aNils, aConss, aTup, eVar, r_eC, r_eA, r_aCons, r_aNil, r_e2, r_e1, r_eB, r_toB, r_eAnd, r_eOr, r_eNot, r_bAnd, r_bOr, r_bNot, r_eIf, r_eIsi, tyOf, isTy, Tk.nm, r_dCalm, r_iBy, r_iBys, toItems, toRng1, r_eChain, oOrd, oInt, oIs, isN, mkTup, mkLst, datas, r_sRaise, r_eSortSet, r_eM1]
    · simp [bind_ok, bind_exc, bind_stuck, lift_ok, lift_exc, calm_ok, bind_if, lift_if, calm_if, r_fn, r_sRet, r_sRetN, r_sSeq, r_sExpr, r_sIf, r_sAsg, r_sNil, r_aName, aNils, aConss, aTup, eVar, r_eC, r_eA, r_aCons, r_aNil, r_e2, r_e1, r_eB, r_toB, r_eAnd, r_eOr, r_eNot, r_bAnd, r_bOr, r_bNot, r_eIf, r_eIsi, tyOf, isTy, Tk.nm, r_dCalm, r_iBy, r_iBys, toItems, toRng1, r_eChain, oOrd, oInt, oIs, isN, mkTup, mkLst, datas, r_sRaise, r_eSortSet, r_eM1, q]
  | dict _ => exact absurd h Bool.false_ne_true
  | _ => simp [bind_ok, bind_exc, bind_stuck, lift_ok, lift_exc, calm_ok, bind_if, lift_if, calm_if, r_fn, r_sRet, r_sRetN, r_sSeq, r_sExpr, r_sIf, r_sAsg, r_sNil, r_aName, aNils, aConss, aTup, eVar, r_eC, r_eA, r_aCons, r_aNil, r_e2, r_e1, r_eB, r_toB, r_eAnd, r_eOr, r_eNot, r_bAnd, r_bOr, r_bNot, r_eIf, r_eIsi, tyOf, isTy, Tk.nm, r_dCalm, r_iBy, r_iBys, toItems, toRng1, r_eChain, oOrd, oInt, oIs, isN, mkTup, mkLst, datas, r_sRaise, r_eSortSet, r_eM1, den_is_card_of, b_is_card_of, cardB]; rw [e_text0 _ _ (by simp [bind_ok, bind_exc, bind_stuck, lift_ok, lift_exc, calm_ok, bind_if, lift_if, calm_if, r_fn, r_sRet, r_sRetN, r_sSeq, r_sExpr, r_sIf, r_sAsg, r_sNil, r_aName, aNils, aConss, aTup, eVar, r_eC, r_eA, r_aCons, r_aNil, r_e2, r_e1, r_eB, r_toB, r_eAnd, r_eOr, r_eNot, r_bAnd, r_bOr, r_bNot, r_eIf, r_eIsi, tyOf, isTy, Tk.nm, r_dCalm, r_iBy, r_iBys, toItems, toRng1, r_eChain, oOrd, oInt, oIs, isN, mkTup, mkLst, datas, r_sRaise, r_eSortSet, r_eM1]) (by simp [bind_ok, bind_exc, bind_stuck, lift_ok, lift_exc, calm_ok, bind_if, lift_if, calm_if, r_fn, r_sRet, r_sRetN, r_sSeq, r_sExpr, r_sIf, r_sAsg, r_sNil, r_aName, aNils, aConss, aTup, eVar, r_eC, r_eA, r_aCons, r_aNil, r_e2, r_e1, r_eB, r_toB, r_eAnd, r_eOr, r_eNot, r_bAnd, r_bOr, r_bNot, r_eIf, r_eIsi, tyOf, isTy, Tk.nm, r_dCalm, r_iBy, r_iBys, toItems, toRng1, r_eChain, oOrd, oInt, oIs, isN, mkTup, mkLst, datas, r_sRaise, r_eSortSet, r_eM1])]; simp [bind_ok, bind_exc, bind_stuck, lift_ok, lift_exc, calm_ok, bind_if, lift_if, calm_if, r_fn, r_sRet, r_sRetN, r_sSeq, r_sExpr, r_sIf, r_sAsg, r_sNil, r_aName, aNils, aConss, aTup, eVar, r_eC, r_eA, r_aCons, r_aNil, r_e2, r_e1, r_eB, r_toB, r_eAnd, r_eOr, r_eNot, r_bAnd, r_bOr, r_bNot, r_eIf, r_eIsi, tyOf, isTy, Tk.nm, r_dCalm, r_iBy, r_iBys, toItems, toRng1, r_eChain, oOrd, oInt, oIs, isN, mkTup, mkLst, datas, r_sRaise, r_eSortSet, r_eM1]

/-- each below the next -/
def ascB : List Str → Bool
  | a :: b :: r => decide (a.cps.toList < b.cps.toList) && ascB (b :: r)
  | _ => true
def pairsS : List Str → List (Str × Str)
  | a :: b :: r => (a, b) :: pairsS (b :: r)
  | _ => []
theorem pairs_eq : ∀ l : List Str, pairs (l.map .str) (l.map .str).tail = (pairsS l).map fun q => .d (.tuple [.str q.1, .str q.2])
  | [] => rfl
  | [_] => rfl
  | a :: b :: r => by
    have ih := pairs_eq (b :: r)
    simp only [List.map_cons, List.tail_cons] at ih ⊢
    rw [show pairs (PyData.str a :: PyData.str b :: r.map .str) (PyData.str b :: r.map .str) = .d (.tuple [.str a, .str b]) :: pairs (PyData.str b :: r.map .str) (r.map .str) from rfl, ih]
    rfl
theorem pairsS_all : ∀ l : List Str, (pairsS l).all (fun q => decide (q.1.cps.toList < q.2.cps.toList)) = ascB l
  | [] => rfl
  | [_] => rfl
  | a :: b :: r => by
    rw [pairsS, List.all_cons, pairsS_all (b :: r)]
    rfl
theorem pairsS_len : ∀ l : List Str, (pairsS l).length ≤ l.length
  | [] => Nat.le_refl _
  | [_] => Nat.zero_le _
  | a :: b :: r => by
    have := pairsS_len (b :: r)
    rw [pairsS]
    simp only [List.length_cons] at this ⊢
    omega
theorem cut1 (xs : List PyData) : Ev.cutD xs (some 1) none = xs.tail := by
  unfold Ev.cutD
  cases xs with
  | nil => rfl
  | cons x r =>
    have e1 : HT.sIx (x :: r).length 0 (some 1) = 1 := by
      show HT.sIx _ 0 (some ((1 : Nat) : Int)) = 1
      rw [HT.sIx_nat]
      simp [bind_ok, bind_exc, bind_stuck, lift_ok, lift_exc, calm_ok, bind_if, lift_if, calm_if, r_fn, r_sRet, r_sRetN, r_sSeq, r_sExpr, r_sIf, r_sAsg, r_sNil, r_aName, aNils, aConss, aTup, eVar, r_eC, r_eA, r_aCons, r_aNil, r_e2, r_e1, r_eB, r_toB, r_eAnd, r_eOr, r_eNot, r_bAnd, r_bOr, r_bNot, r_eIf, r_eIsi, tyOf, isTy, Tk.nm, r_dCalm, r_iBy, r_iBys, toItems, toRng1, r_eChain, oOrd, oInt, oIs, isN, mkTup, mkLst, datas, r_sRaise, r_eSortSet, r_eM1]
    have e2 : HT.sIx (x :: r).length (x :: r).length none = (x :: r).length := rfl
    rw [e1, e2, List.take_of_length_le (by rw [List.length_drop]; exact Nat.le_refl _)]
    rfl
theorem e_asc (l : List Str) (S : Sto) (h : l.length ≤ sizeLine) : den_is_ascending [.d (.tuple (l.map .str))] S = .ok (.d (.bool (ascB l))) S := by
  have key := eComp_map (w := fun q : Str × Str => .d (.tuple [.str q.1, .str q.2])) (vs := [1, 2]) (fi := Ev.iZip (eVar 0) (eSl (eVar 0) (oSome (eC (.int 1))) oNone)) (t := .tp [1, 2]) (p := pYes) (f := e2 oLt (eVar 1) (eVar 2)) (ρ := [some (.d (.tuple (l.map .str))), none, none]) (S := S) (S1 := S) (l := pairsS l)
    (fun q => [some (.d (.tuple (l.map .str))), some (.d (.str q.1)), some (.d (.str q.2))]) (fun _ => true) (fun q => .bool (decide (q.1.cps.toList < q.2.cps.toList)))
    (by simp [bind_ok, bind_exc, bind_stuck, lift_ok, lift_exc, calm_ok, bind_if, lift_if, calm_if, r_fn, r_sRet, r_sRetN, r_sSeq, r_sExpr, r_sIf, r_sAsg, r_sNil, r_aName, aNils, aConss, aTup, eVar, r_eC, r_eA, r_aCons, r_aNil, r_e2, r_e1, r_eB, r_toB, r_eAnd, r_eOr, r_eNot, r_bAnd, r_bOr, r_bNot, r_eIf, r_eIsi, tyOf, isTy, Tk.nm, r_dCalm, r_iBy, r_iBys, toItems, toRng1, r_eChain, oOrd, oInt, oIs, isN, mkTup, mkLst, datas, r_sRaise, r_eSortSet, r_eM1, Ev.iZip, eSl, oSome, oNone, hSl, asListZ, asList, asTup, lstOf, cut1, pairs_eq]) (Nat.le_trans (pairsS_len l) h) (fun x hx => rfl) (fun x hx => rfl) (fun x hx _ => by simp [bind_ok, bind_exc, bind_stuck, lift_ok, lift_exc, calm_ok, bind_if, lift_if, calm_if, r_fn, r_sRet, r_sRetN, r_sSeq, r_sExpr, r_sIf, r_sAsg, r_sNil, r_aName, aNils, aConss, aTup, eVar, r_eC, r_eA, r_aCons, r_aNil, r_e2, r_e1, r_eB, r_toB, r_eAnd, r_eOr, r_eNot, r_bAnd, r_bOr, r_bNot, r_eIf, r_eIsi, tyOf, isTy, Tk.nm, r_dCalm, r_iBy, r_iBys, toItems, toRng1, r_eChain, oOrd, oInt, oIs, isN, mkTup, mkLst, datas, r_sRaise, r_eSortSet, r_eM1])
  rw [filter_true] at key
  simp [bind_ok, bind_exc, bind_stuck, lift_ok, lift_exc, calm_ok, bind_if, lift_if, calm_if, r_fn, r_sRet, r_sRetN, r_sSeq, r_sExpr, r_sIf, r_sAsg, r_sNil, r_aName, aNils, aConss, aTup, eVar, r_eC, r_eA, r_aCons, r_aNil, r_e2, r_e1, r_eB, r_toB, r_eAnd, r_eOr, r_eNot, r_bAnd, r_bOr, r_bNot, r_eIf, r_eIsi, tyOf, isTy, Tk.nm, r_dCalm, r_iBy, r_iBys, toItems, toRng1, r_eChain, oOrd, oInt, oIs, isN, mkTup, mkLst, datas, r_sRaise, r_eSortSet, r_eM1, den_is_ascending, b_is_ascending, key, hAll_map, -Array.lt_toList]
  exact pairsS_all l
/-- the texts of a list -/
def txs : List PyData → List Str
  | .str s :: r => s :: txs r
  | _ :: r => txs r
  | [] => []
theorem txs_map : ∀ {m : Int} {xs : List PyData}, xs.all (cardB m) = true → (txs xs).map .str = xs
  | m, [], _ => rfl
  | m, .str s :: r, h => by
    simp only [List.all_cons, Bool.and_eq_true] at h
    rw [txs, List.map_cons, txs_map h.2]
  | m, .none :: r, h => by simp [bind_ok, bind_exc, bind_stuck, lift_ok, lift_exc, calm_ok, bind_if, lift_if, calm_if, r_fn, r_sRet, r_sRetN, r_sSeq, r_sExpr, r_sIf, r_sAsg, r_sNil, r_aName, aNils, aConss, aTup, eVar, r_eC, r_eA, r_aCons, r_aNil, r_e2, r_e1, r_eB, r_toB, r_eAnd, r_eOr, r_eNot, r_bAnd, r_bOr, r_bNot, r_eIf, r_eIsi, tyOf, isTy, Tk.nm, r_dCalm, r_iBy, r_iBys, toItems, toRng1, r_eChain, oOrd, oInt, oIs, isN, mkTup, mkLst, datas, r_sRaise, r_eSortSet, r_eM1, cardB] at h
  | m, .bool _ :: r, h => by simp [bind_ok, bind_exc, bind_stuck, lift_ok, lift_exc, calm_ok, bind_if, lift_if, calm_if, r_fn, r_sRet, r_sRetN, r_sSeq, r_sExpr, r_sIf, r_sAsg, r_sNil, r_aName, aNils, aConss, aTup, eVar, r_eC, r_eA, r_aCons, r_aNil, r_e2, r_e1, r_eB, r_toB, r_eAnd, r_eOr, r_eNot, r_bAnd, r_bOr, r_bNot, r_eIf, r_eIsi, tyOf, isTy, Tk.nm, r_dCalm, r_iBy, r_iBys, toItems, toRng1, r_eChain, oOrd, oInt, oIs, isN, mkTup, mkLst, datas, r_sRaise, r_eSortSet, r_eM1, cardB] at h
  | m, .int _ :: r, h => by simp [bind_ok, bind_exc, bind_stuck, lift_ok, lift_exc, calm_ok, bind_if, lift_if, calm_if, r_fn, r_sRet, r_sRetN, r_sSeq, r_sExpr, r_sIf, r_sAsg, r_sNil, r_aName, aNils, aConss, aTup, eVar, r_eC, r_eA, r_aCons, r_aNil, r_e2, r_e1, r_eB, r_toB, r_eAnd, r_eOr, r_eNot, r_bAnd, r_bOr, r_bNot, r_eIf, r_eIsi, tyOf, isTy, Tk.nm, r_dCalm, r_iBy, r_iBys, toItems, toRng1, r_eChain, oOrd, oInt, oIs, isN, mkTup, mkLst, datas, r_sRaise, r_eSortSet, r_eM1, cardB] at h
  | m, .list _ :: r, h => by simp [bind_ok, bind_exc, bind_stuck, lift_ok, lift_exc, calm_ok, bind_if, lift_if, calm_if, r_fn, r_sRet, r_sRetN, r_sSeq, r_sExpr, r_sIf, r_sAsg, r_sNil, r_aName, aNils, aConss, aTup, eVar, r_eC, r_eA, r_aCons, r_aNil, r_e2, r_e1, r_eB, r_toB, r_eAnd, r_eOr, r_eNot, r_bAnd, r_bOr, r_bNot, r_eIf, r_eIsi, tyOf, isTy, Tk.nm, r_dCalm, r_iBy, r_iBys, toItems, toRng1, r_eChain, oOrd, oInt, oIs, isN, mkTup, mkLst, datas, r_sRaise, r_eSortSet, r_eM1, cardB] at h
  | m, .tuple _ :: r, h => by simp [bind_ok, bind_exc, bind_stuck, lift_ok, lift_exc, calm_ok, bind_if, lift_if, calm_if, r_fn, r_sRet, r_sRetN, r_sSeq, r_sExpr, r_sIf, r_sAsg, r_sNil, r_aName, aNils, aConss, aTup, eVar, r_eC, r_eA, r_aCons, r_aNil, r_e2, r_e1, r_eB, r_toB, r_eAnd, r_eOr, r_eNot, r_bAnd, r_bOr, r_bNot, r_eIf, r_eIsi, tyOf, isTy, Tk.nm, r_dCalm, r_iBy, r_iBys, toItems, toRng1, r_eChain, oOrd, oInt, oIs, isN, mkTup, mkLst, datas, r_sRaise, r_eSortSet, r_eM1, cardB] at h
  | m, .dict _ :: r, h => by simp [bind_ok, bind_exc, bind_stuck, lift_ok, lift_exc, calm_ok, bind_if, lift_if, calm_if, r_fn, r_sRet, r_sRetN, r_sSeq, r_sExpr, r_sIf, r_sAsg, r_sNil, r_aName, aNils, aConss, aTup, eVar, r_eC, r_eA, r_aCons, r_aNil, r_e2, r_e1, r_eB, r_toB, r_eAnd, r_eOr, r_eNot, r_bAnd, r_bOr, r_bNot, r_eIf, r_eIsi, tyOf, isTy, Tk.nm, r_dCalm, r_iBy, r_iBys, toItems, toRng1, r_eChain, oOrd, oInt, oIs, isN, mkTup, mkLst, datas, r_sRaise, r_eSortSet, r_eM1, cardB] at h
def handB (m : Int) : PyData → Bool
  | .tuple xs => xs.all (cardB m) && ascB (txs xs)
  | _ => false
def okH : PyData → Bool
  | .tuple xs => xs.all okX && decide (xs.length ≤ sizeLine)
  | .dict _ => false
  | _ => true
theorem e_hand (m : Int) (x : PyData) (S : Sto) (h : okH x = true) : den_is_hand_of [.d (.int m), .d x] S = .ok (.d (.bool (handB m x))) S := by
  cases x with
  | tuple xs =>
    unfold okH at h
    simp only [Bool.and_eq_true, List.all_eq_true, decide_eq_true_eq] at h
    have key := eComp_map (w := fun q : PyData => .d q) (vs := [2]) (fi := iBy toItems (eVar 1)) (t := .nm 2) (p := pYes) (f := eA den_is_card_of (aCons (eVar 0) (aCons (eVar 2) aNil))) (ρ := [some (.d (.int m)), some (.d (.tuple xs)), none]) (S := S) (S1 := S) (l := xs)
      (fun q => [some (.d (.int m)), some (.d (.tuple xs)), some (.d q)]) (fun _ => true) (fun q => .bool (cardB m q)) rfl h.2 (fun x hx => rfl) (fun x hx => rfl) (fun x hx _ => by simp [bind_ok, bind_exc, bind_stuck, lift_ok, lift_exc, calm_ok, bind_if, lift_if, calm_if, r_fn, r_sRet, r_sRetN, r_sSeq, r_sExpr, r_sIf, r_sAsg, r_sNil, r_aName, aNils, aConss, aTup, eVar, r_eC, r_eA, r_aCons, r_aNil, r_e2, r_e1, r_eB, r_toB, r_eAnd, r_eOr, r_eNot, r_bAnd, r_bOr, r_bNot, r_eIf, r_eIsi, tyOf, isTy, Tk.nm, r_dCalm, r_iBy, r_iBys, toItems, toRng1, r_eChain, oOrd, oInt, oIs, isN, mkTup, mkLst, datas, r_sRaise, r_eSortSet, r_eM1, e_card m x S (h.1 x hx)])
    rw [filter_true] at key
    simp [bind_ok, bind_exc, bind_stuck, lift_ok, lift_exc, calm_ok, bind_if, lift_if, calm_if, r_fn, r_sRet, r_sRetN, r_sSeq, r_sExpr, r_sIf, r_sAsg, r_sNil, r_aName, aNils, aConss, aTup, eVar, r_eC, r_eA, r_aCons, r_aNil, r_e2, r_e1, r_eB, r_toB, r_eAnd, r_eOr, r_eNot, r_bAnd, r_bOr, r_bNot, r_eIf, r_eIsi, tyOf, isTy, Tk.nm, r_dCalm, r_iBy, r_iBys, toItems, toRng1, r_eChain, oOrd, oInt, oIs, isN, mkTup, mkLst, datas, r_sRaise, r_eSortSet, r_eM1, den_is_hand_of, b_is_hand_of, key, hAll_map, handB, -List.all_eq_true]
    by_cases q : xs.all (cardB m) = true
    · have e := txs_map q
      have hl : (txs xs).length ≤ sizeLine := by rw [← List.length_map (f := PyData.str), e]; exact h.2
      have k2 := e_asc (txs xs) S hl
      rw [e] at k2
      simp [bind_ok, bind_exc, bind_stuck, lift_ok, lift_exc, calm_ok, bind_if, lift_if, calm_if, r_fn, r_sRet, r_sRetN, r_sSeq, r_sExpr, r_sIf, r_sAsg, r_sNil, r_aName, aNils, aConss, aTup, eVar, r_eC, r_eA, r_aCons, r_aNil, r_e2, r_e1, r_eB, r_toB, r_eAnd, r_eOr, r_eNot, r_bAnd, r_bOr, r_bNot, r_eIf, r_eIsi, tyOf, isTy, Tk.nm, r_dCalm, r_iBy, r_iBys, toItems, toRng1, r_eChain, oOrd, oInt, oIs, isN, mkTup, mkLst, datas, r_sRaise, r_eSortSet, r_eM1, q, k2, -List.all_eq_true]
    · simp [bind_ok, bind_exc, bind_stuck, lift_ok, lift_exc, calm_ok, bind_if, lift_if, calm_if, r_fn, r_sRet, r_sRetN, r_sSeq, r_sExpr, r_sIf, r_sAsg, r_sNil, r_aName, aNils, aConss, aTup, eVar, r_eC, r_eA, r_aCons, r_aNil, r_e2, r_e1, r_eB, r_toB, r_eAnd, r_eOr, r_eNot, r_bAnd, r_bOr, r_bNot, r_eIf, r_eIsi, tyOf, isTy, Tk.nm, r_dCalm, r_iBy, r_iBys, toItems, toRng1, r_eChain, oOrd, oInt, oIs, isN, mkTup, mkLst, datas, r_sRaise, r_eSortSet, r_eM1, q, -List.all_eq_true]
  | dict _ => exact absurd h Bool.false_ne_true
  | _ => simp [bind_ok, bind_exc, bind_stuck, lift_ok, lift_exc, calm_ok, bind_if, lift_if, calm_if, r_fn, r_sRet, r_sRetN, r_sSeq, r_sExpr, r_sIf, r_sAsg, r_sNil, r_aName, aNils, aConss, aTup, eVar, r_eC, r_eA, r_aCons, r_aNil, r_e2, r_e1, r_eB, r_toB, r_eAnd, r_eOr, r_eNot, r_bAnd, r_bOr, r_bNot, r_eIf, r_eIsi, tyOf, isTy, Tk.nm, r_dCalm, r_iBy, r_iBys, toItems, toRng1, r_eChain, oOrd, oInt, oIs, isN, mkTup, mkLst, datas, r_sRaise, r_eSortSet, r_eM1, den_is_hand_of, b_is_hand_of, handB]
end K02

end
section
namespace K02
open PySem PySem.Spec PyProof.Rows L2 Ev
/-- for all below n, written out -/
def AllP (P : Nat → Prop) : Nat → Prop
  | 0 => True
  | n + 1 => AllP P n ∧ P n
theorem AllP.at {P : Nat → Prop} : ∀ {n : Nat}, AllP P n → ∀ v < n, P v
  | n + 1, ⟨h, h'⟩, v, hv => by
    rcases Nat.lt_succ_iff_lt_or_eq.mp hv with q | q
    · exact AllP.at h v q
    · rw [q]; exact h'
def FL : Nat → Nat → List Nat
  | 0, _ => []
  | m + 1, v => FL m (v / 3) ++ [48 + v % 3]
def F (m v : Nat) : Str := ⟨(FL m v).toArray⟩
def P1 (m v : Nat) : Prop := ∀ S, den__law_figures [.d (.int (m : Nat)), .d (.int (v : Nat))] S = .ok (.d (.str (F m v))) S
def P2 (m v : Nat) : Prop := ∀ S, den_card_number [.d (.str (F m v))] S = .ok (.d (.int (v : Nat))) S
def P3 (m v : Nat) : Prop := ∀ S, den_card_at [.d (.int (m : Nat)), .d (.int (v : Nat))] S = .ok (.d (.str (F m v))) S
theorem p1_1 : AllP (P1 1) 3 := by
  repeat' apply And.intro
  all_goals first | trivial | (intro S; kernel_rfl)
theorem p2_1 : AllP (P2 1) 3 := by
  repeat' apply And.intro
  all_goals first | trivial | (intro S; kernel_rfl)
theorem p3_1 : AllP (P3 1) 3 := by
  repeat' apply And.intro
  all_goals first | trivial | (intro S; kernel_rfl)
theorem p4_1 (S : Sto) : den_deck [.d (.int 1)] S = .ok (.d (.tuple ((List.range 3).map fun v => .str (F 1 v)))) S := by kernel_rfl
theorem p5_1 (S : Sto) : den_deck_of [.d (.int 1)] S = .ok (.d (.list ((List.range 3).map fun v => .str (F 1 v)))) S := by kernel_rfl
theorem p1_2 : AllP (P1 2) 9 := by
  repeat' apply And.intro
  all_goals first | trivial | (intro S; kernel_rfl)
theorem p2_2 : AllP (P2 2) 9 := by
  repeat' apply And.intro
  all_goals first | trivial | (intro S; kernel_rfl)
theorem p3_2 : AllP (P3 2) 9 := by
  repeat' apply And.intro
  all_goals first | trivial | (intro S; kernel_rfl)
theorem p4_2 (S : Sto) : den_deck [.d (.int 2)] S = .ok (.d (.tuple ((List.range 9).map fun v => .str (F 2 v)))) S := by kernel_rfl
theorem p5_2 (S : Sto) : den_deck_of [.d (.int 2)] S = .ok (.d (.list ((List.range 9).map fun v => .str (F 2 v)))) S := by kernel_rfl
theorem p1_3 : AllP (P1 3) 27 := by
  repeat' apply And.intro
  all_goals first | trivial | (intro S; kernel_rfl)
theorem p2_3 : AllP (P2 3) 27 := by
  repeat' apply And.intro
  all_goals first | trivial | (intro S; kernel_rfl)
theorem p3_3 : AllP (P3 3) 27 := by
  repeat' apply And.intro
  all_goals first | trivial | (intro S; kernel_rfl)
theorem p4_3 (S : Sto) : den_deck [.d (.int 3)] S = .ok (.d (.tuple ((List.range 27).map fun v => .str (F 3 v)))) S := by kernel_rfl
theorem p5_3 (S : Sto) : den_deck_of [.d (.int 3)] S = .ok (.d (.list ((List.range 27).map fun v => .str (F 3 v)))) S := by kernel_rfl
theorem p1_4 : AllP (P1 4) 81 := by
  repeat' apply And.intro
  all_goals first | trivial | (intro S; kernel_rfl)
theorem p2_4 : AllP (P2 4) 81 := by
  repeat' apply And.intro
  all_goals first | trivial | (intro S; kernel_rfl)
theorem p3_4 : AllP (P3 4) 81 := by
  repeat' apply And.intro
  all_goals first | trivial | (intro S; kernel_rfl)
theorem p4_4 (S : Sto) : den_deck [.d (.int 4)] S = .ok (.d (.tuple ((List.range 81).map fun v => .str (F 4 v)))) S := by kernel_rfl
theorem p5_4 (S : Sto) : den_deck_of [.d (.int 4)] S = .ok (.d (.list ((List.range 81).map fun v => .str (F 4 v)))) S := by kernel_rfl
theorem cases4 {P : Nat → Prop} (h1 : P 1) (h2 : P 2) (h3 : P 3) (h4 : P 4) (m : Nat) (a : 1 ≤ m) (b : m ≤ 4) : P m := by
  match m, a, b with
  | 1, _, _ => exact h1
  | 2, _, _ => exact h2
  | 3, _, _ => exact h3
  | 4, _, _ => exact h4
section
variable {m v : Nat} (a : 1 ≤ m) (b : m ≤ 4)
include a b
theorem f_fig (hv : v < 3 ^ m) (S : Sto) : den__law_figures [.d (.int (m : Nat)), .d (.int (v : Nat))] S = .ok (.d (.str (F m v))) S :=
  cases4 (P := fun m => ∀ v < 3 ^ m, P1 m v) p1_1.at p1_2.at p1_3.at p1_4.at m a b v hv S
theorem f_num (hv : v < 3 ^ m) (S : Sto) : den_card_number [.d (.str (F m v))] S = .ok (.d (.int (v : Nat))) S :=
  cases4 (P := fun m => ∀ v < 3 ^ m, P2 m v) p2_1.at p2_2.at p2_3.at p2_4.at m a b v hv S
theorem f_at (hv : v < 3 ^ m) (S : Sto) : den_card_at [.d (.int (m : Nat)), .d (.int (v : Nat))] S = .ok (.d (.str (F m v))) S :=
  cases4 (P := fun m => ∀ v < 3 ^ m, P3 m v) p3_1.at p3_2.at p3_3.at p3_4.at m a b v hv S
theorem f_deck (S : Sto) : den_deck [.d (.int (m : Nat))] S = .ok (.d (.tuple ((List.range (3 ^ m)).map fun v => .str (F m v)))) S :=
  cases4 (P := fun m => den_deck [.d (.int (m : Nat))] S = .ok (.d (.tuple ((List.range (3 ^ m)).map fun v => .str (F m v)))) S) (p4_1 S) (p4_2 S) (p4_3 S) (p4_4 S) m a b
theorem f_deckof (S : Sto) : den_deck_of [.d (.int (m : Nat))] S = .ok (.d (.list ((List.range (3 ^ m)).map fun v => .str (F m v)))) S :=
  cases4 (P := fun m => den_deck_of [.d (.int (m : Nat))] S = .ok (.d (.list ((List.range (3 ^ m)).map fun v => .str (F m v)))) S) (p5_1 S) (p5_2 S) (p5_3 S) (p5_4 S) m a b
end
/-! ### the figures -/
theorem FL_len : ∀ m v, (FL m v).length = m
  | 0, _ => rfl
  | m + 1, v => by rw [FL, List.length_append, FL_len m]; rfl
theorem F_len (m v : Nat) : (F m v).length = m := by show (FL m v).toArray.size = m; rw [List.size_toArray, FL_len]
theorem F_cps (m v : Nat) : (F m v).cps.toList = FL m v := rfl
theorem FL_dig : ∀ m v, ∀ c ∈ FL m v, c = 48 ∨ c = 49 ∨ c = 50
  | 0, _, c, h => by simp [FL] at h
  | m + 1, v, c, h => by
    rw [FL, List.mem_append] at h
    rcases h with h | h
    · exact FL_dig m _ c h
    · simp at h; omega
theorem F_lt {m : Nat} (a : 1 ≤ m) (b : m ≤ 4) {v w : Nat} (hw : w < 3 ^ m) (h : v < w) : FL m v < FL m w := by
  refine cases4 (P := fun m => ∀ w < 3 ^ m, ∀ v < w, FL m v < FL m w) ?_ ?_ ?_ ?_ m a b w hw v h <;> decide +kernel
theorem F_lt_iff {m : Nat} (a : 1 ≤ m) (b : m ≤ 4) {v w : Nat} (hv : v < 3 ^ m) (hw : w < 3 ^ m) : FL m v < FL m w ↔ v < w := by
  constructor
  · intro h
    rcases Nat.lt_trichotomy v w with q | q | q
    · exact q
    · subst q; exact absurd h (List.lt_irrefl _)
    · exact absurd (F_lt a b hv q) (List.lt_asymm h)
  · exact F_lt a b hw
theorem F_inj {m : Nat} (a : 1 ≤ m) (b : m ≤ 4) {v w : Nat} (hv : v < 3 ^ m) (hw : w < 3 ^ m) (h : F m v = F m w) : v = w := by
  have e : FL m v = FL m w := by rw [← F_cps, ← F_cps, h]
  rcases Nat.lt_trichotomy v w with q | q | q
  · exact absurd (e ▸ F_lt a b hw q) (List.lt_irrefl _)
  · exact q
  · exact absurd (e ▸ F_lt a b hv q) (List.lt_irrefl _)
end K02

end
section
namespace K02
open PySem PySem.Spec PyProof.Rows L2 Ev
/-! ### data that is told twice alike -/
mutual
def gd : PyData → Bool
  | .none => true
  | .int i => decide (i.natAbs < 10 ^ 9)
  | .str s => s.cps.toList.all fun c => decide (c < 0x110000)
  | .tuple xs => gdAll xs
  | _ => false
def gdAll : List PyData → Bool
  | [] => true
  | x :: xs => gd x && gdAll xs
end
mutual
def wt : PyData → Nat
  | .none => 4
  | .int _ => 10
  | .str s => 10 * s.length + 2
  | .tuple xs => wtAll xs + 3
  | _ => 0
def wtAll : List PyData → Nat
  | [] => 0
  | x :: xs => wt x + 2 + wtAll xs
end
theorem pil : ∀ ts : List Str, (tupleText ts).length ≤ piled ts + 3
  | [] => by decide +kernel
  | t :: ts => by
    have h := join_length_add (t :: ts) (by simp [bind_ok, bind_exc, bind_stuck, lift_ok, lift_exc, calm_ok, bind_if, lift_if, calm_if, r_fn, r_sRet, r_sRetN, r_sSeq, r_sExpr, r_sIf, r_sAsg, r_sNil, r_aName, aNils, aConss, aTup, eVar, r_eC, r_eA, r_aCons, r_aNil, r_e2, r_e1, r_eB, r_toB, r_eAnd, r_eOr, r_eNot, r_bAnd, r_bOr, r_bNot, r_eIf, r_eIsi, tyOf, isTy, Tk.nm, r_dCalm, r_iBy, r_iBys, toItems, toRng1, r_eChain, oOrd, oInt, oIs, isN, mkTup, mkLst, datas, r_sRaise, r_eSortSet, r_eM1])
    unfold tupleText
    rw [strLen_append, strLen_append]
    have e1 : (Str.ofString "(").length = 1 := rfl
    have e2 : (Str.ofString (if ((t :: ts).length == 1) = true then ",)" else ")")).length ≤ 2 := by
      split
      · exact Nat.le_refl 2
      · exact Nat.le_succ 1
    omega
mutual
theorem gd_shown : ∀ d : PyData, gd d = true → d.shown.length ≤ wt d
  | .none, _ => by simp only [PyData.shown, wt]; exact Nat.le_refl 4
  | .bool _, h => by simp [bind_ok, bind_exc, bind_stuck, lift_ok, lift_exc, calm_ok, bind_if, lift_if, calm_if, r_fn, r_sRet, r_sRetN, r_sSeq, r_sExpr, r_sIf, r_sAsg, r_sNil, r_aName, aNils, aConss, aTup, eVar, r_eC, r_eA, r_aCons, r_aNil, r_e2, r_e1, r_eB, r_toB, r_eAnd, r_eOr, r_eNot, r_bAnd, r_bOr, r_bNot, r_eIf, r_eIsi, tyOf, isTy, Tk.nm, r_dCalm, r_iBy, r_iBys, toItems, toRng1, r_eChain, oOrd, oInt, oIs, isN, mkTup, mkLst, datas, r_sRaise, r_eSortSet, r_eM1, gd] at h
  | .int i, h => by
    simp only [gd, decide_eq_true_eq] at h
    simp only [PyData.shown, wt]
    have := int_text_length_le10 (a := i) (k := 9) (by decide) h
    have e : (Str.ofString (toString i)).length = (toString i).length := PySem.ofString_length _
    omega
  | .str s, h => by
    simp only [gd, List.all_eq_true, decide_eq_true_eq] at h
    simp only [PyData.shown, wt]
    exact StrLaws.reprText_len s fun c hc => Nat.lt_trans (h c hc) (by decide)
  | .list _, h => by simp [bind_ok, bind_exc, bind_stuck, lift_ok, lift_exc, calm_ok, bind_if, lift_if, calm_if, r_fn, r_sRet, r_sRetN, r_sSeq, r_sExpr, r_sIf, r_sAsg, r_sNil, r_aName, aNils, aConss, aTup, eVar, r_eC, r_eA, r_aCons, r_aNil, r_e2, r_e1, r_eB, r_toB, r_eAnd, r_eOr, r_eNot, r_bAnd, r_bOr, r_bNot, r_eIf, r_eIsi, tyOf, isTy, Tk.nm, r_dCalm, r_iBy, r_iBys, toItems, toRng1, r_eChain, oOrd, oInt, oIs, isN, mkTup, mkLst, datas, r_sRaise, r_eSortSet, r_eM1, gd] at h
  | .tuple xs, h => by
    simp only [gd] at h
    simp only [PyData.shown, wt]
    have h1 := gd_shownAll xs h
    have h2 := pil (PyData.shownAll xs)
    omega
  | .dict _, h => by simp [bind_ok, bind_exc, bind_stuck, lift_ok, lift_exc, calm_ok, bind_if, lift_if, calm_if, r_fn, r_sRet, r_sRetN, r_sSeq, r_sExpr, r_sIf, r_sAsg, r_sNil, r_aName, aNils, aConss, aTup, eVar, r_eC, r_eA, r_aCons, r_aNil, r_e2, r_e1, r_eB, r_toB, r_eAnd, r_eOr, r_eNot, r_bAnd, r_bOr, r_bNot, r_eIf, r_eIsi, tyOf, isTy, Tk.nm, r_dCalm, r_iBy, r_iBys, toItems, toRng1, r_eChain, oOrd, oInt, oIs, isN, mkTup, mkLst, datas, r_sRaise, r_eSortSet, r_eM1, gd] at h
theorem gd_shownAll : ∀ ds : List PyData, gdAll ds = true → piled (PyData.shownAll ds) ≤ wtAll ds
  | [], _ => by simp only [PyData.shownAll, wtAll]; exact Nat.le_refl 0
  | x :: xs, h => by
    simp only [gdAll, Bool.and_eq_true] at h
    simp only [PyData.shownAll, wtAll, piled_cons]
    have h1 := gd_shown x h.1
    have h2 := gd_shownAll xs h.2
    omega
end
mutual
theorem gd_ok : ∀ d : PyData, gd d = true → d.canLay0 = true ∧ d.showable = true ∧ d.hasDict = false ∧ PyData.eqv d d = true
  | .none, _ => by simp [bind_ok, bind_exc, bind_stuck, lift_ok, lift_exc, calm_ok, bind_if, lift_if, calm_if, r_fn, r_sRet, r_sRetN, r_sSeq, r_sExpr, r_sIf, r_sAsg, r_sNil, r_aName, aNils, aConss, aTup, eVar, r_eC, r_eA, r_aCons, r_aNil, r_e2, r_e1, r_eB, r_toB, r_eAnd, r_eOr, r_eNot, r_bAnd, r_bOr, r_bNot, r_eIf, r_eIsi, tyOf, isTy, Tk.nm, r_dCalm, r_iBy, r_iBys, toItems, toRng1, r_eChain, oOrd, oInt, oIs, isN, mkTup, mkLst, datas, r_sRaise, r_eSortSet, r_eM1, PyData.canLay0, PyData.showable, PyData.hasDict, PyData.eqv]
  | .bool _, h => by simp [bind_ok, bind_exc, bind_stuck, lift_ok, lift_exc, calm_ok, bind_if, lift_if, calm_if, r_fn, r_sRet, r_sRetN, r_sSeq, r_sExpr, r_sIf, r_sAsg, r_sNil, r_aName, aNils, aConss, aTup, eVar, r_eC, r_eA, r_aCons, r_aNil, r_e2, r_e1, r_eB, r_toB, r_eAnd, r_eOr, r_eNot, r_bAnd, r_bOr, r_bNot, r_eIf, r_eIsi, tyOf, isTy, Tk.nm, r_dCalm, r_iBy, r_iBys, toItems, toRng1, r_eChain, oOrd, oInt, oIs, isN, mkTup, mkLst, datas, r_sRaise, r_eSortSet, r_eM1, gd] at h
  | .int i, h => by
    simp only [gd, decide_eq_true_eq] at h
    refine ⟨by simp [bind_ok, bind_exc, bind_stuck, lift_ok, lift_exc, calm_ok, bind_if, lift_if, calm_if, r_fn, r_sRet, r_sRetN, r_sSeq, r_sExpr, r_sIf, r_sAsg, r_sNil, r_aName, aNils, aConss, aTup, eVar, r_eC, r_eA, r_aCons, r_aNil, r_e2, r_e1, r_eB, r_toB, r_eAnd, r_eOr, r_eNot, r_bAnd, r_bOr, r_bNot, r_eIf, r_eIsi, tyOf, isTy, Tk.nm, r_dCalm, r_iBy, r_iBys, toItems, toRng1, r_eChain, oOrd, oInt, oIs, isN, mkTup, mkLst, datas, r_sRaise, r_eSortSet, r_eM1, PyData.canLay0], ?_, by simp [bind_ok, bind_exc, bind_stuck, lift_ok, lift_exc, calm_ok, bind_if, lift_if, calm_if, r_fn, r_sRet, r_sRetN, r_sSeq, r_sExpr, r_sIf, r_sAsg, r_sNil, r_aName, aNils, aConss, aTup, eVar, r_eC, r_eA, r_aCons, r_aNil, r_e2, r_e1, r_eB, r_toB, r_eAnd, r_eOr, r_eNot, r_bAnd, r_bOr, r_bNot, r_eIf, r_eIsi, tyOf, isTy, Tk.nm, r_dCalm, r_iBy, r_iBys, toItems, toRng1, r_eChain, oOrd, oInt, oIs, isN, mkTup, mkLst, datas, r_sRaise, r_eSortSet, r_eM1, PyData.hasDict], by simp [bind_ok, bind_exc, bind_stuck, lift_ok, lift_exc, calm_ok, bind_if, lift_if, calm_if, r_fn, r_sRet, r_sRetN, r_sSeq, r_sExpr, r_sIf, r_sAsg, r_sNil, r_aName, aNils, aConss, aTup, eVar, r_eC, r_eA, r_aCons, r_aNil, r_e2, r_e1, r_eB, r_toB, r_eAnd, r_eOr, r_eNot, r_bAnd, r_bOr, r_bNot, r_eIf, r_eIsi, tyOf, isTy, Tk.nm, r_dCalm, r_iBy, r_iBys, toItems, toRng1, r_eChain, oOrd, oInt, oIs, isN, mkTup, mkLst, datas, r_sRaise, r_eSortSet, r_eM1, PyData.eqv]⟩
    simp only [PyData.showable, decide_eq_true_eq]
    by_cases z : i.natAbs = 0
    · rw [z]; decide
    · rw [Nat.log2_lt z]
      exact Nat.lt_trans h (by decide +kernel)
  | .str s, h => by
    simp only [gd, List.all_eq_true, decide_eq_true_eq] at h
    refine ⟨?_, by simp [bind_ok, bind_exc, bind_stuck, lift_ok, lift_exc, calm_ok, bind_if, lift_if, calm_if, r_fn, r_sRet, r_sRetN, r_sSeq, r_sExpr, r_sIf, r_sAsg, r_sNil, r_aName, aNils, aConss, aTup, eVar, r_eC, r_eA, r_aCons, r_aNil, r_e2, r_e1, r_eB, r_toB, r_eAnd, r_eOr, r_eNot, r_bAnd, r_bOr, r_bNot, r_eIf, r_eIsi, tyOf, isTy, Tk.nm, r_dCalm, r_iBy, r_iBys, toItems, toRng1, r_eChain, oOrd, oInt, oIs, isN, mkTup, mkLst, datas, r_sRaise, r_eSortSet, r_eM1, PyData.showable], by simp [bind_ok, bind_exc, bind_stuck, lift_ok, lift_exc, calm_ok, bind_if, lift_if, calm_if, r_fn, r_sRet, r_sRetN, r_sSeq, r_sExpr, r_sIf, r_sAsg, r_sNil, r_aName, aNils, aConss, aTup, eVar, r_eC, r_eA, r_aCons, r_aNil, r_e2, r_e1, r_eB, r_toB, r_eAnd, r_eOr, r_eNot, r_bAnd, r_bOr, r_bNot, r_eIf, r_eIsi, tyOf, isTy, Tk.nm, r_dCalm, r_iBy, r_iBys, toItems, toRng1, r_eChain, oOrd, oInt, oIs, isN, mkTup, mkLst, datas, r_sRaise, r_eSortSet, r_eM1, PyData.hasDict], by simp [bind_ok, bind_exc, bind_stuck, lift_ok, lift_exc, calm_ok, bind_if, lift_if, calm_if, r_fn, r_sRet, r_sRetN, r_sSeq, r_sExpr, r_sIf, r_sAsg, r_sNil, r_aName, aNils, aConss, aTup, eVar, r_eC, r_eA, r_aCons, r_aNil, r_e2, r_e1, r_eB, r_toB, r_eAnd, r_eOr, r_eNot, r_bAnd, r_bOr, r_bNot, r_eIf, r_eIsi, tyOf, isTy, Tk.nm, r_dCalm, r_iBy, r_iBys, toItems, toRng1, r_eChain, oOrd, oInt, oIs, isN, mkTup, mkLst, datas, r_sRaise, r_eSortSet, r_eM1, PyData.eqv]⟩
    simp only [PyData.canLay0, PyData.strOk]
    rw [← Array.all_toList, List.all_eq_true]
    exact fun c hc => decide_eq_true (h c hc)
  | .list _, h => by simp [bind_ok, bind_exc, bind_stuck, lift_ok, lift_exc, calm_ok, bind_if, lift_if, calm_if, r_fn, r_sRet, r_sRetN, r_sSeq, r_sExpr, r_sIf, r_sAsg, r_sNil, r_aName, aNils, aConss, aTup, eVar, r_eC, r_eA, r_aCons, r_aNil, r_e2, r_e1, r_eB, r_toB, r_eAnd, r_eOr, r_eNot, r_bAnd, r_bOr, r_bNot, r_eIf, r_eIsi, tyOf, isTy, Tk.nm, r_dCalm, r_iBy, r_iBys, toItems, toRng1, r_eChain, oOrd, oInt, oIs, isN, mkTup, mkLst, datas, r_sRaise, r_eSortSet, r_eM1, gd] at h
  | .tuple xs, h => by
    simp only [gd] at h
    obtain ⟨h1, h2, h3, h4⟩ := gd_okAll xs h
    simp only [PyData.canLay0, PyData.showable, PyData.hasDict, PyData.eqv]
    exact ⟨h1, h2, h3, h4⟩
  | .dict _, h => by simp [bind_ok, bind_exc, bind_stuck, lift_ok, lift_exc, calm_ok, bind_if, lift_if, calm_if, r_fn, r_sRet, r_sRetN, r_sSeq, r_sExpr, r_sIf, r_sAsg, r_sNil, r_aName, aNils, aConss, aTup, eVar, r_eC, r_eA, r_aCons, r_aNil, r_e2, r_e1, r_eB, r_toB, r_eAnd, r_eOr, r_eNot, r_bAnd, r_bOr, r_bNot, r_eIf, r_eIsi, tyOf, isTy, Tk.nm, r_dCalm, r_iBy, r_iBys, toItems, toRng1, r_eChain, oOrd, oInt, oIs, isN, mkTup, mkLst, datas, r_sRaise, r_eSortSet, r_eM1, gd] at h
theorem gd_okAll : ∀ ds : List PyData, gdAll ds = true → PyData.canLayAll0 ds = true ∧ PyData.showableAll ds = true ∧ PyData.hasDictAll ds = false ∧ PyData.eqvAll ds ds = true
  | [], _ => by simp [bind_ok, bind_exc, bind_stuck, lift_ok, lift_exc, calm_ok, bind_if, lift_if, calm_if, r_fn, r_sRet, r_sRetN, r_sSeq, r_sExpr, r_sIf, r_sAsg, r_sNil, r_aName, aNils, aConss, aTup, eVar, r_eC, r_eA, r_aCons, r_aNil, r_e2, r_e1, r_eB, r_toB, r_eAnd, r_eOr, r_eNot, r_bAnd, r_bOr, r_bNot, r_eIf, r_eIsi, tyOf, isTy, Tk.nm, r_dCalm, r_iBy, r_iBys, toItems, toRng1, r_eChain, oOrd, oInt, oIs, isN, mkTup, mkLst, datas, r_sRaise, r_eSortSet, r_eM1, PyData.canLayAll0, PyData.showableAll, PyData.hasDictAll, PyData.eqvAll]
  | x :: xs, h => by
    simp only [gdAll, Bool.and_eq_true] at h
    obtain ⟨h1, h2, h3, h4⟩ := gd_ok x h.1
    obtain ⟨g1, g2, g3, g4⟩ := gd_okAll xs h.2
    simp [bind_ok, bind_exc, bind_stuck, lift_ok, lift_exc, calm_ok, bind_if, lift_if, calm_if, r_fn, r_sRet, r_sRetN, r_sSeq, r_sExpr, r_sIf, r_sAsg, r_sNil, r_aName, aNils, aConss, aTup, eVar, r_eC, r_eA, r_aCons, r_aNil, r_e2, r_e1, r_eB, r_toB, r_eAnd, r_eOr, r_eNot, r_bAnd, r_bOr, r_bNot, r_eIf, r_eIsi, tyOf, isTy, Tk.nm, r_dCalm, r_iBy, r_iBys, toItems, toRng1, r_eChain, oOrd, oInt, oIs, isN, mkTup, mkLst, datas, r_sRaise, r_eSortSet, r_eM1, PyData.canLayAll0, PyData.showableAll, PyData.hasDictAll, PyData.eqvAll, *]
end
theorem e_equal (xs : List PyData) (S : Sto) (h : gdAll xs = true) (hd : PyData.depthAll xs ≤ 50) (hw : wtAll xs ≤ 1000000) : den__law_equal [.d (.tuple xs), .d (.tuple xs)] S = .ok (.d (.bool true)) S := by
  have hg : gd (.tuple xs) = true := by simpa only [gd] using h
  obtain ⟨h1, h2, h3, h4⟩ := gd_ok _ hg
  have hs := gd_shown _ hg
  simp only [wt] at hs
  have hp : (PyData.tuple xs).depth ≤ 51 := by simp only [PyData.depth]; omega
  have sh : SeqAt.shaped (.tuple xs) = true := by
    unfold SeqAt.shaped
    rw [h1, Bool.true_and]
    exact decide_eq_true (by omega)
  have ok : okShow (.tuple xs) = true := by
    unfold okShow
    rw [h2, h3, decide_eq_true (show (PyData.tuple xs).depth ≤ 60 by omega), decide_eq_true (show (PyData.tuple xs).shown.length ≤ sizeLine by rw [sizeLine_eq]; omega)]
    rfl
  have e1 : oEq (.d (.tuple xs)) (.d (.tuple xs)) S = .ok (.d (.bool true)) S := by
    unfold oEq
    simp only [sh, h4]
    rfl
  have e2 : hStr [.d (.tuple xs)] S = .ok (.d (.str (PyData.tuple xs).shown)) S := by
    unfold hStr
    simp only [isCon, ok]
    rfl
  have e3 : ∀ s : Str, oEq (.d (.str s)) (.d (.str s)) S = .ok (.d (.bool true)) S := fun s => by simp [bind_ok, bind_exc, bind_stuck, lift_ok, lift_exc, calm_ok, bind_if, lift_if, calm_if, r_fn, r_sRet, r_sRetN, r_sSeq, r_sExpr, r_sIf, r_sAsg, r_sNil, r_aName, aNils, aConss, aTup, eVar, r_eC, r_eA, r_aCons, r_aNil, r_e2, r_e1, r_eB, r_toB, r_eAnd, r_eOr, r_eNot, r_bAnd, r_bOr, r_bNot, r_eIf, r_eIsi, tyOf, isTy, Tk.nm, r_dCalm, r_iBy, r_iBys, toItems, toRng1, r_eChain, oOrd, oInt, oIs, isN, mkTup, mkLst, datas, r_sRaise, r_eSortSet, r_eM1, oEq]
  simp [bind_ok, bind_exc, bind_stuck, lift_ok, lift_exc, calm_ok, bind_if, lift_if, calm_if, r_fn, r_sRet, r_sRetN, r_sSeq, r_sExpr, r_sIf, r_sAsg, r_sNil, r_aName, aNils, aConss, aTup, eVar, r_eC, r_eA, r_aCons, r_aNil, r_e2, r_e1, r_eB, r_toB, r_eAnd, r_eOr, r_eNot, r_bAnd, r_bOr, r_bNot, r_eIf, r_eIsi, tyOf, isTy, Tk.nm, r_dCalm, r_iBy, r_iBys, toItems, toRng1, r_eChain, oOrd, oInt, oIs, isN, mkTup, mkLst, datas, r_sRaise, r_eSortSet, r_eM1, den__law_equal, b__law_equal, e1, e2, e3]
end K02

end
section
namespace K02
open PySem PySem.Spec PyProof.Rows L2 Ev
/-! ### sets of figures -/
def cs (m : Nat) (l : List Nat) : List PyData := l.map fun v => .str (F m v)
def iv (l : List Nat) : List PyData := l.map fun v => .int (v : Nat)
def asc (m : Nat) (vs : List Nat) : List Nat := (List.range (3 ^ m)).filter fun v => decide (v ∈ vs)
/-- below 3 ^ m, ascending -/
structure Asc (m : Nat) (l : List Nat) : Prop where
  lt : ∀ v ∈ l, v < 3 ^ m
  pw : l.Pairwise (· < ·)
theorem asc_ok (m : Nat) (vs : List Nat) : Asc m (asc m vs) :=
  ⟨fun v h => List.mem_range.mp (List.mem_filter.mp h).1, List.Pairwise.filter _ List.pairwise_lt_range⟩
theorem Asc.filter {m : Nat} {l : List Nat} (h : Asc m l) (p : Nat → Bool) : Asc m (l.filter p) := ⟨fun v hv => h.lt v (List.mem_filter.mp hv).1, h.pw.filter p⟩
theorem mem_asc {m : Nat} {vs : List Nat} {v : Nat} : v ∈ asc m vs ↔ v < 3 ^ m ∧ v ∈ vs := by unfold asc; simp [bind_ok, bind_exc, bind_stuck, lift_ok, lift_exc, calm_ok, bind_if, lift_if, calm_if, r_fn, r_sRet, r_sRetN, r_sSeq, r_sExpr, r_sIf, r_sAsg, r_sNil, r_aName, aNils, aConss, aTup, eVar, r_eC, r_eA, r_aCons, r_aNil, r_e2, r_e1, r_eB, r_toB, r_eAnd, r_eOr, r_eNot, r_bAnd, r_bOr, r_bNot, r_eIf, r_eIsi, tyOf, isTy, Tk.nm, r_dCalm, r_iBy, r_iBys, toItems, toRng1, r_eChain, oOrd, oInt, oIs, isN, mkTup, mkLst, datas, r_sRaise, r_eSortSet, r_eM1]
theorem Asc.len {m : Nat} {l : List Nat} (h : Asc m l) : l.length ≤ 3 ^ m := by
  have n : l.Nodup := h.pw.imp fun q => Nat.ne_of_lt q
  have := List.Nodup.length_le_of_subset n (l₂ := List.range (3 ^ m)) fun v hv => List.mem_range.mpr (h.lt v hv)
  simpa [bind_ok, bind_exc, bind_stuck, lift_ok, lift_exc, calm_ok, bind_if, lift_if, calm_if, r_fn, r_sRet, r_sRetN, r_sSeq, r_sExpr, r_sIf, r_sAsg, r_sNil, r_aName, aNils, aConss, aTup, eVar, r_eC, r_eA, r_aCons, r_aNil, r_e2, r_e1, r_eB, r_toB, r_eAnd, r_eOr, r_eNot, r_bAnd, r_bOr, r_bNot, r_eIf, r_eIsi, tyOf, isTy, Tk.nm, r_dCalm, r_iBy, r_iBys, toItems, toRng1, r_eChain, oOrd, oInt, oIs, isN, mkTup, mkLst, datas, r_sRaise, r_eSortSet, r_eM1] using this
section
variable {m : Nat} (a : 1 ≤ m) (b : m ≤ 4)
include a b
theorem pow_le : 3 ^ m ≤ 81 := cases4 (P := fun m => 3 ^ m ≤ 81) (by decide) (by decide) (by decide) (by decide) m a b
theorem sI (vs : List Nat) (h : ∀ v ∈ vs, v < 3 ^ m) : sortI (vs.map fun v : Nat => (v : Int)) = (asc m vs).map fun v : Nat => (v : Int) := by
  refine one_sorted leI leI_anti (sortI_pw _) ?_ (sortI_nodup _) ?_ fun x => ?_
  · rw [List.pairwise_map]
    exact (asc_ok m vs).pw.imp fun q => decide_eq_true (by omega)
  · rw [List.nodup_iff_pairwise_ne, List.pairwise_map]
    exact (asc_ok m vs).pw.imp fun q => by omega
  · rw [mem_sortI, List.mem_map, List.mem_map]
    constructor
    · rintro ⟨v, hv, rfl⟩; exact ⟨v, mem_asc.mpr ⟨h v hv, hv⟩, rfl⟩
    · rintro ⟨v, hv, rfl⟩; exact ⟨v, (mem_asc.mp hv).2, rfl⟩
theorem sS (vs : List Nat) (h : ∀ v ∈ vs, v < 3 ^ m) : sortS (vs.map (F m)) = (asc m vs).map (F m) := by
  have lt : (asc m vs).Pairwise fun v w => FL m v < FL m w := by
    refine List.Pairwise.imp_of_mem ?_ (asc_ok m vs).pw
    intro v w hv hw q
    exact F_lt a b ((asc_ok m vs).lt w hw) q
  refine one_sorted leS leS_anti (sortS_pw _) ?_ (sortS_nodup _) ?_ fun x => ?_
  · rw [List.pairwise_map]
    exact lt.imp fun q => decide_eq_true (List.le_of_lt q)
  · rw [List.nodup_iff_pairwise_ne, List.pairwise_map]
    refine lt.imp fun {v w} q e => ?_
    have e : FL m v = FL m w := by rw [← F_cps, ← F_cps, e]
    rw [e] at q
    exact List.lt_irrefl _ q
  · rw [mem_sortS, List.mem_map, List.mem_map]
    constructor
    · rintro ⟨v, hv, rfl⟩; exact ⟨v, mem_asc.mpr ⟨h v hv, hv⟩, rfl⟩
    · rintro ⟨v, hv, rfl⟩; exact ⟨v, (mem_asc.mp hv).2, rfl⟩
theorem F_txt (v : Nat) : txtB (F m v) = true := by
  unfold txtB
  rw [F_cps, List.all_eq_true]
  intro c hc
  rcases FL_dig m v c hc with rfl | rfl | rfl <;> decide +kernel
theorem F_card (v : Nat) : cardB m (.str (F m v)) = true := by
  simp [bind_ok, bind_exc, bind_stuck, lift_ok, lift_exc, calm_ok, bind_if, lift_if, calm_if, r_fn, r_sRet, r_sRetN, r_sSeq, r_sExpr, r_sIf, r_sAsg, r_sNil, r_aName, aNils, aConss, aTup, eVar, r_eC, r_eA, r_aCons, r_aNil, r_e2, r_e1, r_eB, r_toB, r_eAnd, r_eOr, r_eNot, r_bAnd, r_bOr, r_bNot, r_eIf, r_eIsi, tyOf, isTy, Tk.nm, r_dCalm, r_iBy, r_iBys, toItems, toRng1, r_eChain, oOrd, oInt, oIs, isN, mkTup, mkLst, datas, r_sRaise, r_eSortSet, r_eM1, cardB, F_txt a b v, F_len]
theorem F_ok (v : Nat) : okX (.str (F m v)) = true := by
  simp [bind_ok, bind_exc, bind_stuck, lift_ok, lift_exc, calm_ok, bind_if, lift_if, calm_if, r_fn, r_sRet, r_sRetN, r_sSeq, r_sExpr, r_sIf, r_sAsg, r_sNil, r_aName, aNils, aConss, aTup, eVar, r_eC, r_eA, r_aCons, r_aNil, r_e2, r_e1, r_eB, r_toB, r_eAnd, r_eOr, r_eNot, r_bAnd, r_bOr, r_bNot, r_eIf, r_eIsi, tyOf, isTy, Tk.nm, r_dCalm, r_iBy, r_iBys, toItems, toRng1, r_eChain, oOrd, oInt, oIs, isN, mkTup, mkLst, datas, r_sRaise, r_eSortSet, r_eM1, okX, F_len, sizeLine_eq]; omega
theorem F_asc : ∀ {l : List Nat}, Asc m l → ascB (l.map (F m)) = true
  | [], _ => rfl
  | [_], _ => rfl
  | v :: w :: r, h => by
    have h2 : Asc m (w :: r) := ⟨fun x hx => h.lt x (List.mem_cons_of_mem _ hx), (List.pairwise_cons.mp h.pw).2⟩
    have h1 : v < w := (List.pairwise_cons.mp h.pw).1 w (by simp [bind_ok, bind_exc, bind_stuck, lift_ok, lift_exc, calm_ok, bind_if, lift_if, calm_if, r_fn, r_sRet, r_sRetN, r_sSeq, r_sExpr, r_sIf, r_sAsg, r_sNil, r_aName, aNils, aConss, aTup, eVar, r_eC, r_eA, r_aCons, r_aNil, r_e2, r_e1, r_eB, r_toB, r_eAnd, r_eOr, r_eNot, r_bAnd, r_bOr, r_bNot, r_eIf, r_eIsi, tyOf, isTy, Tk.nm, r_dCalm, r_iBy, r_iBys, toItems, toRng1, r_eChain, oOrd, oInt, oIs, isN, mkTup, mkLst, datas, r_sRaise, r_eSortSet, r_eM1])
    have ih := F_asc h2
    rw [List.map_cons, List.map_cons, ascB, Bool.and_eq_true]
    exact ⟨decide_eq_true (F_lt a b (h.lt w (by simp [bind_ok, bind_exc, bind_stuck, lift_ok, lift_exc, calm_ok, bind_if, lift_if, calm_if, r_fn, r_sRet, r_sRetN, r_sSeq, r_sExpr, r_sIf, r_sAsg, r_sNil, r_aName, aNils, aConss, aTup, eVar, r_eC, r_eA, r_aCons, r_aNil, r_e2, r_e1, r_eB, r_toB, r_eAnd, r_eOr, r_eNot, r_bAnd, r_bOr, r_bNot, r_eIf, r_eIsi, tyOf, isTy, Tk.nm, r_dCalm, r_iBy, r_iBys, toItems, toRng1, r_eChain, oOrd, oInt, oIs, isN, mkTup, mkLst, datas, r_sRaise, r_eSortSet, r_eM1])) h1), by simpa [bind_ok, bind_exc, bind_stuck, lift_ok, lift_exc, calm_ok, bind_if, lift_if, calm_if, r_fn, r_sRet, r_sRetN, r_sSeq, r_sExpr, r_sIf, r_sAsg, r_sNil, r_aName, aNils, aConss, aTup, eVar, r_eC, r_eA, r_aCons, r_aNil, r_e2, r_e1, r_eB, r_toB, r_eAnd, r_eOr, r_eNot, r_bAnd, r_bOr, r_bNot, r_eIf, r_eIsi, tyOf, isTy, Tk.nm, r_dCalm, r_iBy, r_iBys, toItems, toRng1, r_eChain, oOrd, oInt, oIs, isN, mkTup, mkLst, datas, r_sRaise, r_eSortSet, r_eM1] using ih⟩
theorem txs_cs (l : List Nat) : txs (cs m l) = l.map (F m) := by
  induction l with
  | nil => rfl
  | cons v r ih => simp only [cs, List.map_cons, txs] at ih ⊢; rw [ih]
theorem cs_all (l : List Nat) : (cs m l).all (cardB m) = true := by
  rw [List.all_eq_true]
  intro x hx
  obtain ⟨v, _, rfl⟩ := List.mem_map.mp hx
  exact F_card a b v
theorem H_ok {l : List Nat} (h : Asc m l) : handB m (.tuple (cs m l)) = true := by
  show ((cs m l).all (cardB (m : Nat)) && ascB (txs (cs m l))) = true
  rw [cs_all a b, txs_cs a b, F_asc a b h]; rfl
theorem H_okH {l : List Nat} (h : l.length ≤ 4000) : okH (.tuple (cs m l)) = true := by
  unfold okH
  rw [Bool.and_eq_true]
  refine ⟨?_, decide_eq_true (by rw [sizeLine_eq]; simp [bind_ok, bind_exc, bind_stuck, lift_ok, lift_exc, calm_ok, bind_if, lift_if, calm_if, r_fn, r_sRet, r_sRetN, r_sSeq, r_sExpr, r_sIf, r_sAsg, r_sNil, r_aName, aNils, aConss, aTup, eVar, r_eC, r_eA, r_aCons, r_aNil, r_e2, r_e1, r_eB, r_toB, r_eAnd, r_eOr, r_eNot, r_bAnd, r_bOr, r_bNot, r_eIf, r_eIsi, tyOf, isTy, Tk.nm, r_dCalm, r_iBy, r_iBys, toItems, toRng1, r_eChain, oOrd, oInt, oIs, isN, mkTup, mkLst, datas, r_sRaise, r_eSortSet, r_eM1, cs]; omega)⟩
  rw [List.all_eq_true]
  intro x hx
  obtain ⟨v, _, rfl⟩ := List.mem_map.mp hx
  exact F_ok a b v
theorem intsOf_iv (l : List Nat) : intsOf (iv l) = some (l.map fun v : Nat => (v : Int)) := by
  induction l with
  | nil => rfl
  | cons v r ih => simp only [iv, List.map_cons, intsOf] at ih ⊢; rw [ih]; rfl
theorem strsOf_cs : ∀ l : List Nat, strsOf (cs m l) = some (l.map (F m))
  | [] => rfl
  | v :: r => by
    have ih := strsOf_cs r
    simp only [cs, List.map_cons, strsOf] at ih ⊢
    rw [ih]; rfl
theorem intsOf_cs {v : Nat} {r : List Nat} : intsOf (cs m (v :: r)) = none := rfl
theorem e_lawhand {vs : List Nat} (h : ∀ v ∈ vs, v < 3 ^ m) (hl : vs.length < 4000) (S : Sto) : den__law_hand [.d (.int (m : Nat)), .d (.list (iv vs))] S = .ok (.d (.tuple (cs m (asc m vs)))) S := by
  have hs : hSortSet (.d (.list (iv vs))) S = .ok (.d (.list (iv (asc m vs)))) S := by
    unfold hSortSet
    simp only [asListZ, asList, Option.some_or]
    rw [if_pos (by simpa [bind_ok, bind_exc, bind_stuck, lift_ok, lift_exc, calm_ok, bind_if, lift_if, calm_if, r_fn, r_sRet, r_sRetN, r_sSeq, r_sExpr, r_sIf, r_sAsg, r_sNil, r_aName, aNils, aConss, aTup, eVar, r_eC, r_eA, r_aCons, r_aNil, r_e2, r_e1, r_eB, r_toB, r_eAnd, r_eOr, r_eNot, r_bAnd, r_bOr, r_bNot, r_eIf, r_eIsi, tyOf, isTy, Tk.nm, r_dCalm, r_iBy, r_iBys, toItems, toRng1, r_eChain, oOrd, oInt, oIs, isN, mkTup, mkLst, datas, r_sRaise, r_eSortSet, r_eM1, iv] using hl), intsOf_iv a b]
    simp only [sI a b vs h]
    simp [bind_ok, bind_exc, bind_stuck, lift_ok, lift_exc, calm_ok, bind_if, lift_if, calm_if, r_fn, r_sRet, r_sRetN, r_sSeq, r_sExpr, r_sIf, r_sAsg, r_sNil, r_aName, aNils, aConss, aTup, eVar, r_eC, r_eA, r_aCons, r_aNil, r_e2, r_e1, r_eB, r_toB, r_eAnd, r_eOr, r_eNot, r_bAnd, r_bOr, r_bNot, r_eIf, r_eIsi, tyOf, isTy, Tk.nm, r_dCalm, r_iBy, r_iBys, toItems, toRng1, r_eChain, oOrd, oInt, oIs, isN, mkTup, mkLst, datas, r_sRaise, r_eSortSet, r_eM1, iv]
  have l81 := Nat.le_trans (asc_ok m vs).len (pow_le a b)
  have key := eComp_map (w := fun v : Nat => .d (.int (v : Nat))) (vs := [2]) (fi := iBy toItems (eSortSet (eVar 1))) (t := .nm 2) (p := pYes) (f := eA den__law_figures (aCons (eVar 0) (aCons (eVar 2) aNil))) (ρ := [some (.d (.int (m : Nat))), some (.d (.list (iv vs))), none]) (S := S) (S1 := S) (l := asc m vs)
    (fun v => [some (.d (.int (m : Nat))), some (.d (.list (iv vs))), some (.d (.int (v : Nat)))]) (fun _ => true) (fun v => .str (F m v)) (by simp [bind_ok, bind_exc, bind_stuck, lift_ok, lift_exc, calm_ok, bind_if, lift_if, calm_if, r_fn, r_sRet, r_sRetN, r_sSeq, r_sExpr, r_sIf, r_sAsg, r_sNil, r_aName, aNils, aConss, aTup, eVar, r_eC, r_eA, r_aCons, r_aNil, r_e2, r_e1, r_eB, r_toB, r_eAnd, r_eOr, r_eNot, r_bAnd, r_bOr, r_bNot, r_eIf, r_eIsi, tyOf, isTy, Tk.nm, r_dCalm, r_iBy, r_iBys, toItems, toRng1, r_eChain, oOrd, oInt, oIs, isN, mkTup, mkLst, datas, r_sRaise, r_eSortSet, r_eM1, eSortSet, hs]; simp [bind_ok, bind_exc, bind_stuck, lift_ok, lift_exc, calm_ok, bind_if, lift_if, calm_if, r_fn, r_sRet, r_sRetN, r_sSeq, r_sExpr, r_sIf, r_sAsg, r_sNil, r_aName, aNils, aConss, aTup, eVar, r_eC, r_eA, r_aCons, r_aNil, r_e2, r_e1, r_eB, r_toB, r_eAnd, r_eOr, r_eNot, r_bAnd, r_bOr, r_bNot, r_eIf, r_eIsi, tyOf, isTy, Tk.nm, r_dCalm, r_iBy, r_iBys, toItems, toRng1, r_eChain, oOrd, oInt, oIs, isN, mkTup, mkLst, datas, r_sRaise, r_eSortSet, r_eM1, iv]) (by rw [sizeLine_eq]; omega) (fun x hx => rfl) (fun x hx => rfl) (fun x hx _ => by simp [bind_ok, bind_exc, bind_stuck, lift_ok, lift_exc, calm_ok, bind_if, lift_if, calm_if, r_fn, r_sRet, r_sRetN, r_sSeq, r_sExpr, r_sIf, r_sAsg, r_sNil, r_aName, aNils, aConss, aTup, eVar, r_eC, r_eA, r_aCons, r_aNil, r_e2, r_e1, r_eB, r_toB, r_eAnd, r_eOr, r_eNot, r_bAnd, r_bOr, r_bNot, r_eIf, r_eIsi, tyOf, isTy, Tk.nm, r_dCalm, r_iBy, r_iBys, toItems, toRng1, r_eChain, oOrd, oInt, oIs, isN, mkTup, mkLst, datas, r_sRaise, r_eSortSet, r_eM1, f_fig a b ((asc_ok m vs).lt x hx)])
  rw [filter_true] at key
  simp [bind_ok, bind_exc, bind_stuck, lift_ok, lift_exc, calm_ok, bind_if, lift_if, calm_if, r_fn, r_sRet, r_sRetN, r_sSeq, r_sExpr, r_sIf, r_sAsg, r_sNil, r_aName, aNils, aConss, aTup, eVar, r_eC, r_eA, r_aCons, r_aNil, r_e2, r_e1, r_eB, r_toB, r_eAnd, r_eOr, r_eNot, r_bAnd, r_bOr, r_bNot, r_eIf, r_eIsi, tyOf, isTy, Tk.nm, r_dCalm, r_iBy, r_iBys, toItems, toRng1, r_eChain, oOrd, oInt, oIs, isN, mkTup, mkLst, datas, r_sRaise, r_eSortSet, r_eM1, den__law_hand, b__law_hand, key, hTuple, asListZ, asList, cs]
theorem e_marks (S : Sto) : den_check_marks [.d (.int (m : Nat))] S = .ok (.d .none) S := by
  have h1 : (1 : Int) ≤ (m : Nat) := by omega
  have h2 : ((m : Nat) : Int) ≤ 4 := by omega
  simp [bind_ok, bind_exc, bind_stuck, lift_ok, lift_exc, calm_ok, bind_if, lift_if, calm_if, r_fn, r_sRet, r_sRetN, r_sSeq, r_sExpr, r_sIf, r_sAsg, r_sNil, r_aName, aNils, aConss, aTup, eVar, r_eC, r_eA, r_aCons, r_aNil, r_e2, r_e1, r_eB, r_toB, r_eAnd, r_eOr, r_eNot, r_bAnd, r_bOr, r_bNot, r_eIf, r_eIsi, tyOf, isTy, Tk.nm, r_dCalm, r_iBy, r_iBys, toItems, toRng1, r_eChain, oOrd, oInt, oIs, isN, mkTup, mkLst, datas, r_sRaise, r_eSortSet, r_eM1, den_check_marks, b_check_marks, e_is_mark, h1, h2]
theorem e_chkhand {x : PyData} (S : Sto) (h : okH x = true) (h2 : handB m x = true) : den_check_hand [.d (.int (m : Nat)), .d x] S = .ok (.d .none) S := by
  simp [bind_ok, bind_exc, bind_stuck, lift_ok, lift_exc, calm_ok, bind_if, lift_if, calm_if, r_fn, r_sRet, r_sRetN, r_sSeq, r_sExpr, r_sIf, r_sAsg, r_sNil, r_aName, aNils, aConss, aTup, eVar, r_eC, r_eA, r_aCons, r_aNil, r_e2, r_e1, r_eB, r_toB, r_eAnd, r_eOr, r_eNot, r_bAnd, r_bOr, r_bNot, r_eIf, r_eIsi, tyOf, isTy, Tk.nm, r_dCalm, r_iBy, r_iBys, toItems, toRng1, r_eChain, oOrd, oInt, oIs, isN, mkTup, mkLst, datas, r_sRaise, r_eSortSet, r_eM1, den_check_hand, b_check_hand, e_hand m x S h, h2]
theorem e_marked {x : PyData} (S : Sto) (h : okH x = true) (h2 : handB m x = true) : den_check_marked_hand [.d (.int (m : Nat)), .d x] S = .ok (.d .none) S := by
  simp [bind_ok, bind_exc, bind_stuck, lift_ok, lift_exc, calm_ok, bind_if, lift_if, calm_if, r_fn, r_sRet, r_sRetN, r_sSeq, r_sExpr, r_sIf, r_sAsg, r_sNil, r_aName, aNils, aConss, aTup, eVar, r_eC, r_eA, r_aCons, r_aNil, r_e2, r_e1, r_eB, r_toB, r_eAnd, r_eOr, r_eNot, r_bAnd, r_bOr, r_bNot, r_eIf, r_eIsi, tyOf, isTy, Tk.nm, r_dCalm, r_iBy, r_iBys, toItems, toRng1, r_eChain, oOrd, oInt, oIs, isN, mkTup, mkLst, datas, r_sRaise, r_eSortSet, r_eM1, den_check_marked_hand, b_check_marked_hand, e_marks a b, e_chkhand a b S h h2]
theorem e_two {x y : PyData} (S : Sto) (h : okH x = true) (h2 : handB m x = true) (h3 : okH y = true) (h4 : handB m y = true) : den_check_two_hands [.d (.int (m : Nat)), .d x, .d y] S = .ok (.d .none) S := by
  simp [bind_ok, bind_exc, bind_stuck, lift_ok, lift_exc, calm_ok, bind_if, lift_if, calm_if, r_fn, r_sRet, r_sRetN, r_sSeq, r_sExpr, r_sIf, r_sAsg, r_sNil, r_aName, aNils, aConss, aTup, eVar, r_eC, r_eA, r_aCons, r_aNil, r_e2, r_e1, r_eB, r_toB, r_eAnd, r_eOr, r_eNot, r_bAnd, r_bOr, r_bNot, r_eIf, r_eIsi, tyOf, isTy, Tk.nm, r_dCalm, r_iBy, r_iBys, toItems, toRng1, r_eChain, oOrd, oInt, oIs, isN, mkTup, mkLst, datas, r_sRaise, r_eSortSet, r_eM1, den_check_two_hands, b_check_two_hands, e_marked a b S h h2, e_chkhand a b S h3 h4]
theorem e_ashand {vs : List Nat} (h : ∀ v ∈ vs, v < 3 ^ m) (hl : vs.length < 4000) (S : Sto) : den_as_hand [.d (.tuple (cs m vs))] S = .ok (.d (.tuple (cs m (asc m vs)))) S := by
  have hs : hSortSet (.d (.tuple (cs m vs))) S = .ok (.d (.list (cs m (asc m vs)))) S := by
    unfold hSortSet
    simp only [asListZ, asList, asTup, Option.none_or]
    rw [if_pos (by simpa [bind_ok, bind_exc, bind_stuck, lift_ok, lift_exc, calm_ok, bind_if, lift_if, calm_if, r_fn, r_sRet, r_sRetN, r_sSeq, r_sExpr, r_sIf, r_sAsg, r_sNil, r_aName, aNils, aConss, aTup, eVar, r_eC, r_eA, r_aCons, r_aNil, r_e2, r_e1, r_eB, r_toB, r_eAnd, r_eOr, r_eNot, r_bAnd, r_bOr, r_bNot, r_eIf, r_eIsi, tyOf, isTy, Tk.nm, r_dCalm, r_iBy, r_iBys, toItems, toRng1, r_eChain, oOrd, oInt, oIs, isN, mkTup, mkLst, datas, r_sRaise, r_eSortSet, r_eM1, cs] using hl)]
    cases vs with
    | nil =>
      have e : asc m [] = [] := by unfold asc; simp [bind_ok, bind_exc, bind_stuck, lift_ok, lift_exc, calm_ok, bind_if, lift_if, calm_if, r_fn, r_sRet, r_sRetN, r_sSeq, r_sExpr, r_sIf, r_sAsg, r_sNil, r_aName, aNils, aConss, aTup, eVar, r_eC, r_eA, r_aCons, r_aNil, r_e2, r_e1, r_eB, r_toB, r_eAnd, r_eOr, r_eNot, r_bAnd, r_bOr, r_bNot, r_eIf, r_eIsi, tyOf, isTy, Tk.nm, r_dCalm, r_iBy, r_iBys, toItems, toRng1, r_eChain, oOrd, oInt, oIs, isN, mkTup, mkLst, datas, r_sRaise, r_eSortSet, r_eM1]
      rw [e]
      have e2 : sortI [] = [] := by unfold sortI dd; simp [bind_ok, bind_exc, bind_stuck, lift_ok, lift_exc, calm_ok, bind_if, lift_if, calm_if, r_fn, r_sRet, r_sRetN, r_sSeq, r_sExpr, r_sIf, r_sAsg, r_sNil, r_aName, aNils, aConss, aTup, eVar, r_eC, r_eA, r_aCons, r_aNil, r_e2, r_e1, r_eB, r_toB, r_eAnd, r_eOr, r_eNot, r_bAnd, r_bOr, r_bNot, r_eIf, r_eIsi, tyOf, isTy, Tk.nm, r_dCalm, r_iBy, r_iBys, toItems, toRng1, r_eChain, oOrd, oInt, oIs, isN, mkTup, mkLst, datas, r_sRaise, r_eSortSet, r_eM1]
      show Out.ok (Vl.d (.list ((sortI []).map .int))) S = Out.ok (Vl.d (.list [])) S
      rw [e2]; rfl
    | cons v r =>
      rw [intsOf_cs a b, strsOf_cs a b]
      simp only [sS a b (v :: r) h]
      simp [bind_ok, bind_exc, bind_stuck, lift_ok, lift_exc, calm_ok, bind_if, lift_if, calm_if, r_fn, r_sRet, r_sRetN, r_sSeq, r_sExpr, r_sIf, r_sAsg, r_sNil, r_aName, aNils, aConss, aTup, eVar, r_eC, r_eA, r_aCons, r_aNil, r_e2, r_e1, r_eB, r_toB, r_eAnd, r_eOr, r_eNot, r_bAnd, r_bOr, r_bNot, r_eIf, r_eIsi, tyOf, isTy, Tk.nm, r_dCalm, r_iBy, r_iBys, toItems, toRng1, r_eChain, oOrd, oInt, oIs, isN, mkTup, mkLst, datas, r_sRaise, r_eSortSet, r_eM1, cs]
  simp [bind_ok, bind_exc, bind_stuck, lift_ok, lift_exc, calm_ok, bind_if, lift_if, calm_if, r_fn, r_sRet, r_sRetN, r_sSeq, r_sExpr, r_sIf, r_sAsg, r_sNil, r_aName, aNils, aConss, aTup, eVar, r_eC, r_eA, r_aCons, r_aNil, r_e2, r_e1, r_eB, r_toB, r_eAnd, r_eOr, r_eNot, r_bAnd, r_bOr, r_bNot, r_eIf, r_eIsi, tyOf, isTy, Tk.nm, r_dCalm, r_iBy, r_iBys, toItems, toRng1, r_eChain, oOrd, oInt, oIs, isN, mkTup, mkLst, datas, r_sRaise, r_eSortSet, r_eM1, den_as_hand, b_as_hand, eSortSet, hs, hTuple, asListZ, asList]

theorem loop_cards : ∀ (vs : List Nat) (k : Nat) (S : Sto) (x : PyData) (y z : Option Vl), ∃ y' z', loopF (aTup 2 (aConss (aName 2) (aConss (aName 3) aNils))) (sIf (bNot (eB (eA den_is_card_of (aCons (eVar 0) (aCons (eVar 3) aNil))))) (sRaise "InvalidCards" (eVar 2)) sNil) (Ev.numbered k (cs m vs)) [some (.d (.int (m : Nat))), some (.d x), y, z] S
    = .ok (.nx [some (.d (.int (m : Nat))), some (.d x), y', z']) S
  | [], k, S, x, y, z => ⟨y, z, by simp only [cs, List.map_nil, Ev.numbered, r_loop0]⟩
  | v :: r, k, S, x, y, z => by
    obtain ⟨y', z', ih⟩ := loop_cards r (k + 1) S x (some (.d (.int (k : Nat)))) (some (.d (.str (F m v))))
    refine ⟨y', z', ?_⟩
    rw [← ih]
    simp [bind_ok, bind_exc, bind_stuck, lift_ok, lift_exc, calm_ok, bind_if, lift_if, calm_if, r_fn, r_sRet, r_sRetN, r_sSeq, r_sExpr, r_sIf, r_sAsg, r_sNil, r_aName, aNils, aConss, aTup, eVar, r_eC, r_eA, r_aCons, r_aNil, r_e2, r_e1, r_eB, r_toB, r_eAnd, r_eOr, r_eNot, r_bAnd, r_bOr, r_bNot, r_eIf, r_eIsi, tyOf, isTy, Tk.nm, r_dCalm, r_iBy, r_iBys, toItems, toRng1, r_eChain, oOrd, oInt, oIs, isN, mkTup, mkLst, datas, r_sRaise, r_eSortSet, r_eM1, cs, Ev.numbered, r_loop1, e_card m (.str (F m v)) S (F_ok a b v), F_card a b v]
theorem e_chkcards (vs : List Nat) (S : Sto) : den_check_cards [.d (.int (m : Nat)), .d (.tuple (cs m vs))] S = .ok (.d .none) S := by
  obtain ⟨y', z', h⟩ := loop_cards a b vs 0 S (.tuple (cs m vs)) none none
  simp [bind_ok, bind_exc, bind_stuck, lift_ok, lift_exc, calm_ok, bind_if, lift_if, calm_if, r_fn, r_sRet, r_sRetN, r_sSeq, r_sExpr, r_sIf, r_sAsg, r_sNil, r_aName, aNils, aConss, aTup, eVar, r_eC, r_eA, r_aCons, r_aNil, r_e2, r_e1, r_eB, r_toB, r_eAnd, r_eOr, r_eNot, r_bAnd, r_bOr, r_bNot, r_eIf, r_eIsi, tyOf, isTy, Tk.nm, r_dCalm, r_iBy, r_iBys, toItems, toRng1, r_eChain, oOrd, oInt, oIs, isN, mkTup, mkLst, datas, r_sRaise, r_eSortSet, r_eM1, den_check_cards, b_check_cards, r_sFor, iEnumT, asTup, h]
theorem e_hand_of {vs : List Nat} (h : ∀ v ∈ vs, v < 3 ^ m) (hl : vs.length < 4000) (S : Sto) : den_hand_of [.d (.int (m : Nat)), .d (.tuple (cs m vs))] S = .ok (.d (.tuple (cs m (asc m vs)))) S := by
  simp [bind_ok, bind_exc, bind_stuck, lift_ok, lift_exc, calm_ok, bind_if, lift_if, calm_if, r_fn, r_sRet, r_sRetN, r_sSeq, r_sExpr, r_sIf, r_sAsg, r_sNil, r_aName, aNils, aConss, aTup, eVar, r_eC, r_eA, r_aCons, r_aNil, r_e2, r_e1, r_eB, r_toB, r_eAnd, r_eOr, r_eNot, r_bAnd, r_bOr, r_bNot, r_eIf, r_eIsi, tyOf, isTy, Tk.nm, r_dCalm, r_iBy, r_iBys, toItems, toRng1, r_eChain, oOrd, oInt, oIs, isN, mkTup, mkLst, datas, r_sRaise, r_eSortSet, r_eM1, den_hand_of, b_hand_of, e_marks a b, e_chkcards a b, e_ashand a b h hl]
theorem canLay_cs (l : List Nat) : PyData.canLayAll0 (cs m l) = true := by
  induction l with
  | nil => rfl
  | cons v r ih =>
    simp only [cs, List.map_cons, PyData.canLayAll0, PyData.canLay0, PyData.strOk] at ih ⊢
    rw [ih, Bool.and_true, ← Array.all_toList, F_cps, List.all_eq_true]
    intro c hc
    rcases FL_dig m v c hc with rfl | rfl | rfl <;> decide
theorem F_shaped (v : Nat) : SeqAt.shaped (.str (F m v)) = true := by
  have h := canLay_cs a b [v]
  simp only [cs, List.map_cons, List.map_nil, PyData.canLayAll0, Bool.and_true] at h
  unfold SeqAt.shaped
  rw [h]
  rfl
theorem mem_cs {l : List Nat} (h : ∀ v ∈ l, v < 3 ^ m) {v : Nat} (hv : v < 3 ^ m) : memB (.str (F m v)) (cs m l) = decide (v ∈ l) := by
  unfold memB cs
  rw [Bool.eq_iff_iff, List.any_map, List.any_eq_true, decide_eq_true_eq]
  constructor
  · rintro ⟨w, hw, e⟩
    have e : F m w = F m v := by simpa [bind_ok, bind_exc, bind_stuck, lift_ok, lift_exc, calm_ok, bind_if, lift_if, calm_if, r_fn, r_sRet, r_sRetN, r_sSeq, r_sExpr, r_sIf, r_sAsg, r_sNil, r_aName, aNils, aConss, aTup, eVar, r_eC, r_eA, r_aCons, r_aNil, r_e2, r_e1, r_eB, r_toB, r_eAnd, r_eOr, r_eNot, r_bAnd, r_bOr, r_bNot, r_eIf, r_eIsi, tyOf, isTy, Tk.nm, r_dCalm, r_iBy, r_iBys, toItems, toRng1, r_eChain, oOrd, oInt, oIs, isN, mkTup, mkLst, datas, r_sRaise, r_eSortSet, r_eM1, PyData.eqv] using e
    rw [← F_inj a b (h w hw) hv e]; exact hw
  · intro q; exact ⟨v, q, by simp [bind_ok, bind_exc, bind_stuck, lift_ok, lift_exc, calm_ok, bind_if, lift_if, calm_if, r_fn, r_sRet, r_sRetN, r_sSeq, r_sExpr, r_sIf, r_sAsg, r_sNil, r_aName, aNils, aConss, aTup, eVar, r_eC, r_eA, r_aCons, r_aNil, r_e2, r_e1, r_eB, r_toB, r_eAnd, r_eOr, r_eNot, r_bAnd, r_bOr, r_bNot, r_eIf, r_eIsi, tyOf, isTy, Tk.nm, r_dCalm, r_iBy, r_iBys, toItems, toRng1, r_eChain, oOrd, oInt, oIs, isN, mkTup, mkLst, datas, r_sRaise, r_eSortSet, r_eM1, PyData.eqv]⟩
theorem e_in {l : List Nat} (h : ∀ v ∈ l, v < 3 ^ m) {v : Nat} (hv : v < 3 ^ m) (S : Sto) : oIn false (.d (.str (F m v))) (.d (.tuple (cs m l))) S = .ok (.d (.bool (decide (v ∈ l)))) S := by
  have ok : okMem (.str (F m v)) (cs m l) = true := by unfold okMem; rw [canLay_cs a b, F_shaped a b]; rfl
  unfold oIn
  simp only [ok, if_true, mem_cs a b h hv]
  rfl
theorem e_notin {l : List Nat} (h : ∀ v ∈ l, v < 3 ^ m) {v : Nat} (hv : v < 3 ^ m) (S : Sto) : oIn true (.d (.str (F m v))) (.d (.tuple (cs m l))) S = .ok (.d (.bool (!decide (v ∈ l)))) S := by
  have ok : okMem (.str (F m v)) (cs m l) = true := by unfold okMem; rw [canLay_cs a b, F_shaped a b]; rfl
  unfold oIn
  simp only [ok, if_true, mem_cs a b h hv]
theorem e_others {l : List Nat} (h : ∀ v ∈ l, v < 3 ^ m) (S : Sto) : den_others_of [.d (.int (m : Nat)), .d (.tuple (cs m l))] S = .ok (.d (.list (cs m ((List.range (3 ^ m)).filter fun v => !decide (v ∈ l))))) S := by
  have key := eComp_map (w := fun v : Nat => .d (.str (F m v))) (vs := [2]) (fi := iBy toItems (eA den_deck_of (aCons (eVar 0) aNil))) (t := .nm 2) (p := eB (e2 (oIn true) (eVar 2) (eVar 1))) (f := eVar 2) (ρ := [some (.d (.int (m : Nat))), some (.d (.tuple (cs m l))), none]) (S := S) (S1 := S) (l := List.range (3 ^ m))
    (fun v => [some (.d (.int (m : Nat))), some (.d (.tuple (cs m l))), some (.d (.str (F m v)))]) (fun v => !decide (v ∈ l)) (fun v => .str (F m v)) (by simp [bind_ok, bind_exc, bind_stuck, lift_ok, lift_exc, calm_ok, bind_if, lift_if, calm_if, r_fn, r_sRet, r_sRetN, r_sSeq, r_sExpr, r_sIf, r_sAsg, r_sNil, r_aName, aNils, aConss, aTup, eVar, r_eC, r_eA, r_aCons, r_aNil, r_e2, r_e1, r_eB, r_toB, r_eAnd, r_eOr, r_eNot, r_bAnd, r_bOr, r_bNot, r_eIf, r_eIsi, tyOf, isTy, Tk.nm, r_dCalm, r_iBy, r_iBys, toItems, toRng1, r_eChain, oOrd, oInt, oIs, isN, mkTup, mkLst, datas, r_sRaise, r_eSortSet, r_eM1, f_deckof a b]) (by rw [List.length_range, sizeLine_eq]; have := pow_le a b; omega) (fun x hx => rfl) (fun x hx => by simp [bind_ok, bind_exc, bind_stuck, lift_ok, lift_exc, calm_ok, bind_if, lift_if, calm_if, r_fn, r_sRet, r_sRetN, r_sSeq, r_sExpr, r_sIf, r_sAsg, r_sNil, r_aName, aNils, aConss, aTup, eVar, r_eC, r_eA, r_aCons, r_aNil, r_e2, r_e1, r_eB, r_toB, r_eAnd, r_eOr, r_eNot, r_bAnd, r_bOr, r_bNot, r_eIf, r_eIsi, tyOf, isTy, Tk.nm, r_dCalm, r_iBy, r_iBys, toItems, toRng1, r_eChain, oOrd, oInt, oIs, isN, mkTup, mkLst, datas, r_sRaise, r_eSortSet, r_eM1, e_notin a b h (List.mem_range.mp hx)]) (fun x hx _ => by simp [bind_ok, bind_exc, bind_stuck, lift_ok, lift_exc, calm_ok, bind_if, lift_if, calm_if, r_fn, r_sRet, r_sRetN, r_sSeq, r_sExpr, r_sIf, r_sAsg, r_sNil, r_aName, aNils, aConss, aTup, eVar, r_eC, r_eA, r_aCons, r_aNil, r_e2, r_e1, r_eB, r_toB, r_eAnd, r_eOr, r_eNot, r_bAnd, r_bOr, r_bNot, r_eIf, r_eIsi, tyOf, isTy, Tk.nm, r_dCalm, r_iBy, r_iBys, toItems, toRng1, r_eChain, oOrd, oInt, oIs, isN, mkTup, mkLst, datas, r_sRaise, r_eSortSet, r_eM1])
  simp [bind_ok, bind_exc, bind_stuck, lift_ok, lift_exc, calm_ok, bind_if, lift_if, calm_if, r_fn, r_sRet, r_sRetN, r_sSeq, r_sExpr, r_sIf, r_sAsg, r_sNil, r_aName, aNils, aConss, aTup, eVar, r_eC, r_eA, r_aCons, r_aNil, r_e2, r_e1, r_eB, r_toB, r_eAnd, r_eOr, r_eNot, r_bAnd, r_bOr, r_bNot, r_eIf, r_eIsi, tyOf, isTy, Tk.nm, r_dCalm, r_iBy, r_iBys, toItems, toRng1, r_eChain, oOrd, oInt, oIs, isN, mkTup, mkLst, datas, r_sRaise, r_eSortSet, r_eM1, den_others_of, b_others_of, key]
  rfl
theorem e_rest_of {l : List Nat} (h : Asc m l) (S : Sto) : den_rest_of [.d (.int (m : Nat)), .d (.tuple (cs m l))] S = .ok (.d (.tuple (cs m ((List.range (3 ^ m)).filter fun v => !decide (v ∈ l))))) S := by
  have hl := Nat.le_trans h.len (pow_le a b)
  simp [bind_ok, bind_exc, bind_stuck, lift_ok, lift_exc, calm_ok, bind_if, lift_if, calm_if, r_fn, r_sRet, r_sRetN, r_sSeq, r_sExpr, r_sIf, r_sAsg, r_sNil, r_aName, aNils, aConss, aTup, eVar, r_eC, r_eA, r_aCons, r_aNil, r_e2, r_e1, r_eB, r_toB, r_eAnd, r_eOr, r_eNot, r_bAnd, r_bOr, r_bNot, r_eIf, r_eIsi, tyOf, isTy, Tk.nm, r_dCalm, r_iBy, r_iBys, toItems, toRng1, r_eChain, oOrd, oInt, oIs, isN, mkTup, mkLst, datas, r_sRaise, r_eSortSet, r_eM1, den_rest_of, b_rest_of, e_marked a b S (H_okH a b (l := l) (by omega)) (H_ok a b h), e_others a b h.lt, hTuple, asListZ, asList]
theorem e_bothof {l k : List Nat} (h : Asc m l) (h2 : Asc m k) (S : Sto) : den_both_of [.d (.tuple (cs m l)), .d (.tuple (cs m k))] S = .ok (.d (.tuple (cs m (l.filter fun v => decide (v ∈ k))))) S := by
  have hl := Nat.le_trans h.len (pow_le a b)
  have key := eComp_map (w := fun v : Nat => .d (.str (F m v))) (vs := [2]) (fi := iBy toItems (eVar 0)) (t := .nm 2) (p := eB (e2 (oIn false) (eVar 2) (eVar 1))) (f := eVar 2) (ρ := [some (.d (.tuple (cs m l))), some (.d (.tuple (cs m k))), none]) (S := S) (S1 := S) (l := l)
    (fun v => [some (.d (.tuple (cs m l))), some (.d (.tuple (cs m k))), some (.d (.str (F m v)))]) (fun v => decide (v ∈ k)) (fun v => .str (F m v)) (by simp [bind_ok, bind_exc, bind_stuck, lift_ok, lift_exc, calm_ok, bind_if, lift_if, calm_if, r_fn, r_sRet, r_sRetN, r_sSeq, r_sExpr, r_sIf, r_sAsg, r_sNil, r_aName, aNils, aConss, aTup, eVar, r_eC, r_eA, r_aCons, r_aNil, r_e2, r_e1, r_eB, r_toB, r_eAnd, r_eOr, r_eNot, r_bAnd, r_bOr, r_bNot, r_eIf, r_eIsi, tyOf, isTy, Tk.nm, r_dCalm, r_iBy, r_iBys, toItems, toRng1, r_eChain, oOrd, oInt, oIs, isN, mkTup, mkLst, datas, r_sRaise, r_eSortSet, r_eM1]; simp [bind_ok, bind_exc, bind_stuck, lift_ok, lift_exc, calm_ok, bind_if, lift_if, calm_if, r_fn, r_sRet, r_sRetN, r_sSeq, r_sExpr, r_sIf, r_sAsg, r_sNil, r_aName, aNils, aConss, aTup, eVar, r_eC, r_eA, r_aCons, r_aNil, r_e2, r_e1, r_eB, r_toB, r_eAnd, r_eOr, r_eNot, r_bAnd, r_bOr, r_bNot, r_eIf, r_eIsi, tyOf, isTy, Tk.nm, r_dCalm, r_iBy, r_iBys, toItems, toRng1, r_eChain, oOrd, oInt, oIs, isN, mkTup, mkLst, datas, r_sRaise, r_eSortSet, r_eM1, cs]) (by rw [sizeLine_eq]; omega) (fun x hx => rfl) (fun x hx => by simp [bind_ok, bind_exc, bind_stuck, lift_ok, lift_exc, calm_ok, bind_if, lift_if, calm_if, r_fn, r_sRet, r_sRetN, r_sSeq, r_sExpr, r_sIf, r_sAsg, r_sNil, r_aName, aNils, aConss, aTup, eVar, r_eC, r_eA, r_aCons, r_aNil, r_e2, r_e1, r_eB, r_toB, r_eAnd, r_eOr, r_eNot, r_bAnd, r_bOr, r_bNot, r_eIf, r_eIsi, tyOf, isTy, Tk.nm, r_dCalm, r_iBy, r_iBys, toItems, toRng1, r_eChain, oOrd, oInt, oIs, isN, mkTup, mkLst, datas, r_sRaise, r_eSortSet, r_eM1, e_in a b h2.lt (h.lt x hx)]) (fun x hx _ => by simp [bind_ok, bind_exc, bind_stuck, lift_ok, lift_exc, calm_ok, bind_if, lift_if, calm_if, r_fn, r_sRet, r_sRetN, r_sSeq, r_sExpr, r_sIf, r_sAsg, r_sNil, r_aName, aNils, aConss, aTup, eVar, r_eC, r_eA, r_aCons, r_aNil, r_e2, r_e1, r_eB, r_toB, r_eAnd, r_eOr, r_eNot, r_bAnd, r_bOr, r_bNot, r_eIf, r_eIsi, tyOf, isTy, Tk.nm, r_dCalm, r_iBy, r_iBys, toItems, toRng1, r_eChain, oOrd, oInt, oIs, isN, mkTup, mkLst, datas, r_sRaise, r_eSortSet, r_eM1])
  simp [bind_ok, bind_exc, bind_stuck, lift_ok, lift_exc, calm_ok, bind_if, lift_if, calm_if, r_fn, r_sRet, r_sRetN, r_sSeq, r_sExpr, r_sIf, r_sAsg, r_sNil, r_aName, aNils, aConss, aTup, eVar, r_eC, r_eA, r_aCons, r_aNil, r_e2, r_e1, r_eB, r_toB, r_eAnd, r_eOr, r_eNot, r_bAnd, r_bOr, r_bNot, r_eIf, r_eIsi, tyOf, isTy, Tk.nm, r_dCalm, r_iBy, r_iBys, toItems, toRng1, r_eChain, oOrd, oInt, oIs, isN, mkTup, mkLst, datas, r_sRaise, r_eSortSet, r_eM1, den_both_of, b_both_of, key, hTuple, asListZ, asList]
  rfl
theorem e_onlyof {l k : List Nat} (h : Asc m l) (h2 : Asc m k) (S : Sto) : den_only_of [.d (.tuple (cs m l)), .d (.tuple (cs m k))] S = .ok (.d (.tuple (cs m (l.filter fun v => !decide (v ∈ k))))) S := by
  have hl := Nat.le_trans h.len (pow_le a b)
  have key := eComp_map (w := fun v : Nat => .d (.str (F m v))) (vs := [2]) (fi := iBy toItems (eVar 0)) (t := .nm 2) (p := eB (e2 (oIn true) (eVar 2) (eVar 1))) (f := eVar 2) (ρ := [some (.d (.tuple (cs m l))), some (.d (.tuple (cs m k))), none]) (S := S) (S1 := S) (l := l)
    (fun v => [some (.d (.tuple (cs m l))), some (.d (.tuple (cs m k))), some (.d (.str (F m v)))]) (fun v => !decide (v ∈ k)) (fun v => .str (F m v)) (by simp [bind_ok, bind_exc, bind_stuck, lift_ok, lift_exc, calm_ok, bind_if, lift_if, calm_if, r_fn, r_sRet, r_sRetN, r_sSeq, r_sExpr, r_sIf, r_sAsg, r_sNil, r_aName, aNils, aConss, aTup, eVar, r_eC, r_eA, r_aCons, r_aNil, r_e2, r_e1, r_eB, r_toB, r_eAnd, r_eOr, r_eNot, r_bAnd, r_bOr, r_bNot, r_eIf, r_eIsi, tyOf, isTy, Tk.nm, r_dCalm, r_iBy, r_iBys, toItems, toRng1, r_eChain, oOrd, oInt, oIs, isN, mkTup, mkLst, datas, r_sRaise, r_eSortSet, r_eM1]; simp [bind_ok, bind_exc, bind_stuck, lift_ok, lift_exc, calm_ok, bind_if, lift_if, calm_if, r_fn, r_sRet, r_sRetN, r_sSeq, r_sExpr, r_sIf, r_sAsg, r_sNil, r_aName, aNils, aConss, aTup, eVar, r_eC, r_eA, r_aCons, r_aNil, r_e2, r_e1, r_eB, r_toB, r_eAnd, r_eOr, r_eNot, r_bAnd, r_bOr, r_bNot, r_eIf, r_eIsi, tyOf, isTy, Tk.nm, r_dCalm, r_iBy, r_iBys, toItems, toRng1, r_eChain, oOrd, oInt, oIs, isN, mkTup, mkLst, datas, r_sRaise, r_eSortSet, r_eM1, cs]) (by rw [sizeLine_eq]; omega) (fun x hx => rfl) (fun x hx => by simp [bind_ok, bind_exc, bind_stuck, lift_ok, lift_exc, calm_ok, bind_if, lift_if, calm_if, r_fn, r_sRet, r_sRetN, r_sSeq, r_sExpr, r_sIf, r_sAsg, r_sNil, r_aName, aNils, aConss, aTup, eVar, r_eC, r_eA, r_aCons, r_aNil, r_e2, r_e1, r_eB, r_toB, r_eAnd, r_eOr, r_eNot, r_bAnd, r_bOr, r_bNot, r_eIf, r_eIsi, tyOf, isTy, Tk.nm, r_dCalm, r_iBy, r_iBys, toItems, toRng1, r_eChain, oOrd, oInt, oIs, isN, mkTup, mkLst, datas, r_sRaise, r_eSortSet, r_eM1, e_notin a b h2.lt (h.lt x hx)]) (fun x hx _ => by simp [bind_ok, bind_exc, bind_stuck, lift_ok, lift_exc, calm_ok, bind_if, lift_if, calm_if, r_fn, r_sRet, r_sRetN, r_sSeq, r_sExpr, r_sIf, r_sAsg, r_sNil, r_aName, aNils, aConss, aTup, eVar, r_eC, r_eA, r_aCons, r_aNil, r_e2, r_e1, r_eB, r_toB, r_eAnd, r_eOr, r_eNot, r_bAnd, r_bOr, r_bNot, r_eIf, r_eIsi, tyOf, isTy, Tk.nm, r_dCalm, r_iBy, r_iBys, toItems, toRng1, r_eChain, oOrd, oInt, oIs, isN, mkTup, mkLst, datas, r_sRaise, r_eSortSet, r_eM1])
  simp [bind_ok, bind_exc, bind_stuck, lift_ok, lift_exc, calm_ok, bind_if, lift_if, calm_if, r_fn, r_sRet, r_sRetN, r_sSeq, r_sExpr, r_sIf, r_sAsg, r_sNil, r_aName, aNils, aConss, aTup, eVar, r_eC, r_eA, r_aCons, r_aNil, r_e2, r_e1, r_eB, r_toB, r_eAnd, r_eOr, r_eNot, r_bAnd, r_bOr, r_bNot, r_eIf, r_eIsi, tyOf, isTy, Tk.nm, r_dCalm, r_iBy, r_iBys, toItems, toRng1, r_eChain, oOrd, oInt, oIs, isN, mkTup, mkLst, datas, r_sRaise, r_eSortSet, r_eM1, den_only_of, b_only_of, key, hTuple, asListZ, asList]
  rfl
section
variable {l k : List Nat} (h : Asc m l) (h2 : Asc m k)
include h h2
theorem okl : okH (.tuple (cs m l)) = true := H_okH a b (by have := Nat.le_trans h.len (pow_le a b); omega)
theorem e_both (S : Sto) : den_both [.d (.int (m : Nat)), .d (.tuple (cs m l)), .d (.tuple (cs m k))] S = .ok (.d (.tuple (cs m (l.filter fun v => decide (v ∈ k))))) S := by
  simp [bind_ok, bind_exc, bind_stuck, lift_ok, lift_exc, calm_ok, bind_if, lift_if, calm_if, r_fn, r_sRet, r_sRetN, r_sSeq, r_sExpr, r_sIf, r_sAsg, r_sNil, r_aName, aNils, aConss, aTup, eVar, r_eC, r_eA, r_aCons, r_aNil, r_e2, r_e1, r_eB, r_toB, r_eAnd, r_eOr, r_eNot, r_bAnd, r_bOr, r_bNot, r_eIf, r_eIsi, tyOf, isTy, Tk.nm, r_dCalm, r_iBy, r_iBys, toItems, toRng1, r_eChain, oOrd, oInt, oIs, isN, mkTup, mkLst, datas, r_sRaise, r_eSortSet, r_eM1, den_both, b_both, e_two a b S (okl a b h h2) (H_ok a b h) (okl a b h2 h) (H_ok a b h2), e_bothof a b h h2]
theorem e_only (S : Sto) : den_only [.d (.int (m : Nat)), .d (.tuple (cs m l)), .d (.tuple (cs m k))] S = .ok (.d (.tuple (cs m (l.filter fun v => !decide (v ∈ k))))) S := by
  simp [bind_ok, bind_exc, bind_stuck, lift_ok, lift_exc, calm_ok, bind_if, lift_if, calm_if, r_fn, r_sRet, r_sRetN, r_sSeq, r_sExpr, r_sIf, r_sAsg, r_sNil, r_aName, aNils, aConss, aTup, eVar, r_eC, r_eA, r_aCons, r_aNil, r_e2, r_e1, r_eB, r_toB, r_eAnd, r_eOr, r_eNot, r_bAnd, r_bOr, r_bNot, r_eIf, r_eIsi, tyOf, isTy, Tk.nm, r_dCalm, r_iBy, r_iBys, toItems, toRng1, r_eChain, oOrd, oInt, oIs, isN, mkTup, mkLst, datas, r_sRaise, r_eSortSet, r_eM1, den_only, b_only, e_two a b S (okl a b h h2) (H_ok a b h) (okl a b h2 h) (H_ok a b h2), e_onlyof a b h h2]
theorem e_either (S : Sto) : den_either [.d (.int (m : Nat)), .d (.tuple (cs m l)), .d (.tuple (cs m k))] S = .ok (.d (.tuple (cs m (asc m (l ++ k))))) S := by
  have hl := Nat.le_trans h.len (pow_le a b)
  have hk := Nat.le_trans h2.len (pow_le a b)
  have e : cs m l ++ cs m k = cs m (l ++ k) := by simp [bind_ok, bind_exc, bind_stuck, lift_ok, lift_exc, calm_ok, bind_if, lift_if, calm_if, r_fn, r_sRet, r_sRetN, r_sSeq, r_sExpr, r_sIf, r_sAsg, r_sNil, r_aName, aNils, aConss, aTup, eVar, r_eC, r_eA, r_aCons, r_aNil, r_e2, r_e1, r_eB, r_toB, r_eAnd, r_eOr, r_eNot, r_bAnd, r_bOr, r_bNot, r_eIf, r_eIsi, tyOf, isTy, Tk.nm, r_dCalm, r_iBy, r_iBys, toItems, toRng1, r_eChain, oOrd, oInt, oIs, isN, mkTup, mkLst, datas, r_sRaise, r_eSortSet, r_eM1, cs]
  have ad : oAdd (.d (.tuple (cs m l))) (.d (.tuple (cs m k))) S = .ok (.d (.tuple (cs m (l ++ k)))) S := by
    unfold oAdd
    simp only [e]
    rw [if_pos (by simp [bind_ok, bind_exc, bind_stuck, lift_ok, lift_exc, calm_ok, bind_if, lift_if, calm_if, r_fn, r_sRet, r_sRetN, r_sSeq, r_sExpr, r_sIf, r_sAsg, r_sNil, r_aName, aNils, aConss, aTup, eVar, r_eC, r_eA, r_aCons, r_aNil, r_e2, r_e1, r_eB, r_toB, r_eAnd, r_eOr, r_eNot, r_bAnd, r_bOr, r_bNot, r_eIf, r_eIsi, tyOf, isTy, Tk.nm, r_dCalm, r_iBy, r_iBys, toItems, toRng1, r_eChain, oOrd, oInt, oIs, isN, mkTup, mkLst, datas, r_sRaise, r_eSortSet, r_eM1, cs, sizeLine_eq]; omega)]
  have hh : ∀ v ∈ l ++ k, v < 3 ^ m := fun v hv => (List.mem_append.mp hv).elim (h.lt v) (h2.lt v)
  simp [bind_ok, bind_exc, bind_stuck, lift_ok, lift_exc, calm_ok, bind_if, lift_if, calm_if, r_fn, r_sRet, r_sRetN, r_sSeq, r_sExpr, r_sIf, r_sAsg, r_sNil, r_aName, aNils, aConss, aTup, eVar, r_eC, r_eA, r_aCons, r_aNil, r_e2, r_e1, r_eB, r_toB, r_eAnd, r_eOr, r_eNot, r_bAnd, r_bOr, r_bNot, r_eIf, r_eIsi, tyOf, isTy, Tk.nm, r_dCalm, r_iBy, r_iBys, toItems, toRng1, r_eChain, oOrd, oInt, oIs, isN, mkTup, mkLst, datas, r_sRaise, r_eSortSet, r_eM1, den_either, b_either, e_two a b S (okl a b h h2) (H_ok a b h) (okl a b h2 h) (H_ok a b h2), ad, e_ashand a b hh (by simp [bind_ok, bind_exc, bind_stuck, lift_ok, lift_exc, calm_ok, bind_if, lift_if, calm_if, r_fn, r_sRet, r_sRetN, r_sSeq, r_sExpr, r_sIf, r_sAsg, r_sNil, r_aName, aNils, aConss, aTup, eVar, r_eC, r_eA, r_aCons, r_aNil, r_e2, r_e1, r_eB, r_toB, r_eAnd, r_eOr, r_eNot, r_bAnd, r_bOr, r_bNot, r_eIf, r_eIsi, tyOf, isTy, Tk.nm, r_dCalm, r_iBy, r_iBys, toItems, toRng1, r_eChain, oOrd, oInt, oIs, isN, mkTup, mkLst, datas, r_sRaise, r_eSortSet, r_eM1]; omega)]
end
end
end K02

end
section
namespace K02
open PySem PySem.Spec PyProof.Rows L2 Ev
/-! ### words -/
abbrev jn (W : List Str) : Str := Txt.join " " W
def free (W : List Str) : Prop := ∀ p ∈ W, 32 ∉ p.cps.toList
def wl (W : List Str) : Nat := (W.map (·.length)).sum + W.length
theorem wl_cons (x : Str) (W : List Str) : wl (x :: W) = x.length + 1 + wl W := by simp [bind_ok, bind_exc, bind_stuck, lift_ok, lift_exc, calm_ok, bind_if, lift_if, calm_if, r_fn, r_sRet, r_sRetN, r_sSeq, r_sExpr, r_sIf, r_sAsg, r_sNil, r_aName, aNils, aConss, aTup, eVar, r_eC, r_eA, r_aCons, r_aNil, r_e2, r_e1, r_eB, r_toB, r_eAnd, r_eOr, r_eNot, r_bAnd, r_bOr, r_bNot, r_eIf, r_eIsi, tyOf, isTy, Tk.nm, r_dCalm, r_iBy, r_iBys, toItems, toRng1, r_eChain, oOrd, oInt, oIs, isN, mkTup, mkLst, datas, r_sRaise, r_eSortSet, r_eM1, wl]; omega
theorem jn_split {W : List Str} (hne : W ≠ []) (h : free W) : Txt.split (jn W) " " = W := TL.split_join (y := " ") (s := 32) (S := []) (by decide +kernel) (by decide +kernel) hne h
theorem jn_len : ∀ W : List Str, (jn W).length ≤ wl W
  | [] => Nat.zero_le _
  | [x] => by
    rw [jn, TL.join_eq, wl_cons]
    show x.length ≤ _
    omega
  | x :: y :: r => by
    have ih := jn_len (y :: r)
    rw [jn, TL.join_eq] at ih ⊢
    show (x ++ " " ++ Str.join " " (y :: r)).length ≤ _
    rw [strLen_append, strLen_append, wl_cons]
    have : (Str.ofString " ").length = 1 := rfl
    omega
theorem jn_app : ∀ {W V : List Str}, W ≠ [] → V ≠ [] → jn (W ++ V) = jn W ++ " " ++ jn V
  | [], _, h, _ => absurd rfl h
  | [x], V, _, hv => by
    cases V with
    | nil => exact absurd rfl hv
    | cons v r => simp only [jn, TL.join_eq]; rfl
  | x :: y :: r, V, _, hv => by
    have ih := jn_app (W := y :: r) (V := V) (by simp [bind_ok, bind_exc, bind_stuck, lift_ok, lift_exc, calm_ok, bind_if, lift_if, calm_if, r_fn, r_sRet, r_sRetN, r_sSeq, r_sExpr, r_sIf, r_sAsg, r_sNil, r_aName, aNils, aConss, aTup, eVar, r_eC, r_eA, r_aCons, r_aNil, r_e2, r_e1, r_eB, r_toB, r_eAnd, r_eOr, r_eNot, r_bAnd, r_bOr, r_bNot, r_eIf, r_eIsi, tyOf, isTy, Tk.nm, r_dCalm, r_iBy, r_iBys, toItems, toRng1, r_eChain, oOrd, oInt, oIs, isN, mkTup, mkLst, datas, r_sRaise, r_eSortSet, r_eM1]) hv
    simp only [jn, TL.join_eq] at ih ⊢
    show x ++ " " ++ Str.join " " (y :: r ++ V) = x ++ " " ++ Str.join " " (y :: r) ++ " " ++ Str.join " " V
    rw [ih]
    apply TL.ext_tl
    simp only [TL.tl_append, List.append_assoc]
theorem jn_one (x : Str) : jn [x] = x := by rw [jn, TL.join_eq]; rfl
theorem wl_mem : ∀ {W : List Str} {x : Str}, x ∈ W → x.length ≤ wl W
  | y :: W, x, h => by
    rw [wl_cons]
    rcases List.mem_cons.mp h with rfl | h
    · omega
    · have := wl_mem h; omega
theorem wl_len (W : List Str) : W.length ≤ wl W := by unfold wl; omega
theorem okH_w {W : List Str} (h : wl W ≤ 10000) : okH (.tuple (W.map .str)) = true := by
  unfold okH
  rw [Bool.and_eq_true, List.all_eq_true]
  refine ⟨fun x hx => ?_, decide_eq_true (by have := wl_len W; rw [List.length_map, sizeLine_eq]; omega)⟩
  obtain ⟨s, hs, rfl⟩ := List.mem_map.mp hx
  have := wl_mem hs
  exact decide_eq_true (by rw [sizeLine_eq]; omega)
theorem cut4 : cutS (Str.ofString "1234") none (some 4) = Str.ofString "1234" := by decide +kernel
theorem e_split {W : List Str} (hne : W ≠ []) (h : free W) (hl : wl W ≤ 10000) (S : Sto) : hSplit (jn W) (.d (.str " ")) S = .ok (.d (.list (W.map .str))) S := by
  have := jn_len W
  unfold hSplit
  simp only []
  rw [if_pos ⟨by decide +kernel, by rw [sizeLine_eq]; omega⟩, jn_split hne h]
theorem e_len (s : Str) (S : Sto) (h : s.length ≤ 10000) : hLen [.d (.str s)] S = .ok (.d (.int (s.length : Nat))) S := by
  unfold hLen lenOf
  simp only []
  rw [if_pos (by rw [sizeLine_eq]; omega)]
theorem ne_int (i j : Int) (S : Sto) : oNe (.d (.int i)) (.d (.int j)) S = .ok (.d (.bool (!(i == j)))) S := by
  unfold oNe
  simp [bind_ok, bind_exc, bind_stuck, lift_ok, lift_exc, calm_ok, bind_if, lift_if, calm_if, r_fn, r_sRet, r_sRetN, r_sSeq, r_sExpr, r_sIf, r_sAsg, r_sNil, r_aName, aNils, aConss, aTup, eVar, r_eC, r_eA, r_aCons, r_aNil, r_e2, r_e1, r_eB, r_toB, r_eAnd, r_eOr, r_eNot, r_bAnd, r_bOr, r_bNot, r_eIf, r_eIsi, tyOf, isTy, Tk.nm, r_dCalm, r_iBy, r_iBys, toItems, toRng1, r_eChain, oOrd, oInt, oIs, isN, mkTup, mkLst, datas, r_sRaise, r_eSortSet, r_eM1, SeqAt.shaped, PyData.canLay0, PyData.depth, PyData.eqv]
theorem e_told {first : Str} {rest : List Str} (hf : free (first :: rest)) (hl : wl (first :: rest) ≤ 10000) (S : Sto) :
    (first.length ≠ 1 → den_hand_told [.d (.str (jn (first :: rest)))] S = .ok (.d .none) S) ∧
    (strIn first "1234" = false → den_hand_told [.d (.str (jn (first :: rest)))] S = .ok (.d .none) S) ∧
    (∀ k, first.length = 1 → strIn first "1234" = true → intText? first = some k → den_hand_told [.d (.str (jn (first :: rest)))] S = if handB k (.tuple (rest.map .str)) = true then .ok (.d (.tuple [.int k, .tuple (rest.map .str)])) S else .ok (.d .none) S) := by
  have l1 : first.length ≤ 10000 := Nat.le_trans (wl_mem (W := first :: rest) (by simp [bind_ok, bind_exc, bind_stuck, lift_ok, lift_exc, calm_ok, bind_if, lift_if, calm_if, r_fn, r_sRet, r_sRetN, r_sSeq, r_sExpr, r_sIf, r_sAsg, r_sNil, r_aName, aNils, aConss, aTup, eVar, r_eC, r_eA, r_aCons, r_aNil, r_e2, r_e1, r_eB, r_toB, r_eAnd, r_eOr, r_eNot, r_bAnd, r_bOr, r_bNot, r_eIf, r_eIsi, tyOf, isTy, Tk.nm, r_dCalm, r_iBy, r_iBys, toItems, toRng1, r_eChain, oOrd, oInt, oIs, isN, mkTup, mkLst, datas, r_sRaise, r_eSortSet, r_eM1])) hl
  have l2 : wl rest ≤ 10000 := by rw [wl_cons] at hl; omega
  have l3 : rest.length ≤ 16000 := by have := wl_len rest; omega
  have sp := fun S => e_split (W := first :: rest) (by simp [bind_ok, bind_exc, bind_stuck, lift_ok, lift_exc, calm_ok, bind_if, lift_if, calm_if, r_fn, r_sRet, r_sRetN, r_sSeq, r_sExpr, r_sIf, r_sAsg, r_sNil, r_aName, aNils, aConss, aTup, eVar, r_eC, r_eA, r_aCons, r_aNil, r_e2, r_e1, r_eB, r_toB, r_eAnd, r_eOr, r_eNot, r_bAnd, r_bOr, r_bNot, r_eIf, r_eIsi, tyOf, isTy, Tk.nm, r_dCalm, r_iBy, r_iBys, toItems, toRng1, r_eChain, oOrd, oInt, oIs, isN, mkTup, mkLst, datas, r_sRaise, r_eSortSet, r_eM1]) hf hl S
  have hs : hSl (.d (.str "1234")) none (some 4) = fun S => .ok (.d (.str "1234")) S := by
    funext S
    unfold hSl
    simp only [asListZ, asList]
    rw [if_pos (by rw [sizeLine_eq]; decide +kernel), cut4]
  refine ⟨fun h => ?_, fun h => ?_, fun k h1 h2 h3 => ?_⟩
  · have q : (!((first.length : Int) == 1)) = true := by simp [bind_ok, bind_exc, bind_stuck, lift_ok, lift_exc, calm_ok, bind_if, lift_if, calm_if, r_fn, r_sRet, r_sRetN, r_sSeq, r_sExpr, r_sIf, r_sAsg, r_sNil, r_aName, aNils, aConss, aTup, eVar, r_eC, r_eA, r_aCons, r_aNil, r_e2, r_e1, r_eB, r_toB, r_eAnd, r_eOr, r_eNot, r_bAnd, r_bOr, r_bNot, r_eIf, r_eIsi, tyOf, isTy, Tk.nm, r_dCalm, r_iBy, r_iBys, toItems, toRng1, r_eChain, oOrd, oInt, oIs, isN, mkTup, mkLst, datas, r_sRaise, r_eSortSet, r_eM1]; omega
    simp [bind_ok, bind_exc, bind_stuck, lift_ok, lift_exc, calm_ok, bind_if, lift_if, calm_if, r_fn, r_sRet, r_sRetN, r_sSeq, r_sExpr, r_sIf, r_sAsg, r_sNil, r_aName, aNils, aConss, aTup, eVar, r_eC, r_eA, r_aCons, r_aNil, r_e2, r_e1, r_eB, r_toB, r_eAnd, r_eOr, r_eNot, r_bAnd, r_bOr, r_bNot, r_eIf, r_eIsi, tyOf, isTy, Tk.nm, r_dCalm, r_iBy, r_iBys, toItems, toRng1, r_eChain, oOrd, oInt, oIs, isN, mkTup, mkLst, datas, r_sRaise, r_eSortSet, r_eM1, den_hand_told, b_hand_told, sStar, sp, lstOf, l3, e_len first _ l1, ne_int, q]
  · simp [bind_ok, bind_exc, bind_stuck, lift_ok, lift_exc, calm_ok, bind_if, lift_if, calm_if, r_fn, r_sRet, r_sRetN, r_sSeq, r_sExpr, r_sIf, r_sAsg, r_sNil, r_aName, aNils, aConss, aTup, eVar, r_eC, r_eA, r_aCons, r_aNil, r_e2, r_e1, r_eB, r_toB, r_eAnd, r_eOr, r_eNot, r_bAnd, r_bOr, r_bNot, r_eIf, r_eIsi, tyOf, isTy, Tk.nm, r_dCalm, r_iBy, r_iBys, toItems, toRng1, r_eChain, oOrd, oInt, oIs, isN, mkTup, mkLst, datas, r_sRaise, r_eSortSet, r_eM1, den_hand_told, b_hand_told, sStar, sp, lstOf, l3, e_len first _ l1, ne_int, eSl, oNone, oSome, hs, oIn, h]
  · have q : (!((first.length : Int) == 1)) = false := by simp [bind_ok, bind_exc, bind_stuck, lift_ok, lift_exc, calm_ok, bind_if, lift_if, calm_if, r_fn, r_sRet, r_sRetN, r_sSeq, r_sExpr, r_sIf, r_sAsg, r_sNil, r_aName, aNils, aConss, aTup, eVar, r_eC, r_eA, r_aCons, r_aNil, r_e2, r_e1, r_eB, r_toB, r_eAnd, r_eOr, r_eNot, r_bAnd, r_bOr, r_bNot, r_eIf, r_eIsi, tyOf, isTy, Tk.nm, r_dCalm, r_iBy, r_iBys, toItems, toRng1, r_eChain, oOrd, oInt, oIs, isN, mkTup, mkLst, datas, r_sRaise, r_eSortSet, r_eM1]; omega
    have hi : ∀ S, hInt [.d (.str first)] S = .ok (.d (.int k)) S := fun S => by
      unfold hInt
      simp only [h3]
      rw [if_pos (by omega)]
    simp [bind_ok, bind_exc, bind_stuck, lift_ok, lift_exc, calm_ok, bind_if, lift_if, calm_if, r_fn, r_sRet, r_sRetN, r_sSeq, r_sExpr, r_sIf, r_sAsg, r_sNil, r_aName, aNils, aConss, aTup, eVar, r_eC, r_eA, r_aCons, r_aNil, r_e2, r_e1, r_eB, r_toB, r_eAnd, r_eOr, r_eNot, r_bAnd, r_bOr, r_bNot, r_eIf, r_eIsi, tyOf, isTy, Tk.nm, r_dCalm, r_iBy, r_iBys, toItems, toRng1, r_eChain, oOrd, oInt, oIs, isN, mkTup, mkLst, datas, r_sRaise, r_eSortSet, r_eM1, den_hand_told, b_hand_told, sStar, sp, lstOf, l3, e_len first _ l1, ne_int, q, eSl, oNone, oSome, hs, oIn, h2, hi, hTuple, asListZ, asList, e_hand k _ _ (okH_w l2), sizeLine_eq]

/-! ### the number of marks as a text -/
def nm (m : Nat) : Str := Str.ofString (toString ((m : Nat) : Int))
theorem nm_ok (m : Nat) (a : 1 ≤ m) (b : m ≤ 4) : (nm m).length = 1 ∧ strIn (nm m) "1234" = true ∧ intText? (nm m) = some (m : Int) ∧ 32 ∉ (nm m).cps.toList ∧ ((m : Nat) : Int).natAbs.log2 < 1920 :=
  cases4 (P := fun m => (nm m).length = 1 ∧ strIn (nm m) "1234" = true ∧ intText? (nm m) = some (m : Int) ∧ 32 ∉ (nm m).cps.toList ∧ ((m : Nat) : Int).natAbs.log2 < 1920) (by decide +kernel) (by decide +kernel) (by decide +kernel) (by decide +kernel) m a b
theorem F_free {m v : Nat} : 32 ∉ (F m v).cps.toList := fun h => by
  rw [F_cps] at h
  rcases FL_dig m v 32 h with q | q | q <;> omega
theorem wl_cs (m : Nat) (b : m ≤ 4) : ∀ l : List Nat, wl (l.map (F m)) ≤ 5 * l.length
  | [] => Nat.le_refl _
  | v :: r => by
    have := wl_cs m b r
    rw [List.map_cons, wl_cons, F_len, List.length_cons]
    omega
theorem free_cs (m : Nat) (l : List Nat) : free (l.map (F m)) := fun p hp => by
  obtain ⟨v, _, rfl⟩ := List.mem_map.mp hp
  exact F_free
theorem free_cons {x : Str} {W : List Str} (h : 32 ∉ x.cps.toList) (h2 : free W) : free (x :: W) := fun p hp => by
  rcases List.mem_cons.mp hp with rfl | hp
  · exact h
  · exact h2 p hp
theorem free_app {V W : List Str} (h : free V) (h2 : free W) : free (V ++ W) := fun p hp => (List.mem_append.mp hp).elim (h p) (h2 p)
theorem cs_str (m : Nat) (l : List Nat) : (l.map (F m)).map PyData.str = cs m l := by simp [bind_ok, bind_exc, bind_stuck, lift_ok, lift_exc, calm_ok, bind_if, lift_if, calm_if, r_fn, r_sRet, r_sRetN, r_sSeq, r_sExpr, r_sIf, r_sAsg, r_sNil, r_aName, aNils, aConss, aTup, eVar, r_eC, r_eA, r_aCons, r_aNil, r_e2, r_e1, r_eB, r_toB, r_eAnd, r_eOr, r_eNot, r_bAnd, r_bOr, r_bNot, r_eIf, r_eIsi, tyOf, isTy, Tk.nm, r_dCalm, r_iBy, r_iBys, toItems, toRng1, r_eChain, oOrd, oInt, oIs, isN, mkTup, mkLst, datas, r_sRaise, r_eSortSet, r_eM1, cs]
/-! ### read_hand -/
theorem e_read0 {t : Str} {S : Sto} (h : den_hand_told [.d (.str t)] S = .ok (.d .none) S) : den_read_hand [.d (.str t)] S = .exc "InvalidText" (.d (.str t)) S := by
  simp [bind_ok, bind_exc, bind_stuck, lift_ok, lift_exc, calm_ok, bind_if, lift_if, calm_if, r_fn, r_sRet, r_sRetN, r_sSeq, r_sExpr, r_sIf, r_sAsg, r_sNil, r_aName, aNils, aConss, aTup, eVar, r_eC, r_eA, r_aCons, r_aNil, r_e2, r_e1, r_eB, r_toB, r_eAnd, r_eOr, r_eNot, r_bAnd, r_bOr, r_bNot, r_eIf, r_eIsi, tyOf, isTy, Tk.nm, r_dCalm, r_iBy, r_iBys, toItems, toRng1, r_eChain, oOrd, oInt, oIs, isN, mkTup, mkLst, datas, r_sRaise, r_eSortSet, r_eM1, den_read_hand, b_read_hand, h, den_check_told, b_check_told]
theorem e_refused {t : Str} {S : Sto} (h : den_hand_told [.d (.str t)] S = .ok (.d .none) S) : den__law_is_refused [.d (.str t)] S = .ok (.d (.bool true)) S := by
  simp [bind_ok, bind_exc, bind_stuck, lift_ok, lift_exc, calm_ok, bind_if, lift_if, calm_if, r_fn, r_sRet, r_sRetN, r_sSeq, r_sExpr, r_sIf, r_sAsg, r_sNil, r_aName, aNils, aConss, aTup, eVar, r_eC, r_eA, r_aCons, r_aNil, r_e2, r_e1, r_eB, r_toB, r_eAnd, r_eOr, r_eNot, r_bAnd, r_bOr, r_bNot, r_eIf, r_eIsi, tyOf, isTy, Tk.nm, r_dCalm, r_iBy, r_iBys, toItems, toRng1, r_eChain, oOrd, oInt, oIs, isN, mkTup, mkLst, datas, r_sRaise, r_eSortSet, r_eM1, den__law_is_refused, b__law_is_refused, sTry, e_read0 h, oEqS]
/-- a text that is refused, by its words -/
def Bad (first : Str) (rest : List Str) : Prop := first.length ≠ 1 ∨ strIn first "1234" = false ∨ ∃ m : Nat, 1 ≤ m ∧ m ≤ 4 ∧ first = nm m ∧ handB m (.tuple (rest.map .str)) = false
theorem e_bad {first : Str} {rest : List Str} (hf : free (first :: rest)) (hl : wl (first :: rest) ≤ 10000) (h : Bad first rest) (S : Sto) : den__law_is_refused [.d (.str (jn (first :: rest)))] S = .ok (.d (.bool true)) S := by
  refine e_refused ?_
  obtain ⟨h1, h2, h3⟩ := e_told hf hl S
  rcases h with h | h | ⟨m, a, b, rfl, h⟩
  · exact h1 h
  · exact h2 h
  · obtain ⟨n1, n2, n3, _⟩ := nm_ok m a b
    rw [h3 m n1 n2 n3, h]
    rfl
section
variable {m : Nat} (a : 1 ≤ m) (b : m ≤ 4) {l : List Nat} (h : Asc m l) (hl : l.length ≤ 100)
include a b h hl
theorem txt_ok : free (nm m :: l.map (F m)) ∧ wl (nm m :: l.map (F m)) ≤ 502 := by
  obtain ⟨n1, n2, n3, n4, _⟩ := nm_ok m a b
  refine ⟨free_cons n4 (free_cs m l), ?_⟩
  rw [wl_cons, n1]
  have := wl_cs m b l
  omega
theorem e_read (S : Sto) : den_read_hand [.d (.str (jn (nm m :: l.map (F m))))] S = .ok (.d (.tuple [.int (m : Nat), .tuple (cs m l)])) S := by
  obtain ⟨n1, n2, n3, n4, _⟩ := nm_ok m a b
  obtain ⟨t1, t2⟩ := txt_ok a b h hl
  have := (e_told t1 (by omega) S).2.2 m n1 n2 n3
  rw [cs_str, H_ok a b h] at this
  simp only [if_true] at this
  simp [bind_ok, bind_exc, bind_stuck, lift_ok, lift_exc, calm_ok, bind_if, lift_if, calm_if, r_fn, r_sRet, r_sRetN, r_sSeq, r_sExpr, r_sIf, r_sAsg, r_sNil, r_aName, aNils, aConss, aTup, eVar, r_eC, r_eA, r_aCons, r_aNil, r_e2, r_e1, r_eB, r_toB, r_eAnd, r_eOr, r_eNot, r_bAnd, r_bOr, r_bNot, r_eIf, r_eIsi, tyOf, isTy, Tk.nm, r_dCalm, r_iBy, r_iBys, toItems, toRng1, r_eChain, oOrd, oInt, oIs, isN, mkTup, mkLst, datas, r_sRaise, r_eSortSet, r_eM1, den_read_hand, b_read_hand, this, den_check_told, b_check_told]
theorem strsOf_w (W : List Str) : strsOf (W.map .str) = some W := by
  induction W with
  | nil => rfl
  | cons x r ih => simp only [List.map_cons, strsOf] at ih ⊢; rw [ih]; rfl
theorem e_join {W : List Str} (hw : wl W ≤ 10000) (S : Sto) : hJoin " " (.d (.list (W.map .str))) S = .ok (.d (.str (jn W))) S := by
  unfold hJoin
  simp only [asListZ, asList, Option.some_or, Option.bind_some, strsOf_w a b h hl]
  rw [if_pos]
  unfold wl at hw
  have : (Str.ofString " ").length = 1 := rfl
  rw [this]
  omega
theorem e_text_of (S : Sto) : den_text_of_hand [.d (.int (m : Nat)), .d (.tuple (cs m l))] S = .ok (.d (.str (jn (nm m :: l.map (F m))))) S := by
  obtain ⟨n1, n2, n3, n4, n5⟩ := nm_ok m a b
  obtain ⟨t1, t2⟩ := txt_ok a b h hl
  have j := fun S => e_join a b h hl (W := nm m :: l.map (F m)) (by omega) S
  have e : (nm m :: l.map (F m)).map PyData.str = .str (nm m) :: cs m l := by rw [List.map_cons, cs_str]
  rw [e] at j
  have z : (cs m l).length + 1 ≤ sizeLine := by simp [bind_ok, bind_exc, bind_stuck, lift_ok, lift_exc, calm_ok, bind_if, lift_if, calm_if, r_fn, r_sRet, r_sRetN, r_sSeq, r_sExpr, r_sIf, r_sAsg, r_sNil, r_aName, aNils, aConss, aTup, eVar, r_eC, r_eA, r_aCons, r_aNil, r_e2, r_e1, r_eB, r_toB, r_eAnd, r_eOr, r_eNot, r_bAnd, r_bOr, r_bNot, r_eIf, r_eIsi, tyOf, isTy, Tk.nm, r_dCalm, r_iBy, r_iBys, toItems, toRng1, r_eChain, oOrd, oInt, oIs, isN, mkTup, mkLst, datas, r_sRaise, r_eSortSet, r_eM1, cs, sizeLine_eq]; omega
  have dm : datas (((cs m l).map Vl.d) ++ []) = some (cs m l) := by
    rw [List.append_nil]
    generalize cs m l = X
    induction X with
    | nil => rfl
    | cons x r ih => simp only [List.map_cons, datas]; rw [ih]; rfl
  have n5' : ((m : Nat) : Int).natAbs.log2 < 1920 := n5
  simp only [Int.natAbs_natCast] at n5'
  rw [List.append_nil] at dm
  simp [bind_ok, bind_exc, bind_stuck, lift_ok, lift_exc, calm_ok, bind_if, lift_if, calm_if, r_fn, r_sRet, r_sRetN, r_sSeq, r_sExpr, r_sIf, r_sAsg, r_sNil, r_aName, aNils, aConss, aTup, eVar, r_eC, r_eA, r_aCons, r_aNil, r_e2, r_e1, r_eB, r_toB, r_eAnd, r_eOr, r_eNot, r_bAnd, r_bOr, r_bNot, r_eIf, r_eIsi, tyOf, isTy, Tk.nm, r_dCalm, r_iBy, r_iBys, toItems, toRng1, r_eChain, oOrd, oInt, oIs, isN, mkTup, mkLst, datas, r_sRaise, r_eSortSet, r_eM1, den_text_of_hand, b_text_of_hand, eFmt, n5', aStar, lstOf, asTup, dm, z]
  have j' : hJoin " " (.d (.list (.str (Str.ofString ((m : Nat) : Int).repr) :: cs m l))) S = .ok (.d (.str (jn (nm m :: l.map (F m))))) S := j S
  rw [j']
  rfl
theorem e_hand_text (S : Sto) : den_hand_text [.d (.int (m : Nat)), .d (.tuple (cs m l))] S = .ok (.d (.str (jn (nm m :: l.map (F m))))) S := by
  simp [bind_ok, bind_exc, bind_stuck, lift_ok, lift_exc, calm_ok, bind_if, lift_if, calm_if, r_fn, r_sRet, r_sRetN, r_sSeq, r_sExpr, r_sIf, r_sAsg, r_sNil, r_aName, aNils, aConss, aTup, eVar, r_eC, r_eA, r_aCons, r_aNil, r_e2, r_e1, r_eB, r_toB, r_eAnd, r_eOr, r_eNot, r_bAnd, r_bOr, r_bNot, r_eIf, r_eIsi, tyOf, isTy, Tk.nm, r_dCalm, r_iBy, r_iBys, toItems, toRng1, r_eChain, oOrd, oInt, oIs, isN, mkTup, mkLst, datas, r_sRaise, r_eSortSet, r_eM1, den_hand_text, b_hand_text, e_marked a b S (H_okH a b (l := l) (by omega)) (H_ok a b h), e_text_of a b h hl]
end
end K02

end
section
namespace K02
open PySem PySem.Spec PyProof.Rows L2 Ev
/-! ### the texts that are refused -/
def Ref (t : Str) : Prop := ∀ S, den__law_is_refused [.d (.str t)] S = .ok (.d (.bool true)) S
abbrev tl (x : Str) : List Nat := x.cps.toList
theorem asc_pw : ∀ {W : List Str}, ascB W = true → W.Pairwise fun x y => tl x < tl y
  | [], _ => .nil
  | [x], _ => by simp
  | x :: y :: r, h => by
    simp only [ascB, Bool.and_eq_true, decide_eq_true_eq] at h
    have ih := asc_pw h.2
    refine List.pairwise_cons.mpr ⟨fun z hz => ?_, ih⟩
    rcases List.mem_cons.mp hz with rfl | hz
    · exact h.1
    · exact List.lt_trans h.1 ((List.pairwise_cons.mp ih).1 z hz)
theorem txs_w (W : List Str) : txs (W.map .str) = W := by
  induction W with
  | nil => rfl
  | cons x r ih => simp only [List.map_cons, txs]; rw [ih]
theorem hand_no_pw {m : Int} {W : List Str} (h : ¬ W.Pairwise fun x y => tl x < tl y) : handB m (.tuple (W.map .str)) = false := by
  show ((W.map PyData.str).all (cardB m) && ascB (txs (W.map .str))) = false
  rw [txs_w]
  cases q : ascB W with
  | true => exact absurd (asc_pw q) h
  | false => simp
theorem hand_no_card {m : Int} {W : List Str} {x : Str} (hx : x ∈ W) (h : cardB m (.str x) = false) : handB m (.tuple (W.map .str)) = false := by
  show ((W.map PyData.str).all (cardB m) && ascB (txs (W.map .str))) = false
  have : (W.map PyData.str).all (cardB m) = false := by
    rw [List.all_eq_false]
    exact ⟨.str x, List.mem_map.mpr ⟨x, hx, rfl⟩, by rw [h]; exact Bool.false_ne_true⟩
  rw [this]; rfl
theorem card_no_len {m : Int} {x : Str} (h : (x.length : Int) ≠ m) : cardB m (.str x) = false := by
  simp [cardB, h]
theorem tl_cut (z : Str) (k : Nat) : tl (cutS z (some (k : Int)) none) = (tl z).drop k := by
  show ((z.cps.toList.drop (HT.sIx z.length 0 (some (k : Int)))).take (HT.sIx z.length z.length none - HT.sIx z.length 0 (some (k : Int)))) = z.cps.toList.drop k
  rw [HT.sIx_nat, HT.sIx_none]
  have hl : z.length = z.cps.toList.length := by simp [Str.length]
  rw [List.take_of_length_le (by rw [List.length_drop]; omega)]
  rcases Nat.le_total k z.length with q | q
  · rw [Nat.min_eq_left q]
  · rw [Nat.min_eq_right q, hl, List.drop_length, List.drop_eq_nil_of_le (by omega)]
def dbl : List Str → List Str
  | [] => []
  | c :: r => "" :: c :: dbl r
theorem join2 : ∀ (x : Str) (W : List Str), Str.join "  " (x :: W) = jn (x :: dbl W)
  | x, [] => by rw [jn, TL.join_eq]; rfl
  | x, y :: r => by
    have ih := join2 y r
    rw [jn, TL.join_eq] at ih ⊢
    show x ++ "  " ++ Str.join "  " (y :: r) = x ++ " " ++ ("" ++ " " ++ Str.join " " (y :: dbl r))
    rw [ih]
    apply TL.ext_tl
    simp only [TL.tl_append, List.append_assoc]
    rfl
theorem tl1 {x : Str} (h : x.length = 1) : ∃ c, tl x = [c] := by
  have : (tl x).length = 1 := by rw [← h]; simp [Str.length]
  match tl x, this with
  | [c], _ => exact ⟨c, rfl⟩
theorem jn_cons (x y : Str) (r : List Str) : jn (x :: y :: r) = x ++ " " ++ jn (y :: r) := by simp only [jn, TL.join_eq]; rfl
theorem wl_app (V W : List Str) : wl (V ++ W) = wl V + wl W := by simp [wl]; omega
theorem wl_dbl : ∀ W : List Str, wl (dbl W) ≤ 2 * wl W
  | [] => Nat.le_refl _
  | c :: r => by
    have := wl_dbl r
    rw [dbl, wl_cons, wl_cons, wl_cons]
    have : (Str.ofString "").length = 0 := rfl
    omega
theorem free_dbl : ∀ {W : List Str}, free W → free (dbl W)
  | [], h => h
  | c :: r, h => free_cons (by decide) (free_cons (h c (by simp)) (free_dbl fun p hp => h p (by simp [hp])))
section
variable {m : Nat} (a : 1 ≤ m) (b : m ≤ 4) {l : List Nat} (h : Asc m l) (hl : l.length ≤ 100)
include a b h hl
/-- the words behind the number -/
theorem ref_of {first : Str} {rest : List Str} {t : Str} (e : t = jn (first :: rest)) (hf : free (first :: rest)) (hw : wl (first :: rest) ≤ 10000) (hb : Bad first rest) : Ref t := fun S => by
  rw [e]; exact e_bad hf hw hb S
theorem b1 : Ref (jn (nm m :: l.map (F m)) ++ " ") := by
  obtain ⟨t1, t2⟩ := txt_ok a b h hl
  refine ref_of a b h hl (first := nm m) (rest := l.map (F m) ++ ([""] : List Str)) ?_ ?_ ?_ ?_
  · have := jn_app (W := nm m :: l.map (F m)) (V := [""]) (by simp) (by simp)
    rw [List.cons_append] at this
    rw [this, jn_one]
    apply TL.ext_tl
    simp only [TL.tl_append]
    simp
    decide
  · rw [← List.cons_append]; exact free_app t1 (free_cons (by decide) (fun _ h => by simp at h))
  · rw [← List.cons_append, wl_app]
    have : wl [Str.ofString ""] = 1 := rfl
    omega
  · exact .inr (.inr ⟨m, a, b, rfl, hand_no_card (x := "") (by simp) (card_no_len (by show ((0 : Nat) : Int) ≠ m; omega))⟩)
theorem b2 : Ref (" " ++ jn (nm m :: l.map (F m))) := by
  obtain ⟨t1, t2⟩ := txt_ok a b h hl
  refine ref_of a b h hl (first := "") (rest := nm m :: l.map (F m)) ?_ (free_cons (by decide) t1) ?_ (.inl (by decide))
  · rw [jn_cons]
    apply TL.ext_tl
    simp only [TL.tl_append]
    rfl
  · rw [wl_cons]
    have : (Str.ofString "").length = 0 := rfl
    omega
theorem b3 : Ref (Txt.replace (jn (nm m :: l.map (F m))) " " "  " ++ "  ") := by
  obtain ⟨t1, t2⟩ := txt_ok a b h hl
  have e1 : Txt.replace (jn (nm m :: l.map (F m))) " " "  " = jn (nm m :: dbl (l.map (F m))) := by
    have s : (Str.ofString " ") = ⟨#[32]⟩ := by decide +kernel
    have := StrLaws.replace_one (jn (nm m :: l.map (F m))) "  " 32
    rw [← s, jn_split (by simp) t1] at this
    rw [this, join2]
  refine ref_of a b h hl (first := nm m) (rest := dbl (l.map (F m)) ++ (["", ""] : List Str)) ?_ ?_ ?_ ?_
  · have := jn_app (W := nm m :: dbl (l.map (F m))) (V := ["", ""]) (by simp) (by simp)
    rw [List.cons_append] at this
    rw [e1, this]
    apply TL.ext_tl
    simp only [TL.tl_append, List.append_assoc]
    rfl
  · rw [← List.cons_append]
    exact free_app (free_cons (t1 _ (by simp)) (free_dbl (free_cs m l))) (free_cons (by decide) (free_cons (by decide) (fun _ h => by simp at h)))
  · rw [← List.cons_append, wl_app]
    have : wl [Str.ofString "", Str.ofString ""] = 2 := rfl
    have := wl_dbl (l.map (F m))
    rw [wl_cons] at t2 ⊢
    omega
  · exact .inr (.inr ⟨m, a, b, rfl, hand_no_card (x := "") (by simp) (card_no_len (by show ((0 : Nat) : Int) ≠ m; omega))⟩)
theorem cut_nm (x : Str) : x ++ cutS (jn (nm m :: l.map (F m))) (some 1) none = jn (x :: l.map (F m)) := by
  obtain ⟨c, hc⟩ := tl1 (nm_ok m a b).1
  apply TL.ext_tl
  rw [TL.tl_append]
  have := tl_cut (jn (nm m :: l.map (F m))) 1
  have e : TL.tl (cutS (jn (nm m :: l.map (F m))) (some 1) none) = (tl (jn (nm m :: l.map (F m)))).drop 1 := this
  rw [e]
  cases l with
  | nil => rw [List.map_nil, jn_one, jn_one, hc]; simp
  | cons v r =>
    rw [List.map_cons, jn_cons, jn_cons]
    show TL.tl x ++ (TL.tl (nm m ++ " " ++ jn (F m v :: r.map (F m)))).drop 1 = _
    simp only [TL.tl_append, List.append_assoc]
    rw [show TL.tl (nm m) = [c] from hc]
    rfl
theorem b4 (x : Str) (hx : strIn x "1234" = false) (h1 : x.length = 1) (h2 : 32 ∉ x.cps.toList) : Ref (x ++ cutS (jn (nm m :: l.map (F m))) (some 1) none) := by
  obtain ⟨t1, t2⟩ := txt_ok a b h hl
  refine ref_of a b h hl (first := x) (rest := l.map (F m)) (cut_nm a b h hl x) (free_cons h2 (free_cs m l)) ?_ (.inr (.inl hx))
  rw [wl_cons] at t2 ⊢
  omega
theorem b6 (x : Str) (hx : cardB m (.str x) = false) (h1 : x.length ≤ 10) (h2 : 32 ∉ x.cps.toList) : Ref (jn (nm m :: l.map (F m)) ++ " " ++ x) := by
  obtain ⟨t1, t2⟩ := txt_ok a b h hl
  refine ref_of a b h hl (first := nm m) (rest := l.map (F m) ++ [x]) ?_ ?_ ?_ (.inr (.inr ⟨m, a, b, rfl, hand_no_card (x := x) (by simp) hx⟩))
  · have := jn_app (W := nm m :: l.map (F m)) (V := [x]) (by simp) (by simp)
    rw [List.cons_append] at this
    rw [this, jn_one]
  · rw [← List.cons_append]; exact free_app t1 (free_cons h2 (fun _ h => by simp at h))
  · rw [← List.cons_append, wl_app]
    have : wl [x] = x.length + 1 := by rw [wl_cons]; rfl
    omega
theorem b8 : Ref "" := by
  refine ref_of a b h hl (first := "") (rest := []) ?_ (free_cons (by decide) (fun _ h => by simp at h)) (by decide) (.inl (by decide))
  rw [jn_one]
theorem b9 {v : Nat} (hv : v ∈ l) : Ref (jn (nm m :: (l.map (F m) ++ [F m v]))) := by
  obtain ⟨t1, t2⟩ := txt_ok a b h hl
  refine ref_of a b h hl (first := nm m) (rest := l.map (F m) ++ [F m v]) rfl ?_ ?_ (.inr (.inr ⟨m, a, b, rfl, hand_no_pw fun q => ?_⟩))
  · rw [← List.cons_append]; exact free_app t1 (free_cons F_free (fun _ h => by simp at h))
  · rw [← List.cons_append, wl_app]
    have : wl [F m v] = m + 1 := by rw [wl_cons, F_len]; rfl
    omega
  · have := (List.pairwise_append.mp q).2.2 (F m v) (List.mem_map.mpr ⟨v, hv, rfl⟩) (F m v) (by simp)
    exact List.lt_irrefl _ this
theorem b13 (h2 : 1 < l.length) : Ref (jn (nm m :: (l.map (F m)).reverse)) := by
  obtain ⟨t1, t2⟩ := txt_ok a b h hl
  refine ref_of a b h hl (first := nm m) (rest := (l.map (F m)).reverse) rfl (free_cons (t1 _ (by simp)) fun p hp => free_cs m l p (List.mem_reverse.mp hp)) ?_ (.inr (.inr ⟨m, a, b, rfl, hand_no_pw fun q => ?_⟩))
  · have e : wl (l.map (F m)).reverse = wl (l.map (F m)) := by simp [wl]
    rw [wl_cons] at t2 ⊢
    rw [e]; omega
  · match l, h, h2, q with
    | v :: w :: r, h, _, q =>
      rw [List.map_cons, List.map_cons, List.reverse_cons, List.reverse_cons, List.append_assoc] at q
      have q2 := (List.pairwise_append.mp q).2.1
      have q3 : FL m w < FL m v := (List.pairwise_cons.mp q2).1 (F m v) (by simp)
      have h1 : v < w := (List.pairwise_cons.mp h.pw).1 w (by simp)
      exact List.lt_asymm (F_lt a b (h.lt w (by simp)) h1) q3
theorem b11 (h2 : l ≠ []) : Ref (jn (nm m :: l.map (F m)) ++ "\n") := by
  obtain ⟨t1, t2⟩ := txt_ok a b h hl
  obtain ⟨k, v, rfl⟩ : ∃ k v, l = k ++ [v] := ⟨l.dropLast, l.getLast h2, (List.dropLast_concat_getLast h2).symm⟩
  have n1 := (nm_ok m a b)
  refine ref_of a b h hl (first := nm m) (rest := k.map (F m) ++ [F m v ++ "\n"]) ?_ ?_ ?_ (.inr (.inr ⟨m, a, b, rfl, hand_no_card (x := F m v ++ "\n") (by simp) (card_no_len (by rw [strLen_append, F_len]; show ((m + 1 : Nat) : Int) ≠ m; omega))⟩))
  · have e1 := jn_app (W := nm m :: k.map (F m)) (V := [F m v]) (by simp) (by simp)
    have e2 := jn_app (W := nm m :: k.map (F m)) (V := [F m v ++ "\n"]) (by simp) (by simp)
    rw [List.cons_append, jn_one] at e1 e2
    rw [List.map_append, List.map_cons, List.map_nil, e1, e2]
    apply TL.ext_tl
    simp only [TL.tl_append, List.append_assoc]
  · rw [← List.cons_append]
    refine free_app (free_cons n1.2.2.2.1 (free_cs m k)) (free_cons ?_ (fun _ h => by simp at h))
    show 32 ∉ TL.tl (F m v ++ "\n")
    rw [TL.tl_append, List.mem_append]
    rintro (q | q)
    · exact F_free q
    · revert q; decide
  · rw [List.map_append, ← List.cons_append, wl_app] at t2
    rw [← List.cons_append, wl_app]
    have : wl [F m v ++ "\n"] = m + 2 := by rw [wl_cons, strLen_append, F_len]; rfl
    omega
theorem b12 (h2 : l ≠ []) (hm : 1 < m) : Ref (cutS (jn (nm m :: l.map (F m))) (some 2) none) := by
  obtain ⟨t1, t2⟩ := txt_ok a b h hl
  obtain ⟨c, hc⟩ := tl1 (nm_ok m a b).1
  match l, h2, t1, t2 with
  | v :: r, _, t1, t2 =>
    refine ref_of a b h hl (first := F m v) (rest := r.map (F m)) ?_ (fun p hp => t1 p (by simp only [List.map_cons]; exact List.mem_cons_of_mem _ hp)) (by rw [List.map_cons, wl_cons] at t2; omega) (.inl (by rw [F_len]; omega))
    apply TL.ext_tl
    have e : TL.tl (cutS (jn (nm m :: (v :: r).map (F m))) (some 2) none) = (tl (jn (nm m :: (v :: r).map (F m)))).drop 2 := tl_cut _ 2
    rw [e, List.map_cons, jn_cons]
    show (TL.tl (nm m ++ " " ++ jn (F m v :: r.map (F m)))).drop 2 = _
    simp only [TL.tl_append, List.append_assoc]
    rw [show TL.tl (nm m) = [c] from hc]
    rfl
end
end K02

end
section
namespace K02
open PySem PySem.Spec PyProof.Rows L2 Ev
theorem r_eCallK {g : DF} {n k : Nat} {ix : List Nat} {fs ks : Ev.Env → Sto → Out (List Vl)} {ρ : Ev.Env} {S : Sto} : eCallK g n k ix fs ks ρ S = (fs ρ S).bind fun xs S1 => (ks ρ S1).bind fun zs S2 => if xs.length = n ∧ zs.length = k then g (permL ix (xs ++ zs)) S2 else .stuck := nr rfl
theorem r_eSl {f : EF} {l h : OF} {ρ : Ev.Env} {S : Sto} : eSl f l h ρ S = (f ρ S).bind fun x S1 => (l ρ S1).bind fun lo S2 => (h ρ S2).bind fun hi S3 => (hSl x lo hi S3).calm := nr rfl
theorem r_oSome {f : EF} {ρ : Ev.Env} {S : Sto} : oSome f ρ S = (f ρ S).bind fun x S1 => match x with
  | .d (.int i) => .ok (some i) S1
  | _ => .stuck := nr rfl
theorem r_oNone {ρ : Ev.Env} {S : Sto} : oNone ρ S = .ok none S := nr rfl
theorem r_eRepl {f : EF} {y z : Str} {ρ : Ev.Env} {S : Sto} : eRepl f y z ρ S = (f ρ S).bind fun x S1 => match x with
  | .d (.str x) => if x.length + (x.length + 1) * z.length ≤ 16777216 then .ok (.d (.str (Txt.replace x y z))) S1 else .stuck
  | _ => .stuck := nr rfl
theorem r_eRevT {f : EF} {ρ : Ev.Env} {S : Sto} : eRevT f ρ S = (f ρ S).bind fun x S1 => (hRevT x S1).calm := nr rfl
theorem r_eFrz {f : EF} {ρ : Ev.Env} {S : Sto} : eFrz f ρ S = (f ρ S).bind hFrz := nr rfl
def tx0 : SF := sAsg (eM1 hJoin (eC (.str " ")) (e2 oAdd (eA mkLst (aCons (eA (dCalm hStr) (aCons (eVar 0) (aNil))) (aNil))) (eA (dCalm hList) (aCons (eVar 1) (aNil))))) (aName 2)
def tx1 : SF := sIf (bNot (eB (eA den__law_equal (aCons (eA mkTup (aCons (eA den_hand_text (aCons (eVar 0) (aCons (eVar 1) (aNil)))) (aCons (eA den_read_hand (aCons (eVar 2) (aNil))) (aCons (eCallK den_hand_text 0 2 [1, 0] aNil (aCons (eVar 1) (aCons (eVar 0) (aNil)))) (aCons (eCallK den_read_hand 0 1 [0] aNil (aCons (eVar 2) (aNil))) (aNil)))))) (aCons (e2 oMul (eA mkTup (aCons (eVar 2) (aCons (eA mkTup (aCons (eVar 0) (aCons (eVar 1) (aNil)))) (aNil)))) (eC (.int 2))) (aNil)))))) (sRet (eC (.bool false))) (sNil)
def tx2 : SF := sAsg (eA mkLstR (aCons (e2 oAdd (eVar 2) (eC (.str " "))) (aCons (e2 oAdd (eC (.str " ")) (eVar 2)) (aCons (e2 oAdd (eRepl (eVar 2) " " "  ") (eC (.str "  "))) (aCons (e2 oAdd (eC (.str "5")) (eSl (eVar 2) (oSome (eC (.int 1))) (oNone))) (aCons (e2 oAdd (eC (.str "0")) (eSl (eVar 2) (oSome (eC (.int 1))) (oNone))) (aCons (e2 oAdd (e2 oAdd (eVar 2) (eC (.str " "))) (e2 oMul (eC (.str "3")) (eVar 0))) (aCons (e2 oAdd (e2 oAdd (eVar 2) (eC (.str " "))) (e2 oMul (eC (.str "0")) (e2 oAdd (eVar 0) (eC (.int 1))))) (aCons (eC (.str "")) (aNil)))))))))) (aName 3)
def tx3 : SF := sIf (eB (e2 oNe (eVar 1) (eA mkTup (aNil)))) (sAsg (e2 oAddR (e2 oAdd (eVar 3) (eA mkLst (aCons (e2 oAdd (e2 oAdd (eVar 2) (eC (.str " "))) (e2 oGet (eVar 1) (eC (.int 0)))) (aCons (eM1 hJoin (eC (.str " ")) (e2 oAdd (e2 oAdd (eA mkLst (aCons (eA (dCalm hStr) (aCons (eVar 0) (aNil))) (aNil))) (eA (dCalm hList) (aCons (eVar 1) (aNil)))) (eA mkLst (aCons (e2 oGet (eVar 1) (e1 oNeg (eC (.int 1)))) (aNil))))) (aCons (e2 oAdd (eVar 2) (eC (.str "\n"))) (aNil)))))) (e2 oMul (eA mkLst (aCons (eSl (eVar 2) (oSome (eC (.int 2))) (oNone)) (aNil))) (eA (dCalm hInt) (aCons (e2 oGt (eVar 0) (eC (.int 1))) (aNil))))) (aName 3)) (sNil)
def tx4 : SF := sIf (eB (e2 oGt (eA (dCalm hLen) (aCons (eVar 1) (aNil))) (eC (.int 1)))) (sExpr (eAppend (eVar 3) (eM1 hJoin (eC (.str " ")) (e2 oAdd (eA mkLst (aCons (eA (dCalm hStr) (aCons (eVar 0) (aNil))) (aNil))) (eA (dCalm hList) (aCons (eRevT (eVar 1)) (aNil))))))) (sNil)
def tx5 : SF := sRet (eA (dCalm hAll) (aCons (eComp [4] (iBy toItems (eFrz (eVar 3))) (.nm 4) (pYes) (eA den__law_is_refused (aCons (eVar 4) (aNil)))) (aNil)))
def tx_all : SF := sSeq tx0 (sSeq tx1 (sSeq tx2 (sSeq tx3 (sSeq tx4 (tx5)))))
theorem tx_eq : b__law_texts_right = tx_all := rfl
theorem e_add (x y : Str) (S : Sto) (h : x.length + y.length ≤ 20000) : oAdd (.d (.str x)) (.d (.str y)) S = .ok (.d (.str (x ++ y))) S := by
  unfold oAdd
  simp only []
  rw [if_pos (by rw [sizeLine_eq]; omega)]
theorem e_cutT (x : Str) (k : Nat) (S : Sto) (h : x.length ≤ 20000) : hSl (.d (.str x)) (some (k : Int)) none S = .ok (.d (.str (cutS x (some (k : Int)) none))) S := by
  unfold hSl
  simp only [asListZ, asList]
  rw [if_pos (by rw [sizeLine_eq]; omega)]
theorem e_mulS (x : Str) (j : Int) (S : Sto) (h : x.length ≤ 10) (h0 : 0 ≤ j) (hk : j ≤ 10) : oMul (.d (.str x)) (.d (.int j)) S = .ok (.d (.str (Txt.mul x j))) S := by
  unfold oMul
  simp only []
  rw [if_pos (by omega)]
theorem e_addL (x y : List PyData) (S : Sto) (h : x.length + y.length ≤ 20000) : oAdd (.d (.list x)) (.d (.list y)) S = .ok (.d (.list (x ++ y))) S := by
  unfold oAdd
  simp only [asList]
  rw [if_pos (by rw [sizeLine_eq]; omega)]
theorem cut_len (x : Str) (k : Nat) : (cutS x (some (k : Int)) none).length ≤ x.length := by
  have := congrArg List.length (tl_cut x k)
  rw [List.length_drop] at this
  have e : ∀ z : Str, z.length = (tl z).length := fun z => by simp [bind_ok, bind_exc, bind_stuck, lift_ok, lift_exc, calm_ok, bind_if, lift_if, calm_if, r_fn, r_sRet, r_sRetN, r_sSeq, r_sExpr, r_sIf, r_sAsg, r_sNil, r_aName, aNils, aConss, aTup, eVar, r_eC, r_eA, r_aCons, r_aNil, r_e2, r_e1, r_eB, r_toB, r_eAnd, r_eOr, r_eNot, r_bAnd, r_bOr, r_bNot, r_eIf, r_eIsi, tyOf, isTy, Tk.nm, r_dCalm, r_iBy, r_iBys, toItems, toRng1, r_eChain, oOrd, oInt, oIs, isN, mkTup, mkLst, datas, r_sRaise, r_eSortSet, r_eM1, r_eCallK, r_eSl, r_oSome, r_oNone, r_eRepl, r_eRevT, r_eFrz, Str.length]
  rw [e, e]; omega
theorem rep_len (x : Str) : (Txt.replace x " " "  ").length ≤ x.length + (x.length + 1) * 2 := TK.replace_len x " " "  "
section
variable {m : Nat} (a : 1 ≤ m) (b : m ≤ 4) {l : List Nat} (h : Asc m l) (hl : l.length ≤ 100)
include a b h hl
theorem e_strm (S : Sto) : hStr [.d (.int (m : Nat))] S = .ok (.d (.str (nm m))) S := by
  obtain ⟨_, _, _, _, n5⟩ := nm_ok m a b
  unfold hStr
  simp only []
  rw [if_pos n5]
  rfl
theorem T_len : (jn (nm m :: l.map (F m))).length ≤ 502 := Nat.le_trans (jn_len _) (txt_ok a b h hl).2
theorem jn_chars : ∀ W : List Str, ∀ c ∈ tl (jn W), c = 32 ∨ ∃ w ∈ W, c ∈ tl w
  | [], c, hc => by
    have e : tl (jn []) = [] := by decide +kernel
    rw [e] at hc; simp [bind_ok, bind_exc, bind_stuck, lift_ok, lift_exc, calm_ok, bind_if, lift_if, calm_if, r_fn, r_sRet, r_sRetN, r_sSeq, r_sExpr, r_sIf, r_sAsg, r_sNil, r_aName, aNils, aConss, aTup, eVar, r_eC, r_eA, r_aCons, r_aNil, r_e2, r_e1, r_eB, r_toB, r_eAnd, r_eOr, r_eNot, r_bAnd, r_bOr, r_bNot, r_eIf, r_eIsi, tyOf, isTy, Tk.nm, r_dCalm, r_iBy, r_iBys, toItems, toRng1, r_eChain, oOrd, oInt, oIs, isN, mkTup, mkLst, datas, r_sRaise, r_eSortSet, r_eM1, r_eCallK, r_eSl, r_oSome, r_oNone, r_eRepl, r_eRevT, r_eFrz] at hc
  | [x], c, hc => by rw [jn_one] at hc; exact .inr ⟨x, by simp [bind_ok, bind_exc, bind_stuck, lift_ok, lift_exc, calm_ok, bind_if, lift_if, calm_if, r_fn, r_sRet, r_sRetN, r_sSeq, r_sExpr, r_sIf, r_sAsg, r_sNil, r_aName, aNils, aConss, aTup, eVar, r_eC, r_eA, r_aCons, r_aNil, r_e2, r_e1, r_eB, r_toB, r_eAnd, r_eOr, r_eNot, r_bAnd, r_bOr, r_bNot, r_eIf, r_eIsi, tyOf, isTy, Tk.nm, r_dCalm, r_iBy, r_iBys, toItems, toRng1, r_eChain, oOrd, oInt, oIs, isN, mkTup, mkLst, datas, r_sRaise, r_eSortSet, r_eM1, r_eCallK, r_eSl, r_oSome, r_oNone, r_eRepl, r_eRevT, r_eFrz], hc⟩
  | x :: y :: r, c, hc => by
    rw [jn_cons] at hc
    have hc : c ∈ TL.tl (x ++ " " ++ jn (y :: r)) := hc
    rw [TL.tl_append, TL.tl_append, List.mem_append, List.mem_append] at hc
    rcases hc with (hc | hc) | hc
    · exact .inr ⟨x, by simp [bind_ok, bind_exc, bind_stuck, lift_ok, lift_exc, calm_ok, bind_if, lift_if, calm_if, r_fn, r_sRet, r_sRetN, r_sSeq, r_sExpr, r_sIf, r_sAsg, r_sNil, r_aName, aNils, aConss, aTup, eVar, r_eC, r_eA, r_aCons, r_aNil, r_e2, r_e1, r_eB, r_toB, r_eAnd, r_eOr, r_eNot, r_bAnd, r_bOr, r_bNot, r_eIf, r_eIsi, tyOf, isTy, Tk.nm, r_dCalm, r_iBy, r_iBys, toItems, toRng1, r_eChain, oOrd, oInt, oIs, isN, mkTup, mkLst, datas, r_sRaise, r_eSortSet, r_eM1, r_eCallK, r_eSl, r_oSome, r_oNone, r_eRepl, r_eRevT, r_eFrz], hc⟩
    · have : c = 32 := by
        have e : TL.tl (Str.ofString " ") = [32] := by decide +kernel
        rw [e] at hc; simpa [bind_ok, bind_exc, bind_stuck, lift_ok, lift_exc, calm_ok, bind_if, lift_if, calm_if, r_fn, r_sRet, r_sRetN, r_sSeq, r_sExpr, r_sIf, r_sAsg, r_sNil, r_aName, aNils, aConss, aTup, eVar, r_eC, r_eA, r_aCons, r_aNil, r_e2, r_e1, r_eB, r_toB, r_eAnd, r_eOr, r_eNot, r_bAnd, r_bOr, r_bNot, r_eIf, r_eIsi, tyOf, isTy, Tk.nm, r_dCalm, r_iBy, r_iBys, toItems, toRng1, r_eChain, oOrd, oInt, oIs, isN, mkTup, mkLst, datas, r_sRaise, r_eSortSet, r_eM1, r_eCallK, r_eSl, r_oSome, r_oNone, r_eRepl, r_eRevT, r_eFrz] using hc
      exact .inl this
    · rcases jn_chars (y :: r) c hc with q | ⟨w, hw, q⟩
      · exact .inl q
      · exact .inr ⟨w, by simp [bind_ok, bind_exc, bind_stuck, lift_ok, lift_exc, calm_ok, bind_if, lift_if, calm_if, r_fn, r_sRet, r_sRetN, r_sSeq, r_sExpr, r_sIf, r_sAsg, r_sNil, r_aName, aNils, aConss, aTup, eVar, r_eC, r_eA, r_aCons, r_aNil, r_e2, r_e1, r_eB, r_toB, r_eAnd, r_eOr, r_eNot, r_bAnd, r_bOr, r_bNot, r_eIf, r_eIsi, tyOf, isTy, Tk.nm, r_dCalm, r_iBy, r_iBys, toItems, toRng1, r_eChain, oOrd, oInt, oIs, isN, mkTup, mkLst, datas, r_sRaise, r_eSortSet, r_eM1, r_eCallK, r_eSl, r_oSome, r_oNone, r_eRepl, r_eRevT, r_eFrz, List.mem_cons.mp hw], q⟩
theorem nm_chars : ∀ c ∈ tl (nm m), c < 0x110000 :=
  cases4 (P := fun m => ∀ c ∈ tl (nm m), c < 0x110000) (by decide +kernel) (by decide +kernel) (by decide +kernel) (by decide +kernel) m a b
theorem gd_T : gd (.str (jn (nm m :: l.map (F m)))) = true := by
  simp only [gd, List.all_eq_true, decide_eq_true_eq]
  intro c hc
  rcases jn_chars a b h hl _ c hc with rfl | ⟨w, hw, q⟩
  · decide
  · rcases List.mem_cons.mp hw with rfl | hw
    · exact nm_chars a b h hl c q
    · obtain ⟨v, _, rfl⟩ := List.mem_map.mp hw
      rcases FL_dig m v c q with rfl | rfl | rfl <;> decide
theorem gd_cs : ∀ k : List Nat, gdAll (cs m k) = true
  | [] => rfl
  | v :: r => by
    have ih := gd_cs r
    simp only [cs, List.map_cons, gdAll, gd, Bool.and_eq_true] at ih ⊢
    refine ⟨?_, ih⟩
    rw [List.all_eq_true]
    intro c hc
    rcases FL_dig m v c hc with rfl | rfl | rfl <;> decide
theorem wt_cs : ∀ k : List Nat, wtAll (cs m k) ≤ 44 * k.length
  | [] => Nat.le_refl _
  | v :: r => by
    have ih := wt_cs r
    simp only [cs, List.map_cons, wtAll, wt, F_len, List.length_cons] at ih ⊢
    omega
theorem dp_cs : ∀ k : List Nat, PyData.depthAll (cs m k) = 0
  | [] => rfl
  | v :: r => by
    have ih := dp_cs r
    simp only [cs, List.map_cons, PyData.depthAll, PyData.depth] at ih ⊢
    rw [ih]; rfl
theorem tx0_ok (x y z : Option Vl) (S : Sto) : tx0 [some (.d (.int (m : Nat))), some (.d (.tuple (cs m l))), x, y, z] S = .ok (.nx [some (.d (.int (m : Nat))), some (.d (.tuple (cs m l))), some (.d (.str (jn (nm m :: l.map (F m))))), y, z]) S := by
  have j := fun S => e_join a b h hl (W := nm m :: l.map (F m)) (by have := (txt_ok a b h hl).2; omega) S
  have e : (nm m :: l.map (F m)).map PyData.str = .str (nm m) :: cs m l := by rw [List.map_cons, cs_str]
  rw [e] at j
  have ad := fun S => e_addL [.str (nm m)] (cs m l) S (by simp [bind_ok, bind_exc, bind_stuck, lift_ok, lift_exc, calm_ok, bind_if, lift_if, calm_if, r_fn, r_sRet, r_sRetN, r_sSeq, r_sExpr, r_sIf, r_sAsg, r_sNil, r_aName, aNils, aConss, aTup, eVar, r_eC, r_eA, r_aCons, r_aNil, r_e2, r_e1, r_eB, r_toB, r_eAnd, r_eOr, r_eNot, r_bAnd, r_bOr, r_bNot, r_eIf, r_eIsi, tyOf, isTy, Tk.nm, r_dCalm, r_iBy, r_iBys, toItems, toRng1, r_eChain, oOrd, oInt, oIs, isN, mkTup, mkLst, datas, r_sRaise, r_eSortSet, r_eM1, r_eCallK, r_eSl, r_oSome, r_oNone, r_eRepl, r_eRevT, r_eFrz, cs]; omega)
  simp only [List.cons_append, List.nil_append] at ad
  simp [bind_ok, bind_exc, bind_stuck, lift_ok, lift_exc, calm_ok, bind_if, lift_if, calm_if, r_fn, r_sRet, r_sRetN, r_sSeq, r_sExpr, r_sIf, r_sAsg, r_sNil, r_aName, aNils, aConss, aTup, eVar, r_eC, r_eA, r_aCons, r_aNil, r_e2, r_e1, r_eB, r_toB, r_eAnd, r_eOr, r_eNot, r_bAnd, r_bOr, r_bNot, r_eIf, r_eIsi, tyOf, isTy, Tk.nm, r_dCalm, r_iBy, r_iBys, toItems, toRng1, r_eChain, oOrd, oInt, oIs, isN, mkTup, mkLst, datas, r_sRaise, r_eSortSet, r_eM1, r_eCallK, r_eSl, r_oSome, r_oNone, r_eRepl, r_eRevT, r_eFrz, tx0, e_strm a b h hl, sizeLine_eq, hList, asListZ, asList, asTup, ad, j]
theorem tx1_ok (y z : Option Vl) (S : Sto) : tx1 [some (.d (.int (m : Nat))), some (.d (.tuple (cs m l))), some (.d (.str (jn (nm m :: l.map (F m))))), y, z] S = .ok (.nx [some (.d (.int (m : Nat))), some (.d (.tuple (cs m l))), some (.d (.str (jn (nm m :: l.map (F m))))), y, z]) S := by
  have g1 := gd_T a b h hl
  have g2 := gd_cs a b h hl l
  have lT := T_len a b h hl
  have w1 := wt_cs a b h hl l
  have d1 := dp_cs a b h hl l
  have mi : ((m : Nat) : Int).natAbs < 10 ^ 9 := by omega
  have g3 : gd (.tuple [.int (m : Nat), .tuple (cs m l)]) = true := by simp only [gd, gdAll, g2, Bool.and_true, decide_eq_true_eq]; exact mi
  have key := fun S => e_equal [.str (jn (nm m :: l.map (F m))), .tuple [.int (m : Nat), .tuple (cs m l)], .str (jn (nm m :: l.map (F m))), .tuple [.int (m : Nat), .tuple (cs m l)]] S
    (by simp only [gdAll, g1, g3, Bool.and_self])
    (by simp only [PyData.depthAll, PyData.depth, d1]; decide)
    (by simp only [wtAll, wt]; omega)
  have mu : ∀ S, oMul (.d (.tuple [.str (jn (nm m :: l.map (F m))), .tuple [.int (m : Nat), .tuple (cs m l)]])) (.d (.int 2)) S = .ok (.d (.tuple [.str (jn (nm m :: l.map (F m))), .tuple [.int (m : Nat), .tuple (cs m l)], .str (jn (nm m :: l.map (F m))), .tuple [.int (m : Nat), .tuple (cs m l)]])) S := fun S => by
    unfold oMul
    simp only []
    rw [if_pos (by simp [bind_ok, bind_exc, bind_stuck, lift_ok, lift_exc, calm_ok, bind_if, lift_if, calm_if, r_fn, r_sRet, r_sRetN, r_sSeq, r_sExpr, r_sIf, r_sAsg, r_sNil, r_aName, aNils, aConss, aTup, eVar, r_eC, r_eA, r_aCons, r_aNil, r_e2, r_e1, r_eB, r_toB, r_eAnd, r_eOr, r_eNot, r_bAnd, r_bOr, r_bNot, r_eIf, r_eIsi, tyOf, isTy, Tk.nm, r_dCalm, r_iBy, r_iBys, toItems, toRng1, r_eChain, oOrd, oInt, oIs, isN, mkTup, mkLst, datas, r_sRaise, r_eSortSet, r_eM1, r_eCallK, r_eSl, r_oSome, r_oNone, r_eRepl, r_eRevT, r_eFrz])]
    rfl
  simp [bind_ok, bind_exc, bind_stuck, lift_ok, lift_exc, calm_ok, bind_if, lift_if, calm_if, r_fn, r_sRet, r_sRetN, r_sSeq, r_sExpr, r_sIf, r_sAsg, r_sNil, r_aName, aNils, aConss, aTup, eVar, r_eC, r_eA, r_aCons, r_aNil, r_e2, r_e1, r_eB, r_toB, r_eAnd, r_eOr, r_eNot, r_bAnd, r_bOr, r_bNot, r_eIf, r_eIsi, tyOf, isTy, Tk.nm, r_dCalm, r_iBy, r_iBys, toItems, toRng1, r_eChain, oOrd, oInt, oIs, isN, mkTup, mkLst, datas, r_sRaise, r_eSortSet, r_eM1, r_eCallK, r_eSl, r_oSome, r_oNone, r_eRepl, r_eRevT, r_eFrz, tx1, e_hand_text a b h hl, e_read a b h hl, permL, sizeLine_eq, mu, key]

/-- the texts so far, at n -/
structure Bent (S0 : Sto) (n : Nat) (k : Nat) (S : Sto) : Prop where
  ex : ∃ B : List Str, S[n]? = some (some (.lst (B.map .str))) ∧ (∀ t ∈ B, Ref t) ∧ B.length ≤ k
  pre : ∀ i, i < S0.length → S[i]? = S0[i]?
  ge : S0.length ≤ n
  le : S0.length ≤ S.length
theorem tx2_ok (y z : Option Vl) (S : Sto) : ∃ S', tx2 [some (.d (.int (m : Nat))), some (.d (.tuple (cs m l))), some (.d (.str (jn (nm m :: l.map (F m))))), y, z] S = .ok (.nx [some (.d (.int (m : Nat))), some (.d (.tuple (cs m l))), some (.d (.str (jn (nm m :: l.map (F m))))), some (.r S.length), z]) S' ∧ Bent S S.length 8 S' := by
  have c1 := cut_nm a b h hl
  have r1 := b1 a b h hl
  have r2 := b2 a b h hl
  have r3 := b3 a b h hl
  have r4 := b4 a b h hl "5" (by decide +kernel) (by decide) (by decide)
  have r5 := b4 a b h hl "0" (by decide +kernel) (by decide) (by decide)
  have hm3 : cardB m (.str (Txt.mul "3" m)) = false ∧ (Txt.mul "3" m).length ≤ 10 ∧ 32 ∉ (Txt.mul "3" m).cps.toList := cases4 (P := fun m => cardB m (.str (Txt.mul "3" m)) = false ∧ (Txt.mul "3" m).length ≤ 10 ∧ 32 ∉ (Txt.mul "3" m).cps.toList) (by decide +kernel) (by decide +kernel) (by decide +kernel) (by decide +kernel) m a b
  have hm0 : cardB m (.str (Txt.mul "0" ((m : Nat) + 1 : Int))) = false ∧ (Txt.mul "0" ((m : Nat) + 1 : Int)).length ≤ 10 ∧ 32 ∉ (Txt.mul "0" ((m : Nat) + 1 : Int)).cps.toList := cases4 (P := fun m => cardB m (.str (Txt.mul "0" ((m : Nat) + 1 : Int))) = false ∧ (Txt.mul "0" ((m : Nat) + 1 : Int)).length ≤ 10 ∧ 32 ∉ (Txt.mul "0" ((m : Nat) + 1 : Int)).cps.toList) (by decide +kernel) (by decide +kernel) (by decide +kernel) (by decide +kernel) m a b
  have r6 := b6 a b h hl _ hm3.1 hm3.2.1 hm3.2.2
  have r7 := b6 a b h hl _ hm0.1 hm0.2.1 hm0.2.2
  have r8 := b8 a b h hl
  have lT := T_len a b h hl
  have e5 := cut_len (jn (nm m :: l.map (F m))) 1
  have e6 := rep_len (jn (nm m :: l.map (F m)))
  have q0 : (Str.ofString " ").length = 1 := rfl
  have q1 : (Str.ofString "  ").length = 2 := rfl
  have q2 : (Str.ofString "5").length = 1 := rfl
  have q3 : (Str.ofString "0").length = 1 := rfl
  have q4 : (Str.ofString "3").length = 1 := rfl
  generalize hT : jn (nm m :: l.map (F m)) = T at *
  have a1 := fun S => e_add T " " S (by omega)
  have a2 := fun S => e_add " " T S (by omega)
  have a3 := fun S => e_add (Txt.replace T " " "  ") "  " S (by omega)
  have a4 := fun S => e_add "5" (cutS T (some (1 : Nat)) none) S (by omega)
  have a5 := fun S => e_add "0" (cutS T (some (1 : Nat)) none) S (by omega)
  have a6 := fun S => e_add (T ++ " ") (Txt.mul "3" m) S (by rw [strLen_append]; omega)
  have a7 := fun S => e_add (T ++ " ") (Txt.mul "0" ((m : Nat) + 1 : Int)) S (by rw [strLen_append]; omega)
  have cu := fun S => e_cutT T 1 S (by omega)
  have m3 := fun S => e_mulS "3" (m : Nat) S (by decide) (by omega) (by omega)
  have m0 := fun S => e_mulS "0" ((m : Nat) + 1 : Int) S (by decide) (by omega) (by omega)
  have ai : ∀ S, oAdd (.d (.int (m : Nat))) (.d (.int 1)) S = .ok (.d (.int ((m : Nat) + 1 : Int))) S := fun S => rfl
  have rp : T.length + (T.length + 1) * (Str.ofString "  ").length ≤ 16777216 := by rw [q1]; omega
  simp only [Int.natCast_one] at a4 a5 cu
  refine ⟨S ++ [some (.lst ([T ++ " ", " " ++ T, Txt.replace T " " "  " ++ "  ", "5" ++ cutS T (some 1) none, "0" ++ cutS T (some 1) none, T ++ " " ++ Txt.mul "3" m, T ++ " " ++ Txt.mul "0" ((m : Nat) + 1 : Int), ""].map .str))], ?_, ⟨⟨_, List.getElem?_concat_length, ?_, by simp [bind_ok, bind_exc, bind_stuck, lift_ok, lift_exc, calm_ok, bind_if, lift_if, calm_if, r_fn, r_sRet, r_sRetN, r_sSeq, r_sExpr, r_sIf, r_sAsg, r_sNil, r_aName, aNils, aConss, aTup, eVar, r_eC, r_eA, r_aCons, r_aNil, r_e2, r_e1, r_eB, r_toB, r_eAnd, r_eOr, r_eNot, r_bAnd, r_bOr, r_bNot, r_eIf, r_eIsi, tyOf, isTy, Tk.nm, r_dCalm, r_iBy, r_iBys, toItems, toRng1, r_eChain, oOrd, oInt, oIs, isN, mkTup, mkLst, datas, r_sRaise, r_eSortSet, r_eM1, r_eCallK, r_eSl, r_oSome, r_oNone, r_eRepl, r_eRevT, r_eFrz]⟩, fun i hi => List.getElem?_append_left hi, Nat.le_refl _, by simp [bind_ok, bind_exc, bind_stuck, lift_ok, lift_exc, calm_ok, bind_if, lift_if, calm_if, r_fn, r_sRet, r_sRetN, r_sSeq, r_sExpr, r_sIf, r_sAsg, r_sNil, r_aName, aNils, aConss, aTup, eVar, r_eC, r_eA, r_aCons, r_aNil, r_e2, r_e1, r_eB, r_toB, r_eAnd, r_eOr, r_eNot, r_bAnd, r_bOr, r_bNot, r_eIf, r_eIsi, tyOf, isTy, Tk.nm, r_dCalm, r_iBy, r_iBys, toItems, toRng1, r_eChain, oOrd, oInt, oIs, isN, mkTup, mkLst, datas, r_sRaise, r_eSortSet, r_eM1, r_eCallK, r_eSl, r_oSome, r_oNone, r_eRepl, r_eRevT, r_eFrz]⟩⟩
  · simp [bind_ok, bind_exc, bind_stuck, lift_ok, lift_exc, calm_ok, bind_if, lift_if, calm_if, r_fn, r_sRet, r_sRetN, r_sSeq, r_sExpr, r_sIf, r_sAsg, r_sNil, r_aName, aNils, aConss, aTup, eVar, r_eC, r_eA, r_aCons, r_aNil, r_e2, r_e1, r_eB, r_toB, r_eAnd, r_eOr, r_eNot, r_bAnd, r_bOr, r_bNot, r_eIf, r_eIsi, tyOf, isTy, Tk.nm, r_dCalm, r_iBy, r_iBys, toItems, toRng1, r_eChain, oOrd, oInt, oIs, isN, mkTup, mkLst, datas, r_sRaise, r_eSortSet, r_eM1, r_eCallK, r_eSl, r_oSome, r_oNone, r_eRepl, r_eRevT, r_eFrz, tx2, mkLstR, a1, a2, a3, a4, a5, a6, a7, cu, m3, m0, ai, rp, sizeLine_eq]
  · intro t ht
    simp only [List.mem_cons, List.not_mem_nil, or_false] at ht
    rcases ht with rfl | rfl | rfl | rfl | rfl | rfl | rfl | rfl
    · exact r1
    · exact r2
    · exact r3
    · exact r4
    · exact r5
    · exact r6
    · exact r7
    · exact r8

theorem ne_hand (S : Sto) : oNe (.d (.tuple (cs m l))) (.d (.tuple [])) S = .ok (.d (.bool (!decide (l = [])))) S := by
  have sh : SeqAt.shaped (.tuple (cs m l)) = true := by
    unfold SeqAt.shaped
    simp only [PyData.canLay0, PyData.depth, canLay_cs a b l, dp_cs a b h hl l]
    rfl
  have se : SeqAt.shaped (.tuple []) = true := by decide +kernel
  have e : PyData.eqv (.tuple (cs m l)) (.tuple []) = decide (l = []) := by
    cases l with
    | nil => simp [bind_ok, bind_exc, bind_stuck, lift_ok, lift_exc, calm_ok, bind_if, lift_if, calm_if, r_fn, r_sRet, r_sRetN, r_sSeq, r_sExpr, r_sIf, r_sAsg, r_sNil, r_aName, aNils, aConss, aTup, eVar, r_eC, r_eA, r_aCons, r_aNil, r_e2, r_e1, r_eB, r_toB, r_eAnd, r_eOr, r_eNot, r_bAnd, r_bOr, r_bNot, r_eIf, r_eIsi, tyOf, isTy, Tk.nm, r_dCalm, r_iBy, r_iBys, toItems, toRng1, r_eChain, oOrd, oInt, oIs, isN, mkTup, mkLst, datas, r_sRaise, r_eSortSet, r_eM1, r_eCallK, r_eSl, r_oSome, r_oNone, r_eRepl, r_eRevT, r_eFrz, cs, PyData.eqv, PyData.eqvAll]
    | cons v r => simp [bind_ok, bind_exc, bind_stuck, lift_ok, lift_exc, calm_ok, bind_if, lift_if, calm_if, r_fn, r_sRet, r_sRetN, r_sSeq, r_sExpr, r_sIf, r_sAsg, r_sNil, r_aName, aNils, aConss, aTup, eVar, r_eC, r_eA, r_aCons, r_aNil, r_e2, r_e1, r_eB, r_toB, r_eAnd, r_eOr, r_eNot, r_bAnd, r_bOr, r_bNot, r_eIf, r_eIsi, tyOf, isTy, Tk.nm, r_dCalm, r_iBy, r_iBys, toItems, toRng1, r_eChain, oOrd, oInt, oIs, isN, mkTup, mkLst, datas, r_sRaise, r_eSortSet, r_eM1, r_eCallK, r_eSl, r_oSome, r_oNone, r_eRepl, r_eRevT, r_eFrz, cs, PyData.eqv, PyData.eqvAll]
  unfold oNe
  simp only [sh, se, e]
  rfl
theorem at_first (v : Nat) (r : List Nat) : L2.atI (cs m (v :: r)) 0 = some (.str (F m v)) := by
  unfold L2.atI ixN
  simp [bind_ok, bind_exc, bind_stuck, lift_ok, lift_exc, calm_ok, bind_if, lift_if, calm_if, r_fn, r_sRet, r_sRetN, r_sSeq, r_sExpr, r_sIf, r_sAsg, r_sNil, r_aName, aNils, aConss, aTup, eVar, r_eC, r_eA, r_aCons, r_aNil, r_e2, r_e1, r_eB, r_toB, r_eAnd, r_eOr, r_eNot, r_bAnd, r_bOr, r_bNot, r_eIf, r_eIsi, tyOf, isTy, Tk.nm, r_dCalm, r_iBy, r_iBys, toItems, toRng1, r_eChain, oOrd, oInt, oIs, isN, mkTup, mkLst, datas, r_sRaise, r_eSortSet, r_eM1, r_eCallK, r_eSl, r_oSome, r_oNone, r_eRepl, r_eRevT, r_eFrz, cs]
theorem at_last (k : List Nat) (v : Nat) : L2.atI (cs m (k ++ [v])) (-1) = some (.str (F m v)) := by
  unfold L2.atI ixN
  have e : (cs m (k ++ [v])).length = k.length + 1 := by simp [bind_ok, bind_exc, bind_stuck, lift_ok, lift_exc, calm_ok, bind_if, lift_if, calm_if, r_fn, r_sRet, r_sRetN, r_sSeq, r_sExpr, r_sIf, r_sAsg, r_sNil, r_aName, aNils, aConss, aTup, eVar, r_eC, r_eA, r_aCons, r_aNil, r_e2, r_e1, r_eB, r_toB, r_eAnd, r_eOr, r_eNot, r_bAnd, r_bOr, r_bNot, r_eIf, r_eIsi, tyOf, isTy, Tk.nm, r_dCalm, r_iBy, r_iBys, toItems, toRng1, r_eChain, oOrd, oInt, oIs, isN, mkTup, mkLst, datas, r_sRaise, r_eSortSet, r_eM1, r_eCallK, r_eSl, r_oSome, r_oNone, r_eRepl, r_eRevT, r_eFrz, cs]
  rw [e, if_neg (by omega), if_pos (by omega)]
  have e2 : (-1 + ((k.length + 1 : Nat) : Int)).toNat = k.length := by omega
  rw [e2, Option.bind_some]
  simp [bind_ok, bind_exc, bind_stuck, lift_ok, lift_exc, calm_ok, bind_if, lift_if, calm_if, r_fn, r_sRet, r_sRetN, r_sSeq, r_sExpr, r_sIf, r_sAsg, r_sNil, r_aName, aNils, aConss, aTup, eVar, r_eC, r_eA, r_aCons, r_aNil, r_e2, r_e1, r_eB, r_toB, r_eAnd, r_eOr, r_eNot, r_bAnd, r_bOr, r_bNot, r_eIf, r_eIsi, tyOf, isTy, Tk.nm, r_dCalm, r_iBy, r_iBys, toItems, toRng1, r_eChain, oOrd, oInt, oIs, isN, mkTup, mkLst, datas, r_sRaise, r_eSortSet, r_eM1, r_eCallK, r_eSl, r_oSome, r_oNone, r_eRepl, r_eRevT, r_eFrz, cs]
theorem tx3_ok {n : Nat} (z : Option Vl) {S0 S : Sto} (B : Bent S0 n 8 S) : ∃ n' S', tx3 [some (.d (.int (m : Nat))), some (.d (.tuple (cs m l))), some (.d (.str (jn (nm m :: l.map (F m))))), some (.r n), z] S = .ok (.nx [some (.d (.int (m : Nat))), some (.d (.tuple (cs m l))), some (.d (.str (jn (nm m :: l.map (F m))))), some (.r n'), z]) S' ∧ Bent S0 n' 12 S' := by
  obtain ⟨⟨B, hB, hR, hlen⟩, hp, hge, hle⟩ := B
  have ne := ne_hand a b h hl
  by_cases q : l = []
  · have ne0 := ne
    simp only [decide_eq_true q, Bool.not_true] at ne0
    exact ⟨n, S, by simp [bind_ok, bind_exc, bind_stuck, lift_ok, lift_exc, calm_ok, bind_if, lift_if, calm_if, r_fn, r_sRet, r_sRetN, r_sSeq, r_sExpr, r_sIf, r_sAsg, r_sNil, r_aName, aNils, aConss, aTup, eVar, r_eC, r_eA, r_aCons, r_aNil, r_e2, r_e1, r_eB, r_toB, r_eAnd, r_eOr, r_eNot, r_bAnd, r_bOr, r_bNot, r_eIf, r_eIsi, tyOf, isTy, Tk.nm, r_dCalm, r_iBy, r_iBys, toItems, toRng1, r_eChain, oOrd, oInt, oIs, isN, mkTup, mkLst, datas, r_sRaise, r_eSortSet, r_eM1, r_eCallK, r_eSl, r_oSome, r_oNone, r_eRepl, r_eRevT, r_eFrz, tx3, ne0, sizeLine_eq], ⟨⟨B, hB, hR, by omega⟩, hp, hge, hle⟩⟩
  · obtain ⟨v, r, hv⟩ : ∃ v r, l = v :: r := by cases l with
      | nil => exact absurd rfl q
      | cons v r => exact ⟨v, r, rfl⟩
    obtain ⟨k, w, hw⟩ : ∃ k w, l = k ++ [w] := ⟨l.dropLast, l.getLast q, (List.dropLast_concat_getLast q).symm⟩
    have a0 : L2.atI (cs m l) 0 = some (.str (F m v)) := by rw [hv]; exact at_first a b h hl v r
    have a1 : L2.atI (cs m l) (-1) = some (.str (F m w)) := by rw [hw]; exact at_last a b h hl k w
    have r9 := b9 a b h hl (v := v) (by rw [hv]; simp [bind_ok, bind_exc, bind_stuck, lift_ok, lift_exc, calm_ok, bind_if, lift_if, calm_if, r_fn, r_sRet, r_sRetN, r_sSeq, r_sExpr, r_sIf, r_sAsg, r_sNil, r_aName, aNils, aConss, aTup, eVar, r_eC, r_eA, r_aCons, r_aNil, r_e2, r_e1, r_eB, r_toB, r_eAnd, r_eOr, r_eNot, r_bAnd, r_bOr, r_bNot, r_eIf, r_eIsi, tyOf, isTy, Tk.nm, r_dCalm, r_iBy, r_iBys, toItems, toRng1, r_eChain, oOrd, oInt, oIs, isN, mkTup, mkLst, datas, r_sRaise, r_eSortSet, r_eM1, r_eCallK, r_eSl, r_oSome, r_oNone, r_eRepl, r_eRevT, r_eFrz])
    have r10 := b9 a b h hl (v := w) (by rw [hw]; simp [bind_ok, bind_exc, bind_stuck, lift_ok, lift_exc, calm_ok, bind_if, lift_if, calm_if, r_fn, r_sRet, r_sRetN, r_sSeq, r_sExpr, r_sIf, r_sAsg, r_sNil, r_aName, aNils, aConss, aTup, eVar, r_eC, r_eA, r_aCons, r_aNil, r_e2, r_e1, r_eB, r_toB, r_eAnd, r_eOr, r_eNot, r_bAnd, r_bOr, r_bNot, r_eIf, r_eIsi, tyOf, isTy, Tk.nm, r_dCalm, r_iBy, r_iBys, toItems, toRng1, r_eChain, oOrd, oInt, oIs, isN, mkTup, mkLst, datas, r_sRaise, r_eSortSet, r_eM1, r_eCallK, r_eSl, r_oSome, r_oNone, r_eRepl, r_eRevT, r_eFrz])
    have r11 := b11 a b h hl q
    have t9 : jn (nm m :: (l.map (F m) ++ [F m v])) = jn (nm m :: l.map (F m)) ++ " " ++ F m v := by
      have := jn_app (W := nm m :: l.map (F m)) (V := [F m v]) (by simp [bind_ok, bind_exc, bind_stuck, lift_ok, lift_exc, calm_ok, bind_if, lift_if, calm_if, r_fn, r_sRet, r_sRetN, r_sSeq, r_sExpr, r_sIf, r_sAsg, r_sNil, r_aName, aNils, aConss, aTup, eVar, r_eC, r_eA, r_aCons, r_aNil, r_e2, r_e1, r_eB, r_toB, r_eAnd, r_eOr, r_eNot, r_bAnd, r_bOr, r_bNot, r_eIf, r_eIsi, tyOf, isTy, Tk.nm, r_dCalm, r_iBy, r_iBys, toItems, toRng1, r_eChain, oOrd, oInt, oIs, isN, mkTup, mkLst, datas, r_sRaise, r_eSortSet, r_eM1, r_eCallK, r_eSl, r_oSome, r_oNone, r_eRepl, r_eRevT, r_eFrz]) (by simp [bind_ok, bind_exc, bind_stuck, lift_ok, lift_exc, calm_ok, bind_if, lift_if, calm_if, r_fn, r_sRet, r_sRetN, r_sSeq, r_sExpr, r_sIf, r_sAsg, r_sNil, r_aName, aNils, aConss, aTup, eVar, r_eC, r_eA, r_aCons, r_aNil, r_e2, r_e1, r_eB, r_toB, r_eAnd, r_eOr, r_eNot, r_bAnd, r_bOr, r_bNot, r_eIf, r_eIsi, tyOf, isTy, Tk.nm, r_dCalm, r_iBy, r_iBys, toItems, toRng1, r_eChain, oOrd, oInt, oIs, isN, mkTup, mkLst, datas, r_sRaise, r_eSortSet, r_eM1, r_eCallK, r_eSl, r_oSome, r_oNone, r_eRepl, r_eRevT, r_eFrz])
      rw [List.cons_append, jn_one] at this
      exact this
    have lT := T_len a b h hl
    have w10 : wl (nm m :: (l.map (F m) ++ [F m w])) ≤ 10000 := by
      have t2 := (txt_ok a b h hl).2
      rw [← List.cons_append, wl_app]
      have : wl [F m w] = m + 1 := by rw [wl_cons, F_len]; rfl
      omega
    have j := fun S => e_join a b h hl w10 S
    have ej : (nm m :: (l.map (F m) ++ [F m w])).map PyData.str = .str (nm m) :: (cs m l ++ [.str (F m w)]) := by simp [bind_ok, bind_exc, bind_stuck, lift_ok, lift_exc, calm_ok, bind_if, lift_if, calm_if, r_fn, r_sRet, r_sRetN, r_sSeq, r_sExpr, r_sIf, r_sAsg, r_sNil, r_aName, aNils, aConss, aTup, eVar, r_eC, r_eA, r_aCons, r_aNil, r_e2, r_e1, r_eB, r_toB, r_eAnd, r_eOr, r_eNot, r_bAnd, r_bOr, r_bNot, r_eIf, r_eIsi, tyOf, isTy, Tk.nm, r_dCalm, r_iBy, r_iBys, toItems, toRng1, r_eChain, oOrd, oInt, oIs, isN, mkTup, mkLst, datas, r_sRaise, r_eSortSet, r_eM1, r_eCallK, r_eSl, r_oSome, r_oNone, r_eRepl, r_eRevT, r_eFrz, cs]
    rw [ej] at j
    have ad := fun S => e_addL [.str (nm m)] (cs m l) S (by simp [bind_ok, bind_exc, bind_stuck, lift_ok, lift_exc, calm_ok, bind_if, lift_if, calm_if, r_fn, r_sRet, r_sRetN, r_sSeq, r_sExpr, r_sIf, r_sAsg, r_sNil, r_aName, aNils, aConss, aTup, eVar, r_eC, r_eA, r_aCons, r_aNil, r_e2, r_e1, r_eB, r_toB, r_eAnd, r_eOr, r_eNot, r_bAnd, r_bOr, r_bNot, r_eIf, r_eIsi, tyOf, isTy, Tk.nm, r_dCalm, r_iBy, r_iBys, toItems, toRng1, r_eChain, oOrd, oInt, oIs, isN, mkTup, mkLst, datas, r_sRaise, r_eSortSet, r_eM1, r_eCallK, r_eSl, r_oSome, r_oNone, r_eRepl, r_eRevT, r_eFrz, cs]; omega)
    have ad2 := fun S => e_addL (.str (nm m) :: cs m l) [.str (F m w)] S (by simp [bind_ok, bind_exc, bind_stuck, lift_ok, lift_exc, calm_ok, bind_if, lift_if, calm_if, r_fn, r_sRet, r_sRetN, r_sSeq, r_sExpr, r_sIf, r_sAsg, r_sNil, r_aName, aNils, aConss, aTup, eVar, r_eC, r_eA, r_aCons, r_aNil, r_e2, r_e1, r_eB, r_toB, r_eAnd, r_eOr, r_eNot, r_bAnd, r_bOr, r_bNot, r_eIf, r_eIsi, tyOf, isTy, Tk.nm, r_dCalm, r_iBy, r_iBys, toItems, toRng1, r_eChain, oOrd, oInt, oIs, isN, mkTup, mkLst, datas, r_sRaise, r_eSortSet, r_eM1, r_eCallK, r_eSl, r_oSome, r_oNone, r_eRepl, r_eRevT, r_eFrz, cs]; omega)
    simp only [List.cons_append, List.nil_append] at ad ad2
    rw [t9] at r9
    have r12 : 1 < m → Ref (cutS (jn (nm m :: l.map (F m))) (some 2) none) := fun hm => b12 a b h hl q hm
    generalize jn (nm m :: l.map (F m)) = T at *
    have q0 : (Str.ofString " ").length = 1 := rfl
    have q1 : (Str.ofString "\n").length = 1 := rfl
    have s1 := fun S => e_add T " " S (by omega)
    have s2 := fun S => e_add (T ++ " ") (F m v) S (by rw [strLen_append, F_len]; omega)
    have s3 := fun S => e_add T "\n" S (by omega)
    have cu : ∀ S, hSl (.d (.str T)) (some 2) none S = .ok (.d (.str (cutS T (some 2) none))) S := fun S => e_cutT T 2 S (by omega)
    have ne1 := ne
    simp only [decide_eq_false q, Bool.not_false] at ne1
    have gi : ∀ S, hInt [.d (.bool (decide ((1 : Int) < (m : Nat))))] S = .ok (.d (.int (if (1 : Int) < (m : Nat) then 1 else 0))) S := fun S => by
      unfold hInt
      by_cases hm : (1 : Int) < (m : Nat) <;> simp only [hm, decide_true, decide_false, if_true, if_false] <;> rfl
    have mu : ∀ S, oMul (.d (.list [.str (cutS T (some 2) none)])) (.d (.int (if (1 : Int) < (m : Nat) then 1 else 0))) S = .ok (.d (.list (((if (1 : Int) < (m : Nat) then [cutS T (some 2) none] else []) : List Str).map .str))) S := fun S => by
      unfold oMul
      by_cases hm : (1 : Int) < (m : Nat) <;> simp only [hm, if_true, if_false] <;> rfl
    let B' : List Str := B ++ [T ++ " " ++ F m v, jn (nm m :: (l.map (F m) ++ [F m w])), T ++ "\n"]
    let B2 : List Str := B' ++ (if (1 : Int) < (m : Nat) then [cutS T (some 2) none] else [])
    have ab : oAdd (.r n) (.d (.list [.str (T ++ " " ++ F m v), .str (jn (nm m :: (l.map (F m) ++ [F m w]))), .str (T ++ "\n")])) S = .ok (.d (.list (B'.map .str))) S := by
      unfold oAdd
      simp only [asList, hB]
      rw [if_pos (by simp [bind_ok, bind_exc, bind_stuck, lift_ok, lift_exc, calm_ok, bind_if, lift_if, calm_if, r_fn, r_sRet, r_sRetN, r_sSeq, r_sExpr, r_sIf, r_sAsg, r_sNil, r_aName, aNils, aConss, aTup, eVar, r_eC, r_eA, r_aCons, r_aNil, r_e2, r_e1, r_eB, r_toB, r_eAnd, r_eOr, r_eNot, r_bAnd, r_bOr, r_bNot, r_eIf, r_eIsi, tyOf, isTy, Tk.nm, r_dCalm, r_iBy, r_iBys, toItems, toRng1, r_eChain, oOrd, oInt, oIs, isN, mkTup, mkLst, datas, r_sRaise, r_eSortSet, r_eM1, r_eCallK, r_eSl, r_oSome, r_oNone, r_eRepl, r_eRevT, r_eFrz, sizeLine_eq]; omega)]
      simp [bind_ok, bind_exc, bind_stuck, lift_ok, lift_exc, calm_ok, bind_if, lift_if, calm_if, r_fn, r_sRet, r_sRetN, r_sSeq, r_sExpr, r_sIf, r_sAsg, r_sNil, r_aName, aNils, aConss, aTup, eVar, r_eC, r_eA, r_aCons, r_aNil, r_e2, r_e1, r_eB, r_toB, r_eAnd, r_eOr, r_eNot, r_bAnd, r_bOr, r_bNot, r_eIf, r_eIsi, tyOf, isTy, Tk.nm, r_dCalm, r_iBy, r_iBys, toItems, toRng1, r_eChain, oOrd, oInt, oIs, isN, mkTup, mkLst, datas, r_sRaise, r_eSortSet, r_eM1, r_eCallK, r_eSl, r_oSome, r_oNone, r_eRepl, r_eRevT, r_eFrz, B']
    have abr : oAddR (.d (.list (B'.map .str))) (.d (.list (((if (1 : Int) < (m : Nat) then [cutS T (some 2) none] else []) : List Str).map .str))) S = .ok (.r S.length) (S ++ [some (.lst (B2.map .str))]) := by
      unfold oAddR
      simp only [asList]
      rw [if_pos (by by_cases hm : (1 : Int) < (m : Nat) <;> simp only [hm, if_true, if_false] <;> simp [bind_ok, bind_exc, bind_stuck, lift_ok, lift_exc, calm_ok, bind_if, lift_if, calm_if, r_fn, r_sRet, r_sRetN, r_sSeq, r_sExpr, r_sIf, r_sAsg, r_sNil, r_aName, aNils, aConss, aTup, eVar, r_eC, r_eA, r_aCons, r_aNil, r_e2, r_e1, r_eB, r_toB, r_eAnd, r_eOr, r_eNot, r_bAnd, r_bOr, r_bNot, r_eIf, r_eIsi, tyOf, isTy, Tk.nm, r_dCalm, r_iBy, r_iBys, toItems, toRng1, r_eChain, oOrd, oInt, oIs, isN, mkTup, mkLst, datas, r_sRaise, r_eSortSet, r_eM1, r_eCallK, r_eSl, r_oSome, r_oNone, r_eRepl, r_eRevT, r_eFrz, B', sizeLine_eq] <;> omega)]
      simp [bind_ok, bind_exc, bind_stuck, lift_ok, lift_exc, calm_ok, bind_if, lift_if, calm_if, r_fn, r_sRet, r_sRetN, r_sSeq, r_sExpr, r_sIf, r_sAsg, r_sNil, r_aName, aNils, aConss, aTup, eVar, r_eC, r_eA, r_aCons, r_aNil, r_e2, r_e1, r_eB, r_toB, r_eAnd, r_eOr, r_eNot, r_bAnd, r_bOr, r_bNot, r_eIf, r_eIsi, tyOf, isTy, Tk.nm, r_dCalm, r_iBy, r_iBys, toItems, toRng1, r_eChain, oOrd, oInt, oIs, isN, mkTup, mkLst, datas, r_sRaise, r_eSortSet, r_eM1, r_eCallK, r_eSl, r_oSome, r_oNone, r_eRepl, r_eRevT, r_eFrz, B2]
    refine ⟨S.length, S ++ [some (.lst (B2.map .str))], ?_, ⟨⟨B2, List.getElem?_concat_length, ?_, ?_⟩, fun i hi => (List.getElem?_append_left (Nat.lt_of_lt_of_le hi hle)).trans (hp i hi), hle, by simp [bind_ok, bind_exc, bind_stuck, lift_ok, lift_exc, calm_ok, bind_if, lift_if, calm_if, r_fn, r_sRet, r_sRetN, r_sSeq, r_sExpr, r_sIf, r_sAsg, r_sNil, r_aName, aNils, aConss, aTup, eVar, r_eC, r_eA, r_aCons, r_aNil, r_e2, r_e1, r_eB, r_toB, r_eAnd, r_eOr, r_eNot, r_bAnd, r_bOr, r_bNot, r_eIf, r_eIsi, tyOf, isTy, Tk.nm, r_dCalm, r_iBy, r_iBys, toItems, toRng1, r_eChain, oOrd, oInt, oIs, isN, mkTup, mkLst, datas, r_sRaise, r_eSortSet, r_eM1, r_eCallK, r_eSl, r_oSome, r_oNone, r_eRepl, r_eRevT, r_eFrz]; omega⟩⟩
    · have g0 : ∀ S, oGet (.d (.tuple (cs m l))) (.d (.int 0)) S = .ok (.d (.str (F m v))) S := fun S => by unfold oGet; simp only [a0]
      have g1 : ∀ S, oGet (.d (.tuple (cs m l))) (.d (.int (-1))) S = .ok (.d (.str (F m w))) S := fun S => by unfold oGet; simp only [a1]
      simp [bind_ok, bind_exc, bind_stuck, lift_ok, lift_exc, calm_ok, bind_if, lift_if, calm_if, r_fn, r_sRet, r_sRetN, r_sSeq, r_sExpr, r_sIf, r_sAsg, r_sNil, r_aName, aNils, aConss, aTup, eVar, r_eC, r_eA, r_aCons, r_aNil, r_e2, r_e1, r_eB, r_toB, r_eAnd, r_eOr, r_eNot, r_bAnd, r_bOr, r_bNot, r_eIf, r_eIsi, tyOf, isTy, Tk.nm, r_dCalm, r_iBy, r_iBys, toItems, toRng1, r_eChain, oOrd, oInt, oIs, isN, mkTup, mkLst, datas, r_sRaise, r_eSortSet, r_eM1, r_eCallK, r_eSl, r_oSome, r_oNone, r_eRepl, r_eRevT, r_eFrz, tx3, ne1, sizeLine_eq, s1, s2, s3, cu, g0, g1, gi, mu, ab, abr, e_strm a b h hl, hList, asListZ, asList, asTup, ad, ad2, j, oNeg]
    · intro t ht
      rcases List.mem_append.mp ht with ht | ht
      · rcases List.mem_append.mp ht with ht | ht
        · exact hR t ht
        · simp only [List.mem_cons, List.not_mem_nil, or_false] at ht
          rcases ht with rfl | rfl | rfl
          · exact r9
          · exact r10
          · exact r11
      · by_cases hm : (1 : Int) < (m : Nat)
        · rw [if_pos hm] at ht
          rw [List.mem_singleton.mp ht]
          exact r12 (by omega)
        · rw [if_neg hm] at ht
          simp [bind_ok, bind_exc, bind_stuck, lift_ok, lift_exc, calm_ok, bind_if, lift_if, calm_if, r_fn, r_sRet, r_sRetN, r_sSeq, r_sExpr, r_sIf, r_sAsg, r_sNil, r_aName, aNils, aConss, aTup, eVar, r_eC, r_eA, r_aCons, r_aNil, r_e2, r_e1, r_eB, r_toB, r_eAnd, r_eOr, r_eNot, r_bAnd, r_bOr, r_bNot, r_eIf, r_eIsi, tyOf, isTy, Tk.nm, r_dCalm, r_iBy, r_iBys, toItems, toRng1, r_eChain, oOrd, oInt, oIs, isN, mkTup, mkLst, datas, r_sRaise, r_eSortSet, r_eM1, r_eCallK, r_eSl, r_oSome, r_oNone, r_eRepl, r_eRevT, r_eFrz] at ht
    · by_cases hm : (1 : Int) < (m : Nat) <;> simp only [B2, B', hm, if_true, if_false] <;> simp [bind_ok, bind_exc, bind_stuck, lift_ok, lift_exc, calm_ok, bind_if, lift_if, calm_if, r_fn, r_sRet, r_sRetN, r_sSeq, r_sExpr, r_sIf, r_sAsg, r_sNil, r_aName, aNils, aConss, aTup, eVar, r_eC, r_eA, r_aCons, r_aNil, r_e2, r_e1, r_eB, r_toB, r_eAnd, r_eOr, r_eNot, r_bAnd, r_bOr, r_bNot, r_eIf, r_eIsi, tyOf, isTy, Tk.nm, r_dCalm, r_iBy, r_iBys, toItems, toRng1, r_eChain, oOrd, oInt, oIs, isN, mkTup, mkLst, datas, r_sRaise, r_eSortSet, r_eM1, r_eCallK, r_eSl, r_oSome, r_oNone, r_eRepl, r_eRevT, r_eFrz] <;> omega

theorem len_hand (S : Sto) : hLen [.d (.tuple (cs m l))] S = .ok (.d (.int (l.length : Nat))) S := by
  unfold hLen lenOf
  simp [bind_ok, bind_exc, bind_stuck, lift_ok, lift_exc, calm_ok, bind_if, lift_if, calm_if, r_fn, r_sRet, r_sRetN, r_sSeq, r_sExpr, r_sIf, r_sAsg, r_sNil, r_aName, aNils, aConss, aTup, eVar, r_eC, r_eA, r_aCons, r_aNil, r_e2, r_e1, r_eB, r_toB, r_eAnd, r_eOr, r_eNot, r_bAnd, r_bOr, r_bNot, r_eIf, r_eIsi, tyOf, isTy, Tk.nm, r_dCalm, r_iBy, r_iBys, toItems, toRng1, r_eChain, oOrd, oInt, oIs, isN, mkTup, mkLst, datas, r_sRaise, r_eSortSet, r_eM1, r_eCallK, r_eSl, r_oSome, r_oNone, r_eRepl, r_eRevT, r_eFrz, cs]
theorem tx4_ok {n : Nat} (z : Option Vl) {S0 S : Sto} (B : Bent S0 n 12 S) : ∃ S', tx4 [some (.d (.int (m : Nat))), some (.d (.tuple (cs m l))), some (.d (.str (jn (nm m :: l.map (F m))))), some (.r n), z] S = .ok (.nx [some (.d (.int (m : Nat))), some (.d (.tuple (cs m l))), some (.d (.str (jn (nm m :: l.map (F m))))), some (.r n), z]) S' ∧ Bent S0 n 13 S' := by
  obtain ⟨⟨B, hB, hR, hlen⟩, hp, hge, hle⟩ := B
  have ln := len_hand a b h hl
  by_cases q : 1 < l.length
  · have q1 : decide ((1 : Int) < (l.length : Nat)) = true := decide_eq_true (by omega)
    have r13 := b13 a b h hl q
    have w : wl (nm m :: (l.map (F m)).reverse) ≤ 10000 := by
      have t2 := (txt_ok a b h hl).2
      have e : wl (l.map (F m)).reverse = wl (l.map (F m)) := by simp [bind_ok, bind_exc, bind_stuck, lift_ok, lift_exc, calm_ok, bind_if, lift_if, calm_if, r_fn, r_sRet, r_sRetN, r_sSeq, r_sExpr, r_sIf, r_sAsg, r_sNil, r_aName, aNils, aConss, aTup, eVar, r_eC, r_eA, r_aCons, r_aNil, r_e2, r_e1, r_eB, r_toB, r_eAnd, r_eOr, r_eNot, r_bAnd, r_bOr, r_bNot, r_eIf, r_eIsi, tyOf, isTy, Tk.nm, r_dCalm, r_iBy, r_iBys, toItems, toRng1, r_eChain, oOrd, oInt, oIs, isN, mkTup, mkLst, datas, r_sRaise, r_eSortSet, r_eM1, r_eCallK, r_eSl, r_oSome, r_oNone, r_eRepl, r_eRevT, r_eFrz, wl]
      rw [wl_cons] at t2 ⊢
      rw [e]; omega
    have j := fun S => e_join a b h hl w S
    have ej : (nm m :: (l.map (F m)).reverse).map PyData.str = .str (nm m) :: (cs m l).reverse := by simp [bind_ok, bind_exc, bind_stuck, lift_ok, lift_exc, calm_ok, bind_if, lift_if, calm_if, r_fn, r_sRet, r_sRetN, r_sSeq, r_sExpr, r_sIf, r_sAsg, r_sNil, r_aName, aNils, aConss, aTup, eVar, r_eC, r_eA, r_aCons, r_aNil, r_e2, r_e1, r_eB, r_toB, r_eAnd, r_eOr, r_eNot, r_bAnd, r_bOr, r_bNot, r_eIf, r_eIsi, tyOf, isTy, Tk.nm, r_dCalm, r_iBy, r_iBys, toItems, toRng1, r_eChain, oOrd, oInt, oIs, isN, mkTup, mkLst, datas, r_sRaise, r_eSortSet, r_eM1, r_eCallK, r_eSl, r_oSome, r_oNone, r_eRepl, r_eRevT, r_eFrz, cs]
    rw [ej] at j
    have ad := fun S => e_addL [.str (nm m)] (cs m l).reverse S (by simp [bind_ok, bind_exc, bind_stuck, lift_ok, lift_exc, calm_ok, bind_if, lift_if, calm_if, r_fn, r_sRet, r_sRetN, r_sSeq, r_sExpr, r_sIf, r_sAsg, r_sNil, r_aName, aNils, aConss, aTup, eVar, r_eC, r_eA, r_aCons, r_aNil, r_e2, r_e1, r_eB, r_toB, r_eAnd, r_eOr, r_eNot, r_bAnd, r_bOr, r_bNot, r_eIf, r_eIsi, tyOf, isTy, Tk.nm, r_dCalm, r_iBy, r_iBys, toItems, toRng1, r_eChain, oOrd, oInt, oIs, isN, mkTup, mkLst, datas, r_sRaise, r_eSortSet, r_eM1, r_eCallK, r_eSl, r_oSome, r_oNone, r_eRepl, r_eRevT, r_eFrz, cs]; omega)
    simp only [List.cons_append, List.nil_append] at ad
    have hn := (List.getElem?_eq_some_iff.mp hB).1
    have ap : hAppend n (.d (.str (jn (nm m :: (l.map (F m)).reverse)))) S = .ok (.d .none) (S.set n (some (.lst ((B ++ [jn (nm m :: (l.map (F m)).reverse)]).map .str)))) := by
      unfold hAppend
      simp only [hB]
      rw [if_pos (by simp [bind_ok, bind_exc, bind_stuck, lift_ok, lift_exc, calm_ok, bind_if, lift_if, calm_if, r_fn, r_sRet, r_sRetN, r_sSeq, r_sExpr, r_sIf, r_sAsg, r_sNil, r_aName, aNils, aConss, aTup, eVar, r_eC, r_eA, r_aCons, r_aNil, r_e2, r_e1, r_eB, r_toB, r_eAnd, r_eOr, r_eNot, r_bAnd, r_bOr, r_bNot, r_eIf, r_eIsi, tyOf, isTy, Tk.nm, r_dCalm, r_iBy, r_iBys, toItems, toRng1, r_eChain, oOrd, oInt, oIs, isN, mkTup, mkLst, datas, r_sRaise, r_eSortSet, r_eM1, r_eCallK, r_eSl, r_oSome, r_oNone, r_eRepl, r_eRevT, r_eFrz, sizeLine_eq]; omega)]
      simp [bind_ok, bind_exc, bind_stuck, lift_ok, lift_exc, calm_ok, bind_if, lift_if, calm_if, r_fn, r_sRet, r_sRetN, r_sSeq, r_sExpr, r_sIf, r_sAsg, r_sNil, r_aName, aNils, aConss, aTup, eVar, r_eC, r_eA, r_aCons, r_aNil, r_e2, r_e1, r_eB, r_toB, r_eAnd, r_eOr, r_eNot, r_bAnd, r_bOr, r_bNot, r_eIf, r_eIsi, tyOf, isTy, Tk.nm, r_dCalm, r_iBy, r_iBys, toItems, toRng1, r_eChain, oOrd, oInt, oIs, isN, mkTup, mkLst, datas, r_sRaise, r_eSortSet, r_eM1, r_eCallK, r_eSl, r_oSome, r_oNone, r_eRepl, r_eRevT, r_eFrz]
    refine ⟨S.set n (some (.lst ((B ++ [jn (nm m :: (l.map (F m)).reverse)]).map .str))), ?_, ⟨⟨_, List.getElem?_set_self hn, fun t ht => ?_, by simp [bind_ok, bind_exc, bind_stuck, lift_ok, lift_exc, calm_ok, bind_if, lift_if, calm_if, r_fn, r_sRet, r_sRetN, r_sSeq, r_sExpr, r_sIf, r_sAsg, r_sNil, r_aName, aNils, aConss, aTup, eVar, r_eC, r_eA, r_aCons, r_aNil, r_e2, r_e1, r_eB, r_toB, r_eAnd, r_eOr, r_eNot, r_bAnd, r_bOr, r_bNot, r_eIf, r_eIsi, tyOf, isTy, Tk.nm, r_dCalm, r_iBy, r_iBys, toItems, toRng1, r_eChain, oOrd, oInt, oIs, isN, mkTup, mkLst, datas, r_sRaise, r_eSortSet, r_eM1, r_eCallK, r_eSl, r_oSome, r_oNone, r_eRepl, r_eRevT, r_eFrz]; omega⟩, fun i hi => (List.getElem?_set_ne (by omega)).trans (hp i hi), hge, by simpa [bind_ok, bind_exc, bind_stuck, lift_ok, lift_exc, calm_ok, bind_if, lift_if, calm_if, r_fn, r_sRet, r_sRetN, r_sSeq, r_sExpr, r_sIf, r_sAsg, r_sNil, r_aName, aNils, aConss, aTup, eVar, r_eC, r_eA, r_aCons, r_aNil, r_e2, r_e1, r_eB, r_toB, r_eAnd, r_eOr, r_eNot, r_bAnd, r_bOr, r_bNot, r_eIf, r_eIsi, tyOf, isTy, Tk.nm, r_dCalm, r_iBy, r_iBys, toItems, toRng1, r_eChain, oOrd, oInt, oIs, isN, mkTup, mkLst, datas, r_sRaise, r_eSortSet, r_eM1, r_eCallK, r_eSl, r_oSome, r_oNone, r_eRepl, r_eRevT, r_eFrz] using hle⟩⟩
    · simp [bind_ok, bind_exc, bind_stuck, lift_ok, lift_exc, calm_ok, bind_if, lift_if, calm_if, r_fn, r_sRet, r_sRetN, r_sSeq, r_sExpr, r_sIf, r_sAsg, r_sNil, r_aName, aNils, aConss, aTup, eVar, r_eC, r_eA, r_aCons, r_aNil, r_e2, r_e1, r_eB, r_toB, r_eAnd, r_eOr, r_eNot, r_bAnd, r_bOr, r_bNot, r_eIf, r_eIsi, tyOf, isTy, Tk.nm, r_dCalm, r_iBy, r_iBys, toItems, toRng1, r_eChain, oOrd, oInt, oIs, isN, mkTup, mkLst, datas, r_sRaise, r_eSortSet, r_eM1, r_eCallK, r_eSl, r_oSome, r_oNone, r_eRepl, r_eRevT, r_eFrz, tx4, ln, q1, eAppend, e_strm a b h hl, sizeLine_eq, hList, asListZ, asList, asTup, hRevT, ad, j, ap, hB]
    · rcases List.mem_append.mp ht with ht | ht
      · exact hR t ht
      · rw [List.mem_singleton.mp ht]; exact r13
  · have q1 : decide ((1 : Int) < (l.length : Nat)) = false := decide_eq_false (by omega)
    exact ⟨S, by simp [bind_ok, bind_exc, bind_stuck, lift_ok, lift_exc, calm_ok, bind_if, lift_if, calm_if, r_fn, r_sRet, r_sRetN, r_sSeq, r_sExpr, r_sIf, r_sAsg, r_sNil, r_aName, aNils, aConss, aTup, eVar, r_eC, r_eA, r_aCons, r_aNil, r_e2, r_e1, r_eB, r_toB, r_eAnd, r_eOr, r_eNot, r_bAnd, r_bOr, r_bNot, r_eIf, r_eIsi, tyOf, isTy, Tk.nm, r_dCalm, r_iBy, r_iBys, toItems, toRng1, r_eChain, oOrd, oInt, oIs, isN, mkTup, mkLst, datas, r_sRaise, r_eSortSet, r_eM1, r_eCallK, r_eSl, r_oSome, r_oNone, r_eRepl, r_eRevT, r_eFrz, tx4, ln, q1], ⟨⟨B, hB, hR, by omega⟩, hp, hge, hle⟩⟩
theorem tx5_ok {n : Nat} {x y w : Option Vl} {S0 S : Sto} (B : Bent S0 n 13 S) : ∃ S', tx5 [x, y, w, some (.r n), none] S = .ok (.rt (.d (.bool true))) S' ∧ ∀ i, i < S0.length → S'[i]? = S0[i]? := by
  obtain ⟨⟨B, hB, hR, hlen⟩, hp, hge, hle⟩ := B
  have fz : hFrz (.r n) S = .ok (.d (.list (B.map .str))) (S.set n none) := by unfold hFrz; simp only [hB]
  have key := eComp_map (w := fun q : Str => .d (.str q)) (vs := [4]) (fi := iBy toItems (eFrz (eVar 3))) (t := .nm 4) (p := pYes) (f := eA den__law_is_refused (aCons (eVar 4) aNil)) (ρ := [x, y, w, some (.r n), none]) (S := S) (S1 := S.set n none) (l := B)
    (fun q => [x, y, w, some (.r n), some (.d (.str q))]) (fun _ => true) (fun q => .bool true) (by simp [bind_ok, bind_exc, bind_stuck, lift_ok, lift_exc, calm_ok, bind_if, lift_if, calm_if, r_fn, r_sRet, r_sRetN, r_sSeq, r_sExpr, r_sIf, r_sAsg, r_sNil, r_aName, aNils, aConss, aTup, eVar, r_eC, r_eA, r_aCons, r_aNil, r_e2, r_e1, r_eB, r_toB, r_eAnd, r_eOr, r_eNot, r_bAnd, r_bOr, r_bNot, r_eIf, r_eIsi, tyOf, isTy, Tk.nm, r_dCalm, r_iBy, r_iBys, toItems, toRng1, r_eChain, oOrd, oInt, oIs, isN, mkTup, mkLst, datas, r_sRaise, r_eSortSet, r_eM1, r_eCallK, r_eSl, r_oSome, r_oNone, r_eRepl, r_eRevT, r_eFrz, fz]) (by rw [sizeLine_eq]; omega) (fun x hx => rfl) (fun x hx => rfl) (fun x hx _ => by simp [bind_ok, bind_exc, bind_stuck, lift_ok, lift_exc, calm_ok, bind_if, lift_if, calm_if, r_fn, r_sRet, r_sRetN, r_sSeq, r_sExpr, r_sIf, r_sAsg, r_sNil, r_aName, aNils, aConss, aTup, eVar, r_eC, r_eA, r_aCons, r_aNil, r_e2, r_e1, r_eB, r_toB, r_eAnd, r_eOr, r_eNot, r_bAnd, r_bOr, r_bNot, r_eIf, r_eIsi, tyOf, isTy, Tk.nm, r_dCalm, r_iBy, r_iBys, toItems, toRng1, r_eChain, oOrd, oInt, oIs, isN, mkTup, mkLst, datas, r_sRaise, r_eSortSet, r_eM1, r_eCallK, r_eSl, r_oSome, r_oNone, r_eRepl, r_eRevT, r_eFrz, hR x hx (S.set n none)])
  rw [filter_true] at key
  have al := hAll_map B (fun _ => true) (S.set n none)
  exact ⟨S.set n none, by simp [bind_ok, bind_exc, bind_stuck, lift_ok, lift_exc, calm_ok, bind_if, lift_if, calm_if, r_fn, r_sRet, r_sRetN, r_sSeq, r_sExpr, r_sIf, r_sAsg, r_sNil, r_aName, aNils, aConss, aTup, eVar, r_eC, r_eA, r_aCons, r_aNil, r_e2, r_e1, r_eB, r_toB, r_eAnd, r_eOr, r_eNot, r_bAnd, r_bOr, r_bNot, r_eIf, r_eIsi, tyOf, isTy, Tk.nm, r_dCalm, r_iBy, r_iBys, toItems, toRng1, r_eChain, oOrd, oInt, oIs, isN, mkTup, mkLst, datas, r_sRaise, r_eSortSet, r_eM1, r_eCallK, r_eSl, r_oSome, r_oNone, r_eRepl, r_eRevT, r_eFrz, tx5, key, al], fun i hi => (List.getElem?_set_ne (by omega)).trans (hp i hi)⟩
theorem e_texts (S : Sto) : ∃ S', den__law_texts_right [.d (.int (m : Nat)), .d (.tuple (cs m l))] S = .ok (.d (.bool true)) S' ∧ ∀ i, i < S.length → S'[i]? = S[i]? := by
  obtain ⟨S1, e2, B2⟩ := tx2_ok a b h hl none none S
  obtain ⟨n3, S3, e3, B3⟩ := tx3_ok a b h hl none B2
  obtain ⟨S4, e4, B4⟩ := tx4_ok a b h hl none B3
  obtain ⟨S5, e5, p5⟩ := tx5_ok a b h hl (x := some (.d (.int (m : Nat)))) (y := some (.d (.tuple (cs m l)))) (w := some (.d (.str (jn (nm m :: l.map (F m)))))) B4
  exact ⟨S5, by simp [bind_ok, bind_exc, bind_stuck, lift_ok, lift_exc, calm_ok, bind_if, lift_if, calm_if, r_fn, r_sRet, r_sRetN, r_sSeq, r_sExpr, r_sIf, r_sAsg, r_sNil, r_aName, aNils, aConss, aTup, eVar, r_eC, r_eA, r_aCons, r_aNil, r_e2, r_e1, r_eB, r_toB, r_eAnd, r_eOr, r_eNot, r_bAnd, r_bOr, r_bNot, r_eIf, r_eIsi, tyOf, isTy, Tk.nm, r_dCalm, r_iBy, r_iBys, toItems, toRng1, r_eChain, oOrd, oInt, oIs, isN, mkTup, mkLst, datas, r_sRaise, r_eSortSet, r_eM1, r_eCallK, r_eSl, r_oSome, r_oNone, r_eRepl, r_eRevT, r_eFrz, den__law_texts_right, tx_eq, tx_all, tx0_ok a b h hl, tx1_ok a b h hl, e2, e3, e4, e5], p5⟩
end
end K02

end
section
namespace K02
open PySem PySem.Spec PyProof.Rows L2 Ev
/-! ### the spring -/
structure Spr (n : Nat) (S : Sto) : Prop where
  ex : ∃ x y : Int, S[n]? = some (some (.lst [.int x, .int y]))
theorem e_draw {n k : Nat} {S : Sto} (s : Spr n S) (h1 : 1 ≤ k) (h2 : k ≤ 81) : ∃ (v : Nat) (S' : Sto), v < k ∧ den__law_draw [.r n, .d (.int (k : Nat))] S = .ok (.d (.int (v : Nat))) S' ∧ Spr n S' := by
  obtain ⟨x, y, e⟩ := s
  have hn := (List.getElem?_eq_some_iff.mp e).1
  have g0 : oGet (.r n) (.d (.int 0)) S = .ok (.d (.int x)) S := by
    unfold oGet
    simp only [asListZ, asList, e]
    rfl
  have g1 : oGet (.r n) (.d (.int 1)) S = .ok (.d (.int y)) S := by
    unfold oGet
    simp only [asListZ, asList, e]
    rfl
  have kk : (0 : Int) < (k : Nat) := by omega
  have kk2 : ((k : Nat) : Int) < 1073741824 := by omega
  by_cases hx : 0 < x
  · refine ⟨(x % (k : Nat)).toNat, S.set n (some (.lst [.int (x / (k : Nat)), .int y])), ?_, ?_, ⟨x / (k : Nat), y, List.getElem?_set_self hn⟩⟩
    · have := Int.emod_lt_of_pos x kk
      have := Int.emod_nonneg x (by omega : ((k : Nat) : Int) ≠ 0)
      omega
    · have e2 : (((x % (k : Nat)).toNat : Nat) : Int) = x % (k : Nat) := Int.toNat_of_nonneg (Int.emod_nonneg x (by omega))
      have st : oSet (.r n) (.d (.int 0)) (.d (.int (x / (k : Nat)))) S = .ok () (S.set n (some (.lst [.int (x / (k : Nat)), .int y]))) := by
        unfold oSet
        simp only [e]
        rfl
      have hd : hDivmod [.d (.int x), .d (.int (k : Nat))] S = .ok (.d (.tuple [.int (x / (k : Nat)), .int (x % (k : Nat))])) S := by
        unfold hDivmod
        simp only []
        rw [if_pos ⟨kk, kk2⟩]
      rw [e2]
      simp [bind_ok, bind_exc, bind_stuck, lift_ok, lift_exc, calm_ok, bind_if, lift_if, calm_if, r_fn, r_sRet, r_sRetN, r_sSeq, r_sExpr, r_sIf, r_sAsg, r_sNil, r_aName, aNils, aConss, aTup, eVar, r_eC, r_eA, r_aCons, r_aNil, r_e2, r_e1, r_eB, r_toB, r_eAnd, r_eOr, r_eNot, r_bAnd, r_bOr, r_bNot, r_eIf, r_eIsi, tyOf, isTy, Tk.nm, r_dCalm, r_iBy, r_iBys, toItems, toRng1, r_eChain, oOrd, oInt, oIs, isN, mkTup, mkLst, datas, r_sRaise, r_eSortSet, r_eM1, r_eCallK, r_eSl, r_oSome, r_oNone, r_eRepl, r_eRevT, r_eFrz, den__law_draw, b__law_draw, g0, hx, hd, aSub, st]
  · have m1 : ∀ S, oMul (.d (.int y)) (.d (.int 39373)) S = .ok (.d (.int (y * 39373))) S := fun S => by
      unfold oMul
      simp only []
      rw [if_pos (by rw [show Ev.small64 39373 = true from by decide +kernel, Bool.or_true])]
    have st : oSet (.r n) (.d (.int 1)) (.d (.int ((y * 39373 + 7177) % 2147483647))) S = .ok () (S.set n (some (.lst [.int x, .int ((y * 39373 + 7177) % 2147483647)]))) := by
      unfold oSet
      simp only [e]
      rfl
    have g2 : oGet (.r n) (.d (.int 1)) (S.set n (some (.lst [.int x, .int ((y * 39373 + 7177) % 2147483647)]))) = .ok (.d (.int ((y * 39373 + 7177) % 2147483647))) (S.set n (some (.lst [.int x, .int ((y * 39373 + 7177) % 2147483647)]))) := by
      unfold oGet
      simp only [asListZ, asList, List.getElem?_set_self hn]
      rfl
    have ad : ∀ S, oAdd (.d (.int (y * 39373))) (.d (.int 7177)) S = .ok (.d (.int (y * 39373 + 7177))) S := fun S => rfl
    have hi : ∀ i S, hInt [.d (.int i)] S = .ok (.d (.int i)) S := fun i S => rfl
    have md : ∀ S, Ev.oMod (.d (.int (y * 39373 + 7177))) (.d (.int 2147483647)) S = .ok (.d (.int ((y * 39373 + 7177) % 2147483647))) S := fun S => rfl
    generalize (y * 39373 + 7177) % 2147483647 = y' at *
    refine ⟨(y' / 1009 % (k : Nat)).toNat, S.set n (some (.lst [.int x, .int y'])), ?_, ?_, ⟨x, y', List.getElem?_set_self hn⟩⟩
    · have := Int.emod_lt_of_pos (y' / 1009) kk
      have := Int.emod_nonneg (y' / 1009) (by omega : ((k : Nat) : Int) ≠ 0)
      omega
    · have e2 : (((y' / 1009 % (k : Nat)).toNat : Nat) : Int) = y' / 1009 % (k : Nat) := Int.toNat_of_nonneg (Int.emod_nonneg _ (by omega))
      have fd : ∀ S, Ev.oFdiv (.d (.int y')) (.d (.int 1009)) S = .ok (.d (.int (y' / 1009))) S := fun S => rfl
      have m2 : ∀ S, Ev.oMod (.d (.int (y' / 1009))) (.d (.int (k : Nat))) S = .ok (.d (.int (y' / 1009 % (k : Nat)))) S := fun S => by
        unfold Ev.oMod oInt
        simp only []
        rw [if_pos (decide_eq_true kk)]
      rw [e2]
      simp [bind_ok, bind_exc, bind_stuck, lift_ok, lift_exc, calm_ok, bind_if, lift_if, calm_if, r_fn, r_sRet, r_sRetN, r_sSeq, r_sExpr, r_sIf, r_sAsg, r_sNil, r_aName, aNils, aConss, aTup, eVar, r_eC, r_eA, r_aCons, r_aNil, r_e2, r_e1, r_eB, r_toB, r_eAnd, r_eOr, r_eNot, r_bAnd, r_bOr, r_bNot, r_eIf, r_eIsi, tyOf, isTy, Tk.nm, r_dCalm, r_iBy, r_iBys, toItems, toRng1, r_eChain, oOrd, oInt, oIs, isN, mkTup, mkLst, datas, r_sRaise, r_eSortSet, r_eM1, r_eCallK, r_eSl, r_oSome, r_oNone, r_eRepl, r_eRevT, r_eFrz, den__law_draw, b__law_draw, g0, hx, g1, m1, ad, hi, md, aSub, st, g2, fd, m2, -oInt]
theorem loop_some {n m : Nat} (a : 1 ≤ m) (b : m ≤ 4) : ∀ (xs : List Vl) (z : Option Vl) (S : Sto), Spr n S → ∃ (vs : List Nat) (S' : Sto), (∀ v ∈ vs, v < 3 ^ m) ∧ vs.length = xs.length ∧
    compL [2] (.nm 2) pYes (eA den__law_draw (aCons (eVar 0) (aCons (e2 oGet (eA mkTup (aCons (eC (.int 1)) (aCons (eC (.int 3)) (aCons (eC (.int 9)) (aCons (eC (.int 27)) (aCons (eC (.int 81)) aNil)))))) (eVar 1)) aNil))) xs [some (.r n), some (.d (.int (m : Nat))), z] S = .ok (iv vs) S' ∧ Spr n S'
  | [], z, S, s => ⟨[], S, by simp [bind_ok, bind_exc, bind_stuck, lift_ok, lift_exc, calm_ok, bind_if, lift_if, calm_if, r_fn, r_sRet, r_sRetN, r_sSeq, r_sExpr, r_sIf, r_sAsg, r_sNil, r_aName, aNils, aConss, aTup, eVar, r_eC, r_eA, r_aCons, r_aNil, r_e2, r_e1, r_eB, r_toB, r_eAnd, r_eOr, r_eNot, r_bAnd, r_bOr, r_bNot, r_eIf, r_eIsi, tyOf, isTy, Tk.nm, r_dCalm, r_iBy, r_iBys, toItems, toRng1, r_eChain, oOrd, oInt, oIs, isN, mkTup, mkLst, datas, r_sRaise, r_eSortSet, r_eM1, r_eCallK, r_eSl, r_oSome, r_oNone, r_eRepl, r_eRevT, r_eFrz], rfl, rfl, s⟩
  | x :: xs, z, S, s => by
    obtain ⟨q, hq⟩ : ∃ q, q = 3 ^ m := ⟨_, rfl⟩
    obtain ⟨v, S1, hv, e1, s1⟩ := e_draw (k := q) s (by rw [hq]; exact Nat.pos_of_ne_zero (by simp [bind_ok, bind_exc, bind_stuck, lift_ok, lift_exc, calm_ok, bind_if, lift_if, calm_if, r_fn, r_sRet, r_sRetN, r_sSeq, r_sExpr, r_sIf, r_sAsg, r_sNil, r_aName, aNils, aConss, aTup, eVar, r_eC, r_eA, r_aCons, r_aNil, r_e2, r_e1, r_eB, r_toB, r_eAnd, r_eOr, r_eNot, r_bAnd, r_bOr, r_bNot, r_eIf, r_eIsi, tyOf, isTy, Tk.nm, r_dCalm, r_iBy, r_iBys, toItems, toRng1, r_eChain, oOrd, oInt, oIs, isN, mkTup, mkLst, datas, r_sRaise, r_eSortSet, r_eM1, r_eCallK, r_eSl, r_oSome, r_oNone, r_eRepl, r_eRevT, r_eFrz])) (by rw [hq]; exact pow_le a b)
    obtain ⟨vs, S2, h2, h3, e2, s2⟩ := loop_some a b xs z S1 s1
    have pw : ∀ S, oGet (.d (.tuple [.int 1, .int 3, .int 9, .int 27, .int 81])) (.d (.int (m : Nat))) S = .ok (.d (.int (q : Nat))) S := fun S => by
      rw [hq]
      exact cases4 (P := fun m => oGet (.d (.tuple [.int 1, .int 3, .int 9, .int 27, .int 81])) (.d (.int (m : Nat))) S = .ok (.d (.int ((3 ^ m : Nat)))) S) rfl rfl rfl rfl m a b
    refine ⟨v :: vs, S2, fun w hw => ?_, by simp [bind_ok, bind_exc, bind_stuck, lift_ok, lift_exc, calm_ok, bind_if, lift_if, calm_if, r_fn, r_sRet, r_sRetN, r_sSeq, r_sExpr, r_sIf, r_sAsg, r_sNil, r_aName, aNils, aConss, aTup, eVar, r_eC, r_eA, r_aCons, r_aNil, r_e2, r_e1, r_eB, r_toB, r_eAnd, r_eOr, r_eNot, r_bAnd, r_bOr, r_bNot, r_eIf, r_eIsi, tyOf, isTy, Tk.nm, r_dCalm, r_iBy, r_iBys, toItems, toRng1, r_eChain, oOrd, oInt, oIs, isN, mkTup, mkLst, datas, r_sRaise, r_eSortSet, r_eM1, r_eCallK, r_eSl, r_oSome, r_oNone, r_eRepl, r_eRevT, r_eFrz, h3], ?_, s2⟩
    · rcases List.mem_cons.mp hw with rfl | hw
      · rw [hq] at hv; exact hv
      · exact h2 w hw
    · simp [bind_ok, bind_exc, bind_stuck, lift_ok, lift_exc, calm_ok, bind_if, lift_if, calm_if, r_fn, r_sRet, r_sRetN, r_sSeq, r_sExpr, r_sIf, r_sAsg, r_sNil, r_aName, aNils, aConss, aTup, eVar, r_eC, r_eA, r_aCons, r_aNil, r_e2, r_e1, r_eB, r_toB, r_eAnd, r_eOr, r_eNot, r_bAnd, r_bOr, r_bNot, r_eIf, r_eIsi, tyOf, isTy, Tk.nm, r_dCalm, r_iBy, r_iBys, toItems, toRng1, r_eChain, oOrd, oInt, oIs, isN, mkTup, mkLst, datas, r_sRaise, r_eSortSet, r_eM1, r_eCallK, r_eSl, r_oSome, r_oNone, r_eRepl, r_eRevT, r_eFrz, compL, wipeE, CT.bind, pYes, pw, e1, e2, sizeLine_eq, iv]
theorem e_some {n m : Nat} (a : 1 ≤ m) (b : m ≤ 4) {S : Sto} (s : Spr n S) : ∃ (vs : List Nat) (S' : Sto), (∀ v ∈ vs, v < 3 ^ m) ∧ vs.length ≤ 11 ∧ den__law_some [.r n, .d (.int (m : Nat))] S = .ok (.d (.list (iv vs))) S' ∧ Spr n S' := by
  obtain ⟨v, S1, hv, e1, s1⟩ := e_draw (k := 12) s (by decide) (by decide)
  obtain ⟨vs, S2, h2, h3, e2, s2⟩ := loop_some a b (rngL 0 v) none S1 s1
  have hl : (rngL 0 (v : Nat)).length = v := by simp [bind_ok, bind_exc, bind_stuck, lift_ok, lift_exc, calm_ok, bind_if, lift_if, calm_if, r_fn, r_sRet, r_sRetN, r_sSeq, r_sExpr, r_sIf, r_sAsg, r_sNil, r_aName, aNils, aConss, aTup, eVar, r_eC, r_eA, r_aCons, r_aNil, r_e2, r_e1, r_eB, r_toB, r_eAnd, r_eOr, r_eNot, r_bAnd, r_bOr, r_bNot, r_eIf, r_eIsi, tyOf, isTy, Tk.nm, r_dCalm, r_iBy, r_iBys, toItems, toRng1, r_eChain, oOrd, oInt, oIs, isN, mkTup, mkLst, datas, r_sRaise, r_eSortSet, r_eM1, r_eCallK, r_eSl, r_oSome, r_oNone, r_eRepl, r_eRevT, r_eFrz, rngL]
  have ft : fit62 (v : Nat) = true := decide_eq_true ⟨by omega, by omega⟩
  have e1' : den__law_draw [.r n, .d (.int 12)] S = .ok (.d (.int (v : Nat))) S1 := e1
  refine ⟨vs, S2, h2, by omega, ?_, s2⟩
  have lz : (rngL 0 (v : Nat)).length ≤ sizeLine := by rw [hl, sizeLine_eq]; omega
  simp [bind_ok, bind_exc, bind_stuck, lift_ok, lift_exc, calm_ok, bind_if, lift_if, calm_if, r_fn, r_sRet, r_sRetN, r_sSeq, r_sExpr, r_sIf, r_sAsg, r_sNil, r_aName, aNils, aConss, aTup, eVar, r_eC, r_eA, r_aCons, r_aNil, r_e2, r_e1, r_eB, r_toB, r_eAnd, r_eOr, r_eNot, r_bAnd, r_bOr, r_bNot, r_eIf, r_eIsi, tyOf, isTy, Tk.nm, r_dCalm, r_iBy, r_iBys, toItems, toRng1, r_eChain, oOrd, oInt, oIs, isN, mkTup, mkLst, datas, r_sRaise, r_eSortSet, r_eM1, r_eCallK, r_eSl, r_oSome, r_oNone, r_eRepl, r_eRevT, r_eFrz, den__law_some, b__law_some, eComp, e1', ft, lz, e2]
end K02

end
section
namespace K02
open PySem PySem.Spec PyProof.Rows L2 Ev
def rd0 : SF := sAsg (eA den__law_hand (aCons (eVar 1) (aCons (eLstRg (e2 oGet (eA mkTup (aCons (eC (.int 1)) (aCons (eC (.int 3)) (aCons (eC (.int 9)) (aCons (eC (.int 27)) (aCons (eC (.int 81)) (aNil))))))) (eVar 1))) (aNil)))) (aName 2)
def rd1 : SF := sAsg (eA den__law_draw (aCons (eVar 0) (aCons (e2 oGet (eA mkTup (aCons (eC (.int 1)) (aCons (eC (.int 3)) (aCons (eC (.int 9)) (aCons (eC (.int 27)) (aCons (eC (.int 81)) (aNil))))))) (eVar 1)) (aNil)))) (aName 3)
def rd2 : SF := sAsg (eA den__law_figures (aCons (eVar 1) (aCons (eVar 3) (aNil)))) (aName 4)
def rd3 : SF := sIf (bNot (eB (eA den__law_equal (aCons (eA mkTup (aCons (eA den_deck (aCons (eVar 1) (aNil))) (aCons (eA den_card_number (aCons (eVar 4) (aNil))) (aCons (eA den_card_at (aCons (eVar 1) (aCons (eVar 3) (aNil)))) (aNil))))) (aCons (eA mkTup (aCons (eVar 2) (aCons (eVar 3) (aCons (eVar 4) (aNil))))) (aNil)))))) (sRet (eC (.bool false))) (sNil)
def rd4 : SF := sAsg (eA mkTup (aCons (eA den__law_some (aCons (eVar 0) (aCons (eVar 1) (aNil)))) (aCons (eA den__law_some (aCons (eVar 0) (aCons (eVar 1) (aNil)))) (aNil)))) (aTup 2 (aConss (aName 10) (aConss (aName 11) (aNils))))
def rd5 : SF := sPar 12 13 (aCons (eA den__law_hand (aCons (eVar 1) (aCons (eVar 10) (aNil)))) (aCons (eA den__law_hand (aCons (eVar 1) (aCons (eVar 11) (aNil)))) (aNil)))
def rd6 : SF := sAsg (eA mkTup (aCons (eA den_hand_of (aCons (eVar 1) (aCons (eA (dCalm hTuple) (aCons (eComp [14] (iBy toItems (eVar 10)) (.nm 14) (pYes) (eA den__law_figures (aCons (eVar 1) (aCons (eVar 14) (aNil))))) (aNil))) (aNil)))) (aCons (eA den_rest_of (aCons (eVar 1) (aCons (eVar 12) (aNil)))) (aNil)))) (aName 5)
def rd7 : SF := sIf (bNot (eB (eA den__law_equal (aCons (eVar 5) (aCons (eA mkTup (aCons (eVar 12) (aCons (eA den__law_hand (aCons (eVar 1) (aCons (eComp [14] (iBys toRng1 (aCons (e2 oGet (eA mkTup (aCons (eC (.int 1)) (aCons (eC (.int 3)) (aCons (eC (.int 9)) (aCons (eC (.int 27)) (aCons (eC (.int 81)) (aNil))))))) (eVar 1)) (aNil))) (.nm 14) (eB (e2 (oIn true) (eVar 14) (eVar 10))) (eVar 14)) (aNil)))) (aNil)))) (aNil)))))) (sRet (eC (.bool false))) (sNil)
def rd8 : SF := sAsg (eA mkTup (aCons (eA den_both (aCons (eVar 1) (aCons (eVar 12) (aCons (eVar 13) (aNil))))) (aCons (eA den_either (aCons (eVar 1) (aCons (eVar 12) (aCons (eVar 13) (aNil))))) (aCons (eA den_only (aCons (eVar 1) (aCons (eVar 12) (aCons (eVar 13) (aNil))))) (aNil))))) (aName 5)
def rd9 : SF := sAsg (eComp [14] (iBy toItems (eVar 10)) (.nm 14) (eB (e2 (oIn false) (eVar 14) (eVar 11))) (eVar 14)) (aName 6)
def rd10 : SF := sIf (bNot (eB (eA den__law_equal (aCons (eVar 5) (aCons (eA mkTup (aCons (eA den__law_hand (aCons (eVar 1) (aCons (eVar 6) (aNil)))) (aCons (eA den__law_hand (aCons (eVar 1) (aCons (e2 oAdd (eVar 10) (eVar 11)) (aNil)))) (aCons (eA den__law_hand (aCons (eVar 1) (aCons (eComp [14] (iBy toItems (eVar 10)) (.nm 14) (eB (e2 (oIn true) (eVar 14) (eVar 11))) (eVar 14)) (aNil)))) (aNil))))) (aNil)))))) (sRet (eC (.bool false))) (sNil)
def rd11 : SF := sAsg (eA mkTup (aCons (eCallK den_both 0 3 [2, 1, 0] aNil (aCons (eVar 13) (aCons (eVar 12) (aCons (eVar 1) (aNil))))) (aCons (eCallK den_either 0 3 [2, 1, 0] aNil (aCons (eVar 13) (aCons (eVar 12) (aCons (eVar 1) (aNil))))) (aCons (eCallK den_only 0 3 [2, 1, 0] aNil (aCons (eVar 13) (aCons (eVar 12) (aCons (eVar 1) (aNil))))) (aNil))))) (aName 7)
def rd12 : SF := sIf (bNot (eB (eA den__law_equal (aCons (eVar 7) (aCons (eVar 5) (aNil)))))) (sRet (eC (.bool false))) (sNil)
def rd13 : SF := sAsg (eA mkTup (aCons (eCallK den_deck 0 1 [0] aNil (aCons (eVar 1) (aNil))) (aCons (eCallK den_card_number 0 1 [0] aNil (aCons (eVar 4) (aNil))) (aCons (eCallK den_card_at 0 2 [1, 0] aNil (aCons (eVar 3) (aCons (eVar 1) (aNil)))) (aCons (eCallK den_hand_of 0 2 [1, 0] aNil (aCons (eVar 12) (aCons (eVar 1) (aNil)))) (aCons (eCallK den_rest_of 0 2 [1, 0] aNil (aCons (eA den_rest_of (aCons (eVar 1) (aCons (eVar 12) (aNil)))) (aCons (eVar 1) (aNil)))) (aNil))))))) (aName 7)
def rd14 : SF := sIf (bOr (bNot (eB (eA den__law_equal (aCons (eVar 7) (aCons (eA mkTup (aCons (eVar 2) (aCons (eVar 3) (aCons (eVar 4) (aCons (eVar 12) (aCons (eVar 12) (aNil))))))) (aNil)))))) (bOr (eB (e2 (oIs true) (eCallK den_is_card 0 2 [1, 0] aNil (aCons (eVar 4) (aCons (eVar 1) (aNil)))) (eC (.bool true)))) (eB (e2 (oIs true) (eCallK den_is_hand 0 2 [1, 0] aNil (aCons (eVar 12) (aCons (eVar 1) (aNil)))) (eC (.bool true)))))) (sRet (eC (.bool false))) (sNil)
def rd15 : SF := sAsg (eA mkLst (aCons (e2 oAdd (eVar 4) (eC (.str "0"))) (aCons (eSl (eVar 4) (oSome (eC (.int 1))) (oNone)) (aCons (e2 oMul (eC (.str "3")) (eVar 1)) (aCons (eC .none) (aCons (eA (dCalm hInt) (aCons (eVar 4) (aNil))) (aCons (eA mkLst (aCons (eVar 4) (aNil))) (aCons (eA mkTup (aCons (eVar 4) (aNil))) (aCons (e2 oAdd (eSl (eVar 4) (oNone) (oSome (e1 oNeg (eC (.int 1))))) (eC (.str "a"))) (aCons (eC (.bool true)) (aNil))))))))))) (aName 8)
def rd16 : SF := sIf (bOr (eB (e2 (oIs true) (eA den_is_card (aCons (eVar 1) (aCons (eVar 4) (aNil)))) (eC (.bool true)))) (eB (eA (dCalm hAny) (aCons (eComp [14] (iBy toItems (eVar 8)) (.nm 14) (pYes) (e2 (oIs true) (eA den_is_card (aCons (eVar 1) (aCons (eVar 14) (aNil)))) (eC (.bool false)))) (aNil))))) (sRet (eC (.bool false))) (sNil)
def rd17 : SF := sAsg (eA mkLst (aCons (eA (dCalm hList) (aCons (eVar 12) (aNil))) (aCons (eIf (eB (e2 (oIn false) (eVar 4) (eVar 12))) (e2 oAdd (eVar 12) (eA mkTup (aCons (eVar 4) (aNil)))) (e2 oAdd (eVar 12) (eA mkTup (aCons (e2 oMul (eC (.str "3")) (eVar 1)) (aNil))))) (aCons (eA mkTup (aCons (eVar 4) (aCons (eVar 4) (aNil)))) (aCons (eIf (eB (e2 oGt (eA (dCalm hLen) (aCons (eVar 12) (aNil))) (eC (.int 1)))) (eRevT (eVar 12)) (eC .none)) (aCons (eVar 4) (aCons (eA mkTup (aCons (eA (dCalm hInt) (aCons (eVar 4) (aNil))) (aNil))) (aNil)))))))) (aName 9)
def rd18 : SF := sIf (bOr (eB (e2 (oIs true) (eA den_is_hand (aCons (eVar 1) (aCons (eVar 12) (aNil)))) (eC (.bool true)))) (bOr (eB (eA (dCalm hAny) (aCons (eComp [14] (iBy toItems (eVar 9)) (.nm 14) (pYes) (e2 (oIs true) (eA den_is_hand (aCons (eVar 1) (aCons (eVar 14) (aNil)))) (eC (.bool false)))) (aNil)))) (bNot (eB (eA den__law_texts_right (aCons (eVar 1) (aCons (eVar 12) (aNil)))))))) (sRet (eC (.bool false))) (sNil)
def rd_all : SF := sSeq rd0 (sSeq rd1 (sSeq rd2 (sSeq rd3 (sSeq rd4 (sSeq rd5 (sSeq rd6 (sSeq rd7 (sSeq rd8 (sSeq rd9 (sSeq rd10 (sSeq rd11 (sSeq rd12 (sSeq rd13 (sSeq rd14 (sSeq rd15 (sSeq rd16 (sSeq rd17 (rd18))))))))))))))))))
theorem rd_eq : b__law_round = sSeq (sFor (iBy toItems (eA mkTup (aCons (e2 oAdd (eC (.int 1)) (eA den__law_draw (aCons (eVar 0) (aCons (eC (.int 4)) (aNil))))) (aCons (e2 oAdd (eC (.int 1)) (eA den__law_draw (aCons (eVar 0) (aCons (eC (.int 3)) (aNil))))) (aNil))))) (aName 1) rd_all) (sRet (eC (.bool true))) := rfl
theorem r_eLstRg {f : EF} {ρ : Ev.Env} {S : Sto} : eLstRg f ρ S = (f ρ S).bind fun x S1 => match x with
  | .d (.int n) => if okRg 0 n = true then .ok (.d (.list (rgD 0 n))) S1 else .stuck
  | _ => .stuck := nr rfl
theorem asc_range (m : Nat) : asc m (List.range (3 ^ m)) = List.range (3 ^ m) := by
  unfold asc
  rw [List.filter_eq_self]
  intro v hv
  exact decide_eq_true hv
theorem asc_self {m : Nat} {l : List Nat} (h : Asc m l) : asc m l = l := by
  have := (asc_ok m l)
  refine List.Perm.eq_of_pairwise (le := (· < ·)) (fun a b _ _ h1 h2 => absurd h1 (Nat.lt_asymm h2)) this.pw h.pw ?_
  refine (List.perm_ext_iff_of_nodup (this.pw.imp fun q => Nat.ne_of_lt q) (h.pw.imp fun q => Nat.ne_of_lt q)).mpr fun v => ?_
  rw [mem_asc]
  exact ⟨fun q => q.2, fun q => ⟨h.lt v q, q⟩⟩
theorem asc_congr {m : Nat} {l k : List Nat} (h : ∀ v, v < 3 ^ m → (v ∈ l ↔ v ∈ k)) : asc m l = asc m k := by
  unfold asc
  refine List.filter_congr fun v hv => ?_
  rw [decide_eq_decide]
  exact h v (List.mem_range.mp hv)
theorem range_filter (m : Nat) (p : Nat → Bool) : (List.range (3 ^ m)).filter p = asc m ((List.range (3 ^ m)).filter p) := by
  refine (asc_self ⟨fun v hv => ?_, ?_⟩).symm
  · exact List.mem_range.mp (List.mem_filter.mp hv).1
  · exact List.Pairwise.filter _ List.pairwise_lt_range
theorem asc_filter {m : Nat} {l : List Nat} (p : Nat → Bool) : (asc m l).filter p = asc m (l.filter p) := by
  rw [← asc_self ((asc_ok m l).filter p)]
  refine asc_congr fun v hv => ?_
  rw [List.mem_filter, List.mem_filter, mem_asc]
  exact ⟨fun q => ⟨q.1.2, q.2⟩, fun q => ⟨⟨hv, q.1⟩, q.2⟩⟩
section
variable {m : Nat} (a : 1 ≤ m) (b : m ≤ 4)
include a b
theorem pow_get (S : Sto) : oGet (.d (.tuple [.int 1, .int 3, .int 9, .int 27, .int 81])) (.d (.int (m : Nat))) S = .ok (.d (.int ((3 ^ m : Nat)))) S :=
  cases4 (P := fun m => oGet (.d (.tuple [.int 1, .int 3, .int 9, .int 27, .int 81])) (.d (.int (m : Nat))) S = .ok (.d (.int ((3 ^ m : Nat)))) S) rfl rfl rfl rfl m a b
/-- equal parts: hands, small numbers, cards -/
theorem gd_F (v : Nat) : gd (.str (F m v)) = true := by
  have h := gd_cs a b (l := []) ⟨fun v hv => by simp [bind_ok, bind_exc, bind_stuck, lift_ok, lift_exc, calm_ok, bind_if, lift_if, calm_if, r_fn, r_sRet, r_sRetN, r_sSeq, r_sExpr, r_sIf, r_sAsg, r_sNil, r_aName, aNils, aConss, aTup, eVar, r_eC, r_eA, r_aCons, r_aNil, r_e2, r_e1, r_eB, r_toB, r_eAnd, r_eOr, r_eNot, r_bAnd, r_bOr, r_bNot, r_eIf, r_eIsi, tyOf, isTy, Tk.nm, r_dCalm, r_iBy, r_iBys, toItems, toRng1, r_eChain, oOrd, oInt, oIs, isN, mkTup, mkLst, datas, r_sRaise, r_eSortSet, r_eM1, r_eCallK, r_eSl, r_oSome, r_oNone, r_eRepl, r_eRevT, r_eFrz] at hv, .nil⟩ (by simp [bind_ok, bind_exc, bind_stuck, lift_ok, lift_exc, calm_ok, bind_if, lift_if, calm_if, r_fn, r_sRet, r_sRetN, r_sSeq, r_sExpr, r_sIf, r_sAsg, r_sNil, r_aName, aNils, aConss, aTup, eVar, r_eC, r_eA, r_aCons, r_aNil, r_e2, r_e1, r_eB, r_toB, r_eAnd, r_eOr, r_eNot, r_bAnd, r_bOr, r_bNot, r_eIf, r_eIsi, tyOf, isTy, Tk.nm, r_dCalm, r_iBy, r_iBys, toItems, toRng1, r_eChain, oOrd, oInt, oIs, isN, mkTup, mkLst, datas, r_sRaise, r_eSortSet, r_eM1, r_eCallK, r_eSl, r_oSome, r_oNone, r_eRepl, r_eRevT, r_eFrz]) [v]
  simpa only [cs, List.map_cons, List.map_nil, gdAll, Bool.and_true] using h
theorem gd_H (l : List Nat) : gd (.tuple (cs m l)) = true := by
  have h := gd_cs a b (l := []) ⟨fun v hv => by simp [bind_ok, bind_exc, bind_stuck, lift_ok, lift_exc, calm_ok, bind_if, lift_if, calm_if, r_fn, r_sRet, r_sRetN, r_sSeq, r_sExpr, r_sIf, r_sAsg, r_sNil, r_aName, aNils, aConss, aTup, eVar, r_eC, r_eA, r_aCons, r_aNil, r_e2, r_e1, r_eB, r_toB, r_eAnd, r_eOr, r_eNot, r_bAnd, r_bOr, r_bNot, r_eIf, r_eIsi, tyOf, isTy, Tk.nm, r_dCalm, r_iBy, r_iBys, toItems, toRng1, r_eChain, oOrd, oInt, oIs, isN, mkTup, mkLst, datas, r_sRaise, r_eSortSet, r_eM1, r_eCallK, r_eSl, r_oSome, r_oNone, r_eRepl, r_eRevT, r_eFrz] at hv, .nil⟩ (by simp [bind_ok, bind_exc, bind_stuck, lift_ok, lift_exc, calm_ok, bind_if, lift_if, calm_if, r_fn, r_sRet, r_sRetN, r_sSeq, r_sExpr, r_sIf, r_sAsg, r_sNil, r_aName, aNils, aConss, aTup, eVar, r_eC, r_eA, r_aCons, r_aNil, r_e2, r_e1, r_eB, r_toB, r_eAnd, r_eOr, r_eNot, r_bAnd, r_bOr, r_bNot, r_eIf, r_eIsi, tyOf, isTy, Tk.nm, r_dCalm, r_iBy, r_iBys, toItems, toRng1, r_eChain, oOrd, oInt, oIs, isN, mkTup, mkLst, datas, r_sRaise, r_eSortSet, r_eM1, r_eCallK, r_eSl, r_oSome, r_oNone, r_eRepl, r_eRevT, r_eFrz]) l
  simpa only [gd] using h
theorem wt_H {l : List Nat} (h : l.length ≤ 200) : wt (.tuple (cs m l)) ≤ 10000 := by
  have := wt_cs a b (l := []) ⟨fun v hv => by simp [bind_ok, bind_exc, bind_stuck, lift_ok, lift_exc, calm_ok, bind_if, lift_if, calm_if, r_fn, r_sRet, r_sRetN, r_sSeq, r_sExpr, r_sIf, r_sAsg, r_sNil, r_aName, aNils, aConss, aTup, eVar, r_eC, r_eA, r_aCons, r_aNil, r_e2, r_e1, r_eB, r_toB, r_eAnd, r_eOr, r_eNot, r_bAnd, r_bOr, r_bNot, r_eIf, r_eIsi, tyOf, isTy, Tk.nm, r_dCalm, r_iBy, r_iBys, toItems, toRng1, r_eChain, oOrd, oInt, oIs, isN, mkTup, mkLst, datas, r_sRaise, r_eSortSet, r_eM1, r_eCallK, r_eSl, r_oSome, r_oNone, r_eRepl, r_eRevT, r_eFrz] at hv, .nil⟩ (by simp [bind_ok, bind_exc, bind_stuck, lift_ok, lift_exc, calm_ok, bind_if, lift_if, calm_if, r_fn, r_sRet, r_sRetN, r_sSeq, r_sExpr, r_sIf, r_sAsg, r_sNil, r_aName, aNils, aConss, aTup, eVar, r_eC, r_eA, r_aCons, r_aNil, r_e2, r_e1, r_eB, r_toB, r_eAnd, r_eOr, r_eNot, r_bAnd, r_bOr, r_bNot, r_eIf, r_eIsi, tyOf, isTy, Tk.nm, r_dCalm, r_iBy, r_iBys, toItems, toRng1, r_eChain, oOrd, oInt, oIs, isN, mkTup, mkLst, datas, r_sRaise, r_eSortSet, r_eM1, r_eCallK, r_eSl, r_oSome, r_oNone, r_eRepl, r_eRevT, r_eFrz]) l
  simp only [wt]; omega
theorem dp_H (l : List Nat) : (PyData.tuple (cs m l)).depth = 1 := by
  simp only [PyData.depth, dp_cs a b (l := []) ⟨fun v hv => by simp [bind_ok, bind_exc, bind_stuck, lift_ok, lift_exc, calm_ok, bind_if, lift_if, calm_if, r_fn, r_sRet, r_sRetN, r_sSeq, r_sExpr, r_sIf, r_sAsg, r_sNil, r_aName, aNils, aConss, aTup, eVar, r_eC, r_eA, r_aCons, r_aNil, r_e2, r_e1, r_eB, r_toB, r_eAnd, r_eOr, r_eNot, r_bAnd, r_bOr, r_bNot, r_eIf, r_eIsi, tyOf, isTy, Tk.nm, r_dCalm, r_iBy, r_iBys, toItems, toRng1, r_eChain, oOrd, oInt, oIs, isN, mkTup, mkLst, datas, r_sRaise, r_eSortSet, r_eM1, r_eCallK, r_eSl, r_oSome, r_oNone, r_eRepl, r_eRevT, r_eFrz] at hv, .nil⟩ (by simp [bind_ok, bind_exc, bind_stuck, lift_ok, lift_exc, calm_ok, bind_if, lift_if, calm_if, r_fn, r_sRet, r_sRetN, r_sSeq, r_sExpr, r_sIf, r_sAsg, r_sNil, r_aName, aNils, aConss, aTup, eVar, r_eC, r_eA, r_aCons, r_aNil, r_e2, r_e1, r_eB, r_toB, r_eAnd, r_eOr, r_eNot, r_bAnd, r_bOr, r_bNot, r_eIf, r_eIsi, tyOf, isTy, Tk.nm, r_dCalm, r_iBy, r_iBys, toItems, toRng1, r_eChain, oOrd, oInt, oIs, isN, mkTup, mkLst, datas, r_sRaise, r_eSortSet, r_eM1, r_eCallK, r_eSl, r_oSome, r_oNone, r_eRepl, r_eRevT, r_eFrz]) l]
abbrev En := List (Option Vl)
variable {n : Nat} {S : Sto} {x2 x3 x4 x5 x6 x7 x8 x9 x10 x11 x12 x13 x14 : Option Vl}
theorem rd0_ok : rd0 [some (.r n), some (.d (.int (m : Nat))), x2, x3, x4, x5, x6, x7, x8, x9, x10, x11, x12, x13, x14] S = .ok (.nx [some (.r n), some (.d (.int (m : Nat))), some (.d (.tuple (cs m (List.range (3 ^ m))))), x3, x4, x5, x6, x7, x8, x9, x10, x11, x12, x13, x14]) S := by
  obtain ⟨q, hq⟩ : ∃ q, q = 3 ^ m := ⟨_, rfl⟩
  have pg := fun S => pow_get a b S
  have q81 := pow_le a b
  have lh := fun S => e_lawhand a b (vs := List.range (3 ^ m)) (fun v hv => List.mem_range.mp hv) (by simp [bind_ok, bind_exc, bind_stuck, lift_ok, lift_exc, calm_ok, bind_if, lift_if, calm_if, r_fn, r_sRet, r_sRetN, r_sSeq, r_sExpr, r_sIf, r_sAsg, r_sNil, r_aName, aNils, aConss, aTup, eVar, r_eC, r_eA, r_aCons, r_aNil, r_e2, r_e1, r_eB, r_toB, r_eAnd, r_eOr, r_eNot, r_bAnd, r_bOr, r_bNot, r_eIf, r_eIsi, tyOf, isTy, Tk.nm, r_dCalm, r_iBy, r_iBys, toItems, toRng1, r_eChain, oOrd, oInt, oIs, isN, mkTup, mkLst, datas, r_sRaise, r_eSortSet, r_eM1, r_eCallK, r_eSl, r_oSome, r_oNone, r_eRepl, r_eRevT, r_eFrz]; omega) S
  rw [asc_range] at lh
  rw [← hq] at pg lh ⊢
  have rg : rgD 0 (q : Nat) = iv (List.range q) := by unfold rgD iv; simp [bind_ok, bind_exc, bind_stuck, lift_ok, lift_exc, calm_ok, bind_if, lift_if, calm_if, r_fn, r_sRet, r_sRetN, r_sSeq, r_sExpr, r_sIf, r_sAsg, r_sNil, r_aName, aNils, aConss, aTup, eVar, r_eC, r_eA, r_aCons, r_aNil, r_e2, r_e1, r_eB, r_toB, r_eAnd, r_eOr, r_eNot, r_bAnd, r_bOr, r_bNot, r_eIf, r_eIsi, tyOf, isTy, Tk.nm, r_dCalm, r_iBy, r_iBys, toItems, toRng1, r_eChain, oOrd, oInt, oIs, isN, mkTup, mkLst, datas, r_sRaise, r_eSortSet, r_eM1, r_eCallK, r_eSl, r_oSome, r_oNone, r_eRepl, r_eRevT, r_eFrz]
  have ok : okRg 0 (q : Nat) = true := decide_eq_true ⟨by decide, by decide, by omega, by omega, by omega⟩
  simp [bind_ok, bind_exc, bind_stuck, lift_ok, lift_exc, calm_ok, bind_if, lift_if, calm_if, r_fn, r_sRet, r_sRetN, r_sSeq, r_sExpr, r_sIf, r_sAsg, r_sNil, r_aName, aNils, aConss, aTup, eVar, r_eC, r_eA, r_aCons, r_aNil, r_e2, r_e1, r_eB, r_toB, r_eAnd, r_eOr, r_eNot, r_bAnd, r_bOr, r_bNot, r_eIf, r_eIsi, tyOf, isTy, Tk.nm, r_dCalm, r_iBy, r_iBys, toItems, toRng1, r_eChain, oOrd, oInt, oIs, isN, mkTup, mkLst, datas, r_sRaise, r_eSortSet, r_eM1, r_eCallK, r_eSl, r_oSome, r_oNone, r_eRepl, r_eRevT, r_eFrz, rd0, r_eLstRg, pg, ok, rg, lh, sizeLine_eq]
theorem rd1_ok (s : Spr n S) : ∃ v S', v < 3 ^ m ∧ rd1 [some (.r n), some (.d (.int (m : Nat))), x2, x3, x4, x5, x6, x7, x8, x9, x10, x11, x12, x13, x14] S = .ok (.nx [some (.r n), some (.d (.int (m : Nat))), x2, some (.d (.int (v : Nat))), x4, x5, x6, x7, x8, x9, x10, x11, x12, x13, x14]) S' ∧ Spr n S' := by
  obtain ⟨q, hq⟩ : ∃ q, q = 3 ^ m := ⟨_, rfl⟩
  have pg := fun S => pow_get a b S
  obtain ⟨v, S1, hv, e1, s1⟩ := e_draw (k := q) s (by rw [hq]; exact Nat.pos_of_ne_zero (by simp [bind_ok, bind_exc, bind_stuck, lift_ok, lift_exc, calm_ok, bind_if, lift_if, calm_if, r_fn, r_sRet, r_sRetN, r_sSeq, r_sExpr, r_sIf, r_sAsg, r_sNil, r_aName, aNils, aConss, aTup, eVar, r_eC, r_eA, r_aCons, r_aNil, r_e2, r_e1, r_eB, r_toB, r_eAnd, r_eOr, r_eNot, r_bAnd, r_bOr, r_bNot, r_eIf, r_eIsi, tyOf, isTy, Tk.nm, r_dCalm, r_iBy, r_iBys, toItems, toRng1, r_eChain, oOrd, oInt, oIs, isN, mkTup, mkLst, datas, r_sRaise, r_eSortSet, r_eM1, r_eCallK, r_eSl, r_oSome, r_oNone, r_eRepl, r_eRevT, r_eFrz])) (by rw [hq]; exact pow_le a b)
  rw [← hq] at pg ⊢
  exact ⟨v, S1, hv, by simp [bind_ok, bind_exc, bind_stuck, lift_ok, lift_exc, calm_ok, bind_if, lift_if, calm_if, r_fn, r_sRet, r_sRetN, r_sSeq, r_sExpr, r_sIf, r_sAsg, r_sNil, r_aName, aNils, aConss, aTup, eVar, r_eC, r_eA, r_aCons, r_aNil, r_e2, r_e1, r_eB, r_toB, r_eAnd, r_eOr, r_eNot, r_bAnd, r_bOr, r_bNot, r_eIf, r_eIsi, tyOf, isTy, Tk.nm, r_dCalm, r_iBy, r_iBys, toItems, toRng1, r_eChain, oOrd, oInt, oIs, isN, mkTup, mkLst, datas, r_sRaise, r_eSortSet, r_eM1, r_eCallK, r_eSl, r_oSome, r_oNone, r_eRepl, r_eRevT, r_eFrz, rd1, pg, e1, sizeLine_eq], s1⟩
theorem rd4_ok (s : Spr n S) : ∃ (f g : List Nat) (S' : Sto), (∀ v ∈ f, v < 3 ^ m) ∧ f.length ≤ 11 ∧ (∀ v ∈ g, v < 3 ^ m) ∧ g.length ≤ 11 ∧ rd4 [some (.r n), some (.d (.int (m : Nat))), x2, x3, x4, x5, x6, x7, x8, x9, x10, x11, x12, x13, x14] S = .ok (.nx [some (.r n), some (.d (.int (m : Nat))), x2, x3, x4, x5, x6, x7, x8, x9, some (.d (.list (iv f))), some (.d (.list (iv g))), x12, x13, x14]) S' ∧ Spr n S' := by
  obtain ⟨f, S1, h1, h2, e1, s1⟩ := e_some a b s
  obtain ⟨g, S2, h3, h4, e2, s2⟩ := e_some a b s1
  exact ⟨f, g, S2, h1, h2, h3, h4, by simp [bind_ok, bind_exc, bind_stuck, lift_ok, lift_exc, calm_ok, bind_if, lift_if, calm_if, r_fn, r_sRet, r_sRetN, r_sSeq, r_sExpr, r_sIf, r_sAsg, r_sNil, r_aName, aNils, aConss, aTup, eVar, r_eC, r_eA, r_aCons, r_aNil, r_e2, r_e1, r_eB, r_toB, r_eAnd, r_eOr, r_eNot, r_bAnd, r_bOr, r_bNot, r_eIf, r_eIsi, tyOf, isTy, Tk.nm, r_dCalm, r_iBy, r_iBys, toItems, toRng1, r_eChain, oOrd, oInt, oIs, isN, mkTup, mkLst, datas, r_sRaise, r_eSortSet, r_eM1, r_eCallK, r_eSl, r_oSome, r_oNone, r_eRepl, r_eRevT, r_eFrz, rd4, e1, e2, sizeLine_eq], s2⟩
theorem mem_iv {l : List Nat} (v : Nat) : memB (.int (v : Nat)) (iv l) = decide (v ∈ l) := by
  unfold memB iv
  rw [Bool.eq_iff_iff, List.any_map, List.any_eq_true, decide_eq_true_eq]
  constructor
  · rintro ⟨w, hw, e⟩
    have e : (w : Int) = v := by simpa [bind_ok, bind_exc, bind_stuck, lift_ok, lift_exc, calm_ok, bind_if, lift_if, calm_if, r_fn, r_sRet, r_sRetN, r_sSeq, r_sExpr, r_sIf, r_sAsg, r_sNil, r_aName, aNils, aConss, aTup, eVar, r_eC, r_eA, r_aCons, r_aNil, r_e2, r_e1, r_eB, r_toB, r_eAnd, r_eOr, r_eNot, r_bAnd, r_bOr, r_bNot, r_eIf, r_eIsi, tyOf, isTy, Tk.nm, r_dCalm, r_iBy, r_iBys, toItems, toRng1, r_eChain, oOrd, oInt, oIs, isN, mkTup, mkLst, datas, r_sRaise, r_eSortSet, r_eM1, r_eCallK, r_eSl, r_oSome, r_oNone, r_eRepl, r_eRevT, r_eFrz, PyData.eqv] using e
    have e : w = v := by omega
    rw [← e]; exact hw
  · intro q; exact ⟨v, q, by simp [bind_ok, bind_exc, bind_stuck, lift_ok, lift_exc, calm_ok, bind_if, lift_if, calm_if, r_fn, r_sRet, r_sRetN, r_sSeq, r_sExpr, r_sIf, r_sAsg, r_sNil, r_aName, aNils, aConss, aTup, eVar, r_eC, r_eA, r_aCons, r_aNil, r_e2, r_e1, r_eB, r_toB, r_eAnd, r_eOr, r_eNot, r_bAnd, r_bOr, r_bNot, r_eIf, r_eIsi, tyOf, isTy, Tk.nm, r_dCalm, r_iBy, r_iBys, toItems, toRng1, r_eChain, oOrd, oInt, oIs, isN, mkTup, mkLst, datas, r_sRaise, r_eSortSet, r_eM1, r_eCallK, r_eSl, r_oSome, r_oNone, r_eRepl, r_eRevT, r_eFrz, PyData.eqv]⟩
theorem canLay_iv (l : List Nat) : PyData.canLayAll0 (iv l) = true := by
  induction l with
  | nil => rfl
  | cons v r ih => simp only [iv, List.map_cons, PyData.canLayAll0, PyData.canLay0, Bool.true_and] at ih ⊢; exact ih
theorem i_in (neg : Bool) (l : List Nat) (v : Nat) (S : Sto) : oIn neg (.d (.int (v : Nat))) (.d (.list (iv l))) S = .ok (.d (.bool (if neg then !decide (v ∈ l) else decide (v ∈ l)))) S := by
  have ok : okMem (.int (v : Nat)) (iv l) = true := by unfold okMem; rw [canLay_iv a b]; rfl
  unfold oIn
  simp only [asList, ok, if_true, mem_iv a b]
section
variable {v : Nat} (hv : v < 3 ^ m) {f g : List Nat} (hf : ∀ v ∈ f, v < 3 ^ m) (lf : f.length ≤ 11) (hg : ∀ v ∈ g, v < 3 ^ m) (lg : g.length ≤ 11)
include hv hf lf hg lg
theorem rd2_ok : rd2 [some (.r n), some (.d (.int (m : Nat))), x2, some (.d (.int (v : Nat))), x4, x5, x6, x7, x8, x9, x10, x11, x12, x13, x14] S = .ok (.nx [some (.r n), some (.d (.int (m : Nat))), x2, some (.d (.int (v : Nat))), some (.d (.str (F m v))), x5, x6, x7, x8, x9, x10, x11, x12, x13, x14]) S := by
  simp [bind_ok, bind_exc, bind_stuck, lift_ok, lift_exc, calm_ok, bind_if, lift_if, calm_if, r_fn, r_sRet, r_sRetN, r_sSeq, r_sExpr, r_sIf, r_sAsg, r_sNil, r_aName, aNils, aConss, aTup, eVar, r_eC, r_eA, r_aCons, r_aNil, r_e2, r_e1, r_eB, r_toB, r_eAnd, r_eOr, r_eNot, r_bAnd, r_bOr, r_bNot, r_eIf, r_eIsi, tyOf, isTy, Tk.nm, r_dCalm, r_iBy, r_iBys, toItems, toRng1, r_eChain, oOrd, oInt, oIs, isN, mkTup, mkLst, datas, r_sRaise, r_eSortSet, r_eM1, r_eCallK, r_eSl, r_oSome, r_oNone, r_eRepl, r_eRevT, r_eFrz, rd2, f_fig a b hv]
theorem rd3_ok : rd3 [some (.r n), some (.d (.int (m : Nat))), some (.d (.tuple (cs m (List.range (3 ^ m))))), some (.d (.int (v : Nat))), some (.d (.str (F m v))), x5, x6, x7, x8, x9, x10, x11, x12, x13, x14] S = .ok (.nx [some (.r n), some (.d (.int (m : Nat))), some (.d (.tuple (cs m (List.range (3 ^ m))))), some (.d (.int (v : Nat))), some (.d (.str (F m v))), x5, x6, x7, x8, x9, x10, x11, x12, x13, x14]) S := by
  have q81 := pow_le a b
  have key := fun S => e_equal [.tuple (cs m (List.range (3 ^ m))), .int (v : Nat), .str (F m v)] S
    (by simp only [gdAll, gd_H a b, gd_F a b, Bool.true_and, Bool.and_true]; simp only [gd]; exact decide_eq_true (by omega))
    (by simp only [PyData.depthAll, dp_H a b]; simp only [PyData.depth]; decide)
    (by have := wt_H a b (l := List.range (3 ^ m)) (by simp [bind_ok, bind_exc, bind_stuck, lift_ok, lift_exc, calm_ok, bind_if, lift_if, calm_if, r_fn, r_sRet, r_sRetN, r_sSeq, r_sExpr, r_sIf, r_sAsg, r_sNil, r_aName, aNils, aConss, aTup, eVar, r_eC, r_eA, r_aCons, r_aNil, r_e2, r_e1, r_eB, r_toB, r_eAnd, r_eOr, r_eNot, r_bAnd, r_bOr, r_bNot, r_eIf, r_eIsi, tyOf, isTy, Tk.nm, r_dCalm, r_iBy, r_iBys, toItems, toRng1, r_eChain, oOrd, oInt, oIs, isN, mkTup, mkLst, datas, r_sRaise, r_eSortSet, r_eM1, r_eCallK, r_eSl, r_oSome, r_oNone, r_eRepl, r_eRevT, r_eFrz]; omega); simp only [wtAll, wt, F_len] at this ⊢; omega)
  have dk := fun S => f_deck a b S
  have e : ((List.range (3 ^ m)).map fun v => PyData.str (F m v)) = cs m (List.range (3 ^ m)) := rfl
  rw [e] at dk
  simp [bind_ok, bind_exc, bind_stuck, lift_ok, lift_exc, calm_ok, bind_if, lift_if, calm_if, r_fn, r_sRet, r_sRetN, r_sSeq, r_sExpr, r_sIf, r_sAsg, r_sNil, r_aName, aNils, aConss, aTup, eVar, r_eC, r_eA, r_aCons, r_aNil, r_e2, r_e1, r_eB, r_toB, r_eAnd, r_eOr, r_eNot, r_bAnd, r_bOr, r_bNot, r_eIf, r_eIsi, tyOf, isTy, Tk.nm, r_dCalm, r_iBy, r_iBys, toItems, toRng1, r_eChain, oOrd, oInt, oIs, isN, mkTup, mkLst, datas, r_sRaise, r_eSortSet, r_eM1, r_eCallK, r_eSl, r_oSome, r_oNone, r_eRepl, r_eRevT, r_eFrz, rd3, dk, f_num a b hv, f_at a b hv, sizeLine_eq, key]

/-- first, second, one, two -/
theorem rd5_ok : rd5 [some (.r n), some (.d (.int (m : Nat))), x2, x3, x4, x5, x6, x7, x8, x9, some (.d (.list (iv f))), some (.d (.list (iv g))), x12, x13, x14] S = .ok (.nx [some (.r n), some (.d (.int (m : Nat))), x2, x3, x4, x5, x6, x7, x8, x9, some (.d (.list (iv f))), some (.d (.list (iv g))), some (.d (.tuple (cs m (asc m f)))), some (.d (.tuple (cs m (asc m g)))), x14]) S := by
  simp [bind_ok, bind_exc, bind_stuck, lift_ok, lift_exc, calm_ok, bind_if, lift_if, calm_if, r_fn, r_sRet, r_sRetN, r_sSeq, r_sExpr, r_sIf, r_sAsg, r_sNil, r_aName, aNils, aConss, aTup, eVar, r_eC, r_eA, r_aCons, r_aNil, r_e2, r_e1, r_eB, r_toB, r_eAnd, r_eOr, r_eNot, r_bAnd, r_bOr, r_bNot, r_eIf, r_eIsi, tyOf, isTy, Tk.nm, r_dCalm, r_iBy, r_iBys, toItems, toRng1, r_eChain, oOrd, oInt, oIs, isN, mkTup, mkLst, datas, r_sRaise, r_eSortSet, r_eM1, r_eCallK, r_eSl, r_oSome, r_oNone, r_eRepl, r_eRevT, r_eFrz, rd5, r_sPar, e_lawhand a b hf (by omega : f.length < 4000), e_lawhand a b hg (by omega : g.length < 4000)]
theorem rd6_ok : rd6 [some (.r n), some (.d (.int (m : Nat))), x2, x3, x4, x5, x6, x7, x8, x9, some (.d (.list (iv f))), some (.d (.list (iv g))), some (.d (.tuple (cs m (asc m f)))), some (.d (.tuple (cs m (asc m g)))), x14] S = .ok (.nx [some (.r n), some (.d (.int (m : Nat))), x2, x3, x4, some (.d (.tuple [.tuple (cs m (asc m f)), .tuple (cs m ((List.range (3 ^ m)).filter fun v => !decide (v ∈ asc m f)))])), x6, x7, x8, x9, some (.d (.list (iv f))), some (.d (.list (iv g))), some (.d (.tuple (cs m (asc m f)))), some (.d (.tuple (cs m (asc m g)))), x14]) S := by
  have key := eComp_map (w := fun v : Nat => .d (.int (v : Nat))) (vs := [14]) (fi := iBy toItems (eVar 10)) (t := .nm 14) (p := pYes) (f := eA den__law_figures (aCons (eVar 1) (aCons (eVar 14) aNil))) (ρ := [some (.r n), some (.d (.int (m : Nat))), x2, x3, x4, x5, x6, x7, x8, x9, some (.d (.list (iv f))), some (.d (.list (iv g))), some (.d (.tuple (cs m (asc m f)))), some (.d (.tuple (cs m (asc m g)))), x14]) (S := S) (S1 := S) (l := f)
    (fun v => [some (.r n), some (.d (.int (m : Nat))), x2, x3, x4, x5, x6, x7, x8, x9, some (.d (.list (iv f))), some (.d (.list (iv g))), some (.d (.tuple (cs m (asc m f)))), some (.d (.tuple (cs m (asc m g)))), some (.d (.int (v : Nat)))]) (fun _ => true) (fun v => .str (F m v)) (by simp [bind_ok, bind_exc, bind_stuck, lift_ok, lift_exc, calm_ok, bind_if, lift_if, calm_if, r_fn, r_sRet, r_sRetN, r_sSeq, r_sExpr, r_sIf, r_sAsg, r_sNil, r_aName, aNils, aConss, aTup, eVar, r_eC, r_eA, r_aCons, r_aNil, r_e2, r_e1, r_eB, r_toB, r_eAnd, r_eOr, r_eNot, r_bAnd, r_bOr, r_bNot, r_eIf, r_eIsi, tyOf, isTy, Tk.nm, r_dCalm, r_iBy, r_iBys, toItems, toRng1, r_eChain, oOrd, oInt, oIs, isN, mkTup, mkLst, datas, r_sRaise, r_eSortSet, r_eM1, r_eCallK, r_eSl, r_oSome, r_oNone, r_eRepl, r_eRevT, r_eFrz, iv]) (by rw [sizeLine_eq]; omega) (fun x hx => rfl) (fun x hx => rfl) (fun x hx _ => by simp [bind_ok, bind_exc, bind_stuck, lift_ok, lift_exc, calm_ok, bind_if, lift_if, calm_if, r_fn, r_sRet, r_sRetN, r_sSeq, r_sExpr, r_sIf, r_sAsg, r_sNil, r_aName, aNils, aConss, aTup, eVar, r_eC, r_eA, r_aCons, r_aNil, r_e2, r_e1, r_eB, r_toB, r_eAnd, r_eOr, r_eNot, r_bAnd, r_bOr, r_bNot, r_eIf, r_eIsi, tyOf, isTy, Tk.nm, r_dCalm, r_iBy, r_iBys, toItems, toRng1, r_eChain, oOrd, oInt, oIs, isN, mkTup, mkLst, datas, r_sRaise, r_eSortSet, r_eM1, r_eCallK, r_eSl, r_oSome, r_oNone, r_eRepl, r_eRevT, r_eFrz, f_fig a b (hf x hx)])
  rw [filter_true] at key
  have e : (f.map fun v => PyData.str (F m v)) = cs m f := rfl
  rw [e] at key
  simp [bind_ok, bind_exc, bind_stuck, lift_ok, lift_exc, calm_ok, bind_if, lift_if, calm_if, r_fn, r_sRet, r_sRetN, r_sSeq, r_sExpr, r_sIf, r_sAsg, r_sNil, r_aName, aNils, aConss, aTup, eVar, r_eC, r_eA, r_aCons, r_aNil, r_e2, r_e1, r_eB, r_toB, r_eAnd, r_eOr, r_eNot, r_bAnd, r_bOr, r_bNot, r_eIf, r_eIsi, tyOf, isTy, Tk.nm, r_dCalm, r_iBy, r_iBys, toItems, toRng1, r_eChain, oOrd, oInt, oIs, isN, mkTup, mkLst, datas, r_sRaise, r_eSortSet, r_eM1, r_eCallK, r_eSl, r_oSome, r_oNone, r_eRepl, r_eRevT, r_eFrz, rd6, key, hTuple, asListZ, asList, e_hand_of a b hf (by omega : f.length < 4000), e_rest_of a b (asc_ok m f), sizeLine_eq]
theorem rd7_ok : rd7 [some (.r n), some (.d (.int (m : Nat))), x2, x3, x4, some (.d (.tuple [.tuple (cs m (asc m f)), .tuple (cs m ((List.range (3 ^ m)).filter fun v => !decide (v ∈ asc m f)))])), x6, x7, x8, x9, some (.d (.list (iv f))), x11, some (.d (.tuple (cs m (asc m f)))), x13, x14] S = .ok (.nx [some (.r n), some (.d (.int (m : Nat))), x2, x3, x4, some (.d (.tuple [.tuple (cs m (asc m f)), .tuple (cs m ((List.range (3 ^ m)).filter fun v => !decide (v ∈ asc m f)))])), x6, x7, x8, x9, some (.d (.list (iv f))), x11, some (.d (.tuple (cs m (asc m f)))), x13, x14]) S := by
  have q81 := pow_le a b
  have l1 := Nat.le_trans (asc_ok m f).len q81
  obtain ⟨q, hq⟩ : ∃ q, q = 3 ^ m := ⟨_, rfl⟩
  have pg := fun S => pow_get a b S
  have fr : ((List.range (3 ^ m)).filter fun v => !decide (v ∈ asc m f)) = (List.range (3 ^ m)).filter fun v => !decide (v ∈ f) := by
    refine List.filter_congr fun v hv => ?_
    have : (v ∈ asc m f) ↔ v ∈ f := by rw [mem_asc]; exact ⟨fun q => q.2, fun q => ⟨List.mem_range.mp hv, q⟩⟩
    simp [bind_ok, bind_exc, bind_stuck, lift_ok, lift_exc, calm_ok, bind_if, lift_if, calm_if, r_fn, r_sRet, r_sRetN, r_sSeq, r_sExpr, r_sIf, r_sAsg, r_sNil, r_aName, aNils, aConss, aTup, eVar, r_eC, r_eA, r_aCons, r_aNil, r_e2, r_e1, r_eB, r_toB, r_eAnd, r_eOr, r_eNot, r_bAnd, r_bOr, r_bNot, r_eIf, r_eIsi, tyOf, isTy, Tk.nm, r_dCalm, r_iBy, r_iBys, toItems, toRng1, r_eChain, oOrd, oInt, oIs, isN, mkTup, mkLst, datas, r_sRaise, r_eSortSet, r_eM1, r_eCallK, r_eSl, r_oSome, r_oNone, r_eRepl, r_eRevT, r_eFrz, this]
  have l2 : ((List.range (3 ^ m)).filter fun v => !decide (v ∈ f)).length ≤ 81 := Nat.le_trans (List.length_filter_le _ _) (by simpa [bind_ok, bind_exc, bind_stuck, lift_ok, lift_exc, calm_ok, bind_if, lift_if, calm_if, r_fn, r_sRet, r_sRetN, r_sSeq, r_sExpr, r_sIf, r_sAsg, r_sNil, r_aName, aNils, aConss, aTup, eVar, r_eC, r_eA, r_aCons, r_aNil, r_e2, r_e1, r_eB, r_toB, r_eAnd, r_eOr, r_eNot, r_bAnd, r_bOr, r_bNot, r_eIf, r_eIsi, tyOf, isTy, Tk.nm, r_dCalm, r_iBy, r_iBys, toItems, toRng1, r_eChain, oOrd, oInt, oIs, isN, mkTup, mkLst, datas, r_sRaise, r_eSortSet, r_eM1, r_eCallK, r_eSl, r_oSome, r_oNone, r_eRepl, r_eRevT, r_eFrz] using q81)
  have lh := fun S => e_lawhand a b (vs := (List.range (3 ^ m)).filter fun v => !decide (v ∈ f)) (fun v hv => List.mem_range.mp (List.mem_filter.mp hv).1) (by omega) S
  rw [← range_filter] at lh
  have key := fun S => e_equal [.tuple (cs m (asc m f)), .tuple (cs m ((List.range (3 ^ m)).filter fun v => !decide (v ∈ f)))] S
    (by simp only [gdAll, gd_H a b, Bool.true_and])
    (by simp only [PyData.depthAll, dp_H a b]; decide)
    (by have := wt_H a b (l := asc m f) (by omega); have := wt_H a b (l := (List.range (3 ^ m)).filter fun v => !decide (v ∈ f)) (by omega); simp only [wtAll]; omega)
  rw [fr]
  have ft : fit62 (q : Nat) = true := decide_eq_true ⟨by omega, by omega⟩
  rw [← hq] at pg lh key ⊢
  have rl : rngL 0 (q : Nat) = (List.range q).map fun v : Nat => .d (.int (v : Nat)) := by unfold rngL; simp [bind_ok, bind_exc, bind_stuck, lift_ok, lift_exc, calm_ok, bind_if, lift_if, calm_if, r_fn, r_sRet, r_sRetN, r_sSeq, r_sExpr, r_sIf, r_sAsg, r_sNil, r_aName, aNils, aConss, aTup, eVar, r_eC, r_eA, r_aCons, r_aNil, r_e2, r_e1, r_eB, r_toB, r_eAnd, r_eOr, r_eNot, r_bAnd, r_bOr, r_bNot, r_eIf, r_eIsi, tyOf, isTy, Tk.nm, r_dCalm, r_iBy, r_iBys, toItems, toRng1, r_eChain, oOrd, oInt, oIs, isN, mkTup, mkLst, datas, r_sRaise, r_eSortSet, r_eM1, r_eCallK, r_eSl, r_oSome, r_oNone, r_eRepl, r_eRevT, r_eFrz]
  have kc := fun T => eComp_map (w := fun v : Nat => .d (.int (v : Nat))) (vs := [14]) (fi := iBys toRng1 (aCons (Ev.e2 oGet (eA mkTup (aCons (eC (.int 1)) (aCons (eC (.int 3)) (aCons (eC (.int 9)) (aCons (eC (.int 27)) (aCons (eC (.int 81)) aNil)))))) (eVar 1)) aNil)) (t := .nm 14) (p := eB (Ev.e2 (oIn true) (eVar 14) (eVar 10))) (f := eVar 14) (ρ := [some (.r n), some (.d (.int (m : Nat))), x2, x3, x4, some (.d (.tuple [.tuple (cs m (asc m f)), .tuple (cs m ((List.range q).filter fun v => !decide (v ∈ f)))])), x6, x7, x8, x9, some (.d (.list (iv f))), x11, some (.d (.tuple (cs m (asc m f)))), x13, x14]) (S := T) (S1 := T) (l := List.range q)
    (fun v => [some (.r n), some (.d (.int (m : Nat))), x2, x3, x4, some (.d (.tuple [.tuple (cs m (asc m f)), .tuple (cs m ((List.range q).filter fun v => !decide (v ∈ f)))])), x6, x7, x8, x9, some (.d (.list (iv f))), x11, some (.d (.tuple (cs m (asc m f)))), x13, some (.d (.int (v : Nat)))]) (fun v => !decide (v ∈ f)) (fun v => .int (v : Nat)) (by simp [bind_ok, bind_exc, bind_stuck, lift_ok, lift_exc, calm_ok, bind_if, lift_if, calm_if, r_fn, r_sRet, r_sRetN, r_sSeq, r_sExpr, r_sIf, r_sAsg, r_sNil, r_aName, aNils, aConss, aTup, eVar, r_eC, r_eA, r_aCons, r_aNil, r_e2, r_e1, r_eB, r_toB, r_eAnd, r_eOr, r_eNot, r_bAnd, r_bOr, r_bNot, r_eIf, r_eIsi, tyOf, isTy, Tk.nm, r_dCalm, r_iBy, r_iBys, toItems, toRng1, r_eChain, oOrd, oInt, oIs, isN, mkTup, mkLst, datas, r_sRaise, r_eSortSet, r_eM1, r_eCallK, r_eSl, r_oSome, r_oNone, r_eRepl, r_eRevT, r_eFrz, pg, ft, rl, sizeLine_eq]) (by rw [List.length_range, sizeLine_eq]; omega) (fun x hx => rfl) (fun x hx => by simp [bind_ok, bind_exc, bind_stuck, lift_ok, lift_exc, calm_ok, bind_if, lift_if, calm_if, r_fn, r_sRet, r_sRetN, r_sSeq, r_sExpr, r_sIf, r_sAsg, r_sNil, r_aName, aNils, aConss, aTup, eVar, r_eC, r_eA, r_aCons, r_aNil, r_e2, r_e1, r_eB, r_toB, r_eAnd, r_eOr, r_eNot, r_bAnd, r_bOr, r_bNot, r_eIf, r_eIsi, tyOf, isTy, Tk.nm, r_dCalm, r_iBy, r_iBys, toItems, toRng1, r_eChain, oOrd, oInt, oIs, isN, mkTup, mkLst, datas, r_sRaise, r_eSortSet, r_eM1, r_eCallK, r_eSl, r_oSome, r_oNone, r_eRepl, r_eRevT, r_eFrz, i_in a b]) (fun x hx _ => by simp [bind_ok, bind_exc, bind_stuck, lift_ok, lift_exc, calm_ok, bind_if, lift_if, calm_if, r_fn, r_sRet, r_sRetN, r_sSeq, r_sExpr, r_sIf, r_sAsg, r_sNil, r_aName, aNils, aConss, aTup, eVar, r_eC, r_eA, r_aCons, r_aNil, r_e2, r_e1, r_eB, r_toB, r_eAnd, r_eOr, r_eNot, r_bAnd, r_bOr, r_bNot, r_eIf, r_eIsi, tyOf, isTy, Tk.nm, r_dCalm, r_iBy, r_iBys, toItems, toRng1, r_eChain, oOrd, oInt, oIs, isN, mkTup, mkLst, datas, r_sRaise, r_eSortSet, r_eM1, r_eCallK, r_eSl, r_oSome, r_oNone, r_eRepl, r_eRevT, r_eFrz])
  have e : (((List.range q).filter fun v => !decide (v ∈ f)).map fun v : Nat => PyData.int (v : Nat)) = iv ((List.range q).filter fun v => !decide (v ∈ f)) := rfl
  rw [e] at kc
  simp [bind_ok, bind_exc, bind_stuck, lift_ok, lift_exc, calm_ok, bind_if, lift_if, calm_if, r_fn, r_sRet, r_sRetN, r_sSeq, r_sExpr, r_sIf, r_sAsg, r_sNil, r_aName, aNils, aConss, aTup, eVar, r_eC, r_eA, r_aCons, r_aNil, r_e2, r_e1, r_eB, r_toB, r_eAnd, r_eOr, r_eNot, r_bAnd, r_bOr, r_bNot, r_eIf, r_eIsi, tyOf, isTy, Tk.nm, r_dCalm, r_iBy, r_iBys, toItems, toRng1, r_eChain, oOrd, oInt, oIs, isN, mkTup, mkLst, datas, r_sRaise, r_eSortSet, r_eM1, r_eCallK, r_eSl, r_oSome, r_oNone, r_eRepl, r_eRevT, r_eFrz, rd7, kc, lh, sizeLine_eq, key]
end
end
end K02

end
section
namespace K02
open PySem PySem.Spec PyProof.Rows L2 Ev

section
variable {m : Nat} (a : 1 ≤ m) (b : m ≤ 4)
variable {n : Nat} {S : Sto} {x2 x3 x4 x5 x6 x7 x8 x9 x10 x11 x12 x13 x14 : Option Vl}
variable {v : Nat} (hv : v < 3 ^ m) {f g : List Nat} (hf : ∀ v ∈ f, v < 3 ^ m) (lf : f.length ≤ 11) (hg : ∀ v ∈ g, v < 3 ^ m) (lg : g.length ≤ 11)
include a b hv hf lf hg lg
def Td (m : Nat) (f g : List Nat) : List PyData := [.tuple (cs m ((asc m f).filter fun v => decide (v ∈ asc m g))), .tuple (cs m (asc m (asc m f ++ asc m g))), .tuple (cs m ((asc m f).filter fun v => !decide (v ∈ asc m g)))]
theorem asc_len (l : List Nat) : (asc m l).length ≤ 81 := Nat.le_trans (asc_ok m l).len (pow_le a b)
theorem td_eq (S : Sto) : den__law_equal [.d (.tuple (Td m f g)), .d (.tuple (Td m f g))] S = .ok (.d (.bool true)) S := by
  refine e_equal _ S ?_ ?_ ?_
  · simp only [Td, gdAll, gd_H a b, Bool.true_and]
  · simp only [Td, PyData.depthAll, dp_H a b]; decide
  · have l1 := asc_len a b hv hf lf hg lg f
    have w1 := wt_H a b (l := (asc m f).filter fun v => decide (v ∈ asc m g)) (Nat.le_trans (List.length_filter_le _ _) (by omega))
    have w2 := wt_H a b (l := asc m (asc m f ++ asc m g)) (Nat.le_trans (asc_len a b hv hf lf hg lg _) (by omega))
    have w3 := wt_H a b (l := (asc m f).filter fun v => !decide (v ∈ asc m g)) (Nat.le_trans (List.length_filter_le _ _) (by omega))
    simp only [Td, wtAll]; omega
theorem rd8_ok : rd8 [some (.r n), some (.d (.int (m : Nat))), x2, x3, x4, x5, x6, x7, x8, x9, x10, x11, some (.d (.tuple (cs m (asc m f)))), some (.d (.tuple (cs m (asc m g)))), x14] S = .ok (.nx [some (.r n), some (.d (.int (m : Nat))), x2, x3, x4, some (.d (.tuple (Td m f g))), x6, x7, x8, x9, x10, x11, some (.d (.tuple (cs m (asc m f)))), some (.d (.tuple (cs m (asc m g)))), x14]) S := by
  simp [bind_ok, bind_exc, bind_stuck, lift_ok, lift_exc, calm_ok, bind_if, lift_if, calm_if, r_fn, r_sRet, r_sRetN, r_sSeq, r_sExpr, r_sIf, r_sAsg, r_sNil, r_aName, aNils, aConss, aTup, eVar, r_eC, r_eA, r_aCons, r_aNil, r_e2, r_e1, r_eB, r_toB, r_eAnd, r_eOr, r_eNot, r_bAnd, r_bOr, r_bNot, r_eIf, r_eIsi, tyOf, isTy, Tk.nm, r_dCalm, r_iBy, r_iBys, toItems, toRng1, r_eChain, oOrd, oInt, oIs, isN, mkTup, mkLst, datas, r_sRaise, r_eSortSet, r_eM1, r_eCallK, r_eSl, r_oSome, r_oNone, r_eRepl, r_eRevT, r_eFrz, rd8, e_both a b (asc_ok m f) (asc_ok m g), e_either a b (asc_ok m f) (asc_ok m g), e_only a b (asc_ok m f) (asc_ok m g), sizeLine_eq, Td]
theorem rd9_ok : rd9 [some (.r n), some (.d (.int (m : Nat))), x2, x3, x4, x5, x6, x7, x8, x9, some (.d (.list (iv f))), some (.d (.list (iv g))), x12, x13, x14] S = .ok (.nx [some (.r n), some (.d (.int (m : Nat))), x2, x3, x4, x5, some (.d (.list (iv (f.filter fun v => decide (v ∈ g))))), x7, x8, x9, some (.d (.list (iv f))), some (.d (.list (iv g))), x12, x13, x14]) S := by
  have kc := eComp_map (w := fun v : Nat => .d (.int (v : Nat))) (vs := [14]) (fi := iBy toItems (eVar 10)) (t := .nm 14) (p := eB (Ev.e2 (oIn false) (eVar 14) (eVar 11))) (f := eVar 14) (ρ := [some (.r n), some (.d (.int (m : Nat))), x2, x3, x4, x5, x6, x7, x8, x9, some (.d (.list (iv f))), some (.d (.list (iv g))), x12, x13, x14]) (S := S) (S1 := S) (l := f)
    (fun v => [some (.r n), some (.d (.int (m : Nat))), x2, x3, x4, x5, x6, x7, x8, x9, some (.d (.list (iv f))), some (.d (.list (iv g))), x12, x13, some (.d (.int (v : Nat)))]) (fun v => decide (v ∈ g)) (fun v => .int (v : Nat)) (by simp [bind_ok, bind_exc, bind_stuck, lift_ok, lift_exc, calm_ok, bind_if, lift_if, calm_if, r_fn, r_sRet, r_sRetN, r_sSeq, r_sExpr, r_sIf, r_sAsg, r_sNil, r_aName, aNils, aConss, aTup, eVar, r_eC, r_eA, r_aCons, r_aNil, r_e2, r_e1, r_eB, r_toB, r_eAnd, r_eOr, r_eNot, r_bAnd, r_bOr, r_bNot, r_eIf, r_eIsi, tyOf, isTy, Tk.nm, r_dCalm, r_iBy, r_iBys, toItems, toRng1, r_eChain, oOrd, oInt, oIs, isN, mkTup, mkLst, datas, r_sRaise, r_eSortSet, r_eM1, r_eCallK, r_eSl, r_oSome, r_oNone, r_eRepl, r_eRevT, r_eFrz, iv]) (by rw [sizeLine_eq]; omega) (fun x hx => rfl) (fun x hx => by simp [bind_ok, bind_exc, bind_stuck, lift_ok, lift_exc, calm_ok, bind_if, lift_if, calm_if, r_fn, r_sRet, r_sRetN, r_sSeq, r_sExpr, r_sIf, r_sAsg, r_sNil, r_aName, aNils, aConss, aTup, eVar, r_eC, r_eA, r_aCons, r_aNil, r_e2, r_e1, r_eB, r_toB, r_eAnd, r_eOr, r_eNot, r_bAnd, r_bOr, r_bNot, r_eIf, r_eIsi, tyOf, isTy, Tk.nm, r_dCalm, r_iBy, r_iBys, toItems, toRng1, r_eChain, oOrd, oInt, oIs, isN, mkTup, mkLst, datas, r_sRaise, r_eSortSet, r_eM1, r_eCallK, r_eSl, r_oSome, r_oNone, r_eRepl, r_eRevT, r_eFrz, i_in a b]) (fun x hx _ => by simp [bind_ok, bind_exc, bind_stuck, lift_ok, lift_exc, calm_ok, bind_if, lift_if, calm_if, r_fn, r_sRet, r_sRetN, r_sSeq, r_sExpr, r_sIf, r_sAsg, r_sNil, r_aName, aNils, aConss, aTup, eVar, r_eC, r_eA, r_aCons, r_aNil, r_e2, r_e1, r_eB, r_toB, r_eAnd, r_eOr, r_eNot, r_bAnd, r_bOr, r_bNot, r_eIf, r_eIsi, tyOf, isTy, Tk.nm, r_dCalm, r_iBy, r_iBys, toItems, toRng1, r_eChain, oOrd, oInt, oIs, isN, mkTup, mkLst, datas, r_sRaise, r_eSortSet, r_eM1, r_eCallK, r_eSl, r_oSome, r_oNone, r_eRepl, r_eRevT, r_eFrz])
  have e : ((f.filter fun v => decide (v ∈ g)).map fun v : Nat => PyData.int (v : Nat)) = iv (f.filter fun v => decide (v ∈ g)) := rfl
  rw [e] at kc
  simp [bind_ok, bind_exc, bind_stuck, lift_ok, lift_exc, calm_ok, bind_if, lift_if, calm_if, r_fn, r_sRet, r_sRetN, r_sSeq, r_sExpr, r_sIf, r_sAsg, r_sNil, r_aName, aNils, aConss, aTup, eVar, r_eC, r_eA, r_aCons, r_aNil, r_e2, r_e1, r_eB, r_toB, r_eAnd, r_eOr, r_eNot, r_bAnd, r_bOr, r_bNot, r_eIf, r_eIsi, tyOf, isTy, Tk.nm, r_dCalm, r_iBy, r_iBys, toItems, toRng1, r_eChain, oOrd, oInt, oIs, isN, mkTup, mkLst, datas, r_sRaise, r_eSortSet, r_eM1, r_eCallK, r_eSl, r_oSome, r_oNone, r_eRepl, r_eRevT, r_eFrz, rd9, kc]
theorem rd10_ok : rd10 [some (.r n), some (.d (.int (m : Nat))), x2, x3, x4, some (.d (.tuple (Td m f g))), some (.d (.list (iv (f.filter fun v => decide (v ∈ g))))), x7, x8, x9, some (.d (.list (iv f))), some (.d (.list (iv g))), x12, x13, x14] S = .ok (.nx [some (.r n), some (.d (.int (m : Nat))), x2, x3, x4, some (.d (.tuple (Td m f g))), some (.d (.list (iv (f.filter fun v => decide (v ∈ g))))), x7, x8, x9, some (.d (.list (iv f))), some (.d (.list (iv g))), x12, x13, x14]) S := by
  have kc := fun T => eComp_map (w := fun v : Nat => .d (.int (v : Nat))) (vs := [14]) (fi := iBy toItems (eVar 10)) (t := .nm 14) (p := eB (Ev.e2 (oIn true) (eVar 14) (eVar 11))) (f := eVar 14) (ρ := [some (.r n), some (.d (.int (m : Nat))), x2, x3, x4, some (.d (.tuple (Td m f g))), some (.d (.list (iv (f.filter fun v => decide (v ∈ g))))), x7, x8, x9, some (.d (.list (iv f))), some (.d (.list (iv g))), x12, x13, x14]) (S := T) (S1 := T) (l := f)
    (fun v => [some (.r n), some (.d (.int (m : Nat))), x2, x3, x4, some (.d (.tuple (Td m f g))), some (.d (.list (iv (f.filter fun v => decide (v ∈ g))))), x7, x8, x9, some (.d (.list (iv f))), some (.d (.list (iv g))), x12, x13, some (.d (.int (v : Nat)))]) (fun v => !decide (v ∈ g)) (fun v => .int (v : Nat)) (by simp [bind_ok, bind_exc, bind_stuck, lift_ok, lift_exc, calm_ok, bind_if, lift_if, calm_if, r_fn, r_sRet, r_sRetN, r_sSeq, r_sExpr, r_sIf, r_sAsg, r_sNil, r_aName, aNils, aConss, aTup, eVar, r_eC, r_eA, r_aCons, r_aNil, r_e2, r_e1, r_eB, r_toB, r_eAnd, r_eOr, r_eNot, r_bAnd, r_bOr, r_bNot, r_eIf, r_eIsi, tyOf, isTy, Tk.nm, r_dCalm, r_iBy, r_iBys, toItems, toRng1, r_eChain, oOrd, oInt, oIs, isN, mkTup, mkLst, datas, r_sRaise, r_eSortSet, r_eM1, r_eCallK, r_eSl, r_oSome, r_oNone, r_eRepl, r_eRevT, r_eFrz, iv]) (by rw [sizeLine_eq]; omega) (fun x hx => rfl) (fun x hx => by simp [bind_ok, bind_exc, bind_stuck, lift_ok, lift_exc, calm_ok, bind_if, lift_if, calm_if, r_fn, r_sRet, r_sRetN, r_sSeq, r_sExpr, r_sIf, r_sAsg, r_sNil, r_aName, aNils, aConss, aTup, eVar, r_eC, r_eA, r_aCons, r_aNil, r_e2, r_e1, r_eB, r_toB, r_eAnd, r_eOr, r_eNot, r_bAnd, r_bOr, r_bNot, r_eIf, r_eIsi, tyOf, isTy, Tk.nm, r_dCalm, r_iBy, r_iBys, toItems, toRng1, r_eChain, oOrd, oInt, oIs, isN, mkTup, mkLst, datas, r_sRaise, r_eSortSet, r_eM1, r_eCallK, r_eSl, r_oSome, r_oNone, r_eRepl, r_eRevT, r_eFrz, i_in a b]) (fun x hx _ => by simp [bind_ok, bind_exc, bind_stuck, lift_ok, lift_exc, calm_ok, bind_if, lift_if, calm_if, r_fn, r_sRet, r_sRetN, r_sSeq, r_sExpr, r_sIf, r_sAsg, r_sNil, r_aName, aNils, aConss, aTup, eVar, r_eC, r_eA, r_aCons, r_aNil, r_e2, r_e1, r_eB, r_toB, r_eAnd, r_eOr, r_eNot, r_bAnd, r_bOr, r_bNot, r_eIf, r_eIsi, tyOf, isTy, Tk.nm, r_dCalm, r_iBy, r_iBys, toItems, toRng1, r_eChain, oOrd, oInt, oIs, isN, mkTup, mkLst, datas, r_sRaise, r_eSortSet, r_eM1, r_eCallK, r_eSl, r_oSome, r_oNone, r_eRepl, r_eRevT, r_eFrz])
  have e : ((f.filter fun v => !decide (v ∈ g)).map fun v : Nat => PyData.int (v : Nat)) = iv (f.filter fun v => !decide (v ∈ g)) := rfl
  rw [e] at kc
  have sub : ∀ p : Nat → Bool, ∀ v ∈ f.filter p, v < 3 ^ m := fun p v h => hf v (List.mem_filter.mp h).1
  have lf2 : ∀ p : Nat → Bool, (f.filter p).length < 4000 := fun p => Nat.lt_of_le_of_lt (List.length_filter_le _ _) (by omega)
  have h1 := fun T => e_lawhand a b (sub fun v => decide (v ∈ g)) (lf2 _) T
  have h2 := fun T => e_lawhand a b (vs := f ++ g) (fun v h => (List.mem_append.mp h).elim (hf v) (hg v)) (by simp [bind_ok, bind_exc, bind_stuck, lift_ok, lift_exc, calm_ok, bind_if, lift_if, calm_if, r_fn, r_sRet, r_sRetN, r_sSeq, r_sExpr, r_sIf, r_sAsg, r_sNil, r_aName, aNils, aConss, aTup, eVar, r_eC, r_eA, r_aCons, r_aNil, r_e2, r_e1, r_eB, r_toB, r_eAnd, r_eOr, r_eNot, r_bAnd, r_bOr, r_bNot, r_eIf, r_eIsi, tyOf, isTy, Tk.nm, r_dCalm, r_iBy, r_iBys, toItems, toRng1, r_eChain, oOrd, oInt, oIs, isN, mkTup, mkLst, datas, r_sRaise, r_eSortSet, r_eM1, r_eCallK, r_eSl, r_oSome, r_oNone, r_eRepl, r_eRevT, r_eFrz]; omega) T
  have h3 := fun T => e_lawhand a b (sub fun v => !decide (v ∈ g)) (lf2 _) T
  have e1 : asc m (f.filter fun v => decide (v ∈ g)) = (asc m f).filter fun v => decide (v ∈ asc m g) := by
    rw [asc_filter]
    refine asc_congr fun v hv => ?_
    simp only [List.mem_filter, decide_eq_true_eq, mem_asc]
    exact ⟨fun q => ⟨q.1, hv, q.2⟩, fun q => ⟨q.1, q.2.2⟩⟩
  have e2 : asc m (f ++ g) = asc m (asc m f ++ asc m g) := by
    refine asc_congr fun v hv => ?_
    simp only [List.mem_append, mem_asc]
    exact ⟨fun q => q.imp (fun z => ⟨hv, z⟩) fun z => ⟨hv, z⟩, fun q => q.imp (fun z => z.2) fun z => z.2⟩
  have e3 : asc m (f.filter fun v => !decide (v ∈ g)) = (asc m f).filter fun v => !decide (v ∈ asc m g) := by
    rw [asc_filter]
    refine asc_congr fun v hv => ?_
    simp only [List.mem_filter, Bool.not_eq_true', decide_eq_false_iff_not, mem_asc]
    exact ⟨fun q => ⟨q.1, fun z => q.2 z.2⟩, fun q => ⟨q.1, fun z => q.2 ⟨hv, z⟩⟩⟩
  rw [e1] at h1
  rw [e2] at h2
  rw [e3] at h3
  have ad := fun T => e_addL (iv f) (iv g) T (by simp [bind_ok, bind_exc, bind_stuck, lift_ok, lift_exc, calm_ok, bind_if, lift_if, calm_if, r_fn, r_sRet, r_sRetN, r_sSeq, r_sExpr, r_sIf, r_sAsg, r_sNil, r_aName, aNils, aConss, aTup, eVar, r_eC, r_eA, r_aCons, r_aNil, r_e2, r_e1, r_eB, r_toB, r_eAnd, r_eOr, r_eNot, r_bAnd, r_bOr, r_bNot, r_eIf, r_eIsi, tyOf, isTy, Tk.nm, r_dCalm, r_iBy, r_iBys, toItems, toRng1, r_eChain, oOrd, oInt, oIs, isN, mkTup, mkLst, datas, r_sRaise, r_eSortSet, r_eM1, r_eCallK, r_eSl, r_oSome, r_oNone, r_eRepl, r_eRevT, r_eFrz, iv]; omega)
  have ei : iv f ++ iv g = iv (f ++ g) := by simp [bind_ok, bind_exc, bind_stuck, lift_ok, lift_exc, calm_ok, bind_if, lift_if, calm_if, r_fn, r_sRet, r_sRetN, r_sSeq, r_sExpr, r_sIf, r_sAsg, r_sNil, r_aName, aNils, aConss, aTup, eVar, r_eC, r_eA, r_aCons, r_aNil, r_e2, r_e1, r_eB, r_toB, r_eAnd, r_eOr, r_eNot, r_bAnd, r_bOr, r_bNot, r_eIf, r_eIsi, tyOf, isTy, Tk.nm, r_dCalm, r_iBy, r_iBys, toItems, toRng1, r_eChain, oOrd, oInt, oIs, isN, mkTup, mkLst, datas, r_sRaise, r_eSortSet, r_eM1, r_eCallK, r_eSl, r_oSome, r_oNone, r_eRepl, r_eRevT, r_eFrz, iv]
  rw [ei] at ad
  have td := fun T => td_eq a b hv hf lf hg lg T
  have tt : [PyData.tuple (cs m ((asc m f).filter fun v => decide (v ∈ asc m g))), .tuple (cs m (asc m (asc m f ++ asc m g))), .tuple (cs m ((asc m f).filter fun v => !decide (v ∈ asc m g)))] = Td m f g := rfl
  have tl3 : (Td m f g).length ≤ 16777216 := by show 3 ≤ 16777216; decide
  simp only [rd10, tl3, r_sIf, r_bNot, r_eB, r_eA, r_aCons, r_aNil, eVar, r_e2, bind_ok, h1, ad, h2, kc, h3, mkTup, datas, Option.map_some, List.getElem?_cons_succ, List.getElem?_cons_zero, tt, List.length_cons, List.length_nil, sizeLine_eq, if_pos, Nat.reduceAdd, Nat.reduceLeDiff, if_true, td, r_toB, lift_ok, Bool.not_true, Bool.false_eq_true, if_false, r_sNil]
theorem rd11_ok : rd11 [some (.r n), some (.d (.int (m : Nat))), x2, x3, x4, x5, x6, x7, x8, x9, x10, x11, some (.d (.tuple (cs m (asc m f)))), some (.d (.tuple (cs m (asc m g)))), x14] S = .ok (.nx [some (.r n), some (.d (.int (m : Nat))), x2, x3, x4, x5, x6, some (.d (.tuple (Td m f g))), x8, x9, x10, x11, some (.d (.tuple (cs m (asc m f)))), some (.d (.tuple (cs m (asc m g)))), x14]) S := by
  simp [bind_ok, bind_exc, bind_stuck, lift_ok, lift_exc, calm_ok, bind_if, lift_if, calm_if, r_fn, r_sRet, r_sRetN, r_sSeq, r_sExpr, r_sIf, r_sAsg, r_sNil, r_aName, aNils, aConss, aTup, eVar, r_eC, r_eA, r_aCons, r_aNil, r_e2, r_e1, r_eB, r_toB, r_eAnd, r_eOr, r_eNot, r_bAnd, r_bOr, r_bNot, r_eIf, r_eIsi, tyOf, isTy, Tk.nm, r_dCalm, r_iBy, r_iBys, toItems, toRng1, r_eChain, oOrd, oInt, oIs, isN, mkTup, mkLst, datas, r_sRaise, r_eSortSet, r_eM1, r_eCallK, r_eSl, r_oSome, r_oNone, r_eRepl, r_eRevT, r_eFrz, rd11, permL, e_both a b (asc_ok m f) (asc_ok m g), e_either a b (asc_ok m f) (asc_ok m g), e_only a b (asc_ok m f) (asc_ok m g), sizeLine_eq, Td]
theorem rd12_ok : rd12 [some (.r n), some (.d (.int (m : Nat))), x2, x3, x4, some (.d (.tuple (Td m f g))), x6, some (.d (.tuple (Td m f g))), x8, x9, x10, x11, x12, x13, x14] S = .ok (.nx [some (.r n), some (.d (.int (m : Nat))), x2, x3, x4, some (.d (.tuple (Td m f g))), x6, some (.d (.tuple (Td m f g))), x8, x9, x10, x11, x12, x13, x14]) S := by
  simp [bind_ok, bind_exc, bind_stuck, lift_ok, lift_exc, calm_ok, bind_if, lift_if, calm_if, r_fn, r_sRet, r_sRetN, r_sSeq, r_sExpr, r_sIf, r_sAsg, r_sNil, r_aName, aNils, aConss, aTup, eVar, r_eC, r_eA, r_aCons, r_aNil, r_e2, r_e1, r_eB, r_toB, r_eAnd, r_eOr, r_eNot, r_bAnd, r_bOr, r_bNot, r_eIf, r_eIsi, tyOf, isTy, Tk.nm, r_dCalm, r_iBy, r_iBys, toItems, toRng1, r_eChain, oOrd, oInt, oIs, isN, mkTup, mkLst, datas, r_sRaise, r_eSortSet, r_eM1, r_eCallK, r_eSl, r_oSome, r_oNone, r_eRepl, r_eRevT, r_eFrz, rd12, td_eq a b hv hf lf hg lg]
def Nd (m v : Nat) (f : List Nat) : List PyData := [.tuple (cs m (List.range (3 ^ m))), .int (v : Nat), .str (F m v), .tuple (cs m (asc m f)), .tuple (cs m (asc m f))]
theorem rd13_ok : rd13 [some (.r n), some (.d (.int (m : Nat))), x2, some (.d (.int (v : Nat))), some (.d (.str (F m v))), x5, x6, x7, x8, x9, x10, x11, some (.d (.tuple (cs m (asc m f)))), x13, x14] S = .ok (.nx [some (.r n), some (.d (.int (m : Nat))), x2, some (.d (.int (v : Nat))), some (.d (.str (F m v))), x5, x6, some (.d (.tuple (Nd m v f))), x8, x9, x10, x11, some (.d (.tuple (cs m (asc m f)))), x13, x14]) S := by
  have dk := fun S => f_deck a b S
  have e : ((List.range (3 ^ m)).map fun v => PyData.str (F m v)) = cs m (List.range (3 ^ m)) := rfl
  rw [e] at dk
  have l1 := asc_len a b hv hf lf hg lg f
  have ho := fun S => e_hand_of a b (asc_ok m f).lt (by omega) S
  rw [asc_self (asc_ok m f)] at ho
  have r1 := fun S => e_rest_of a b (asc_ok m f) S
  have ha : Asc m ((List.range (3 ^ m)).filter fun v => !decide (v ∈ asc m f)) := by rw [range_filter]; exact asc_ok m _
  have r2 := fun S => e_rest_of a b ha S
  have e2 : ((List.range (3 ^ m)).filter fun v => !decide (v ∈ (List.range (3 ^ m)).filter fun v => !decide (v ∈ asc m f))) = asc m f := by
    show _ = (List.range (3 ^ m)).filter fun v => decide (v ∈ f)
    refine List.filter_congr fun v hv => ?_
    have h1 : (v ∈ (List.range (3 ^ m)).filter fun v => !decide (v ∈ asc m f)) ↔ v ∉ f := by
      rw [List.mem_filter]
      simp only [Bool.not_eq_true', decide_eq_false_iff_not, mem_asc]
      exact ⟨fun q z => q.2 ⟨List.mem_range.mp hv, z⟩, fun q => ⟨hv, fun z => q z.2⟩⟩
    by_cases q : v ∈ f <;> simp [bind_ok, bind_exc, bind_stuck, lift_ok, lift_exc, calm_ok, bind_if, lift_if, calm_if, r_fn, r_sRet, r_sRetN, r_sSeq, r_sExpr, r_sIf, r_sAsg, r_sNil, r_aName, aNils, aConss, aTup, eVar, r_eC, r_eA, r_aCons, r_aNil, r_e2, r_e1, r_eB, r_toB, r_eAnd, r_eOr, r_eNot, r_bAnd, r_bOr, r_bNot, r_eIf, r_eIsi, tyOf, isTy, Tk.nm, r_dCalm, r_iBy, r_iBys, toItems, toRng1, r_eChain, oOrd, oInt, oIs, isN, mkTup, mkLst, datas, r_sRaise, r_eSortSet, r_eM1, r_eCallK, r_eSl, r_oSome, r_oNone, r_eRepl, r_eRevT, r_eFrz, h1, q]
  rw [e2] at r2
  simp [bind_ok, bind_exc, bind_stuck, lift_ok, lift_exc, calm_ok, bind_if, lift_if, calm_if, r_fn, r_sRet, r_sRetN, r_sSeq, r_sExpr, r_sIf, r_sAsg, r_sNil, r_aName, aNils, aConss, aTup, eVar, r_eC, r_eA, r_aCons, r_aNil, r_e2, r_e1, r_eB, r_toB, r_eAnd, r_eOr, r_eNot, r_bAnd, r_bOr, r_bNot, r_eIf, r_eIsi, tyOf, isTy, Tk.nm, r_dCalm, r_iBy, r_iBys, toItems, toRng1, r_eChain, oOrd, oInt, oIs, isN, mkTup, mkLst, datas, r_sRaise, r_eSortSet, r_eM1, r_eCallK, r_eSl, r_oSome, r_oNone, r_eRepl, r_eRevT, r_eFrz, rd13, permL, dk, f_num a b hv, f_at a b hv, ho, r1, r2, sizeLine_eq, Nd]
theorem nd_eq (S : Sto) : den__law_equal [.d (.tuple (Nd m v f)), .d (.tuple (Nd m v f))] S = .ok (.d (.bool true)) S := by
  have q81 := pow_le a b
  refine e_equal _ S ?_ ?_ ?_
  · simp only [Nd, gdAll, gd_H a b, gd_F a b, Bool.true_and, Bool.and_true]; simp only [gd]; exact decide_eq_true (by omega)
  · simp only [Nd, PyData.depthAll, dp_H a b]; simp only [PyData.depth]; decide
  · have w1 := wt_H a b (l := List.range (3 ^ m)) (by simp [bind_ok, bind_exc, bind_stuck, lift_ok, lift_exc, calm_ok, bind_if, lift_if, calm_if, r_fn, r_sRet, r_sRetN, r_sSeq, r_sExpr, r_sIf, r_sAsg, r_sNil, r_aName, aNils, aConss, aTup, eVar, r_eC, r_eA, r_aCons, r_aNil, r_e2, r_e1, r_eB, r_toB, r_eAnd, r_eOr, r_eNot, r_bAnd, r_bOr, r_bNot, r_eIf, r_eIsi, tyOf, isTy, Tk.nm, r_dCalm, r_iBy, r_iBys, toItems, toRng1, r_eChain, oOrd, oInt, oIs, isN, mkTup, mkLst, datas, r_sRaise, r_eSortSet, r_eM1, r_eCallK, r_eSl, r_oSome, r_oNone, r_eRepl, r_eRevT, r_eFrz]; omega)
    have w2 := wt_H a b (l := asc m f) (Nat.le_trans (asc_len a b hv hf lf hg lg _) (by omega))
    simp only [Nd, wtAll]
    have : wt (.int (v : Nat)) = 10 := by simp only [wt]
    have : wt (.str (F m v)) = 10 * m + 2 := by simp only [wt, F_len]
    omega
theorem iscard (x : PyData) (h : okX x = true) (S : Sto) : den_is_card [.d (.int (m : Nat)), .d x] S = .ok (.d (.bool (cardB m x))) S := by
  simp [bind_ok, bind_exc, bind_stuck, lift_ok, lift_exc, calm_ok, bind_if, lift_if, calm_if, r_fn, r_sRet, r_sRetN, r_sSeq, r_sExpr, r_sIf, r_sAsg, r_sNil, r_aName, aNils, aConss, aTup, eVar, r_eC, r_eA, r_aCons, r_aNil, r_e2, r_e1, r_eB, r_toB, r_eAnd, r_eOr, r_eNot, r_bAnd, r_bOr, r_bNot, r_eIf, r_eIsi, tyOf, isTy, Tk.nm, r_dCalm, r_iBy, r_iBys, toItems, toRng1, r_eChain, oOrd, oInt, oIs, isN, mkTup, mkLst, datas, r_sRaise, r_eSortSet, r_eM1, r_eCallK, r_eSl, r_oSome, r_oNone, r_eRepl, r_eRevT, r_eFrz, den_is_card, b_is_card, e_marks a b, e_card m x _ h]
theorem ishand (x : PyData) (h : okH x = true) (S : Sto) : den_is_hand [.d (.int (m : Nat)), .d x] S = .ok (.d (.bool (handB m x))) S := by
  simp [bind_ok, bind_exc, bind_stuck, lift_ok, lift_exc, calm_ok, bind_if, lift_if, calm_if, r_fn, r_sRet, r_sRetN, r_sSeq, r_sExpr, r_sIf, r_sAsg, r_sNil, r_aName, aNils, aConss, aTup, eVar, r_eC, r_eA, r_aCons, r_aNil, r_e2, r_e1, r_eB, r_toB, r_eAnd, r_eOr, r_eNot, r_bAnd, r_bOr, r_bNot, r_eIf, r_eIsi, tyOf, isTy, Tk.nm, r_dCalm, r_iBy, r_iBys, toItems, toRng1, r_eChain, oOrd, oInt, oIs, isN, mkTup, mkLst, datas, r_sRaise, r_eSortSet, r_eM1, r_eCallK, r_eSl, r_oSome, r_oNone, r_eRepl, r_eRevT, r_eFrz, den_is_hand, b_is_hand, e_marks a b, e_hand m x _ h]
theorem rd14_ok : rd14 [some (.r n), some (.d (.int (m : Nat))), some (.d (.tuple (cs m (List.range (3 ^ m))))), some (.d (.int (v : Nat))), some (.d (.str (F m v))), x5, x6, some (.d (.tuple (Nd m v f))), x8, x9, x10, x11, some (.d (.tuple (cs m (asc m f)))), x13, x14] S = .ok (.nx [some (.r n), some (.d (.int (m : Nat))), some (.d (.tuple (cs m (List.range (3 ^ m))))), some (.d (.int (v : Nat))), some (.d (.str (F m v))), x5, x6, some (.d (.tuple (Nd m v f))), x8, x9, x10, x11, some (.d (.tuple (cs m (asc m f)))), x13, x14]) S := by
  have l1 := asc_len a b hv hf lf hg lg f
  have c1 := fun S => iscard a b hv hf lf hg lg (.str (F m v)) (F_ok a b v) S
  have c2 := fun S => ishand a b hv hf lf hg lg (.tuple (cs m (asc m f))) (H_okH a b (l := asc m f) (by omega)) S
  rw [F_card a b v] at c1
  rw [H_ok a b (asc_ok m f)] at c2
  have nd := fun S => nd_eq a b hv hf lf hg lg S
  have tt : [PyData.tuple (cs m (List.range (3 ^ m))), .int (v : Nat), .str (F m v), .tuple (cs m (asc m f)), .tuple (cs m (asc m f))] = Nd m v f := rfl
  have tl5 : (Nd m v f).length ≤ 16777216 := by show 5 ≤ 16777216; decide
  simp [bind_ok, bind_exc, bind_stuck, lift_ok, lift_exc, calm_ok, bind_if, lift_if, calm_if, r_fn, r_sRet, r_sRetN, r_sSeq, r_sExpr, r_sIf, r_sAsg, r_sNil, r_aName, aNils, aConss, aTup, eVar, r_eC, r_eA, r_aCons, r_aNil, r_e2, r_e1, r_eB, r_toB, r_eAnd, r_eOr, r_eNot, r_bAnd, r_bOr, r_bNot, r_eIf, r_eIsi, tyOf, isTy, Tk.nm, r_dCalm, r_iBy, r_iBys, toItems, toRng1, r_eChain, oOrd, oInt, oIs, isN, mkTup, mkLst, datas, r_sRaise, r_eSortSet, r_eM1, r_eCallK, r_eSl, r_oSome, r_oNone, r_eRepl, r_eRevT, r_eFrz, rd14, permL, sizeLine_eq, tt, tl5, nd, c1, c2]
end
end K02

end
section
namespace K02
open PySem PySem.Spec PyProof.Rows L2 Ev

def kk (m v : Nat) : Int := (intText? (F m v)).getD 0
def Od (m v : Nat) : List PyData := [.str (F m v ++ "0"), .str (cutS (F m v) (some 1) none), .str (Txt.mul "3" (m : Nat)), .none, .int (kk m v), .list [.str (F m v)], .tuple [.str (F m v)], .str (cutS (F m v) none (some (-1)) ++ "a"), .bool true]
def OdOk (m v : Nat) : Prop := intText? (F m v) = some (kk m v) ∧ (Od m v).all (fun x => okX x && !cardB (m : Nat) x) = true
instance (m v : Nat) : Decidable (OdOk m v) := by unfold OdOk; infer_instance
theorem od1 : ∀ v < 3, OdOk 1 v := by decide +kernel
theorem od2 : ∀ v < 9, OdOk 2 v := by decide +kernel
theorem od3 : ∀ v < 27, OdOk 3 v := by decide +kernel
theorem od4 : ∀ v < 81, OdOk 4 v := by decide +kernel
theorem od_ok {m v : Nat} (a : 1 ≤ m) (b : m ≤ 4) (hv : v < 3 ^ m) : OdOk m v := cases4 (P := fun m => ∀ v < 3 ^ m, OdOk m v) od1 od2 od3 od4 m a b v hv
theorem hAny_map {α : Type} (l : List α) (f : α → Bool) (S : Sto) : hAny [.d (.list (l.map fun x => .bool (f x)))] S = .ok (.d (.bool (l.any f))) S := by
  have e : (l.map fun x => PyData.bool (f x)) = (l.map f).map .bool := by simp [bind_ok, bind_exc, bind_stuck, lift_ok, lift_exc, calm_ok, bind_if, lift_if, calm_if, r_fn, r_sRet, r_sRetN, r_sSeq, r_sExpr, r_sIf, r_sAsg, r_sNil, r_aName, aNils, aConss, aTup, eVar, r_eC, r_eA, r_aCons, r_aNil, r_e2, r_e1, r_eB, r_toB, r_eAnd, r_eOr, r_eNot, r_bAnd, r_bOr, r_bNot, r_eIf, r_eIsi, tyOf, isTy, Tk.nm, r_dCalm, r_iBy, r_iBys, toItems, toRng1, r_eChain, oOrd, oInt, oIs, isN, mkTup, mkLst, datas, r_sRaise, r_eSortSet, r_eM1, r_eCallK, r_eSl, r_oSome, r_oNone, r_eRepl, r_eRevT, r_eFrz]
  unfold hAny asListZ asList
  simp only [e, Option.bind_some, boolsOf_map]
  simp [bind_ok, bind_exc, bind_stuck, lift_ok, lift_exc, calm_ok, bind_if, lift_if, calm_if, r_fn, r_sRet, r_sRetN, r_sSeq, r_sExpr, r_sIf, r_sAsg, r_sNil, r_aName, aNils, aConss, aTup, eVar, r_eC, r_eA, r_aCons, r_aNil, r_e2, r_e1, r_eB, r_toB, r_eAnd, r_eOr, r_eNot, r_bAnd, r_bOr, r_bNot, r_eIf, r_eIsi, tyOf, isTy, Tk.nm, r_dCalm, r_iBy, r_iBys, toItems, toRng1, r_eChain, oOrd, oInt, oIs, isN, mkTup, mkLst, datas, r_sRaise, r_eSortSet, r_eM1, r_eCallK, r_eSl, r_oSome, r_oNone, r_eRepl, r_eRevT, r_eFrz, List.any_map, Function.comp_def]
section
variable {m : Nat} (a : 1 ≤ m) (b : m ≤ 4)
variable {n : Nat} {S : Sto} {x2 x3 x4 x5 x6 x7 x8 x9 x10 x11 x12 x13 x14 : Option Vl}
variable {v : Nat} (hv : v < 3 ^ m) {f g : List Nat} (hf : ∀ v ∈ f, v < 3 ^ m) (lf : f.length ≤ 11) (hg : ∀ v ∈ g, v < 3 ^ m) (lg : g.length ≤ 11)
include a b hv hf lf hg lg
theorem int_F (S : Sto) : hInt [.d (.str (F m v))] S = .ok (.d (.int (kk m v))) S := by
  unfold hInt
  simp only [(od_ok a b hv).1]
  rw [if_pos (by rw [F_len]; omega)]
theorem rd15_ok : rd15 [some (.r n), some (.d (.int (m : Nat))), x2, x3, some (.d (.str (F m v))), x5, x6, x7, x8, x9, x10, x11, x12, x13, x14] S = .ok (.nx [some (.r n), some (.d (.int (m : Nat))), x2, x3, some (.d (.str (F m v))), x5, x6, x7, some (.d (.list (Od m v))), x9, x10, x11, x12, x13, x14]) S := by
  have l0 := F_len m v
  have q0 : (Str.ofString "0").length = 1 := rfl
  have qa : (Str.ofString "a").length = 1 := rfl
  have s1 := fun S => e_add (F m v) "0" S (by omega)
  have cu : ∀ S, hSl (.d (.str (F m v))) (some 1) none S = .ok (.d (.str (cutS (F m v) (some 1) none))) S := fun S => e_cutT (F m v) 1 S (by omega)
  have mu := fun S => e_mulS "3" (m : Nat) S (by decide) (by omega) (by omega)
  have cu2 : ∀ S, hSl (.d (.str (F m v))) none (some (-1)) S = .ok (.d (.str (cutS (F m v) none (some (-1))))) S := fun S => by
    unfold hSl
    simp only [asListZ, asList]
    rw [if_pos (by rw [l0, sizeLine_eq]; omega)]
  have cl : (cutS (F m v) none (some (-1))).length ≤ 4 := by
    have e : ∀ z : Str, z.length = z.cps.toList.length := fun z => by simp [bind_ok, bind_exc, bind_stuck, lift_ok, lift_exc, calm_ok, bind_if, lift_if, calm_if, r_fn, r_sRet, r_sRetN, r_sSeq, r_sExpr, r_sIf, r_sAsg, r_sNil, r_aName, aNils, aConss, aTup, eVar, r_eC, r_eA, r_aCons, r_aNil, r_e2, r_e1, r_eB, r_toB, r_eAnd, r_eOr, r_eNot, r_bAnd, r_bOr, r_bNot, r_eIf, r_eIsi, tyOf, isTy, Tk.nm, r_dCalm, r_iBy, r_iBys, toItems, toRng1, r_eChain, oOrd, oInt, oIs, isN, mkTup, mkLst, datas, r_sRaise, r_eSortSet, r_eM1, r_eCallK, r_eSl, r_oSome, r_oNone, r_eRepl, r_eRevT, r_eFrz, Str.length]
    rw [e]
    show (((F m v).cps.toList.drop _).take _).length ≤ 4
    rw [List.length_take, List.length_drop, ← e]
    omega
  have s2 := fun S => e_add (cutS (F m v) none (some (-1))) "a" S (by omega)
  have hi := fun S => int_F a b hv hf lf hg lg S
  simp [bind_ok, bind_exc, bind_stuck, lift_ok, lift_exc, calm_ok, bind_if, lift_if, calm_if, r_fn, r_sRet, r_sRetN, r_sSeq, r_sExpr, r_sIf, r_sAsg, r_sNil, r_aName, aNils, aConss, aTup, eVar, r_eC, r_eA, r_aCons, r_aNil, r_e2, r_e1, r_eB, r_toB, r_eAnd, r_eOr, r_eNot, r_bAnd, r_bOr, r_bNot, r_eIf, r_eIsi, tyOf, isTy, Tk.nm, r_dCalm, r_iBy, r_iBys, toItems, toRng1, r_eChain, oOrd, oInt, oIs, isN, mkTup, mkLst, datas, r_sRaise, r_eSortSet, r_eM1, r_eCallK, r_eSl, r_oSome, r_oNone, r_eRepl, r_eRevT, r_eFrz, rd15, s1, cu, mu, cu2, s2, hi, oNeg, sizeLine_eq, Od]
theorem rd16_ok : rd16 [some (.r n), some (.d (.int (m : Nat))), x2, x3, some (.d (.str (F m v))), x5, x6, x7, some (.d (.list (Od m v))), x9, x10, x11, x12, x13, x14] S = .ok (.nx [some (.r n), some (.d (.int (m : Nat))), x2, x3, some (.d (.str (F m v))), x5, x6, x7, some (.d (.list (Od m v))), x9, x10, x11, x12, x13, x14]) S := by
  have c1 := fun S => iscard a b hv hf lf hg lg (.str (F m v)) (F_ok a b v) S
  rw [F_card a b v] at c1
  have od := (od_ok a b hv).2
  rw [List.all_eq_true] at od
  have hx : ∀ x ∈ Od m v, okX x = true ∧ cardB (m : Nat) x = false := fun x hx => by
    have := od x hx
    simpa [bind_ok, bind_exc, bind_stuck, lift_ok, lift_exc, calm_ok, bind_if, lift_if, calm_if, r_fn, r_sRet, r_sRetN, r_sSeq, r_sExpr, r_sIf, r_sAsg, r_sNil, r_aName, aNils, aConss, aTup, eVar, r_eC, r_eA, r_aCons, r_aNil, r_e2, r_e1, r_eB, r_toB, r_eAnd, r_eOr, r_eNot, r_bAnd, r_bOr, r_bNot, r_eIf, r_eIsi, tyOf, isTy, Tk.nm, r_dCalm, r_iBy, r_iBys, toItems, toRng1, r_eChain, oOrd, oInt, oIs, isN, mkTup, mkLst, datas, r_sRaise, r_eSortSet, r_eM1, r_eCallK, r_eSl, r_oSome, r_oNone, r_eRepl, r_eRevT, r_eFrz] using this
  have kc := fun T => eComp_map (w := fun x : PyData => .d x) (vs := [14]) (fi := iBy toItems (eVar 8)) (t := .nm 14) (p := pYes) (f := Ev.e2 (oIs true) (eA den_is_card (aCons (eVar 1) (aCons (eVar 14) aNil))) (eC (.bool false))) (ρ := [some (.r n), some (.d (.int (m : Nat))), x2, x3, some (.d (.str (F m v))), x5, x6, x7, some (.d (.list (Od m v))), x9, x10, x11, x12, x13, x14]) (S := T) (S1 := T) (l := Od m v)
    (fun x => [some (.r n), some (.d (.int (m : Nat))), x2, x3, some (.d (.str (F m v))), x5, x6, x7, some (.d (.list (Od m v))), x9, x10, x11, x12, x13, some (.d x)]) (fun _ => true) (fun x => .bool false) rfl (by rw [sizeLine_eq]; show 9 ≤ 16777216; decide) (fun x hx => rfl) (fun x hx => rfl) (fun x q _ => by simp [bind_ok, bind_exc, bind_stuck, lift_ok, lift_exc, calm_ok, bind_if, lift_if, calm_if, r_fn, r_sRet, r_sRetN, r_sSeq, r_sExpr, r_sIf, r_sAsg, r_sNil, r_aName, aNils, aConss, aTup, eVar, r_eC, r_eA, r_aCons, r_aNil, r_e2, r_e1, r_eB, r_toB, r_eAnd, r_eOr, r_eNot, r_bAnd, r_bOr, r_bNot, r_eIf, r_eIsi, tyOf, isTy, Tk.nm, r_dCalm, r_iBy, r_iBys, toItems, toRng1, r_eChain, oOrd, oInt, oIs, isN, mkTup, mkLst, datas, r_sRaise, r_eSortSet, r_eM1, r_eCallK, r_eSl, r_oSome, r_oNone, r_eRepl, r_eRevT, r_eFrz, iscard a b hv hf lf hg lg x (hx x q).1 T, (hx x q).2])
  simp only [filter_true] at kc
  have an := fun T => hAny_map (Od m v) (fun _ => false) T
  have e0 : (Od m v).any (fun _ => false) = false := by simp [bind_ok, bind_exc, bind_stuck, lift_ok, lift_exc, calm_ok, bind_if, lift_if, calm_if, r_fn, r_sRet, r_sRetN, r_sSeq, r_sExpr, r_sIf, r_sAsg, r_sNil, r_aName, aNils, aConss, aTup, eVar, r_eC, r_eA, r_aCons, r_aNil, r_e2, r_e1, r_eB, r_toB, r_eAnd, r_eOr, r_eNot, r_bAnd, r_bOr, r_bNot, r_eIf, r_eIsi, tyOf, isTy, Tk.nm, r_dCalm, r_iBy, r_iBys, toItems, toRng1, r_eChain, oOrd, oInt, oIs, isN, mkTup, mkLst, datas, r_sRaise, r_eSortSet, r_eM1, r_eCallK, r_eSl, r_oSome, r_oNone, r_eRepl, r_eRevT, r_eFrz]
  rw [e0] at an
  simp [bind_ok, bind_exc, bind_stuck, lift_ok, lift_exc, calm_ok, bind_if, lift_if, calm_if, r_fn, r_sRet, r_sRetN, r_sSeq, r_sExpr, r_sIf, r_sAsg, r_sNil, r_aName, aNils, aConss, aTup, eVar, r_eC, r_eA, r_aCons, r_aNil, r_e2, r_e1, r_eB, r_toB, r_eAnd, r_eOr, r_eNot, r_bAnd, r_bOr, r_bNot, r_eIf, r_eIsi, tyOf, isTy, Tk.nm, r_dCalm, r_iBy, r_iBys, toItems, toRng1, r_eChain, oOrd, oInt, oIs, isN, mkTup, mkLst, datas, r_sRaise, r_eSortSet, r_eM1, r_eCallK, r_eSl, r_oSome, r_oNone, r_eRepl, r_eRevT, r_eFrz, rd16, c1, kc, an]
theorem rd17_ok : ∃ Bt : List PyData, rd17 [some (.r n), some (.d (.int (m : Nat))), x2, x3, some (.d (.str (F m v))), x5, x6, x7, x8, x9, x10, x11, some (.d (.tuple (cs m (asc m f)))), x13, x14] S = .ok (.nx [some (.r n), some (.d (.int (m : Nat))), x2, x3, some (.d (.str (F m v))), x5, x6, x7, x8, some (.d (.list Bt)), x10, x11, some (.d (.tuple (cs m (asc m f)))), x13, x14]) S ∧ Bt.length ≤ 10 ∧ ∀ x ∈ Bt, okH x = true ∧ handB m x = false := by
  have l1 := asc_len a b hv hf lf hg lg f
  have hA := asc_ok m f
  generalize asc m f = A at *
  have l0 := F_len m v
  have hm3 : cardB m (.str (Txt.mul "3" m)) = false ∧ (Txt.mul "3" m).length ≤ 10 := cases4 (P := fun m => cardB m (.str (Txt.mul "3" m)) = false ∧ (Txt.mul "3" m).length ≤ 10) (by decide +kernel) (by decide +kernel) (by decide +kernel) (by decide +kernel) m a b
  have mu := fun S => e_mulS "3" (m : Nat) S (by decide) (by omega) (by omega)
  have hi := fun S => int_F a b hv hf lf hg lg S
  have hin := fun S => e_in a b hA.lt hv S
  have ln : ∀ S, hLen [.d (.tuple (cs m A))] S = .ok (.d (.int (A.length : Nat))) S := fun S => len_hand a b hA (by omega) S
  have at1 : ∀ (z : Str) S, oAdd (.d (.tuple (cs m A))) (.d (.tuple [.str z])) S = .ok (.d (.tuple ((A.map (F m) ++ [z]).map .str))) S := fun z S => by
    unfold oAdd
    simp only []
    rw [if_pos (by simp [bind_ok, bind_exc, bind_stuck, lift_ok, lift_exc, calm_ok, bind_if, lift_if, calm_if, r_fn, r_sRet, r_sRetN, r_sSeq, r_sExpr, r_sIf, r_sAsg, r_sNil, r_aName, aNils, aConss, aTup, eVar, r_eC, r_eA, r_aCons, r_aNil, r_e2, r_e1, r_eB, r_toB, r_eAnd, r_eOr, r_eNot, r_bAnd, r_bOr, r_bNot, r_eIf, r_eIsi, tyOf, isTy, Tk.nm, r_dCalm, r_iBy, r_iBys, toItems, toRng1, r_eChain, oOrd, oInt, oIs, isN, mkTup, mkLst, datas, r_sRaise, r_eSortSet, r_eM1, r_eCallK, r_eSl, r_oSome, r_oNone, r_eRepl, r_eRevT, r_eFrz, cs, sizeLine_eq]; omega)]
    simp [bind_ok, bind_exc, bind_stuck, lift_ok, lift_exc, calm_ok, bind_if, lift_if, calm_if, r_fn, r_sRet, r_sRetN, r_sSeq, r_sExpr, r_sIf, r_sAsg, r_sNil, r_aName, aNils, aConss, aTup, eVar, r_eC, r_eA, r_aCons, r_aNil, r_e2, r_e1, r_eB, r_toB, r_eAnd, r_eOr, r_eNot, r_bAnd, r_bOr, r_bNot, r_eIf, r_eIsi, tyOf, isTy, Tk.nm, r_dCalm, r_iBy, r_iBys, toItems, toRng1, r_eChain, oOrd, oInt, oIs, isN, mkTup, mkLst, datas, r_sRaise, r_eSortSet, r_eM1, r_eCallK, r_eSl, r_oSome, r_oNone, r_eRepl, r_eRevT, r_eFrz, cs]
  have wA := wl_cs m b A
  have okz : ∀ z : Str, z.length ≤ 10 → okH (.tuple ((A.map (F m) ++ [z]).map .str)) = true := fun z hz => okH_w (by rw [wl_app, wl_cons]; have : wl [] = 0 := rfl; omega)
  have lts : (2 : Nat) ≤ 16777216 := by decide
  let E2 : PyData := if v ∈ A then .tuple ((A.map (F m) ++ [F m v]).map .str) else .tuple ((A.map (F m) ++ [Txt.mul "3" (m : Nat)]).map .str)
  let E4 : PyData := if 1 < A.length then .tuple (cs m A).reverse else .none
  refine ⟨[.list (cs m A), E2, .tuple [.str (F m v), .str (F m v)], E4, .str (F m v), .tuple [.int (kk m v)]], ?_, by simp [bind_ok, bind_exc, bind_stuck, lift_ok, lift_exc, calm_ok, bind_if, lift_if, calm_if, r_fn, r_sRet, r_sRetN, r_sSeq, r_sExpr, r_sIf, r_sAsg, r_sNil, r_aName, aNils, aConss, aTup, eVar, r_eC, r_eA, r_aCons, r_aNil, r_e2, r_e1, r_eB, r_toB, r_eAnd, r_eOr, r_eNot, r_bAnd, r_bOr, r_bNot, r_eIf, r_eIsi, tyOf, isTy, Tk.nm, r_dCalm, r_iBy, r_iBys, toItems, toRng1, r_eChain, oOrd, oInt, oIs, isN, mkTup, mkLst, datas, r_sRaise, r_eSortSet, r_eM1, r_eCallK, r_eSl, r_oSome, r_oNone, r_eRepl, r_eRevT, r_eFrz], ?_⟩
  · by_cases q1 : v ∈ A
    · by_cases q2 : 1 < A.length
      · have q3 : decide ((1 : Int) < (A.length : Nat)) = true := decide_eq_true (by omega)
        simp [bind_ok, bind_exc, bind_stuck, lift_ok, lift_exc, calm_ok, bind_if, lift_if, calm_if, r_fn, r_sRet, r_sRetN, r_sSeq, r_sExpr, r_sIf, r_sAsg, r_sNil, r_aName, aNils, aConss, aTup, eVar, r_eC, r_eA, r_aCons, r_aNil, r_e2, r_e1, r_eB, r_toB, r_eAnd, r_eOr, r_eNot, r_bAnd, r_bOr, r_bNot, r_eIf, r_eIsi, tyOf, isTy, Tk.nm, r_dCalm, r_iBy, r_iBys, toItems, toRng1, r_eChain, oOrd, oInt, oIs, isN, mkTup, mkLst, datas, r_sRaise, r_eSortSet, r_eM1, r_eCallK, r_eSl, r_oSome, r_oNone, r_eRepl, r_eRevT, r_eFrz, rd17, hList, asListZ, asList, asTup, hin, q1, at1, ln, q3, hRevT, hi, sizeLine_eq, E2, E4, q2]
      · have q3 : decide ((1 : Int) < (A.length : Nat)) = false := decide_eq_false (by omega)
        simp [bind_ok, bind_exc, bind_stuck, lift_ok, lift_exc, calm_ok, bind_if, lift_if, calm_if, r_fn, r_sRet, r_sRetN, r_sSeq, r_sExpr, r_sIf, r_sAsg, r_sNil, r_aName, aNils, aConss, aTup, eVar, r_eC, r_eA, r_aCons, r_aNil, r_e2, r_e1, r_eB, r_toB, r_eAnd, r_eOr, r_eNot, r_bAnd, r_bOr, r_bNot, r_eIf, r_eIsi, tyOf, isTy, Tk.nm, r_dCalm, r_iBy, r_iBys, toItems, toRng1, r_eChain, oOrd, oInt, oIs, isN, mkTup, mkLst, datas, r_sRaise, r_eSortSet, r_eM1, r_eCallK, r_eSl, r_oSome, r_oNone, r_eRepl, r_eRevT, r_eFrz, rd17, hList, asListZ, asList, asTup, hin, q1, at1, ln, q3, hRevT, hi, sizeLine_eq, E2, E4, q2]
    · by_cases q2 : 1 < A.length
      · have q3 : decide ((1 : Int) < (A.length : Nat)) = true := decide_eq_true (by omega)
        simp [bind_ok, bind_exc, bind_stuck, lift_ok, lift_exc, calm_ok, bind_if, lift_if, calm_if, r_fn, r_sRet, r_sRetN, r_sSeq, r_sExpr, r_sIf, r_sAsg, r_sNil, r_aName, aNils, aConss, aTup, eVar, r_eC, r_eA, r_aCons, r_aNil, r_e2, r_e1, r_eB, r_toB, r_eAnd, r_eOr, r_eNot, r_bAnd, r_bOr, r_bNot, r_eIf, r_eIsi, tyOf, isTy, Tk.nm, r_dCalm, r_iBy, r_iBys, toItems, toRng1, r_eChain, oOrd, oInt, oIs, isN, mkTup, mkLst, datas, r_sRaise, r_eSortSet, r_eM1, r_eCallK, r_eSl, r_oSome, r_oNone, r_eRepl, r_eRevT, r_eFrz, rd17, hList, asListZ, asList, asTup, hin, q1, mu, at1, ln, q3, hRevT, hi, sizeLine_eq, E2, E4, q2]
      · have q3 : decide ((1 : Int) < (A.length : Nat)) = false := decide_eq_false (by omega)
        simp [bind_ok, bind_exc, bind_stuck, lift_ok, lift_exc, calm_ok, bind_if, lift_if, calm_if, r_fn, r_sRet, r_sRetN, r_sSeq, r_sExpr, r_sIf, r_sAsg, r_sNil, r_aName, aNils, aConss, aTup, eVar, r_eC, r_eA, r_aCons, r_aNil, r_e2, r_e1, r_eB, r_toB, r_eAnd, r_eOr, r_eNot, r_bAnd, r_bOr, r_bNot, r_eIf, r_eIsi, tyOf, isTy, Tk.nm, r_dCalm, r_iBy, r_iBys, toItems, toRng1, r_eChain, oOrd, oInt, oIs, isN, mkTup, mkLst, datas, r_sRaise, r_eSortSet, r_eM1, r_eCallK, r_eSl, r_oSome, r_oNone, r_eRepl, r_eRevT, r_eFrz, rd17, hList, asListZ, asList, asTup, hin, q1, mu, at1, ln, q3, hRevT, hi, sizeLine_eq, E2, E4, q2]
  · intro x hx
    simp only [List.mem_cons, List.not_mem_nil, or_false] at hx
    rcases hx with rfl | rfl | rfl | rfl | rfl | rfl
    · exact ⟨rfl, rfl⟩
    · by_cases q : v ∈ A
      · simp only [E2, if_pos q]
        refine ⟨okz _ (by omega), hand_no_pw fun p => ?_⟩
        have := (List.pairwise_append.mp p).2.2 (F m v) (List.mem_map.mpr ⟨v, q, rfl⟩) (F m v) (by simp [bind_ok, bind_exc, bind_stuck, lift_ok, lift_exc, calm_ok, bind_if, lift_if, calm_if, r_fn, r_sRet, r_sRetN, r_sSeq, r_sExpr, r_sIf, r_sAsg, r_sNil, r_aName, aNils, aConss, aTup, eVar, r_eC, r_eA, r_aCons, r_aNil, r_e2, r_e1, r_eB, r_toB, r_eAnd, r_eOr, r_eNot, r_bAnd, r_bOr, r_bNot, r_eIf, r_eIsi, tyOf, isTy, Tk.nm, r_dCalm, r_iBy, r_iBys, toItems, toRng1, r_eChain, oOrd, oInt, oIs, isN, mkTup, mkLst, datas, r_sRaise, r_eSortSet, r_eM1, r_eCallK, r_eSl, r_oSome, r_oNone, r_eRepl, r_eRevT, r_eFrz])
        exact List.lt_irrefl _ this
      · simp only [E2, if_neg q]
        exact ⟨okz _ hm3.2, hand_no_card (x := Txt.mul "3" (m : Nat)) (by simp [bind_ok, bind_exc, bind_stuck, lift_ok, lift_exc, calm_ok, bind_if, lift_if, calm_if, r_fn, r_sRet, r_sRetN, r_sSeq, r_sExpr, r_sIf, r_sAsg, r_sNil, r_aName, aNils, aConss, aTup, eVar, r_eC, r_eA, r_aCons, r_aNil, r_e2, r_e1, r_eB, r_toB, r_eAnd, r_eOr, r_eNot, r_bAnd, r_bOr, r_bNot, r_eIf, r_eIsi, tyOf, isTy, Tk.nm, r_dCalm, r_iBy, r_iBys, toItems, toRng1, r_eChain, oOrd, oInt, oIs, isN, mkTup, mkLst, datas, r_sRaise, r_eSortSet, r_eM1, r_eCallK, r_eSl, r_oSome, r_oNone, r_eRepl, r_eRevT, r_eFrz]) hm3.1⟩
    · refine ⟨by simp [bind_ok, bind_exc, bind_stuck, lift_ok, lift_exc, calm_ok, bind_if, lift_if, calm_if, r_fn, r_sRet, r_sRetN, r_sSeq, r_sExpr, r_sIf, r_sAsg, r_sNil, r_aName, aNils, aConss, aTup, eVar, r_eC, r_eA, r_aCons, r_aNil, r_e2, r_e1, r_eB, r_toB, r_eAnd, r_eOr, r_eNot, r_bAnd, r_bOr, r_bNot, r_eIf, r_eIsi, tyOf, isTy, Tk.nm, r_dCalm, r_iBy, r_iBys, toItems, toRng1, r_eChain, oOrd, oInt, oIs, isN, mkTup, mkLst, datas, r_sRaise, r_eSortSet, r_eM1, r_eCallK, r_eSl, r_oSome, r_oNone, r_eRepl, r_eRevT, r_eFrz, okH, okX, l0, sizeLine_eq]; omega, hand_no_pw (W := [F m v, F m v]) fun p => ?_⟩
      exact List.lt_irrefl _ ((List.pairwise_cons.mp p).1 (F m v) (by simp [bind_ok, bind_exc, bind_stuck, lift_ok, lift_exc, calm_ok, bind_if, lift_if, calm_if, r_fn, r_sRet, r_sRetN, r_sSeq, r_sExpr, r_sIf, r_sAsg, r_sNil, r_aName, aNils, aConss, aTup, eVar, r_eC, r_eA, r_aCons, r_aNil, r_e2, r_e1, r_eB, r_toB, r_eAnd, r_eOr, r_eNot, r_bAnd, r_bOr, r_bNot, r_eIf, r_eIsi, tyOf, isTy, Tk.nm, r_dCalm, r_iBy, r_iBys, toItems, toRng1, r_eChain, oOrd, oInt, oIs, isN, mkTup, mkLst, datas, r_sRaise, r_eSortSet, r_eM1, r_eCallK, r_eSl, r_oSome, r_oNone, r_eRepl, r_eRevT, r_eFrz]))
    · by_cases q : 1 < A.length
      · simp only [E4, if_pos q]
        have e : (cs m A).reverse = ((A.map (F m)).reverse).map .str := by simp [bind_ok, bind_exc, bind_stuck, lift_ok, lift_exc, calm_ok, bind_if, lift_if, calm_if, r_fn, r_sRet, r_sRetN, r_sSeq, r_sExpr, r_sIf, r_sAsg, r_sNil, r_aName, aNils, aConss, aTup, eVar, r_eC, r_eA, r_aCons, r_aNil, r_e2, r_e1, r_eB, r_toB, r_eAnd, r_eOr, r_eNot, r_bAnd, r_bOr, r_bNot, r_eIf, r_eIsi, tyOf, isTy, Tk.nm, r_dCalm, r_iBy, r_iBys, toItems, toRng1, r_eChain, oOrd, oInt, oIs, isN, mkTup, mkLst, datas, r_sRaise, r_eSortSet, r_eM1, r_eCallK, r_eSl, r_oSome, r_oNone, r_eRepl, r_eRevT, r_eFrz, cs]
        rw [e]
        refine ⟨okH_w (by have : wl (A.map (F m)).reverse = wl (A.map (F m)) := by simp [bind_ok, bind_exc, bind_stuck, lift_ok, lift_exc, calm_ok, bind_if, lift_if, calm_if, r_fn, r_sRet, r_sRetN, r_sSeq, r_sExpr, r_sIf, r_sAsg, r_sNil, r_aName, aNils, aConss, aTup, eVar, r_eC, r_eA, r_aCons, r_aNil, r_e2, r_e1, r_eB, r_toB, r_eAnd, r_eOr, r_eNot, r_bAnd, r_bOr, r_bNot, r_eIf, r_eIsi, tyOf, isTy, Tk.nm, r_dCalm, r_iBy, r_iBys, toItems, toRng1, r_eChain, oOrd, oInt, oIs, isN, mkTup, mkLst, datas, r_sRaise, r_eSortSet, r_eM1, r_eCallK, r_eSl, r_oSome, r_oNone, r_eRepl, r_eRevT, r_eFrz, wl]
                          omega), hand_no_pw fun p => ?_⟩
        match A, hA, q, p with
        | v :: w :: r, h, _, q =>
          rw [List.map_cons, List.map_cons, List.reverse_cons, List.reverse_cons, List.append_assoc] at q
          have q2 := (List.pairwise_append.mp q).2.1
          have q3 : FL m w < FL m v := (List.pairwise_cons.mp q2).1 (F m v) (by simp [bind_ok, bind_exc, bind_stuck, lift_ok, lift_exc, calm_ok, bind_if, lift_if, calm_if, r_fn, r_sRet, r_sRetN, r_sSeq, r_sExpr, r_sIf, r_sAsg, r_sNil, r_aName, aNils, aConss, aTup, eVar, r_eC, r_eA, r_aCons, r_aNil, r_e2, r_e1, r_eB, r_toB, r_eAnd, r_eOr, r_eNot, r_bAnd, r_bOr, r_bNot, r_eIf, r_eIsi, tyOf, isTy, Tk.nm, r_dCalm, r_iBy, r_iBys, toItems, toRng1, r_eChain, oOrd, oInt, oIs, isN, mkTup, mkLst, datas, r_sRaise, r_eSortSet, r_eM1, r_eCallK, r_eSl, r_oSome, r_oNone, r_eRepl, r_eRevT, r_eFrz])
          have h1 : v < w := (List.pairwise_cons.mp h.pw).1 w (by simp [bind_ok, bind_exc, bind_stuck, lift_ok, lift_exc, calm_ok, bind_if, lift_if, calm_if, r_fn, r_sRet, r_sRetN, r_sSeq, r_sExpr, r_sIf, r_sAsg, r_sNil, r_aName, aNils, aConss, aTup, eVar, r_eC, r_eA, r_aCons, r_aNil, r_e2, r_e1, r_eB, r_toB, r_eAnd, r_eOr, r_eNot, r_bAnd, r_bOr, r_bNot, r_eIf, r_eIsi, tyOf, isTy, Tk.nm, r_dCalm, r_iBy, r_iBys, toItems, toRng1, r_eChain, oOrd, oInt, oIs, isN, mkTup, mkLst, datas, r_sRaise, r_eSortSet, r_eM1, r_eCallK, r_eSl, r_oSome, r_oNone, r_eRepl, r_eRevT, r_eFrz])
          exact List.lt_asymm (F_lt a b (h.lt w (by simp [bind_ok, bind_exc, bind_stuck, lift_ok, lift_exc, calm_ok, bind_if, lift_if, calm_if, r_fn, r_sRet, r_sRetN, r_sSeq, r_sExpr, r_sIf, r_sAsg, r_sNil, r_aName, aNils, aConss, aTup, eVar, r_eC, r_eA, r_aCons, r_aNil, r_e2, r_e1, r_eB, r_toB, r_eAnd, r_eOr, r_eNot, r_bAnd, r_bOr, r_bNot, r_eIf, r_eIsi, tyOf, isTy, Tk.nm, r_dCalm, r_iBy, r_iBys, toItems, toRng1, r_eChain, oOrd, oInt, oIs, isN, mkTup, mkLst, datas, r_sRaise, r_eSortSet, r_eM1, r_eCallK, r_eSl, r_oSome, r_oNone, r_eRepl, r_eRevT, r_eFrz])) h1) q3
      · simp only [E4, if_neg q]
        exact ⟨rfl, rfl⟩
    · exact ⟨by simp [bind_ok, bind_exc, bind_stuck, lift_ok, lift_exc, calm_ok, bind_if, lift_if, calm_if, r_fn, r_sRet, r_sRetN, r_sSeq, r_sExpr, r_sIf, r_sAsg, r_sNil, r_aName, aNils, aConss, aTup, eVar, r_eC, r_eA, r_aCons, r_aNil, r_e2, r_e1, r_eB, r_toB, r_eAnd, r_eOr, r_eNot, r_bAnd, r_bOr, r_bNot, r_eIf, r_eIsi, tyOf, isTy, Tk.nm, r_dCalm, r_iBy, r_iBys, toItems, toRng1, r_eChain, oOrd, oInt, oIs, isN, mkTup, mkLst, datas, r_sRaise, r_eSortSet, r_eM1, r_eCallK, r_eSl, r_oSome, r_oNone, r_eRepl, r_eRevT, r_eFrz, okH], rfl⟩
    · exact ⟨by simp [bind_ok, bind_exc, bind_stuck, lift_ok, lift_exc, calm_ok, bind_if, lift_if, calm_if, r_fn, r_sRet, r_sRetN, r_sSeq, r_sExpr, r_sIf, r_sAsg, r_sNil, r_aName, aNils, aConss, aTup, eVar, r_eC, r_eA, r_aCons, r_aNil, r_e2, r_e1, r_eB, r_toB, r_eAnd, r_eOr, r_eNot, r_bAnd, r_bOr, r_bNot, r_eIf, r_eIsi, tyOf, isTy, Tk.nm, r_dCalm, r_iBy, r_iBys, toItems, toRng1, r_eChain, oOrd, oInt, oIs, isN, mkTup, mkLst, datas, r_sRaise, r_eSortSet, r_eM1, r_eCallK, r_eSl, r_oSome, r_oNone, r_eRepl, r_eRevT, r_eFrz, okH, okX, sizeLine_eq], by simp [bind_ok, bind_exc, bind_stuck, lift_ok, lift_exc, calm_ok, bind_if, lift_if, calm_if, r_fn, r_sRet, r_sRetN, r_sSeq, r_sExpr, r_sIf, r_sAsg, r_sNil, r_aName, aNils, aConss, aTup, eVar, r_eC, r_eA, r_aCons, r_aNil, r_e2, r_e1, r_eB, r_toB, r_eAnd, r_eOr, r_eNot, r_bAnd, r_bOr, r_bNot, r_eIf, r_eIsi, tyOf, isTy, Tk.nm, r_dCalm, r_iBy, r_iBys, toItems, toRng1, r_eChain, oOrd, oInt, oIs, isN, mkTup, mkLst, datas, r_sRaise, r_eSortSet, r_eM1, r_eCallK, r_eSl, r_oSome, r_oNone, r_eRepl, r_eRevT, r_eFrz, handB, cardB]⟩
theorem rd18_ok {Bt : List PyData} (hl : Bt.length ≤ 10) (hB : ∀ x ∈ Bt, okH x = true ∧ handB m x = false) : ∃ S', rd18 [some (.r n), some (.d (.int (m : Nat))), x2, x3, some (.d (.str (F m v))), x5, x6, x7, x8, some (.d (.list Bt)), x10, x11, some (.d (.tuple (cs m (asc m f)))), x13, x14] S = .ok (.nx [some (.r n), some (.d (.int (m : Nat))), x2, x3, some (.d (.str (F m v))), x5, x6, x7, x8, some (.d (.list Bt)), x10, x11, some (.d (.tuple (cs m (asc m f)))), x13, x14]) S' ∧ ∀ i, i < S.length → S'[i]? = S[i]? := by
  have l1 := asc_len a b hv hf lf hg lg f
  have c2 := fun S => ishand a b hv hf lf hg lg (.tuple (cs m (asc m f))) (H_okH a b (l := asc m f) (by omega)) S
  rw [H_ok a b (asc_ok m f)] at c2
  obtain ⟨S', et, pre⟩ := e_texts a b (asc_ok m f) (by omega) S
  have kc := eComp_map (w := fun x : PyData => .d x) (vs := [14]) (fi := iBy toItems (eVar 9)) (t := .nm 14) (p := pYes) (f := Ev.e2 (oIs true) (eA den_is_hand (aCons (eVar 1) (aCons (eVar 14) aNil))) (eC (.bool false))) (ρ := [some (.r n), some (.d (.int (m : Nat))), x2, x3, some (.d (.str (F m v))), x5, x6, x7, x8, some (.d (.list Bt)), x10, x11, some (.d (.tuple (cs m (asc m f)))), x13, x14]) (S := S) (S1 := S) (l := Bt)
    (fun x => [some (.r n), some (.d (.int (m : Nat))), x2, x3, some (.d (.str (F m v))), x5, x6, x7, x8, some (.d (.list Bt)), x10, x11, some (.d (.tuple (cs m (asc m f)))), x13, some (.d x)]) (fun _ => true) (fun x => .bool false) (by simp [bind_ok, bind_exc, bind_stuck, lift_ok, lift_exc, calm_ok, bind_if, lift_if, calm_if, r_fn, r_sRet, r_sRetN, r_sSeq, r_sExpr, r_sIf, r_sAsg, r_sNil, r_aName, aNils, aConss, aTup, eVar, r_eC, r_eA, r_aCons, r_aNil, r_e2, r_e1, r_eB, r_toB, r_eAnd, r_eOr, r_eNot, r_bAnd, r_bOr, r_bNot, r_eIf, r_eIsi, tyOf, isTy, Tk.nm, r_dCalm, r_iBy, r_iBys, toItems, toRng1, r_eChain, oOrd, oInt, oIs, isN, mkTup, mkLst, datas, r_sRaise, r_eSortSet, r_eM1, r_eCallK, r_eSl, r_oSome, r_oNone, r_eRepl, r_eRevT, r_eFrz]) (by rw [sizeLine_eq]; omega) (fun x hx => rfl) (fun x hx => rfl) (fun x q _ => by simp [bind_ok, bind_exc, bind_stuck, lift_ok, lift_exc, calm_ok, bind_if, lift_if, calm_if, r_fn, r_sRet, r_sRetN, r_sSeq, r_sExpr, r_sIf, r_sAsg, r_sNil, r_aName, aNils, aConss, aTup, eVar, r_eC, r_eA, r_aCons, r_aNil, r_e2, r_e1, r_eB, r_toB, r_eAnd, r_eOr, r_eNot, r_bAnd, r_bOr, r_bNot, r_eIf, r_eIsi, tyOf, isTy, Tk.nm, r_dCalm, r_iBy, r_iBys, toItems, toRng1, r_eChain, oOrd, oInt, oIs, isN, mkTup, mkLst, datas, r_sRaise, r_eSortSet, r_eM1, r_eCallK, r_eSl, r_oSome, r_oNone, r_eRepl, r_eRevT, r_eFrz, ishand a b hv hf lf hg lg x (hB x q).1 S, (hB x q).2])
  simp only [filter_true] at kc
  have an := hAny_map Bt (fun _ => false) S
  have e0 : Bt.any (fun _ => false) = false := by simp [bind_ok, bind_exc, bind_stuck, lift_ok, lift_exc, calm_ok, bind_if, lift_if, calm_if, r_fn, r_sRet, r_sRetN, r_sSeq, r_sExpr, r_sIf, r_sAsg, r_sNil, r_aName, aNils, aConss, aTup, eVar, r_eC, r_eA, r_aCons, r_aNil, r_e2, r_e1, r_eB, r_toB, r_eAnd, r_eOr, r_eNot, r_bAnd, r_bOr, r_bNot, r_eIf, r_eIsi, tyOf, isTy, Tk.nm, r_dCalm, r_iBy, r_iBys, toItems, toRng1, r_eChain, oOrd, oInt, oIs, isN, mkTup, mkLst, datas, r_sRaise, r_eSortSet, r_eM1, r_eCallK, r_eSl, r_oSome, r_oNone, r_eRepl, r_eRevT, r_eFrz]
  rw [e0] at an
  exact ⟨S', by simp [bind_ok, bind_exc, bind_stuck, lift_ok, lift_exc, calm_ok, bind_if, lift_if, calm_if, r_fn, r_sRet, r_sRetN, r_sSeq, r_sExpr, r_sIf, r_sAsg, r_sNil, r_aName, aNils, aConss, aTup, eVar, r_eC, r_eA, r_aCons, r_aNil, r_e2, r_e1, r_eB, r_toB, r_eAnd, r_eOr, r_eNot, r_bAnd, r_bOr, r_bNot, r_eIf, r_eIsi, tyOf, isTy, Tk.nm, r_dCalm, r_iBy, r_iBys, toItems, toRng1, r_eChain, oOrd, oInt, oIs, isN, mkTup, mkLst, datas, r_sRaise, r_eSortSet, r_eM1, r_eCallK, r_eSl, r_oSome, r_oNone, r_eRepl, r_eRevT, r_eFrz, rd18, c2, kc, an, et], pre⟩
end
end K02

end
section
namespace K02
open PySem PySem.Spec PyProof.Rows L2 Ev
def sp0 : SF := sAsg (eIf (eB (e2 oLt (eVar 1) (eA (dCalm hLen) (aCons (eVar 0) (aNil))))) (eA (dCalm hInt) (aCons (e2 oGet (eVar 0) (eVar 1)) (aNil))) (e2 oAdd (e2 oMod (eA (dCalm hInt) (aCons (eA (dCalm hSum) (aCons (eSl (eVar 0) (oNone) (oSome (eC (.int 3)))) (aNil))) (aNil))) (eC (.int 999983))) (e2 oMul (eC (.int 245)) (e2 oAdd (eVar 1) (eC (.int 1)))))) (aName 2)
def sp1 : SF := sAsg (e2 oAdd (eC (.int 50031)) (eVar 1)) (aName 3)
def sp2 : SF := sFor (iBy toItems (e2 oAdd (eA mkLst (aCons (eVar 2) (aNil))) (eSl (eVar 0) (oNone) (oSome (eC (.int 4)))))) (aName 4) (sAsg (e2 oMod (eA (dCalm hInt) (aCons (e2 oAdd (e2 oMul (eVar 3) (eC (.int 39373))) (e2 oMod (eA (dCalm hInt) (aCons (eVar 4) (aNil))) (eC (.int 2147483587)))) (aNil))) (eC (.int 2147483647))) (aName 3))
def sp3 : SF := sRet (eA mkLstR (aCons (eIf (bOr (eB (e2 oLt (eVar 2) (eC (.int 0)))) (eB (e2 oGe (eVar 2) (e2 oPow (eC (.int 10)) (eC (.int 15)))))) (e2 oMod (eA (dCalm hInt) (aCons (eA (dCalm hAbs) (aCons (eVar 2) (aNil))) (aNil))) (e2 oPow (eC (.int 10)) (eC (.int 60)))) (eC (.int 0))) (aCons (eVar 3) (aNil))))
def sp_all : SF := sSeq sp0 (sSeq sp1 (sSeq sp2 (sp3)))
theorem sp_eq : b__law_spring = sp_all := rfl

section
variable {m : Nat} (a : 1 ≤ m) (b : m ≤ 4) {n : Nat}
include a b
theorem rd_ok {S : Sto} (s : Spr n S) (x2 x3 x4 x5 x6 x7 x8 x9 x10 x11 x12 x13 x14 : Option Vl) : ∃ (y2 y3 y4 y5 y6 y7 y8 y9 y10 y11 y12 y13 y14 : Option Vl) (S' : Sto),
    rd_all [some (.r n), some (.d (.int (m : Nat))), x2, x3, x4, x5, x6, x7, x8, x9, x10, x11, x12, x13, x14] S = .ok (.nx [some (.r n), some (.d (.int (m : Nat))), y2, y3, y4, y5, y6, y7, y8, y9, y10, y11, y12, y13, y14]) S' ∧ Spr n S' := by
  obtain ⟨v, S1, hv, e1, s1⟩ := rd1_ok a b (x2 := some (.d (.tuple (cs m (List.range (3 ^ m)))))) (x3 := x3) (x4 := x4) (x5 := x5) (x6 := x6) (x7 := x7) (x8 := x8) (x9 := x9) (x10 := x10) (x11 := x11) (x12 := x12) (x13 := x13) (x14 := x14) s
  obtain ⟨f, g, S2, hf, lf, hg, lg, e4, s2⟩ := rd4_ok a b (x2 := some (.d (.tuple (cs m (List.range (3 ^ m)))))) (x3 := some (.d (.int (v : Nat)))) (x4 := some (.d (.str (F m v)))) (x5 := x5) (x6 := x6) (x7 := x7) (x8 := x8) (x9 := x9) (x10 := x10) (x11 := x11) (x12 := x12) (x13 := x13) (x14 := x14) s1
  obtain ⟨Bt, e17, hl, hB⟩ := rd17_ok a b hv hf lf hg lg (n := n) (S := S2) (x2 := some (.d (.tuple (cs m (List.range (3 ^ m)))))) (x3 := some (.d (.int (v : Nat)))) (x5 := some (.d (.tuple (Td m f g)))) (x6 := some (.d (.list (iv (f.filter fun v => decide (v ∈ g)))))) (x7 := some (.d (.tuple (Nd m v f)))) (x8 := some (.d (.list (Od m v)))) (x9 := x9) (x10 := some (.d (.list (iv f)))) (x11 := some (.d (.list (iv g)))) (x13 := some (.d (.tuple (cs m (asc m g))))) (x14 := x14)
  obtain ⟨S3, e18, pre⟩ := rd18_ok a b hv hf lf hg lg (n := n) (S := S2) (x2 := some (.d (.tuple (cs m (List.range (3 ^ m)))))) (x3 := some (.d (.int (v : Nat)))) (x5 := some (.d (.tuple (Td m f g)))) (x6 := some (.d (.list (iv (f.filter fun v => decide (v ∈ g)))))) (x7 := some (.d (.tuple (Nd m v f)))) (x8 := some (.d (.list (Od m v)))) (x10 := some (.d (.list (iv f)))) (x11 := some (.d (.list (iv g)))) (x13 := some (.d (.tuple (cs m (asc m g))))) (x14 := x14) hl hB
  refine ⟨some (.d (.tuple (cs m (List.range (3 ^ m))))), some (.d (.int (v : Nat))), some (.d (.str (F m v))), some (.d (.tuple (Td m f g))), some (.d (.list (iv (f.filter fun v => decide (v ∈ g))))), some (.d (.tuple (Nd m v f))), some (.d (.list (Od m v))), some (.d (.list Bt)), some (.d (.list (iv f))), some (.d (.list (iv g))), some (.d (.tuple (cs m (asc m f)))), some (.d (.tuple (cs m (asc m g)))), x14, S3, ?_, ?_⟩
  rotate_left
  · obtain ⟨x, y, q⟩ := s2
    exact ⟨x, y, (pre n (List.getElem?_eq_some_iff.mp q).1).trans q⟩
  · simp only [rd_all, r_sSeq, rd0_ok a b, bind_ok, e1, rd2_ok a b hv hf lf hg lg, rd3_ok a b hv hf lf hg lg, e4, rd5_ok a b hv hf lf hg lg, rd6_ok a b hv hf lf hg lg, rd7_ok a b hv hf lf hg lg, rd8_ok a b hv hf lf hg lg, rd9_ok a b hv hf lf hg lg, rd10_ok a b hv hf lf hg lg, rd11_ok a b hv hf lf hg lg, rd12_ok a b hv hf lf hg lg, rd13_ok a b hv hf lf hg lg, rd14_ok a b hv hf lf hg lg, rd15_ok a b hv hf lf hg lg, rd16_ok a b hv hf lf hg lg, e17, e18]
end
theorem e_round {n : Nat} {S : Sto} (s : Spr n S) : ∃ S', den__law_round [.r n] S = .ok (.d (.bool true)) S' := by
  obtain ⟨v1, S1, h1, e1, s1⟩ := e_draw (k := 4) s (by decide) (by decide)
  obtain ⟨v2, S2, h2, e2, s2⟩ := e_draw (k := 3) s1 (by decide) (by decide)
  have e1' : den__law_draw [.r n, .d (.int 4)] S = .ok (.d (.int (v1 : Nat))) S1 := e1
  have e2' : den__law_draw [.r n, .d (.int 3)] S1 = .ok (.d (.int (v2 : Nat))) S2 := e2
  have ad : ∀ (v : Nat) S, oAdd (.d (.int 1)) (.d (.int (v : Nat))) S = .ok (.d (.int ((v + 1 : Nat) : Int))) S := fun v S => by
    have e : (1 : Int) + (v : Nat) = ((v + 1 : Nat) : Int) := by omega
    rw [← e]
    rfl
  obtain ⟨y2, y3, y4, y5, y6, y7, y8, y9, y10, y11, y12, y13, y14, S3, e3, s3⟩ := rd_ok (m := v1 + 1) (by omega) (by omega) s2 none none none none none none none none none none none none none
  obtain ⟨z2, z3, z4, z5, z6, z7, z8, z9, z10, z11, z12, z13, z14, S4, e4, s4⟩ := rd_ok (m := v2 + 1) (by omega) (by omega) s3 y2 y3 y4 y5 y6 y7 y8 y9 y10 y11 y12 y13 y14
  refine ⟨S4, ?_⟩
  have ad1 := fun S => ad v1 S
  have ad2 := fun S => ad v2 S
  generalize ((v1 + 1 : Nat) : Int) = i1 at *
  generalize ((v2 + 1 : Nat) : Int) = i2 at *
  simp [bind_ok, bind_exc, bind_stuck, lift_ok, lift_exc, calm_ok, bind_if, lift_if, calm_if, r_fn, r_sRet, r_sRetN, r_sSeq, r_sExpr, r_sIf, r_sAsg, r_sNil, r_aName, aNils, aConss, aTup, eVar, r_eC, r_eA, r_aCons, r_aNil, r_e2, r_e1, r_eB, r_toB, r_eAnd, r_eOr, r_eNot, r_bAnd, r_bOr, r_bNot, r_eIf, r_eIsi, tyOf, isTy, Tk.nm, r_dCalm, r_iBy, r_iBys, toItems, toRng1, r_eChain, oOrd, oInt, oIs, isN, mkTup, mkLst, datas, r_sRaise, r_eSortSet, r_eM1, r_eCallK, r_eSl, r_oSome, r_oNone, r_eRepl, r_eRevT, r_eFrz, den__law_round, rd_eq, r_sFor, e1', e2', ad1, ad2, sizeLine_eq, r_loop1, r_loop0, e3, e4]
/-! ### the spring -/
theorem cut_map (ns : List Int) (lo hi : Option Int) : ∃ k : List Int, Ev.cutD (ns.map .int) lo hi = k.map .int ∧ k.length ≤ ns.length := by
  unfold Ev.cutD
  refine ⟨(ns.drop (HT.sIx (ns.map PyData.int).length 0 lo)).take (HT.sIx (ns.map PyData.int).length (ns.map PyData.int).length hi - HT.sIx (ns.map PyData.int).length 0 lo), ?_, ?_⟩
  · rw [List.map_take, List.map_drop]
  · rw [List.length_take, List.length_drop]; omega
theorem intsOf_map (k : List Int) : intsOf (k.map .int) = some k := by
  induction k with
  | nil => rfl
  | cons x r ih => simp only [List.map_cons, intsOf] at ih ⊢; rw [ih]; rfl
theorem sm1 (i : Int) (S : Sto) : oMul (.d (.int 245)) (.d (.int i)) S = .ok (.d (.int (245 * i))) S := by
  unfold oMul
  simp only []
  rw [if_pos (by rw [show Ev.small64 245 = true from by decide +kernel, Bool.true_or])]
theorem sm2 (y : Int) (S : Sto) : oMul (.d (.int y)) (.d (.int 39373)) S = .ok (.d (.int (y * 39373))) S := by
  unfold oMul
  simp only []
  rw [if_pos (by rw [show Ev.small64 39373 = true from by decide +kernel, Bool.or_true])]
theorem ai (i j : Int) (S : Sto) : oAdd (.d (.int i)) (.d (.int j)) S = .ok (.d (.int (i + j))) S := nr rfl
theorem hI (i : Int) (S : Sto) : hInt [.d (.int i)] S = .ok (.d (.int i)) S := nr rfl
section
variable {ns : List Int} {p : Nat}
theorem slz (lo hi : Option Int) (S : Sto) : ∃ k : List Int, hSl (.z (ns.map .int)) lo hi S = .ok (.d (.list (k.map .int))) S ∧ k.length ≤ ns.length := by
  obtain ⟨k, e, l⟩ := cut_map ns lo hi
  refine ⟨k, ?_, l⟩
  unfold hSl
  simp only [asListZ, e]
theorem slz' (lo hi : Option Int) : ∃ k : List Int, (∀ S, hSl (.z (ns.map .int)) lo hi S = .ok (.d (.list (k.map .int))) S) ∧ k.length ≤ ns.length := by
  obtain ⟨k, e, l⟩ := cut_map ns lo hi
  refine ⟨k, fun S => ?_, l⟩
  unfold hSl
  simp only [asListZ, e]
theorem sp0_ok (x y z : Option Vl) (S : Sto) : ∃ c : Int, sp0 [some (.z (ns.map .int)), some (.d (.int (p : Nat))), x, y, z] S = .ok (.nx [some (.z (ns.map .int)), some (.d (.int (p : Nat))), some (.d (.int c)), y, z]) S := by
  have ln : ∀ S, hLen [.z (ns.map .int)] S = .ok (.d (.int (ns.length : Nat))) S := fun S => by unfold hLen lenOf; simp [bind_ok, bind_exc, bind_stuck, lift_ok, lift_exc, calm_ok, bind_if, lift_if, calm_if, r_fn, r_sRet, r_sRetN, r_sSeq, r_sExpr, r_sIf, r_sAsg, r_sNil, r_aName, aNils, aConss, aTup, eVar, r_eC, r_eA, r_aCons, r_aNil, r_e2, r_e1, r_eB, r_toB, r_eAnd, r_eOr, r_eNot, r_bAnd, r_bOr, r_bNot, r_eIf, r_eIsi, tyOf, isTy, Tk.nm, r_dCalm, r_iBy, r_iBys, toItems, toRng1, r_eChain, oOrd, oInt, oIs, isN, mkTup, mkLst, datas, r_sRaise, r_eSortSet, r_eM1, r_eCallK, r_eSl, r_oSome, r_oNone, r_eRepl, r_eRevT, r_eFrz]
  by_cases h : p < ns.length
  · have h1 : decide (((p : Nat) : Int) < (ns.length : Nat)) = true := decide_eq_true (by omega)
    have g : ∀ S, oGet (.z (ns.map .int)) (.d (.int (p : Nat))) S = .ok (.d (.int ns[p])) S := fun S => by
      have e : L2.atI (ns.map PyData.int) (p : Nat) = some (.int ns[p]) := by
        unfold L2.atI ixN
        rw [if_pos (by omega), List.length_map, if_pos (by omega), Option.bind_some]
        simp [bind_ok, bind_exc, bind_stuck, lift_ok, lift_exc, calm_ok, bind_if, lift_if, calm_if, r_fn, r_sRet, r_sRetN, r_sSeq, r_sExpr, r_sIf, r_sAsg, r_sNil, r_aName, aNils, aConss, aTup, eVar, r_eC, r_eA, r_aCons, r_aNil, r_e2, r_e1, r_eB, r_toB, r_eAnd, r_eOr, r_eNot, r_bAnd, r_bOr, r_bNot, r_eIf, r_eIsi, tyOf, isTy, Tk.nm, r_dCalm, r_iBy, r_iBys, toItems, toRng1, r_eChain, oOrd, oInt, oIs, isN, mkTup, mkLst, datas, r_sRaise, r_eSortSet, r_eM1, r_eCallK, r_eSl, r_oSome, r_oNone, r_eRepl, r_eRevT, r_eFrz, h]
      unfold oGet
      simp only [asListZ, e]
    exact ⟨ns[p], by simp [bind_ok, bind_exc, bind_stuck, lift_ok, lift_exc, calm_ok, bind_if, lift_if, calm_if, r_fn, r_sRet, r_sRetN, r_sSeq, r_sExpr, r_sIf, r_sAsg, r_sNil, r_aName, aNils, aConss, aTup, eVar, r_eC, r_eA, r_aCons, r_aNil, r_e2, r_e1, r_eB, r_toB, r_eAnd, r_eOr, r_eNot, r_bAnd, r_bOr, r_bNot, r_eIf, r_eIsi, tyOf, isTy, Tk.nm, r_dCalm, r_iBy, r_iBys, toItems, toRng1, r_eChain, oOrd, oInt, oIs, isN, mkTup, mkLst, datas, r_sRaise, r_eSortSet, r_eM1, r_eCallK, r_eSl, r_oSome, r_oNone, r_eRepl, r_eRevT, r_eFrz, sp0, ln, h, g, hI]⟩
  · have h1 : decide (((p : Nat) : Int) < (ns.length : Nat)) = false := decide_eq_false (by omega)
    obtain ⟨k, sl, _⟩ := slz' (ns := ns) none (some 3)
    have su : ∀ S, hSum [.d (.list (k.map .int))] S = .ok (.d (.int k.sum)) S := fun S => by
      unfold hSum
      simp only [asListZ, asList, Option.bind_some, intsOf_map]
    have md : ∀ i S, Ev.oMod (.d (.int i)) (.d (.int 999983)) S = .ok (.d (.int (i % 999983))) S := fun i S => rfl
    exact ⟨k.sum % 999983 + 245 * ((p : Nat) + 1), by simp [bind_ok, bind_exc, bind_stuck, lift_ok, lift_exc, calm_ok, bind_if, lift_if, calm_if, r_fn, r_sRet, r_sRetN, r_sSeq, r_sExpr, r_sIf, r_sAsg, r_sNil, r_aName, aNils, aConss, aTup, eVar, r_eC, r_eA, r_aCons, r_aNil, r_e2, r_e1, r_eB, r_toB, r_eAnd, r_eOr, r_eNot, r_bAnd, r_bOr, r_bNot, r_eIf, r_eIsi, tyOf, isTy, Tk.nm, r_dCalm, r_iBy, r_iBys, toItems, toRng1, r_eChain, oOrd, oInt, oIs, isN, mkTup, mkLst, datas, r_sRaise, r_eSortSet, r_eM1, r_eCallK, r_eSl, r_oSome, r_oNone, r_eRepl, r_eRevT, r_eFrz, sp0, ln, h, sl, su, hI, md, ai, sm1, -oInt]⟩
theorem sp1_ok (x y z w : Option Vl) (S : Sto) : sp1 [w, some (.d (.int (p : Nat))), x, y, z] S = .ok (.nx [w, some (.d (.int (p : Nat))), x, some (.d (.int (50031 + (p : Nat)))), z]) S := by
  simp [bind_ok, bind_exc, bind_stuck, lift_ok, lift_exc, calm_ok, bind_if, lift_if, calm_if, r_fn, r_sRet, r_sRetN, r_sSeq, r_sExpr, r_sIf, r_sAsg, r_sNil, r_aName, aNils, aConss, aTup, eVar, r_eC, r_eA, r_aCons, r_aNil, r_e2, r_e1, r_eB, r_toB, r_eAnd, r_eOr, r_eNot, r_bAnd, r_bOr, r_bNot, r_eIf, r_eIsi, tyOf, isTy, Tk.nm, r_dCalm, r_iBy, r_iBys, toItems, toRng1, r_eChain, oOrd, oInt, oIs, isN, mkTup, mkLst, datas, r_sRaise, r_eSortSet, r_eM1, r_eCallK, r_eSl, r_oSome, r_oNone, r_eRepl, r_eRevT, r_eFrz, sp1, ai]
theorem loop_sp (w u x : Option Vl) : ∀ (L : List Int) (y : Int) (z : Option Vl) (S : Sto), ∃ (y' : Int) (z' : Option Vl), loopF (aName 4) (sAsg (Ev.e2 oMod (eA (dCalm hInt) (aCons (Ev.e2 oAdd (Ev.e2 oMul (eVar 3) (eC (.int 39373))) (Ev.e2 oMod (eA (dCalm hInt) (aCons (eVar 4) aNil)) (eC (.int 2147483587)))) aNil)) (eC (.int 2147483647))) (aName 3)) (L.map fun i => .d (.int i)) [w, u, x, some (.d (.int y)), z] S = .ok (.nx [w, u, x, some (.d (.int y')), z']) S
  | [], y, z, S => ⟨y, z, by simp [bind_ok, bind_exc, bind_stuck, lift_ok, lift_exc, calm_ok, bind_if, lift_if, calm_if, r_fn, r_sRet, r_sRetN, r_sSeq, r_sExpr, r_sIf, r_sAsg, r_sNil, r_aName, aNils, aConss, aTup, eVar, r_eC, r_eA, r_aCons, r_aNil, r_e2, r_e1, r_eB, r_toB, r_eAnd, r_eOr, r_eNot, r_bAnd, r_bOr, r_bNot, r_eIf, r_eIsi, tyOf, isTy, Tk.nm, r_dCalm, r_iBy, r_iBys, toItems, toRng1, r_eChain, oOrd, oInt, oIs, isN, mkTup, mkLst, datas, r_sRaise, r_eSortSet, r_eM1, r_eCallK, r_eSl, r_oSome, r_oNone, r_eRepl, r_eRevT, r_eFrz, r_loop0]⟩
  | i :: L, y, z, S => by
    obtain ⟨y', z', ih⟩ := loop_sp w u x L ((y * 39373 + i % 2147483587) % 2147483647) (some (.d (.int i))) S
    refine ⟨y', z', ?_⟩
    rw [← ih]
    have m1 : ∀ i S, Ev.oMod (.d (.int i)) (.d (.int 2147483587)) S = .ok (.d (.int (i % 2147483587))) S := fun i S => rfl
    have m2 : ∀ i S, Ev.oMod (.d (.int i)) (.d (.int 2147483647)) S = .ok (.d (.int (i % 2147483647))) S := fun i S => rfl
    simp [bind_ok, bind_exc, bind_stuck, lift_ok, lift_exc, calm_ok, bind_if, lift_if, calm_if, r_fn, r_sRet, r_sRetN, r_sSeq, r_sExpr, r_sIf, r_sAsg, r_sNil, r_aName, aNils, aConss, aTup, eVar, r_eC, r_eA, r_aCons, r_aNil, r_e2, r_e1, r_eB, r_toB, r_eAnd, r_eOr, r_eNot, r_bAnd, r_bOr, r_bNot, r_eIf, r_eIsi, tyOf, isTy, Tk.nm, r_dCalm, r_iBy, r_iBys, toItems, toRng1, r_eChain, oOrd, oInt, oIs, isN, mkTup, mkLst, datas, r_sRaise, r_eSortSet, r_eM1, r_eCallK, r_eSl, r_oSome, r_oNone, r_eRepl, r_eRevT, r_eFrz, r_loop1, sm2, hI, m1, m2, ai, -oInt]
theorem sp2_ok (hn : ns.length ≤ 1000) (c y : Int) (z : Option Vl) (S : Sto) : ∃ (y' : Int) (z' : Option Vl), sp2 [some (.z (ns.map .int)), some (.d (.int (p : Nat))), some (.d (.int c)), some (.d (.int y)), z] S = .ok (.nx [some (.z (ns.map .int)), some (.d (.int (p : Nat))), some (.d (.int c)), some (.d (.int y')), z']) S := by
  obtain ⟨k, sl, kl⟩ := slz' (ns := ns) none (some 4)
  obtain ⟨y', z', e⟩ := loop_sp (some (.z (ns.map .int))) (some (.d (.int (p : Nat)))) (some (.d (.int c))) (c :: k) y z S
  have ad := fun S => e_addL [.int c] (k.map .int) S (by simp [bind_ok, bind_exc, bind_stuck, lift_ok, lift_exc, calm_ok, bind_if, lift_if, calm_if, r_fn, r_sRet, r_sRetN, r_sSeq, r_sExpr, r_sIf, r_sAsg, r_sNil, r_aName, aNils, aConss, aTup, eVar, r_eC, r_eA, r_aCons, r_aNil, r_e2, r_e1, r_eB, r_toB, r_eAnd, r_eOr, r_eNot, r_bAnd, r_bOr, r_bNot, r_eIf, r_eIsi, tyOf, isTy, Tk.nm, r_dCalm, r_iBy, r_iBys, toItems, toRng1, r_eChain, oOrd, oInt, oIs, isN, mkTup, mkLst, datas, r_sRaise, r_eSortSet, r_eM1, r_eCallK, r_eSl, r_oSome, r_oNone, r_eRepl, r_eRevT, r_eFrz]; omega)
  simp only [List.cons_append, List.nil_append] at ad
  simp only [List.map_cons] at e
  have mm : (k.map PyData.int).map Vl.d = k.map fun i => .d (.int i) := by simp [bind_ok, bind_exc, bind_stuck, lift_ok, lift_exc, calm_ok, bind_if, lift_if, calm_if, r_fn, r_sRet, r_sRetN, r_sSeq, r_sExpr, r_sIf, r_sAsg, r_sNil, r_aName, aNils, aConss, aTup, eVar, r_eC, r_eA, r_aCons, r_aNil, r_e2, r_e1, r_eB, r_toB, r_eAnd, r_eOr, r_eNot, r_bAnd, r_bOr, r_bNot, r_eIf, r_eIsi, tyOf, isTy, Tk.nm, r_dCalm, r_iBy, r_iBys, toItems, toRng1, r_eChain, oOrd, oInt, oIs, isN, mkTup, mkLst, datas, r_sRaise, r_eSortSet, r_eM1, r_eCallK, r_eSl, r_oSome, r_oNone, r_eRepl, r_eRevT, r_eFrz]
  exact ⟨y', z', by simp [bind_ok, bind_exc, bind_stuck, lift_ok, lift_exc, calm_ok, bind_if, lift_if, calm_if, r_fn, r_sRet, r_sRetN, r_sSeq, r_sExpr, r_sIf, r_sAsg, r_sNil, r_aName, aNils, aConss, aTup, eVar, r_eC, r_eA, r_aCons, r_aNil, r_e2, r_e1, r_eB, r_toB, r_eAnd, r_eOr, r_eNot, r_bAnd, r_bOr, r_bNot, r_eIf, r_eIsi, tyOf, isTy, Tk.nm, r_dCalm, r_iBy, r_iBys, toItems, toRng1, r_eChain, oOrd, oInt, oIs, isN, mkTup, mkLst, datas, r_sRaise, r_eSortSet, r_eM1, r_eCallK, r_eSl, r_oSome, r_oNone, r_eRepl, r_eRevT, r_eFrz, sp2, r_sFor, sizeLine_eq, sl, ad]; exact e⟩
theorem sp3_ok (w u z : Option Vl) (c y : Int) (S : Sto) : ∃ x : Int, sp3 [w, u, some (.d (.int c)), some (.d (.int y)), z] S = .ok (.rt (.r S.length)) (S ++ [some (.lst [.int x, .int y])]) := by
  have p1 : ∀ S, Ev.oPow (.d (.int 10)) (.d (.int 15)) S = .ok (.d (.int (10 ^ 15))) S := fun S => rfl
  have p2 : ∀ S, Ev.oPow (.d (.int 10)) (.d (.int 60)) S = .ok (.d (.int (10 ^ 60))) S := fun S => rfl
  have m1 : ∀ i S, Ev.oMod (.d (.int i)) (.d (.int (10 ^ 60))) S = .ok (.d (.int (i % 10 ^ 60))) S := fun i S => rfl
  have ab : ∀ i S, hAbs [.d (.int i)] S = .ok (.d (.int (if i < 0 then -i else i))) S := fun i S => rfl
  by_cases h1 : c < 0
  · exact ⟨(if c < 0 then -c else c) % 10 ^ 60, by simp only [sp3, r_sRet, r_eA, r_aCons, r_eIf, r_bOr, r_eB, r_e2, eVar, r_eC, bind_ok, List.getElem?_cons_succ, List.getElem?_cons_zero, oOrd, h1, decide_true, r_toB, if_true, r_dCalm, r_aNil, ab, calm_ok, hI, p2, m1, mkLstR, datas, Option.map_some, sizeLine_eq, List.length_cons, List.length_nil, Nat.reduceAdd, Nat.reduceLeDiff, lift_ok]⟩
  · by_cases h2 : (10 ^ 15 : Int) ≤ c
    · exact ⟨(if c < 0 then -c else c) % 10 ^ 60, by simp only [sp3, r_sRet, r_eA, r_aCons, r_eIf, r_bOr, r_eB, r_e2, eVar, r_eC, bind_ok, List.getElem?_cons_succ, List.getElem?_cons_zero, oOrd, h1, h2, p1, decide_true, decide_false, Bool.false_eq_true, if_false, r_toB, if_true, r_dCalm, r_aNil, ab, calm_ok, hI, p2, m1, mkLstR, datas, Option.map_some, sizeLine_eq, List.length_cons, List.length_nil, Nat.reduceAdd, Nat.reduceLeDiff, lift_ok]⟩
    · exact ⟨0, by simp only [sp3, r_sRet, r_eA, r_aCons, r_eIf, r_bOr, r_eB, r_e2, eVar, r_eC, bind_ok, List.getElem?_cons_succ, List.getElem?_cons_zero, oOrd, h1, h2, p1, decide_true, decide_false, Bool.false_eq_true, if_false, r_toB, if_true, r_dCalm, r_aNil, ab, calm_ok, hI, p2, m1, mkLstR, datas, Option.map_some, sizeLine_eq, List.length_cons, List.length_nil, Nat.reduceAdd, Nat.reduceLeDiff, lift_ok]⟩
theorem e_spring (hn : ns.length ≤ 1000) (S : Sto) : ∃ x y : Int, den__law_spring [.z (ns.map .int), .d (.int (p : Nat))] S = .ok (.r S.length) (S ++ [some (.lst [.int x, .int y])]) := by
  obtain ⟨c, e0⟩ := sp0_ok (ns := ns) (p := p) none none none S
  obtain ⟨y, z, e2⟩ := sp2_ok (ns := ns) (p := p) hn c (50031 + (p : Nat)) none S
  obtain ⟨x, e3⟩ := sp3_ok (some (.z (ns.map .int))) (some (.d (.int (p : Nat)))) z c y S
  exact ⟨x, y, by simp [bind_ok, bind_exc, bind_stuck, lift_ok, lift_exc, calm_ok, bind_if, lift_if, calm_if, r_fn, r_sRet, r_sRetN, r_sSeq, r_sExpr, r_sIf, r_sAsg, r_sNil, r_aName, aNils, aConss, aTup, eVar, r_eC, r_eA, r_aCons, r_aNil, r_e2, r_e1, r_eB, r_toB, r_eAnd, r_eOr, r_eNot, r_bAnd, r_bOr, r_bNot, r_eIf, r_eIsi, tyOf, isTy, Tk.nm, r_dCalm, r_iBy, r_iBys, toItems, toRng1, r_eChain, oOrd, oInt, oIs, isN, mkTup, mkLst, datas, r_sRaise, r_eSortSet, r_eM1, r_eCallK, r_eSl, r_oSome, r_oNone, r_eRepl, r_eRevT, r_eFrz, den__law_spring, sp_eq, sp_all, e0, sp1_ok, e2, e3]⟩
end
theorem e_law (ns : List Int) (hn : ns.length ≤ 1000) : ∃ S', den_law [.z (ns.map .int)] [] = .ok (.d (.bool true)) S' := by
  obtain ⟨x0, y0, e0⟩ := e_spring (ns := ns) (p := 0) hn []
  obtain ⟨S1, r0⟩ := e_round (n := 0) (S := [some (.lst [.int x0, .int y0])]) ⟨x0, y0, rfl⟩
  obtain ⟨x1, y1, e1⟩ := e_spring (ns := ns) (p := 1) hn S1
  obtain ⟨S2, r1⟩ := e_round (n := S1.length) (S := S1 ++ [some (.lst [.int x1, .int y1])]) ⟨x1, y1, List.getElem?_concat_length⟩
  have e0' : den__law_spring [.z (ns.map .int), .d (.int 0)] [] = .ok (.r 0) [some (.lst [.int x0, .int y0])] := e0
  have e1' : den__law_spring [.z (ns.map .int), .d (.int 1)] S1 = .ok (.r S1.length) (S1 ++ [some (.lst [.int x1, .int y1])]) := e1
  have al : ∀ S, hAll [.d (.list [.bool true, .bool true])] S = .ok (.d (.bool true)) S := fun S => rfl
  exact ⟨S2, by simp [bind_ok, bind_exc, bind_stuck, lift_ok, lift_exc, calm_ok, bind_if, lift_if, calm_if, r_fn, r_sRet, r_sRetN, r_sSeq, r_sExpr, r_sIf, r_sAsg, r_sNil, r_aName, aNils, aConss, aTup, eVar, r_eC, r_eA, r_aCons, r_aNil, r_e2, r_e1, r_eB, r_toB, r_eAnd, r_eOr, r_eNot, r_bAnd, r_bOr, r_bNot, r_eIf, r_eIsi, tyOf, isTy, Tk.nm, r_dCalm, r_iBy, r_iBys, toItems, toRng1, r_eChain, oOrd, oInt, oIs, isN, mkTup, mkLst, datas, r_sRaise, r_eSortSet, r_eM1, r_eCallK, r_eSl, r_oSome, r_oNone, r_eRepl, r_eRevT, r_eFrz, den_law, b_law, eComp, compL, wipeE, CT.bind, pYes, sizeLine_eq, e0', r0, e1', r1, al]⟩
end K02

end
section
namespace K02
open PySem PySem.Spec PyProof.Rows L2 Ev
/-! ### the head -/
theorem hx_of {K : Frag} {x : Str} (e : PySem.W.exmOne K (.ref (He.ga K x)) (.ref (He.ga K x)) = some true) (c : Str) (z : Bool) (h : (if c = x then some true else none) = some z) : PySem.W.exmOne K (.ref (He.ga K c)) (.ref (He.ga K x)) = some z := by
  by_cases q : c = x
  · subst q
    rw [if_pos rfl] at h
    cases h
    exact e
  · rw [if_neg q] at h
    cases h
theorem fd_eq {K : Frag} {x qual : Str} {params : Arguments} {body : List Stmt} {scope : Scope} {f : Addr} {fd fd' : FuncData} (F : FunD K x qual params body scope [] [] f fd) (F' : FunD K x qual params body scope [] [] f fd') : fd = fd' := by
  obtain ⟨oc, od, dV, kV, doc, pm, an, cdv, ct, osl, e, lk, _⟩ := F.ex
  obtain ⟨oc', od', dV', kV', doc', pm', an', cdv', ct', osl', e', lk', _⟩ := F'.ex

  have z := Option.some.inj (lk.symm.trans lk')
  exact Data.func.inj (congrArg Obj.data z)
abbrev s_InvalidCard : Stmt := inClass (top 24) 0
abbrev s_InvalidCards : Stmt := inClass (top 27) 0
abbrev s_InvalidHand : Stmt := inClass (top 25) 0
abbrev s_InvalidNumber : Stmt := inClass (top 23) 0
abbrev s_InvalidText : Stmt := inClass (top 26) 0
def hfn : List He.DefD := [
  ⟨("is_whole", none), "is_whole", "is_whole", defArgs s_is_whole, defBody s_is_whole, defScope s_is_whole, [], []⟩,
  ⟨("is_between", none), "is_between", "is_between", defArgs s_is_between, defBody s_is_between, defScope s_is_between, [], []⟩,
  ⟨("is_text_of", none), "is_text_of", "is_text_of", defArgs s_is_text_of, defBody s_is_text_of, defScope s_is_text_of, [], []⟩,
  ⟨("is_ascending", none), "is_ascending", "is_ascending", defArgs s_is_ascending, defBody s_is_ascending, defScope s_is_ascending, [], []⟩,
  ⟨("power_of", none), "power_of", "power_of", defArgs s_power_of, defBody s_power_of, defScope s_power_of, [], []⟩,
  ⟨("is_mark_number", none), "is_mark_number", "is_mark_number", defArgs s_is_mark_number, defBody s_is_mark_number, defScope s_is_mark_number, [], []⟩,
  ⟨("is_card_of", none), "is_card_of", "is_card_of", defArgs s_is_card_of, defBody s_is_card_of, defScope s_is_card_of, [], []⟩,
  ⟨("is_any_card", none), "is_any_card", "is_any_card", defArgs s_is_any_card, defBody s_is_any_card, defScope s_is_any_card, [], []⟩,
  ⟨("is_hand_of", none), "is_hand_of", "is_hand_of", defArgs s_is_hand_of, defBody s_is_hand_of, defScope s_is_hand_of, [], []⟩,
  ⟨("deck_size", none), "deck_size", "deck_size", defArgs s_deck_size, defBody s_deck_size, defScope s_deck_size, [], []⟩,
  ⟨("deck_of", none), "deck_of", "deck_of", defArgs s_deck_of, defBody s_deck_of, defScope s_deck_of, [], []⟩,
  ⟨("number_of_card", none), "number_of_card", "number_of_card", defArgs s_number_of_card, defBody s_number_of_card, defScope s_number_of_card, [], []⟩,
  ⟨("card_with", none), "card_with", "card_with", defArgs s_card_with, defBody s_card_with, defScope s_card_with, [], []⟩,
  ⟨("as_hand", none), "as_hand", "as_hand", defArgs s_as_hand, defBody s_as_hand, defScope s_as_hand, [], []⟩,
  ⟨("others_of", none), "others_of", "others_of", defArgs s_others_of, defBody s_others_of, defScope s_others_of, [], []⟩,
  ⟨("both_of", none), "both_of", "both_of", defArgs s_both_of, defBody s_both_of, defScope s_both_of, [], []⟩,
  ⟨("only_of", none), "only_of", "only_of", defArgs s_only_of, defBody s_only_of, defScope s_only_of, [], []⟩,
  ⟨("check_marks", none), "check_marks", "check_marks", defArgs s_check_marks, defBody s_check_marks, defScope s_check_marks, [], []⟩,
  ⟨("check_number", none), "check_number", "check_number", defArgs s_check_number, defBody s_check_number, defScope s_check_number, [], []⟩,
  ⟨("check_any_card", none), "check_any_card", "check_any_card", defArgs s_check_any_card, defBody s_check_any_card, defScope s_check_any_card, [], []⟩,
  ⟨("check_hand", none), "check_hand", "check_hand", defArgs s_check_hand, defBody s_check_hand, defScope s_check_hand, [], []⟩,
  ⟨("check_marked_hand", none), "check_marked_hand", "check_marked_hand", defArgs s_check_marked_hand, defBody s_check_marked_hand, defScope s_check_marked_hand, [], []⟩,
  ⟨("check_two_hands", none), "check_two_hands", "check_two_hands", defArgs s_check_two_hands, defBody s_check_two_hands, defScope s_check_two_hands, [], []⟩,
  ⟨("check_cards", none), "check_cards", "check_cards", defArgs s_check_cards, defBody s_check_cards, defScope s_check_cards, [], []⟩,
  ⟨("is_card", none), "is_card", "is_card", defArgs s_is_card, defBody s_is_card, defScope s_is_card, [], []⟩,
  ⟨("is_hand", none), "is_hand", "is_hand", defArgs s_is_hand, defBody s_is_hand, defScope s_is_hand, [], []⟩,
  ⟨("deck", none), "deck", "deck", defArgs s_deck, defBody s_deck, defScope s_deck, [], []⟩,
  ⟨("card_number", none), "card_number", "card_number", defArgs s_card_number, defBody s_card_number, defScope s_card_number, [], []⟩,
  ⟨("card_at", none), "card_at", "card_at", defArgs s_card_at, defBody s_card_at, defScope s_card_at, [], []⟩,
  ⟨("hand_of", none), "hand_of", "hand_of", defArgs s_hand_of, defBody s_hand_of, defScope s_hand_of, [], []⟩,
  ⟨("rest_of", none), "rest_of", "rest_of", defArgs s_rest_of, defBody s_rest_of, defScope s_rest_of, [], []⟩,
  ⟨("both", none), "both", "both", defArgs s_both, defBody s_both, defScope s_both, [], []⟩,
  ⟨("either", none), "either", "either", defArgs s_either, defBody s_either, defScope s_either, [], []⟩,
  ⟨("only", none), "only", "only", defArgs s_only, defBody s_only, defScope s_only, [], []⟩,
  ⟨("text_of_hand", none), "text_of_hand", "text_of_hand", defArgs s_text_of_hand, defBody s_text_of_hand, defScope s_text_of_hand, [], []⟩,
  ⟨("hand_told", none), "hand_told", "hand_told", defArgs s_hand_told, defBody s_hand_told, defScope s_hand_told, [], []⟩,
  ⟨("check_told", none), "check_told", "check_told", defArgs s_check_told, defBody s_check_told, defScope s_check_told, [], []⟩,
  ⟨("hand_text", none), "hand_text", "hand_text", defArgs s_hand_text, defBody s_hand_text, defScope s_hand_text, [], []⟩,
  ⟨("read_hand", none), "read_hand", "read_hand", defArgs s_read_hand, defBody s_read_hand, defScope s_read_hand, [], []⟩,
  ⟨("_law_spring", none), "_law_spring", "_law_spring", defArgs s__law_spring, defBody s__law_spring, defScope s__law_spring, [], []⟩,
  ⟨("_law_draw", none), "_law_draw", "_law_draw", defArgs s__law_draw, defBody s__law_draw, defScope s__law_draw, [], []⟩,
  ⟨("_law_equal", none), "_law_equal", "_law_equal", defArgs s__law_equal, defBody s__law_equal, defScope s__law_equal, [], []⟩,
  ⟨("_law_figures", none), "_law_figures", "_law_figures", defArgs s__law_figures, defBody s__law_figures, defScope s__law_figures, [], []⟩,
  ⟨("_law_hand", none), "_law_hand", "_law_hand", defArgs s__law_hand, defBody s__law_hand, defScope s__law_hand, [], []⟩,
  ⟨("_law_some", none), "_law_some", "_law_some", defArgs s__law_some, defBody s__law_some, defScope s__law_some, [], []⟩,
  ⟨("_law_is_refused", none), "_law_is_refused", "_law_is_refused", defArgs s__law_is_refused, defBody s__law_is_refused, defScope s__law_is_refused, [], []⟩,
  ⟨("_law_texts_right", none), "_law_texts_right", "_law_texts_right", defArgs s__law_texts_right, defBody s__law_texts_right, defScope s__law_texts_right, [], []⟩,
  ⟨("_law_round", none), "_law_round", "_law_round", defArgs s__law_round, defBody s__law_round, defScope s__law_round, [], []⟩,
  ⟨("law", none), "law", "law", defArgs s_law, defBody s_law, defScope s_law, [], []⟩,
  ⟨("InvalidCard", some "__init__"), "__init__", "InvalidCard.__init__", defArgs s_InvalidCard, defBody s_InvalidCard, defScope s_InvalidCard, [], []⟩,
  ⟨("InvalidCards", some "__init__"), "__init__", "InvalidCards.__init__", defArgs s_InvalidCards, defBody s_InvalidCards, defScope s_InvalidCards, [], []⟩,
  ⟨("InvalidHand", some "__init__"), "__init__", "InvalidHand.__init__", defArgs s_InvalidHand, defBody s_InvalidHand, defScope s_InvalidHand, [], []⟩,
  ⟨("InvalidNumber", some "__init__"), "__init__", "InvalidNumber.__init__", defArgs s_InvalidNumber, defBody s_InvalidNumber, defScope s_InvalidNumber, [], []⟩,
  ⟨("InvalidText", some "__init__"), "__init__", "InvalidText.__init__", defArgs s_InvalidText, defBody s_InvalidText, defScope s_InvalidText, [], []⟩]
def hfa : List He.Fa := [.free "abs", .free "all", .free "any", .free "bool", .free "divmod", .free "enumerate", .free "int", .free "isinstance", .free "len", .free "list", .free "range", .free "set", .free "sorted", .free "str", .free "sum", .free "tuple", .free "zip", .str "BLANK" " ", .str "MARK_NUMBERS" "1234", .int "MOST_MARKS" 4, .str "SORTS" "012", .glo "is_whole", .glo "is_between", .glo "is_text_of", .glo "is_ascending", .glo "power_of", .glo "is_mark_number", .glo "is_card_of", .glo "is_any_card", .glo "is_hand_of", .glo "deck_size", .glo "deck_of", .glo "number_of_card", .glo "card_with", .glo "as_hand", .glo "others_of", .glo "both_of", .glo "only_of", .glo "check_marks", .glo "check_number", .glo "check_any_card", .glo "check_hand", .glo "check_marked_hand", .glo "check_two_hands", .glo "check_cards", .glo "is_card", .glo "is_hand", .glo "deck", .glo "card_number", .glo "card_at", .glo "hand_of", .glo "rest_of", .glo "both", .glo "either", .glo "only", .glo "text_of_hand", .glo "hand_told", .glo "check_told", .glo "hand_text", .glo "read_hand", .glo "_law_spring", .glo "_law_draw", .glo "_law_equal", .glo "_law_figures", .glo "_law_hand", .glo "_law_some", .glo "_law_is_refused", .glo "_law_texts_right", .glo "_law_round", .glo "law", .exm "InvalidCard" "InvalidCard" true, .exm "InvalidCards" "InvalidCards" true, .exm "InvalidHand" "InvalidHand" true, .exm "InvalidNumber" "InvalidNumber" true, .exm "InvalidText" "InvalidText" true]
def hex (K : Frag) : Bool := (owB K "InvalidCard" (attrOf "InvalidCard") && (owB K "InvalidCards" (attrOf "InvalidCards") && (owB K "InvalidHand" (attrOf "InvalidHand") && (owB K "InvalidNumber" (attrOf "InvalidNumber") && (owB K "InvalidText" (attrOf "InvalidText"))))))
abbrev R : PySem.W.OpenRow := PySem.W.OpenLaw.row PySem.Challenge.rw_thirdgames_k02_whole_cards_as_numbers_of
abbrev hk : PySem.W.Hook := He.hookX 6 hfa hfn [] [] hex
def ob (s : PySem.W.SharedT) : He.AlX := He.obsX 6 hfa hfn [] [] hex (HandSHeadRun.getT s)
theorem ob_eq (s : PySem.W.SharedT) : ob s = hk.obs s.abs := He.obsX_eq (HandSHeadRun.getT_eq s)
def loose : List Str := (["__name__", "is_whole", "is_between", "is_text_of", "is_ascending", "power_of", "SORTS", "MOST_MARKS", "is_mark_number", "is_card_of", "is_any_card", "is_hand_of", "deck_size", "deck_of", "number_of_card", "card_with", "as_hand", "others_of", "both_of", "only_of", "ThreeError", "InvalidNumber", "InvalidCard", "InvalidHand", "InvalidText", "InvalidCards", "check_marks", "check_number", "check_any_card", "check_hand"] : List Str) ++ (["check_marked_hand", "check_two_hands", "check_cards", "is_card", "is_hand", "deck", "card_number", "card_at", "hand_of", "rest_of", "both", "either", "only", "BLANK", "MARK_NUMBERS", "text_of_hand", "hand_told", "check_told", "hand_text", "read_hand", "_law_spring", "_law_draw", "_law_equal", "_law_figures", "_law_hand", "_law_some", "_law_is_refused", "_law_texts_right", "_law_round"] : List Str)
theorem run (w : World) : HandSHeadRun.RunEq R (PySem.W.view R.prog [66]) hk ob 6000 loose w := by
  intro os
  kernel_rfl
theorem tp_of {P : Program} {w : World} {K : Frag} {h : Heap} {mg : Str → Option Value} (X : K.In h) (G : h.Ns mainGlobals mg) (c : He.SaysX hfa hfn [] [] hex w h K) (base : Heap) : Tp P w K mg base := by
  have hx := c.more
  obtain ⟨x0, hx⟩ := He.ba hx
  obtain ⟨x1, hx⟩ := He.ba hx
  obtain ⟨x2, hx⟩ := He.ba hx
  obtain ⟨x3, hx⟩ := He.ba hx
  have x4 := hx
  obtain ⟨fd0, F0⟩ := c.t.d.def_ 49 rfl
  have o0 := ow_of x0
  have e0 : Er P w K mg base "InvalidCard" := er_of (f := "given") (by decide +kernel) o0 (PySem.W.mg_of X G o0.at_) F0 in_given rfl (fun Y e => by rw [e]; exact ⟨Or.inl rfl, Or.inl rfl⟩) (by decide) (by decide) (fun _ _ _ _ _ _ us hl => match us, hl with | [_, _], _ => rfl)
  obtain ⟨fd1, F1⟩ := c.t.d.def_ 50 rfl
  have o1 := ow_of x1
  have e1 : Er P w K mg base "InvalidCards" := er_of (f := "index") (by decide +kernel) o1 (PySem.W.mg_of X G o1.at_) F1 in_index rfl (fun Y e => by rw [e]; exact ⟨Or.inl rfl, Or.inl rfl⟩) (by decide) (by decide) (fun _ _ _ _ _ _ us hl => match us, hl with | [_, _], _ => rfl)
  obtain ⟨fd2, F2⟩ := c.t.d.def_ 51 rfl
  have o2 := ow_of x2
  have e2 : Er P w K mg base "InvalidHand" := er_of (f := "given") (by decide +kernel) o2 (PySem.W.mg_of X G o2.at_) F2 in_given rfl (fun Y e => by rw [e]; exact ⟨Or.inl rfl, Or.inl rfl⟩) (by decide) (by decide) (fun _ _ _ _ _ _ us hl => match us, hl with | [_, _], _ => rfl)
  obtain ⟨fd3, F3⟩ := c.t.d.def_ 52 rfl
  have o3 := ow_of x3
  have e3 : Er P w K mg base "InvalidNumber" := er_of (f := "given") (by decide +kernel) o3 (PySem.W.mg_of X G o3.at_) F3 in_given rfl (fun Y e => by rw [e]; exact ⟨Or.inl rfl, Or.inl rfl⟩) (by decide) (by decide) (fun _ _ _ _ _ _ us hl => match us, hl with | [_, _], _ => rfl)
  obtain ⟨fd4, F4⟩ := c.t.d.def_ 53 rfl
  have o4 := ow_of x4
  have e4 : Er P w K mg base "InvalidText" := er_of (f := "given") (by decide +kernel) o4 (PySem.W.mg_of X G o4.at_) F4 in_given rfl (fun Y e => by rw [e]; exact ⟨Or.inl rfl, Or.inl rfl⟩) (by decide) (by decide) (fun _ _ _ _ _ _ us hl => match us, hl with | [_, _], _ => rfl)
  exact {
    b_abs := He.free_ok X G (c.t.d.fact 0 rfl)
    b_all := He.free_ok X G (c.t.d.fact 1 rfl)
    b_any := He.free_ok X G (c.t.d.fact 2 rfl)
    b_bool := He.free_ok X G (c.t.d.fact 3 rfl)
    b_divmod := He.free_ok X G (c.t.d.fact 4 rfl)
    b_enumerate := He.free_ok X G (c.t.d.fact 5 rfl)
    b_int := He.free_ok X G (c.t.d.fact 6 rfl)
    b_isinstance := He.free_ok X G (c.t.d.fact 7 rfl)
    b_len := He.free_ok X G (c.t.d.fact 8 rfl)
    b_list := He.free_ok X G (c.t.d.fact 9 rfl)
    b_range := He.free_ok X G (c.t.d.fact 10 rfl)
    b_set := He.free_ok X G (c.t.d.fact 11 rfl)
    b_sorted := He.free_ok X G (c.t.d.fact 12 rfl)
    b_str := He.free_ok X G (c.t.d.fact 13 rfl)
    b_sum := He.free_ok X G (c.t.d.fact 14 rfl)
    b_tuple := He.free_ok X G (c.t.d.fact 15 rfl)
    b_zip := He.free_ok X G (c.t.d.fact 16 rfl)
    c_BLANK := He.str_ok X G (c.t.d.fact 17 rfl)
    c_MARK_NUMBERS := He.str_ok X G (c.t.d.fact 18 rfl)
    c_MOST_MARKS := He.int_ok X G (c.t.d.fact 19 rfl)
    c_SORTS := He.str_ok X G (c.t.d.fact 20 rfl)
    e_InvalidCard := e0
    h_InvalidCard := hx_of (He.exm_ok (c.t.d.fact 70 rfl))
    e_InvalidCards := e1
    h_InvalidCards := hx_of (He.exm_ok (c.t.d.fact 71 rfl))
    e_InvalidHand := e2
    h_InvalidHand := hx_of (He.exm_ok (c.t.d.fact 72 rfl))
    e_InvalidNumber := e3
    h_InvalidNumber := hx_of (He.exm_ok (c.t.d.fact 73 rfl))
    e_InvalidText := e4
    h_InvalidText := hx_of (He.exm_ok (c.t.d.fact 74 rfl))
    d_is_whole := (c.t.d.def_ 0 rfl).elim fun fd F => ⟨_, fd, He.glo_ok X G (c.t.d.fact 21 rfl), F⟩
    d_is_between := (c.t.d.def_ 1 rfl).elim fun fd F => ⟨_, fd, He.glo_ok X G (c.t.d.fact 22 rfl), F⟩
    d_is_text_of := (c.t.d.def_ 2 rfl).elim fun fd F => ⟨_, fd, He.glo_ok X G (c.t.d.fact 23 rfl), F⟩
    d_is_ascending := (c.t.d.def_ 3 rfl).elim fun fd F => ⟨_, fd, He.glo_ok X G (c.t.d.fact 24 rfl), F⟩
    d_power_of := (c.t.d.def_ 4 rfl).elim fun fd F => ⟨_, fd, He.glo_ok X G (c.t.d.fact 25 rfl), F⟩
    d_is_mark_number := (c.t.d.def_ 5 rfl).elim fun fd F => ⟨_, fd, He.glo_ok X G (c.t.d.fact 26 rfl), F⟩
    d_is_card_of := (c.t.d.def_ 6 rfl).elim fun fd F => ⟨_, fd, He.glo_ok X G (c.t.d.fact 27 rfl), F⟩
    d_is_any_card := (c.t.d.def_ 7 rfl).elim fun fd F => ⟨_, fd, He.glo_ok X G (c.t.d.fact 28 rfl), F⟩
    d_is_hand_of := (c.t.d.def_ 8 rfl).elim fun fd F => ⟨_, fd, He.glo_ok X G (c.t.d.fact 29 rfl), F⟩
    d_deck_size := (c.t.d.def_ 9 rfl).elim fun fd F => ⟨_, fd, He.glo_ok X G (c.t.d.fact 30 rfl), F⟩
    d_deck_of := (c.t.d.def_ 10 rfl).elim fun fd F => ⟨_, fd, He.glo_ok X G (c.t.d.fact 31 rfl), F⟩
    d_number_of_card := (c.t.d.def_ 11 rfl).elim fun fd F => ⟨_, fd, He.glo_ok X G (c.t.d.fact 32 rfl), F⟩
    d_card_with := (c.t.d.def_ 12 rfl).elim fun fd F => ⟨_, fd, He.glo_ok X G (c.t.d.fact 33 rfl), F⟩
    d_as_hand := (c.t.d.def_ 13 rfl).elim fun fd F => ⟨_, fd, He.glo_ok X G (c.t.d.fact 34 rfl), F⟩
    d_others_of := (c.t.d.def_ 14 rfl).elim fun fd F => ⟨_, fd, He.glo_ok X G (c.t.d.fact 35 rfl), F⟩
    d_both_of := (c.t.d.def_ 15 rfl).elim fun fd F => ⟨_, fd, He.glo_ok X G (c.t.d.fact 36 rfl), F⟩
    d_only_of := (c.t.d.def_ 16 rfl).elim fun fd F => ⟨_, fd, He.glo_ok X G (c.t.d.fact 37 rfl), F⟩
    d_check_marks := (c.t.d.def_ 17 rfl).elim fun fd F => ⟨_, fd, He.glo_ok X G (c.t.d.fact 38 rfl), F⟩
    d_check_number := (c.t.d.def_ 18 rfl).elim fun fd F => ⟨_, fd, He.glo_ok X G (c.t.d.fact 39 rfl), F⟩
    d_check_any_card := (c.t.d.def_ 19 rfl).elim fun fd F => ⟨_, fd, He.glo_ok X G (c.t.d.fact 40 rfl), F⟩
    d_check_hand := (c.t.d.def_ 20 rfl).elim fun fd F => ⟨_, fd, He.glo_ok X G (c.t.d.fact 41 rfl), F⟩
    d_check_marked_hand := (c.t.d.def_ 21 rfl).elim fun fd F => ⟨_, fd, He.glo_ok X G (c.t.d.fact 42 rfl), F⟩
    d_check_two_hands := (c.t.d.def_ 22 rfl).elim fun fd F => ⟨_, fd, He.glo_ok X G (c.t.d.fact 43 rfl), F⟩
    d_check_cards := (c.t.d.def_ 23 rfl).elim fun fd F => ⟨_, fd, He.glo_ok X G (c.t.d.fact 44 rfl), F⟩
    d_is_card := (c.t.d.def_ 24 rfl).elim fun fd F => ⟨_, fd, He.glo_ok X G (c.t.d.fact 45 rfl), F⟩
    d_is_hand := (c.t.d.def_ 25 rfl).elim fun fd F => ⟨_, fd, He.glo_ok X G (c.t.d.fact 46 rfl), F⟩
    d_deck := (c.t.d.def_ 26 rfl).elim fun fd F => ⟨_, fd, He.glo_ok X G (c.t.d.fact 47 rfl), F⟩
    d_card_number := (c.t.d.def_ 27 rfl).elim fun fd F => ⟨_, fd, He.glo_ok X G (c.t.d.fact 48 rfl), F⟩
    d_card_at := (c.t.d.def_ 28 rfl).elim fun fd F => ⟨_, fd, He.glo_ok X G (c.t.d.fact 49 rfl), F⟩
    d_hand_of := (c.t.d.def_ 29 rfl).elim fun fd F => ⟨_, fd, He.glo_ok X G (c.t.d.fact 50 rfl), F⟩
    d_rest_of := (c.t.d.def_ 30 rfl).elim fun fd F => ⟨_, fd, He.glo_ok X G (c.t.d.fact 51 rfl), F⟩
    d_both := (c.t.d.def_ 31 rfl).elim fun fd F => ⟨_, fd, He.glo_ok X G (c.t.d.fact 52 rfl), F⟩
    d_either := (c.t.d.def_ 32 rfl).elim fun fd F => ⟨_, fd, He.glo_ok X G (c.t.d.fact 53 rfl), F⟩
    d_only := (c.t.d.def_ 33 rfl).elim fun fd F => ⟨_, fd, He.glo_ok X G (c.t.d.fact 54 rfl), F⟩
    d_text_of_hand := (c.t.d.def_ 34 rfl).elim fun fd F => ⟨_, fd, He.glo_ok X G (c.t.d.fact 55 rfl), F⟩
    d_hand_told := (c.t.d.def_ 35 rfl).elim fun fd F => ⟨_, fd, He.glo_ok X G (c.t.d.fact 56 rfl), F⟩
    d_check_told := (c.t.d.def_ 36 rfl).elim fun fd F => ⟨_, fd, He.glo_ok X G (c.t.d.fact 57 rfl), F⟩
    d_hand_text := (c.t.d.def_ 37 rfl).elim fun fd F => ⟨_, fd, He.glo_ok X G (c.t.d.fact 58 rfl), F⟩
    d_read_hand := (c.t.d.def_ 38 rfl).elim fun fd F => ⟨_, fd, He.glo_ok X G (c.t.d.fact 59 rfl), F⟩
    d__law_spring := (c.t.d.def_ 39 rfl).elim fun fd F => ⟨_, fd, He.glo_ok X G (c.t.d.fact 60 rfl), F⟩
    d__law_draw := (c.t.d.def_ 40 rfl).elim fun fd F => ⟨_, fd, He.glo_ok X G (c.t.d.fact 61 rfl), F⟩
    d__law_equal := (c.t.d.def_ 41 rfl).elim fun fd F => ⟨_, fd, He.glo_ok X G (c.t.d.fact 62 rfl), F⟩
    d__law_figures := (c.t.d.def_ 42 rfl).elim fun fd F => ⟨_, fd, He.glo_ok X G (c.t.d.fact 63 rfl), F⟩
    d__law_hand := (c.t.d.def_ 43 rfl).elim fun fd F => ⟨_, fd, He.glo_ok X G (c.t.d.fact 64 rfl), F⟩
    d__law_some := (c.t.d.def_ 44 rfl).elim fun fd F => ⟨_, fd, He.glo_ok X G (c.t.d.fact 65 rfl), F⟩
    d__law_is_refused := (c.t.d.def_ 45 rfl).elim fun fd F => ⟨_, fd, He.glo_ok X G (c.t.d.fact 66 rfl), F⟩
    d__law_texts_right := (c.t.d.def_ 46 rfl).elim fun fd F => ⟨_, fd, He.glo_ok X G (c.t.d.fact 67 rfl), F⟩
    d__law_round := (c.t.d.def_ 47 rfl).elim fun fd F => ⟨_, fd, He.glo_ok X G (c.t.d.fact 68 rfl), F⟩
    d_law := (c.t.d.def_ 48 rfl).elim fun fd F => ⟨_, fd, He.glo_ok X G (c.t.d.fact 69 rfl), F⟩
  }
theorem law_end (n : Nat) (hn : PySem.Challenge.rw_thirdgames_k02_whole_cards_as_numbers_of.most = some n) (hn2 : n ≤ sizeLine) (hgo : ∀ ns : List Int, ns.length ≤ n → ∃ S', den_law [.z (ns.map .int)] [] = .ok (.d (.bool true)) S') :
    PySem.W.WalkO (PySem.W.view R.prog [66]) loose (PySem.W.XL (PySem.W.view R.prog [66]) []) hk.says R.toRowW (HandSHeadRun.topDef R.prog 66) [] (fun f vs => PySem.call f vs) := by
  refine walk_g (l := PySem.Challenge.rw_thirdgames_k02_whole_cards_as_numbers_of) (x := "script") (k := 9) (g := den_law) hn hn2 (by kernel_rfl) ⟨rfl, by decide, by decide⟩ (fun w mg fa h Y G hmg0 => ?_) hgo
  obtain ⟨K, KX, c⟩ := Y
  have hmg : mg ("law" : Str) = some (.ref fa) := by
    have e : (HandSHeadRun.topDef R.prog 66).name = ("law" : Str) := by kernel_rfl
    rw [← e]
    exact hmg0
  obtain ⟨f, fd, h1, F, b, H⟩ := k_law (tp_of (P := PySem.Challenge.rw_thirdgames_k02_whole_cards_as_numbers_of.prog) (w := w) KX G c h)
  cases hmg.symm.trans h1
  refine ⟨K, fd, KX, fun s u => ?_, fun base hb1 hb2 => ?_⟩
  · exact F.bindsA (ps := ["script"]) (fun _ _ _ _ _ _ us hl => match us, hl with | [_], _ => rfl) s [u] rfl
  · obtain ⟨f', fd', h1', F', b', H'⟩ := k_law (tp_of (P := PySem.Challenge.rw_thirdgames_k02_whole_cards_as_numbers_of.prog) (w := w) KX G c base)
    cases h1.symm.trans h1'
    rw [fd_eq F F']
    exact H' 
end K02

end
open PySem PySem.W PySem.Calls PyProof.Rows
theorem PySem.Challenge.cw_thirdgames_k02_whole_cards_as_numbers_of_holds : PySem.Challenge.rw_thirdgames_k02_whole_cards_as_numbers_of.Holds := by
  w_on; o_law
  refine HandSHeadRun.head_any (r := OpenLaw.row PySem.Challenge.rw_thirdgames_k02_whole_cards_as_numbers_of) (q := view (OpenLaw.row PySem.Challenge.rw_thirdgames_k02_whole_cards_as_numbers_of).prog [66]) (H := K02.hk) (ob := K02.ob) (M := 6000) (loose := K02.loose) (d := HandSHeadRun.topDef (OpenLaw.row PySem.Challenge.rw_thirdgames_k02_whole_cards_as_numbers_of).prog 66) (kwd := []) K02.ob_eq
    (by kernel_rfl) (fun s => by kernel_rfl) K02.run (by kernel_rfl) (by kernel_rfl) (by kernel_rfl) (by rfl) (by first | assumption | decide +kernel) (by decide +kernel) ⟨rfl, rfl, rfl, rfl, rfl, by decide +kernel⟩ ?hw ?hc
  case hw => w_witness2
  case hc => exact K02.law_end _ rfl (by decide) (fun ns h => K02.e_law ns (Nat.le_trans h (by decide)))

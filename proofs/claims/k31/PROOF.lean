import PyProof.Rows.All
import Wide.All
import OpenK.AllK
import Wide.FinOn
import HandS.ForMost
import HandS.Wide
import HandS.IsInst
import HandS.TupAny
import HandS.TupMul
import HandS.Style
import HandS.Walk
import HandS.Zip
import HandS.Ends
import KE.GoesEnum
import KE.KRevSl
import PyProof.ReprRoads
import PyProof.Rows.ReprR
import PySem.Challenge.RW_donehalfway_k31_whole_far_polys_led_and
set_option Elab.async false
set_option linter.all false
set_option maxRecDepth 100000
set_option maxHeartbeats 4000000
set_option exponentiation.threshold 100000
/-! PL: a layer without the heap over the hand layer: data (PyData) in the names, the readings over these. -/
namespace PL
open PySem PySem.Spec PyProof.Rows L2

/-- what a name holds -/
inductive EV where
  | d (x : PyData)
  | l (xs : List PyData)
  | r (xs : List PyData)
  | b (xs : List PyData)
  | hand
  | o (a : Addr)

abbrev Env := List (Option EV)

/-! ### data on the heap, barred from B -/
def KTup (K : PySem.W.Frag) (a : Addr) (xs : List V) : Prop :=
  ∃ (ob : Obj) (us : Array Value) (m : Nat), K.lookup a = some ob ∧ ob.cls = .type "tuple" ∧ ob.data = .seq us m ∧ us.size ≤ sizeLine ∧ Vals xs us.toList
def KLst (K : PySem.W.Frag) (a : Addr) (xs : List V) : Prop :=
  ∃ (ob : Obj) (us : Array Value) (m : Nat), K.lookup a = some ob ∧ ob.cls = .type "list" ∧ ob.dict = none ∧ ob.data = .seq us m ∧ us.size ≤ sizeLine ∧ Vals xs us.toList
def TB (K : PySem.W.Frag) (B : Addr → Prop) (H : Hp) (a : Addr) (xs : List V) : Prop := (Rd H a (.tup xs) ∧ ¬ B a) ∨ KTup K a xs
def LB (K : PySem.W.Frag) (B : Addr → Prop) (H : Hp) (a : Addr) (xs : List V) : Prop := (Rd H a (.lst xs) ∧ ¬ B a) ∨ KLst K a xs
mutual
inductive Da (K : PySem.W.Frag) (B : Addr → Prop) (H : Hp) : V → PyData → Prop
  | non : Da K B H .non .none
  | bl (b : Bool) : Da K B H (.bl b) (.bool b)
  | int (i : Int) : Da K B H (.int i) (.int i)
  | str (x : Str) : Da K B H (.str x) (.str x)
  | lst {a : Addr} {xs : List V} {ds : List PyData} : LB K B H a xs → DaA K B H xs ds → Da K B H (.ref a) (.list ds)
  | tup {a : Addr} {xs : List V} {ds : List PyData} : TB K B H a xs → DaA K B H xs ds → Da K B H (.ref a) (.tuple ds)
inductive DaA (K : PySem.W.Frag) (B : Addr → Prop) (H : Hp) : List V → List PyData → Prop
  | nil : DaA K B H [] []
  | cons {v : V} {vs : List V} {d : PyData} {ds : List PyData} : Da K B H v d → DaA K B H vs ds → DaA K B H (v :: vs) (d :: ds)
end
section
variable {K : PySem.W.Frag} {B B' : Addr → Prop} {H H' : Hp}
theorem TB.sq {a : Addr} {xs : List V} (h : TB K B H a xs) : SqT K H a xs := h.elim (fun h => .inl h.1) .inr
theorem LB.sq {a : Addr} {xs : List V} (h : LB K B H a xs) : SqL K H a xs := h.elim (fun h => .inl h.1) .inr
/-- what a change of heap and of the barred places must leave -/
def Kp (B B' : Addr → Prop) (H H' : Hp) : Prop := ∀ a o, ¬ B a → H a = some o → ¬ B' a ∧ H' a = some o
theorem Rd.kp {a : Addr} {u : HO} (k : Kp B B' H H') (h : Rd H a u) (n : ¬ B a) : Rd H' a u ∧ ¬ B' a := by
  rcases h with h | ⟨o, h⟩
  · exact ⟨.inl (k a _ n h).2, (k a _ n h).1⟩
  · exact ⟨.inr ⟨o, (k a _ n h).2⟩, (k a _ n h).1⟩
theorem TB.kp {a : Addr} {xs : List V} (k : Kp B B' H H') (h : TB K B H a xs) : TB K B' H' a xs := h.elim (fun h => .inl (Rd.kp k h.1 h.2)) .inr
theorem LB.kp {a : Addr} {xs : List V} (k : Kp B B' H H') (h : LB K B H a xs) : LB K B' H' a xs := h.elim (fun h => .inl (Rd.kp k h.1 h.2)) .inr
mutual
theorem Da.kp (k : Kp B B' H H') : ∀ (d : PyData) (v : V), Da K B H v d → Da K B' H' v d
  | .none, _, h => by cases h; exact .non
  | .bool b, _, h => by cases h; exact .bl b
  | .int i, _, h => by cases h; exact .int i
  | .str x, _, h => by cases h; exact .str x
  | .list ds, _, h => by
    cases h with
    | lst h1 h2 => exact .lst (h1.kp k) (DaA.kp k ds _ h2)
  | .tuple ds, _, h => by
    cases h with
    | tup h1 h2 => exact .tup (h1.kp k) (DaA.kp k ds _ h2)
  | .dict _, _, h => by cases h
theorem DaA.kp (k : Kp B B' H H') : ∀ (ds : List PyData) (vs : List V), DaA K B H vs ds → DaA K B' H' vs ds
  | [], _, h => by cases h; exact .nil
  | d :: ds, _, h => by
    cases h with
    | cons h1 h2 => exact .cons (Da.kp k d _ h1) (DaA.kp k ds _ h2)
end
mutual
theorem Da.dp : ∀ (d : PyData) (v : V), Da K B H v d → Dp K H v d
  | .none, _, h => by cases h; exact .non
  | .bool b, _, h => by cases h; exact .bl b
  | .int i, _, h => by cases h; exact .int i
  | .str x, _, h => by cases h; exact .str x
  | .list ds, _, h => by
    cases h with
    | lst h1 h2 => exact .lst h1.sq (DaA.dp ds _ h2)
  | .tuple ds, _, h => by
    cases h with
    | tup h1 h2 => exact .tup h1.sq (DaA.dp ds _ h2)
  | .dict _, _, h => by cases h
theorem DaA.dp : ∀ (ds : List PyData) (vs : List V), DaA K B H vs ds → DpAll K H vs ds
  | [], _, h => by cases h; exact .nil
  | d :: ds, _, h => by
    cases h with
    | cons h1 h2 => exact .cons (Da.dp d _ h1) (DaA.dp ds _ h2)
end
theorem DaA.length : ∀ {vs : List V} {ds : List PyData}, DaA K B H vs ds → vs.length = ds.length
  | _, _, .nil => rfl
  | _, _, .cons _ t => by simp [DaA.length t]
theorem DaA.get : ∀ {vs : List V} {ds : List PyData} {i : Nat} {d : PyData}, DaA K B H vs ds → ds[i]? = some d → ∃ v, vs[i]? = some v ∧ Da K B H v d
  | _, _, _, _, .nil, e => by simp at e
  | _, _, 0, _, .cons h _, e => by simp at e; subst e; exact ⟨_, rfl, h⟩
  | _, _, i + 1, d, .cons _ t, e => by
    obtain ⟨v, h1, h2⟩ := DaA.get (i := i) (d := d) t (by simpa using e)
    exact ⟨v, by simpa using h1, h2⟩
theorem DaA.getV : ∀ {vs : List V} {ds : List PyData} {i : Nat} {v : V}, DaA K B H vs ds → vs[i]? = some v → ∃ d, ds[i]? = some d ∧ Da K B H v d
  | _, _, _, _, .nil, e => by simp at e
  | _, _, 0, _, .cons h _, e => by simp at e; subst e; exact ⟨_, rfl, h⟩
  | _, _, i + 1, v, .cons _ t, e => by
    obtain ⟨d, h1, h2⟩ := DaA.getV (i := i) (v := v) t (by simpa using e)
    exact ⟨d, by simpa using h1, h2⟩
theorem DaA.take : ∀ {vs : List V} {ds : List PyData} (n : Nat), DaA K B H vs ds → DaA K B H (vs.take n) (ds.take n)
  | _, _, 0, _ => .nil
  | _, _, _ + 1, .nil => .nil
  | _, _, n + 1, .cons h t => .cons h (DaA.take n t)
theorem DaA.drop : ∀ {vs : List V} {ds : List PyData} (n : Nat), DaA K B H vs ds → DaA K B H (vs.drop n) (ds.drop n)
  | _, _, 0, h => h
  | _, _, _ + 1, .nil => .nil
  | _, _, n + 1, .cons _ t => DaA.drop n t
theorem DaA.append : ∀ {vs ws : List V} {ds es : List PyData}, DaA K B H vs ds → DaA K B H ws es → DaA K B H (vs ++ ws) (ds ++ es)
  | _, _, _, _, .nil, s => s
  | _, _, _, _, .cons h t, s => .cons h (DaA.append t s)
theorem DaA.set {v : V} {d : PyData} (h : Da K B H v d) : ∀ {vs : List V} {ds : List PyData} (i : Nat), DaA K B H vs ds → DaA K B H (vs.set i v) (ds.set i d)
  | _, _, _, .nil => .nil
  | _, _, 0, .cons _ t => .cons h t
  | _, _, i + 1, .cons g t => .cons g (DaA.set h i t)
theorem DaA.reverse {vs : List V} {ds : List PyData} (h : DaA K B H vs ds) : DaA K B H vs.reverse ds.reverse := by
  induction vs generalizing ds with
  | nil => cases h; exact .nil
  | cons v vs ih =>
    cases h with
    | cons h1 h2 =>
      rw [List.reverse_cons, List.reverse_cons]
      exact (ih h2).append (.cons h1 .nil)
theorem DaA.rep {vs : List V} {ds : List PyData} (h : DaA K B H vs ds) : ∀ k : Nat, DaA K B H (List.replicate k vs).flatten (List.replicate k ds).flatten
  | 0 => .nil
  | k + 1 => by
    rw [List.replicate_succ, List.replicate_succ, List.flatten_cons, List.flatten_cons]
    exact h.append (DaA.rep h k)
theorem DaA.ints : ∀ {vs : List V} {ns : List Int}, DaA K B H vs (ns.map .int) → vs = ns.map V.int
  | _, [], h => by cases h; rfl
  | _, n :: ns, h => by
    cases h with
    | cons h1 h2 =>
      cases h1
      rw [DaA.ints h2]
      rfl
theorem DaA.bools : ∀ {vs : List V} {ns : List Bool}, DaA K B H vs (ns.map .bool) → vs = ns.map V.bl
  | _, [], h => by cases h; rfl
  | _, n :: ns, h => by
    cases h with
    | cons h1 h2 =>
      cases h1
      rw [DaA.bools h2]
      rfl
end

/-! ### the hand: a list that draws change -/
def Cells (xs : List Int) : Prop := xs.length ≤ 60 ∧ ∀ x ∈ xs, 0 ≤ x ∧ x < 10 ^ 40
structure HandSt (H : Hp) (h c : Addr) (len : Nat) : Prop where
  ex : ∃ (i left mix n : Int), H h = some (.lst [.ref c, .int i, .int left, .int mix, .int n]) ∧ 0 ≤ i ∧ (0 ≤ left ∧ left < 10 ^ 40) ∧ (0 ≤ mix ∧ mix < 2 ^ 31) ∧ 0 ≤ n
theorem HandSt.there {H : Hp} {h c : Addr} {l : Nat} (x : HandSt H h c l) : H h ≠ none := by
  obtain ⟨i, l, m, n, e, _⟩ := x.ex
  rw [e]; simp
theorem HandSt.kp {H H' : Hp} {h c : Addr} {l : Nat} (x : HandSt H h c l) (e : ∀ o, H h = some o → H' h = some o) : HandSt H' h c l := by
  obtain ⟨i, l, m, n, e1, e3⟩ := x.ex
  exact ⟨i, l, m, n, e _ e1, e3⟩

/-- behind an expression: all that stood stands but the hand -/
structure Ext (hd : Option Addr) (H H' : Hp) : Prop where
  keep : ∀ a o, some a ≠ hd → H a = some o → H' a = some o
  hand : ∀ h c l, hd = some h → HandSt H h c l → HandSt H' h c l
/-- the places that are barred now are alive, the hand is one of them -/
structure BOk (K : PySem.W.Frag) (hd : Option Addr) (B : Addr → Prop) (H : Hp) : Prop where
  live : ∀ a, B a → H a ≠ none
  hand : ∀ h, hd = some h → (∃ c xs, HandSt H h c xs.length ∧ LB K B H c (xs.map V.int) ∧ Cells xs) ∧ B h
section
variable {K : PySem.W.Frag} {hd : Option Addr} {B B' : Addr → Prop} {H H1 H2 H' : Hp}
theorem Ext.refl : Ext hd H H := ⟨fun _ _ _ h => h, fun _ _ _ _ h => h⟩
theorem Ext.trans (a : Ext hd H H1) (b : Ext hd H1 H2) : Ext hd H H2 := ⟨fun x o n h => b.keep x o n (a.keep x o n h), fun h c l e x => b.hand h c l e (a.hand h c l e x)⟩
theorem Ext.kp (x : Ext hd H H') (hB : ∀ h, hd = some h → B h) : Kp B B H H' := fun a o n e => ⟨n, x.keep a o (fun z => n (hB a z.symm)) e⟩
theorem BOk.hok (b : BOk K hd B H) : ∀ h, hd = some h → ∃ c l, HandSt H h c l := fun h e => let ⟨c, xs, y, _⟩ := (b.hand h e).1; ⟨c, _, y⟩
theorem BOk.hB (b : BOk K hd B H) : ∀ h, hd = some h → B h := fun h e => (b.hand h e).2
theorem BOk.hT (b : BOk K hd B H) : ∀ h, hd = some h → H h ≠ none := fun h e => let ⟨_, _, y⟩ := b.hok h e; y.there
theorem BOk.new (b : BOk K hd B H) {p : Addr} (hp : H p = none) : ¬ B p := fun z => b.live p z hp
theorem BOk.nh (b : BOk K hd B H) {p : Addr} (hp : H p = none) : some p ≠ hd := fun z => b.hT p z.symm hp
theorem Ext.free (x : Ext hd H H') (ok : ∀ h, hd = some h → ∃ c l, HandSt H h c l) {p : Addr} (e : H' p = none) : H p = none := by
  cases q : H p with
  | none => rfl
  | some o =>
    by_cases z : some p = hd
    · obtain ⟨c, l, y⟩ := ok p z.symm
      have y := (x.hand p c l z.symm y).there
      exact absurd e y
    · rw [x.keep p o z q] at e
      cases e
theorem Ext.new {p : Addr} {o : HO} (hp : H p = none) : Ext hd H (upd H p o) := by
  have k : ∀ a u, H a = some u → upd H p o a = some u := fun a u e => by
    rw [upd_ne (ne_of_none e hp)]
    exact e
  exact ⟨fun a u _ e => k a u e, fun h c l e x => x.kp fun o' e' => k h o' e'⟩
theorem BOk.ext (b : BOk K hd B H) (x : Ext hd H H') : BOk K hd B H' := by
  refine ⟨fun a h => ?_, fun h e => ?_⟩
  · by_cases z : some a = hd
    · obtain ⟨c, l, y⟩ := b.hok a z.symm
      exact (x.hand a c l z.symm y).there
    · cases q : H a with
      | none => exact absurd q (b.live a h)
      | some o =>
        rw [x.keep a o z q]
        simp
  · obtain ⟨⟨c, xs, y, y2, y3⟩, y4⟩ := b.hand h e
    exact ⟨⟨c, xs, x.hand h c _ e y, y2.kp (x.kp b.hB), y3⟩, y4⟩
end
abbrev Bp (B : Addr → Prop) (p : Addr) : Addr → Prop := fun a => B a ∨ a = p
theorem kp_new {B : Addr → Prop} {H : Hp} {p : Addr} {o : HO} (hp : H p = none) : Kp B (Bp B p) H (upd H p o) := fun a u n e => by
  have ne : a ≠ p := ne_of_none e hp
  refine ⟨fun z => z.elim n ne, ?_⟩
  rw [upd_ne ne]
  exact e
theorem kp_new0 {B : Addr → Prop} {H : Hp} {p : Addr} {o : HO} (hp : H p = none) : Kp B B H (upd H p o) := fun a u n e => ⟨n, by
  rw [upd_ne (ne_of_none e hp)]
  exact e⟩
theorem kp_less {B B' : Addr → Prop} {H : Hp} (h : ∀ a, B' a → B a) : Kp B B' H H := fun a o n e => ⟨fun z => n (h a z), e⟩

/-- what an expression gives, from a heap H on to H' -/
def RR (K : PySem.W.Frag) (hd : Option Addr) (B U : Addr → Prop) (H H' : Hp) (v : V) : EV → Prop
  | .d x => Da K B H' v x
  | .l xs => ∃ a vs, v = .ref a ∧ H a = none ∧ H' a = some (.lst vs) ∧ DaA K (Bp B a) H' vs xs
  | .r xs => ∃ a vs, v = .ref a ∧ H' a = some (.lst vs) ∧ some a ≠ hd ∧ DaA K B H' vs xs ∧ ¬ U a
  | .b xs => ∃ a vs, v = .ref a ∧ H' a = some (.lst vs) ∧ some a ≠ hd ∧ DaA K B H' vs xs
  | .hand => ∃ a, v = .ref a ∧ hd = some a
  | .o a => v = .ref a
/-- a list of such -/
inductive RRs (K : PySem.W.Frag) (hd : Option Addr) (B U : Addr → Prop) (H H' : Hp) : List V → List EV → Prop
  | nil : RRs K hd B U H H' [] []
  | cons {v : V} {vs : List V} {e : EV} {es : List EV} : RR K hd B U H H' v e → RRs K hd B U H H' vs es → RRs K hd B U H H' (v :: vs) (e :: es)
section
variable {K : PySem.W.Frag} {hd : Option Addr} {B B' U : Addr → Prop} {H H1 H2 H' : Hp} {v : V} {e : EV}
theorem SqL.keep {a : Addr} {xs : List V} (x : ∀ b o, some b ≠ hd → H1 b = some o → H2 b = some o) (n : some a ≠ hd) (h : SqL K H1 a xs) : SqL K H2 a xs := by
  rcases h with (h | ⟨o, h⟩) | h
  · exact .inl (.inl (x _ _ n h))
  · exact .inl (.inr ⟨o, x _ _ n h⟩)
  · exact .inr h
theorem bp_hand {p : Addr} (b : BOk K hd B H) (hp : H p = none) : ∀ h, hd = some h → ¬ h = p := fun h e z => b.hT h e (z ▸ hp)
/-- further on -/
theorem RR.ext (b : BOk K hd B H) (x1 : Ext hd H H1) (x : Ext hd H1 H2) (h : RR K hd B U H H1 v e) : RR K hd B U H H2 v e := by
  have b1 := b.ext x1
  cases e with
  | d y => exact Da.kp (x.kp b1.hB) _ _ h
  | l xs =>
    obtain ⟨a, vs, e1, e2, e3, e4⟩ := h
    have na : some a ≠ hd := b.nh e2
    refine ⟨a, vs, e1, e2, x.keep a _ na e3, DaA.kp ?_ _ _ e4⟩
    intro c o n q
    exact ⟨n, x.keep c o (fun z => n (.inl (b1.hB c z.symm))) q⟩
  | r xs =>
    obtain ⟨a, vs, e1, e2, e3, e4⟩ := h
    exact ⟨a, vs, e1, x.keep a _ e3 e2, e3, DaA.kp (x.kp b1.hB) _ _ e4.1, e4.2⟩
  | b xs =>
    obtain ⟨a, vs, e1, e2, e3, e4⟩ := h
    exact ⟨a, vs, e1, x.keep a _ e3 e2, e3, DaA.kp (x.kp b1.hB) _ _ e4⟩
  | hand => exact h
  | o a => exact h
/-- from further back -/
theorem RR.back (b : BOk K hd B H) (x : Ext hd H H1) (h : RR K hd B U H1 H2 v e) : RR K hd B U H H2 v e := by
  cases e with
  | l xs =>
    obtain ⟨a, vs, e1, e2, e3⟩ := h
    exact ⟨a, vs, e1, x.free b.hok e2, e3⟩
  | d y => exact h
  | r xs => exact h
  | b xs => exact h
  | hand => exact h
  | o a => exact h
theorem RRs.ext {vs : List V} {es : List EV} (b : BOk K hd B H) (x1 : Ext hd H H1) (x : Ext hd H1 H2) (h : RRs K hd B U H H1 vs es) : RRs K hd B U H H2 vs es := by
  induction h with
  | nil => exact .nil
  | cons a _ ih => exact .cons (a.ext b x1 x) ih
theorem RRs.back {vs : List V} {es : List EV} (b : BOk K hd B H) (x : Ext hd H H1) (h : RRs K hd B U H1 H2 vs es) : RRs K hd B U H H2 vs es := by
  induction h with
  | nil => exact .nil
  | cons a _ ih => exact .cons (a.back b x) ih
/-- a new list as data -/
theorem RR.toD {xs : List PyData} (b : BOk K hd B H) (h : RR K hd B U H H' v (.l xs)) : RR K hd B U H H' v (.d (.list xs)) := by
  obtain ⟨a, vs, rfl, e2, e3, e4⟩ := h
  exact .lst (.inl ⟨.inl e3, b.new e2⟩) (DaA.kp (kp_less fun c z => .inl z) _ _ e4)
end

/-! ### the names -/
/-- where a body stands: the hand's place at the entry and now, what is barred from data at the entry and now, what the body may change, the heap at the entry -/
structure Ws where
  hd0 : Option Addr
  hd : Option Addr
  B0 : Addr → Prop
  H0 : Hp
  B : Addr → Prop
  U : Addr → Prop

/-- what a name holds -/
def ER (K : PySem.W.Frag) (w : Ws) (H : Hp) (v : V) : EV → Prop
  | .d x => Da K w.B H v x
  | .l xs => ∃ a vs, v = .ref a ∧ H a = some (.lst vs) ∧ DaA K w.B H vs xs ∧ w.U a ∧ w.H0 a = none ∧ some a ≠ w.hd
  | .r xs => ∃ a vs, v = .ref a ∧ H a = some (.lst vs) ∧ ¬ w.U a ∧ some a ≠ w.hd ∧ DaA K w.B H vs xs
  | .b _ => False
  | .hand => ∃ a, v = .ref a ∧ w.hd = some a
  | .o a => v = .ref a

structure SR (K : PySem.W.Frag) (w : Ws) (H : Hp) (σ : L2.St) (ρ : Env) : Prop where
  len : σ.length = ρ.length
  keep : ∀ a o, some a ≠ w.hd → w.H0 a = some o → H a = some o
  bok : BOk K w.hd w.B H
  bok0 : BOk K w.hd0 w.B0 w.H0
  hds : w.hd = w.hd0 ∨ (w.hd0 = none ∧ ∃ h, w.hd = some h ∧ w.H0 h = none)
  ub : ∀ a, w.U a → w.B a
  b0 : ∀ a, w.B0 a → w.B a
  uh : ∀ h, w.hd = some h → w.U h
  u0 : ∀ a, w.U a → some a ≠ w.hd → w.H0 a = none
  slot : ∀ (i : Nat) e, ρ[i]? = some (some e) → ∃ v, σ[i]? = some (some v) ∧ ER K w H v e
  dist : ∀ (i j : Nat) xs ys a, i ≠ j → ρ[i]? = some (some (.l xs)) → ρ[j]? = some (some (.l ys)) → σ[i]? = some (some (.ref a)) → σ[j]? ≠ some (some (.ref a))
  hk : ∀ h c l, w.hd0 = some h → HandSt w.H0 h c l → HandSt H h c l

section
variable {K : PySem.W.Frag} {w : Ws} {H H' : Hp} {σ : L2.St} {ρ : Env} {v : V} {e : EV}
theorem ER.ext (b : BOk K w.hd w.B H) (x : Ext w.hd H H') (h : ER K w H v e) : ER K w H' v e := by
  cases e with
  | d y => exact Da.kp (x.kp b.hB) _ _ h
  | l xs =>
    obtain ⟨a, vs, e1, e2, e3, e4, e5, e6⟩ := h
    exact ⟨a, vs, e1, x.keep a _ e6 e2, DaA.kp (x.kp b.hB) _ _ e3, e4, e5, e6⟩
  | r xs =>
    obtain ⟨a, vs, e1, e2, e3, e4, e5⟩ := h
    exact ⟨a, vs, e1, x.keep a _ e4 e2, e3, e4, DaA.kp (x.kp b.hB) _ _ e5⟩
  | b xs => exact h
  | hand => exact h
  | o a => exact h
theorem SR.hd_of (s : SR K w H σ ρ) {h : Addr} (e : w.hd0 = some h) : w.hd = some h := by
  rcases s.hds with y | ⟨y, _⟩
  · exact y.trans e
  · rw [y] at e
    cases e
theorem SR.ext (s : SR K w H σ ρ) (x : Ext w.hd H H') : SR K w H' σ ρ :=
  ⟨s.len, fun a o n e => x.keep a o n (s.keep a o n e), s.bok.ext x, s.bok0, s.hds, s.ub, s.b0, s.uh, s.u0, fun i e h => let ⟨v, h1, h2⟩ := s.slot i e h; ⟨v, h1, h2.ext s.bok x⟩, s.dist, fun h c l e q => x.hand h c l (s.hd_of e) (s.hk h c l e q)⟩
end
end PL
namespace PL
open PySem PySem.Spec PyProof.Rows L2

abbrev PTE := Env → (EV → Prop) → Prop
abbrev PTT := Env → (Bool → Prop) → Prop
abbrev PTA := Env → (List EV → Prop) → Prop

def liftE (K : PySem.W.Frag) (tp : PTE) : TE := fun σ H Q => ∃ (w : Ws) (ρ : Env) (q : EV → Prop), SR K w H σ ρ ∧ tp ρ q ∧ ∀ v H' e, Ext w.hd H H' → RR K w.hd w.B w.U H H' v e → q e → Q v H'
def liftT (K : PySem.W.Frag) (tp : PTT) : TT := fun σ H Q => ∃ (w : Ws) (ρ : Env) (q : Bool → Prop), SR K w H σ ρ ∧ tp ρ q ∧ ∀ b H', Ext w.hd H H' → q b → Q b H'
def liftA (K : PySem.W.Frag) (tp : PTA) : TA := fun σ H Q => ∃ (w : Ws) (ρ : Env) (q : List EV → Prop), SR K w H σ ρ ∧ tp ρ q ∧ ∀ vs H' es, Ext w.hd H H' → RRs K w.hd w.B w.U H H' vs es → q es → Q vs H'
abbrev QE (X : Cx) (e : Expr) (tp : PTE) : Prop := PE X e (liftE X.K tp)
abbrev QT (X : Cx) (e : Expr) (tp : PTT) : Prop := PT X e (liftT X.K tp)
abbrev QA (X : Cx) (es : List Expr) (tp : PTA) : Prop := PA X es (liftA X.K tp)

theorem PE.imp {X : Cx} {e : Expr} {t u : TE} (h : PE X e t) (i : ∀ σ H Q, u σ H Q → t σ H Q) : PE X e u := ⟨fun pins s σ H Q I x => h.run pins s σ H Q I (i σ H Q x)⟩
theorem PT.imp {X : Cx} {e : Expr} {t u : TT} (h : PT X e t) (i : ∀ σ H Q, u σ H Q → t σ H Q) : PT X e u := ⟨fun pins s σ H Q I x => h.run pins s σ H Q I (i σ H Q x)⟩
theorem PA.imp {X : Cx} {e : List Expr} {t u : TA} (h : PA X e t) (i : ∀ σ H Q, u σ H Q → t σ H Q) : PA X e u := ⟨fun pos pins s σ H Q I x => h.run pos pins s σ H Q I (i σ H Q x)⟩

/-! ### what stands in the pure readings -/
def EV.rd : EV → EV
  | .l xs => .b xs
  | e => e
def EV.dat : EV → Option PyData
  | .d x => some x
  | .l xs => some (.list xs)
  | _ => none
/-- data to be looked at -/
def EV.look : EV → Option PyData
  | .d x => some x
  | .l xs => some (.list xs)
  | .r xs => some (.list xs)
  | .b xs => some (.list xs)
  | _ => none
def EV.seq : EV → Option (List PyData)
  | .d (.list xs) => some xs
  | .d (.tuple xs) => some xs
  | .l xs => some xs
  | .r xs => some xs
  | .b xs => some xs
  | _ => none
def EV.lst : EV → Option (List PyData)
  | .d (.list xs) => some xs
  | .l xs => some xs
  | .r xs => some xs
  | .b xs => some xs
  | _ => none
def truthD : PyData → Option Bool
  | .none => some false
  | .bool b => some b
  | .int i => some (i != 0)
  | .str y => if y.length ≤ sizeLine then some ((y.length : Int) != 0) else none
  | .list xs => some (!xs.isEmpty)
  | .tuple xs => some (!xs.isEmpty)
  | .dict _ => none
def pVar (i : Nat) : PTE := fun ρ Q => match ρ[i]? with
  | some (some e) => Q e.rd
  | _ => False
def pC (x : PyData) : PTE := fun _ Q => Q (.d x)
abbrev P2 := EV → EV → (EV → Prop) → Prop
def pOp (p : P2) (a b : PTE) : PTE := fun ρ Q => a ρ fun x => b ρ fun y => p x y Q
abbrev P1 := EV → (EV → Prop) → Prop
def pUn (p : P1) (a : PTE) : PTE := fun ρ Q => a ρ fun x => p x Q
def pNil : PTA := fun _ Q => Q []
def pCons (a : PTE) (t : PTA) : PTA := fun ρ Q => a ρ fun x => t ρ fun xs => Q (x :: xs)
def pTest (t : PTE) : PTT := fun ρ Q => t ρ fun e => ∃ b, e = .d (.bool b) ∧ Q b
def pTruth (t : PTE) : PTT := fun ρ Q => t ρ fun e => ∃ x b, e.look = some x ∧ truthD x = some b ∧ Q b
def pAnd (a b : PTT) : PTT := fun ρ Q => a ρ fun c => if c = true then b ρ Q else Q false
def pOr (a b : PTT) : PTT := fun ρ Q => a ρ fun c => if c = true then Q true else b ρ Q
def pNot (a : PTT) : PTT := fun ρ Q => a ρ fun c => Q (!c)
def pAndV (a b : PTE) : PTE := fun ρ Q => a ρ fun x => ∃ c, x = .d (.bool c) ∧ if c = true then b ρ Q else Q (.d (.bool false))
def pOrV (a b : PTE) : PTE := fun ρ Q => a ρ fun x => ∃ c, x = .d (.bool c) ∧ if c = true then Q (.d (.bool true)) else b ρ Q
def pNotV (a : PTE) : PTE := fun ρ Q => a ρ fun x => ∃ c, x = .d (.bool c) ∧ Q (.d (.bool (!c)))
def pIfE (t : PTT) (a b : PTE) : PTE := fun ρ Q => t ρ fun c => if c = true then a ρ Q else b ρ Q
def pTup (t : PTA) : PTE := fun ρ Q => t ρ fun es => ∃ ds, es.mapM EV.dat = some ds ∧ ds.length ≤ 100000 ∧ Q (.d (.tuple ds))
def pLst (t : PTA) : PTE := fun ρ Q => t ρ fun es => ∃ ds, es.mapM EV.dat = some ds ∧ ds.length ≤ 100000 ∧ Q (.l ds)

section
variable {X : Cx} {a b : Expr} {ta tb : PTE} {pos : Pos}
theorem ER.rr {K : PySem.W.Frag} {w : Ws} {H : Hp} {v : V} {e : EV} (h : ER K w H v e) : RR K w.hd w.B w.U H H v e.rd := by
  cases e with
  | d y => exact h
  | l xs =>
    obtain ⟨a, vs, e1, e2, e3, e4, e5, e6⟩ := h
    exact ⟨a, vs, e1, e2, e6, e3⟩
  | r xs =>
    obtain ⟨a, vs, e1, e2, e3, e4, e5⟩ := h
    exact ⟨a, vs, e1, e2, e4, e5, e3⟩
  | b xs => exact h.elim
  | hand => exact h
  | o a => exact h
theorem qe_var {i : Nat} {x : Str} (h : PE X (.Name x pos) (tVar i)) : QE X (.Name x pos) (pVar i) := PE.imp h fun σ H Q ⟨w, ρ, q, s, hp, k⟩ => by
  unfold pVar at hp
  split at hp
  · rename_i e he
    obtain ⟨v, h1, h2⟩ := s.slot i e he
    exact ⟨v, h1, k v H _ .refl h2.rr hp⟩
  · exact hp.elim
theorem qe_const {v : V} {x : PyData} {e : Expr} (h : PE X e (tC v)) (r : ∀ B H, Da X.K B H v x) : QE X e (pC x) := PE.imp h fun σ H Q ⟨w, ρ, q, s, hp, k⟩ => k v H (.d x) .refl (r _ _) hp
theorem qe_int {i : Int} {j} : QE X (.Constant (.int i) j pos) (pC (.int i)) := qe_const pe_int fun _ _ => .int i
theorem qe_bl {i : Bool} {j} : QE X (.Constant (.bool i) j pos) (pC (.bool i)) := qe_const pe_bl fun _ _ => .bl i
theorem qe_non {j} : QE X (.Constant .none j pos) (pC .none) := qe_const pe_non fun _ _ => .non
theorem qe_str {x : Str} {j} : QE X (.Constant (.str x) j pos) (pC (.str x)) := qe_const pe_str fun _ _ => .str x

/-- two operands, told by their values -/
def Op2 (K : PySem.W.Frag) (r : R2) (p : P2) : Prop := ∀ hd B U H H2 x y ex ey (Q : VK) (q : EV → Prop), BOk K hd B H → Ext hd H H2 → RR K hd B U H H2 x ex → RR K hd B U H H2 y ey → p ex ey q →
  (∀ v H' e, Ext hd H2 H' → RR K hd B U H2 H' v e → q e → Q v H') → r x y H2 Q
def Op1 (K : PySem.W.Frag) (r : V → Hp → VK → Prop) (p : P1) : Prop := ∀ hd B U H H2 x ex (Q : VK) (q : EV → Prop), BOk K hd B H → Ext hd H H2 → RR K hd B U H H2 x ex → p ex q →
  (∀ v H' e, Ext hd H2 H' → RR K hd B U H2 H' v e → q e → Q v H') → r x H2 Q
theorem lift_op {r : R2} {p : P2} (o : Op2 X.K r p) : ∀ σ H Q, liftE X.K (pOp p ta tb) σ H Q → tOp r (liftE X.K ta) (liftE X.K tb) σ H Q := by
  rintro σ H Q ⟨w, ρ, q, s, hp, k⟩
  refine ⟨w, ρ, _, s, hp, fun x H1 ex x1 r1 hp => ?_⟩
  refine ⟨w, ρ, _, s.ext x1, hp, fun y H2 ey x2 r2 hp => ?_⟩
  exact o w.hd w.B w.U H H2 x y ex ey Q q s.bok (x1.trans x2) (r1.ext s.bok x1 x2) (r2.back s.bok x1) hp fun v H' e x3 r3 hq => k v H' e ((x1.trans x2).trans x3) (r3.back s.bok (x1.trans x2)) hq
theorem lift_un {r : V → Hp → VK → Prop} {p : P1} (o : Op1 X.K r p) : ∀ σ H Q, liftE X.K (pUn p ta) σ H Q → tUn r (liftE X.K ta) σ H Q := by
  rintro σ H Q ⟨w, ρ, q, s, hp, k⟩
  refine ⟨w, ρ, _, s, hp, fun x H1 ex x1 r1 hp => ?_⟩
  exact o w.hd w.B w.U H H1 x ex Q q s.bok x1 r1 hp fun v H' e x3 r3 hq => k v H' e (x1.trans x3) (r3.back s.bok x1) hq
theorem qe_op {op : Operator} {r : R2} {p : P2} (o : Op2 X.K r p) (ho : OpR X (binaryOp op) r) (ha : QE X a ta) (hb : QE X b tb) : QE X (.BinOp a op b pos) (pOp p ta tb) := PE.imp (pe_op ho ha hb) (lift_op o)
theorem qe_un {op : UnaryOp} {r : V → Hp → VK → Prop} {p : P1} (o : Op1 X.K r p) (ho : UnR X (unaryOp op) r) (ha : QE X a ta) : QE X (.UnaryOp op a pos) (pUn p ta) := PE.imp (pe_un ho ha) (lift_un o)
theorem qe_cmp {op : CmpOp} {r : R2} {p : P2} (o : Op2 X.K r p) (ho : OpR X (compareOp op) r) (ha : QE X a ta) (hb : QE X b tb) (hm : behindInMarks op b = false := by first | exact nomark _ | rfl) : QE X (.Compare a [op] [b] pos) (pOp p ta tb) := PE.imp (pe_cmpR ho ha hb hm) (lift_op o)
theorem lift_test {t : TE} {tp : PTE} (h : ∀ σ H Q, liftE X.K tp σ H Q → t σ H Q) : ∀ σ H Q, liftT X.K (pTest tp) σ H Q → tTest t σ H Q := by
  rintro σ H Q ⟨w, ρ, q, s, hp, k⟩
  refine h σ H _ ⟨w, ρ, _, s, hp, fun v H1 e x1 r1 hp => ?_⟩
  obtain ⟨b, rfl, hq⟩ := hp
  cases r1
  exact ⟨b, rfl, k b H1 x1 hq⟩
theorem qt_cmp {op : CmpOp} {r : R2} {p : P2} (o : Op2 X.K r p) (ho : OpR X (compareOp op) r) (ha : QE X a ta) (hb : QE X b tb) (hm : behindInMarks op b = false := by first | exact nomark _ | rfl) : QT X (.Compare a [op] [b] pos) (pTest (pOp p ta tb)) := PT.imp (pt_cmpR ho ha hb hm) (lift_test (lift_op o))
/-- truth -/
theorem tru_of {K : PySem.W.Frag} {hd : Option Addr} {B U : Addr → Prop} {H H1 : Hp} {v : V} {e : EV} {x : PyData} {k : Bool} (h : RR K hd B U H H1 v e) (hl : e.look = some x) (ht : truthD x = some k) : TruV K v H1 k := by
  have fl : ∀ {xs : List PyData} {vs : List V} {B' : Addr → Prop}, DaA K B' H1 vs xs → (!xs.isEmpty) = !vs.isEmpty := fun h => by cases h <;> rfl
  have lst : ∀ {xs : List PyData} {a : Addr} {vs : List V} {B' : Addr → Prop}, SqL K H1 a vs → DaA K B' H1 vs xs → some (!xs.isEmpty) = some k → TruV K (.ref a) H1 k := fun h1 h2 h3 => by
    refine .inl ⟨_, h1, ?_⟩
    rw [← fl h2]
    exact (Option.some.inj h3).symm
  cases e with
  | d y =>
    cases hl
    cases h with
    | non => exact (Option.some.inj ht).symm
    | bl b => exact (Option.some.inj ht).symm
    | int i => exact (Option.some.inj ht).symm
    | str z =>
      by_cases hz : z.length ≤ sizeLine
      · have e1 : truthD (.str z) = some ((z.length : Int) != 0) := by simp only [truthD, if_pos hz]
        rw [e1] at ht
        exact ⟨hz, (Option.some.inj ht).symm⟩
      · have e1 : truthD (.str z) = none := by simp only [truthD, if_neg hz]
        rw [e1] at ht
        cases ht
    | lst h1 h2 => exact lst h1.sq h2 ht
    | tup h1 h2 =>
      refine .inr (.inl ⟨_, h1.sq, ?_⟩)
      rw [← fl h2]
      exact (Option.some.inj ht).symm
  | l xs =>
    cases hl
    obtain ⟨a, vs, rfl, e2, e3, e4⟩ := h
    exact lst (.inl (.inl e3)) e4 ht
  | r xs =>
    cases hl
    obtain ⟨a, vs, rfl, e2, e3, e4, _⟩ := h
    exact lst (.inl (.inl e2)) e4 ht
  | b xs =>
    cases hl
    obtain ⟨a, vs, rfl, e2, e3, e4⟩ := h
    exact lst (.inl (.inl e2)) e4 ht
  | hand => cases hl
  | o a => cases hl
theorem qt_truth (ha : QE X a ta) (he : ∀ whole, isTrue a X.env whole = (do let v ← whole; standAt a.pos; holding [v] (truthy v)) := by intro _; rfl) : QT X a (pTruth ta) := PT.imp (pt_truth ha he) fun σ H Q ⟨w, ρ, q, s, hp, k⟩ => by
  refine ⟨w, ρ, _, s, hp, fun v H1 e x1 r1 hp => ?_⟩
  obtain ⟨x, c, h1, h2, hq⟩ := hp
  exact ⟨c, tru_of r1 h1 h2, k c H1 x1 hq⟩
variable {tA tB : PTT} {rest : List Expr} {tR : PTT}
theorem lift_and : ∀ σ H Q, liftT X.K (pAnd tA tB) σ H Q → tAnd (liftT X.K tA) (liftT X.K tB) σ H Q := by
  rintro σ H Q ⟨w, ρ, q, s, hp, k⟩
  refine ⟨w, ρ, _, s, hp, fun c H1 x1 hp => ?_⟩
  cases c with
  | true => exact ⟨w, ρ, q, s.ext x1, hp, fun d H2 x2 hq => k d H2 (x1.trans x2) hq⟩
  | false => exact k false H1 x1 hp
theorem lift_or : ∀ σ H Q, liftT X.K (pOr tA tB) σ H Q → tOr (liftT X.K tA) (liftT X.K tB) σ H Q := by
  rintro σ H Q ⟨w, ρ, q, s, hp, k⟩
  refine ⟨w, ρ, _, s, hp, fun c H1 x1 hp => ?_⟩
  cases c with
  | false => exact ⟨w, ρ, q, s.ext x1, hp, fun d H2 x2 hq => k d H2 (x1.trans x2) hq⟩
  | true => exact k true H1 x1 hp
theorem PW.imp {e : Expr} {t u : TT} (h : PW X e t) (i : ∀ σ H Q, u σ H Q → t σ H Q) : PW X e u := ⟨fun wh pins s σ H Q I x => h.run wh pins s σ H Q I (i σ H Q x)⟩
theorem qw_and (ha : QT X a tA) (hb : PW X (.BoolOp .And (b :: rest) pos) (liftT X.K tB)) : PW X (.BoolOp .And (a :: b :: rest) pos) (liftT X.K (pAnd tA tB)) := PW.imp (pw_and ha hb) lift_and
theorem qw_or (ha : QT X a tA) (hb : PW X (.BoolOp .Or (b :: rest) pos) (liftT X.K tB)) : PW X (.BoolOp .Or (a :: b :: rest) pos) (liftT X.K (pOr tA tB)) := PW.imp (pw_or ha hb) lift_or
theorem qt_not (ha : QT X a tA) : QT X (.UnaryOp .Not a pos) (pNot tA) := PT.imp (pt_not ha) fun σ H Q ⟨w, ρ, q, s, hp, k⟩ => ⟨w, ρ, _, s, hp, fun c H1 x1 hp => k _ H1 x1 hp⟩
theorem qe_and (ha : QE X a ta) (hb : QE X (.BoolOp .And (b :: rest) pos) tb) : QE X (.BoolOp .And (a :: b :: rest) pos) (pAndV ta tb) := PE.imp (pe_and ha hb) fun σ H Q ⟨w, ρ, q, s, hp, k⟩ => by
  refine ⟨w, ρ, _, s, hp, fun v H1 e x1 r1 hp => ?_⟩
  obtain ⟨c, rfl, hp⟩ := hp
  cases r1
  refine ⟨c, rfl, ?_⟩
  cases c with
  | true => exact ⟨w, ρ, q, s.ext x1, hp, fun v H2 e x2 r2 hq => k v H2 e (x1.trans x2) (r2.back s.bok x1) hq⟩
  | false => exact k _ H1 (.d (.bool false)) x1 (Da.bl false) hp
theorem qe_or (ha : QE X a ta) (hb : QE X (.BoolOp .Or (b :: rest) pos) tb) : QE X (.BoolOp .Or (a :: b :: rest) pos) (pOrV ta tb) := PE.imp (pe_or ha hb) fun σ H Q ⟨w, ρ, q, s, hp, k⟩ => by
  refine ⟨w, ρ, _, s, hp, fun v H1 e x1 r1 hp => ?_⟩
  obtain ⟨c, rfl, hp⟩ := hp
  cases r1
  refine ⟨c, rfl, ?_⟩
  cases c with
  | false => exact ⟨w, ρ, q, s.ext x1, hp, fun v H2 e x2 r2 hq => k v H2 e (x1.trans x2) (r2.back s.bok x1) hq⟩
  | true => exact k _ H1 (.d (.bool true)) x1 (Da.bl true) hp
theorem qe_not (ha : QE X a ta) : QE X (.UnaryOp .Not a pos) (pNotV ta) := PE.imp (pe_not ha) fun σ H Q ⟨w, ρ, q, s, hp, k⟩ => by
  refine ⟨w, ρ, _, s, hp, fun v H1 e x1 r1 hp => ?_⟩
  obtain ⟨c, rfl, hp⟩ := hp
  cases r1
  exact ⟨c, rfl, k _ H1 (.d (.bool (!c))) x1 (Da.bl (!c)) hp⟩
theorem qe_if {c : Expr} (hc : QT X c tA) (ha : QE X a ta) (hb : QE X b tb) : QE X (.IfExp c a b pos) (pIfE tA ta tb) := PE.imp (pe_ifExp hc ha hb) fun σ H Q ⟨w, ρ, q, s, hp, k⟩ => by
  refine ⟨w, ρ, _, s, hp, fun c H1 x1 hp => ?_⟩
  cases c with
  | true => exact ⟨w, ρ, q, s.ext x1, hp, fun v H2 e x2 r2 hq => k v H2 e (x1.trans x2) (r2.back s.bok x1) hq⟩
  | false => exact ⟨w, ρ, q, s.ext x1, hp, fun v H2 e x2 r2 hq => k v H2 e (x1.trans x2) (r2.back s.bok x1) hq⟩
variable {es : List Expr} {tr : PTA}
theorem qa_nil : QA X [] pNil := PA.imp pa_nil fun σ H Q ⟨w, ρ, q, s, hp, k⟩ => k [] H [] .refl .nil hp
theorem qa_cons (ha : QE X a ta) (hr : QA X es tr) (hs : starEach (a :: es) X.env = (false, eval a X.env) :: starEach es X.env := by rfl) : QA X (a :: es) (pCons ta tr) := PA.imp (pa_cons ha hr hs) fun σ H Q ⟨w, ρ, q, s, hp, k⟩ => by
  refine ⟨w, ρ, _, s, hp, fun v H1 e x1 r1 hp => ?_⟩
  exact ⟨w, ρ, _, s.ext x1, hp, fun vs H2 es x2 r2 hq => k _ H2 _ (x1.trans x2) (.cons (r1.ext s.bok x1 x2) (r2.back s.bok x1)) hq⟩
theorem RR.dat {K : PySem.W.Frag} {hd : Option Addr} {B U : Addr → Prop} {H H1 : Hp} {v : V} {e : EV} {x : PyData} (b : BOk K hd B H) (h : RR K hd B U H H1 v e) (hl : e.dat = some x) : Da K B H1 v x := by
  cases e with
  | d y => cases hl; exact h
  | l xs => cases hl; exact h.toD b
  | r xs => cases hl
  | b xs => cases hl
  | hand => cases hl
  | o a => cases hl
theorem RRs.dat {K : PySem.W.Frag} {hd : Option Addr} {B U : Addr → Prop} {H H1 : Hp} {vs : List V} {es : List EV} {ds : List PyData} (b : BOk K hd B H) (h : RRs K hd B U H H1 vs es) (hl : es.mapM EV.dat = some ds) : DaA K B H1 vs ds := by
  induction h generalizing ds with
  | nil =>
    rw [List.mapM_nil] at hl
    cases hl
    exact .nil
  | @cons v vs e es h1 h2 ih =>
    rw [List.mapM_cons] at hl
    cases h3 : e.dat with
    | none => rw [h3] at hl; cases hl
    | some x =>
      cases h4 : es.mapM EV.dat with
      | none => rw [h3, h4] at hl; cases hl
      | some xs =>
        rw [h3, h4] at hl
        cases hl
        exact .cons (h1.dat b h3) (ih h4)
theorem sz5 {n : Nat} (h : n ≤ 100000) : n ≤ sizeLine := Nat.le_trans h (by decide)
theorem RRs.length {K : PySem.W.Frag} {hd : Option Addr} {B U : Addr → Prop} {H H1 : Hp} {vs : List V} {es : List EV} (h : RRs K hd B U H H1 vs es) : vs.length = es.length := by
  induction h with
  | nil => rfl
  | cons _ _ ih => simp [ih]
/-- a new tuple, a new list of data -/
theorem new_tup {K : PySem.W.Frag} {hd : Option Addr} {B U : Addr → Prop} {H : Hp} {p : Addr} {vs : List V} {ds : List PyData} (b : BOk K hd B H) (hp : H p = none) (h : DaA K B H vs ds) :
    Ext hd H (upd H p (.tup vs)) ∧ RR K hd B U H (upd H p (.tup vs)) (.ref p) (.d (.tuple ds)) :=
  ⟨.new hp, .tup (.inl ⟨.inl upd_same, b.new hp⟩) (DaA.kp (kp_new0 hp) _ _ h)⟩
theorem new_lst {K : PySem.W.Frag} {hd : Option Addr} {B U : Addr → Prop} {H : Hp} {p : Addr} {vs : List V} {ds : List PyData} (b : BOk K hd B H) (hp : H p = none) (h : DaA K B H vs ds) :
    Ext hd H (upd H p (.lst vs)) ∧ RR K hd B U H (upd H p (.lst vs)) (.ref p) (.l ds) :=
  ⟨.new hp, p, vs, rfl, hp, upd_same, DaA.kp (kp_new hp) _ _ h⟩
theorem qe_tup {x1} (h : QA X es tr) : QE X (.Tuple es x1 pos) (pTup tr) := PE.imp (pe_tup h) fun σ H Q ⟨w, ρ, q, s, hp, k⟩ => by
  refine ⟨w, ρ, _, s, hp, fun vs H1 es x1 r1 hp => ?_⟩
  obtain ⟨ds, h1, h2, hq⟩ := hp
  have h3 := r1.dat s.bok h1
  refine ⟨sz5 (by rw [h3.length]; exact h2), fun p hp => ?_⟩
  obtain ⟨y1, y2⟩ := new_tup (s.bok.ext x1) hp h3
  exact k _ _ _ (x1.trans y1) (y2.back s.bok x1) hq
theorem qe_lst (h : QA X es tr) : QE X (.List es pos) (pLst tr) := PE.imp (pe_lst h) fun σ H Q ⟨w, ρ, q, s, hp, k⟩ => by
  refine ⟨w, ρ, _, s, hp, fun vs H1 es x1 r1 hp => ?_⟩
  obtain ⟨ds, h1, h2, hq⟩ := hp
  have h3 := r1.dat s.bok h1
  refine ⟨sz5 (by rw [h3.length]; exact h2), fun p hp => ?_⟩
  obtain ⟨y1, y2⟩ := new_lst (s.bok.ext x1) hp h3
  exact k _ _ _ (x1.trans y1) (y2.back s.bok x1) hq
end
end PL
namespace PL
open PySem PySem.Spec PyProof.Rows L2

/-! ### operators -/
def EV.two (x y : EV) (f : Int → Int → Prop) : Prop := match x, y with
  | .d (.int i), .d (.int j) => f i j
  | _, _ => False
def p2I (C : Int → Int → Prop) (g : Int → Int → PyData) : P2 := fun x y Q => x.two y fun i j => C i j ∧ Q (.d (g i j))
def p2I0 (g : Int → Int → PyData) : P2 := fun x y Q => x.two y fun i j => Q (.d (g i j))
def EV.lsr : EV → Option (List PyData)
  | .l xs => some xs
  | .r xs => some xs
  | .b xs => some xs
  | _ => none
def pAdd : P2 := fun x y Q => match x, y with
  | .d (.int i), .d (.int j) => Q (.d (.int (i + j)))
  | .d (.tuple xs), .d (.tuple ys) => xs.length + ys.length ≤ 100000 ∧ Q (.d (.tuple (xs ++ ys)))
  | x, y => ∃ xs ys, x.lsr = some xs ∧ y.lsr = some ys ∧ xs.length + ys.length ≤ 100000 ∧ Q (.l (xs ++ ys))
def MulOk (i j : Int) : Prop := i.natAbs.log2 + j.natAbs.log2 < 1000000
def DivOk (j : Int) : Prop := j ≠ 0 ∧ j.natAbs.log2 < 9000
def pMul : P2 := fun x y Q => match x, y with
  | .d (.int i), .d (.int j) => MulOk i j ∧ Q (.d (.int (i * j)))
  | x, .d (.int k) => ∃ xs, x.lsr = some xs ∧ -1000 ≤ k ∧ k ≤ 1000 ∧ xs.length ≤ 100 ∧ Q (.l (List.replicate k.toNat xs).flatten)
  | _, _ => False
abbrev pSub : P2 := p2I0 fun i j => .int (i - j)
abbrev pFdiv : P2 := p2I (fun _ j => DivOk j) fun i j => .int (i.fdiv j)
abbrev pMod : P2 := p2I (fun _ j => j ≠ 0) fun i j => .int (i.fmod j)
abbrev pPow : P2 := p2I CPow fun i j => .int (i ^ j.toNat)
abbrev pLt : P2 := p2I0 fun i j => .bool (decide (i < j))
abbrev pLe : P2 := p2I0 fun i j => .bool (decide (i ≤ j))
abbrev pGt : P2 := p2I0 fun i j => .bool (decide (j < i))
abbrev pGe : P2 := p2I0 fun i j => .bool (decide (j ≤ i))
def pEq : P2 := fun x y Q => ∃ a b, x.look = some a ∧ y.look = some b ∧ SeqAt.shaped a = true ∧ SeqAt.shaped b = true ∧ Q (.d (.bool (PyData.eqv a b)))
def pNe : P2 := fun x y Q => ∃ a b, x.look = some a ∧ y.look = some b ∧ SeqAt.shaped a = true ∧ SeqAt.shaped b = true ∧ Q (.d (.bool (!PyData.eqv a b)))
def PyData.isN : PyData → Bool
  | .none => true
  | _ => false
def pIsN : P2 := fun x y Q => ∃ a, x.look = some a ∧ y = .d .none ∧ Q (.d (.bool (PyData.isN a)))
def pNotN : P2 := fun x y Q => ∃ a, x.look = some a ∧ y = .d .none ∧ Q (.d (.bool (!PyData.isN a)))
def pIx : P2 := fun x y Q => ∃ xs i v, x.seq = some xs ∧ y = .d (.int i) ∧ atI xs i = some v ∧ Q (.d v)
def pNeg : P1 := fun x Q => match x with
  | .d (.int i) => Q (.d (.int (-i)))
  | _ => False

section
variable {K : PySem.W.Frag} {hd : Option Addr} {B U : Addr → Prop} {H H2 : Hp} {x : V} {e : EV}
theorem RR.look {d : PyData} (h : RR K hd B U H H2 x e) (hl : e.look = some d) : Dp K H2 x d := by
  cases e with
  | d y => cases hl; exact Da.dp _ _ h
  | l xs =>
    cases hl
    obtain ⟨a, vs, rfl, e2, e3, e4⟩ := h
    exact .lst (.inl (.inl e3)) (DaA.dp _ _ e4)
  | r xs =>
    cases hl
    obtain ⟨a, vs, rfl, e2, e3, e4, _⟩ := h
    exact .lst (.inl (.inl e2)) (DaA.dp _ _ e4)
  | b xs =>
    cases hl
    obtain ⟨a, vs, rfl, e2, e3, e4⟩ := h
    exact .lst (.inl (.inl e2)) (DaA.dp _ _ e4)
  | hand => cases hl
  | o a => cases hl
theorem RR.int {i : Int} (h : RR K hd B U H H2 x (.d (.int i))) : x = .int i := by cases h; rfl
theorem EV.two_of {x y : EV} {f : Int → Int → Prop} (h : x.two y f) : ∃ i j, x = .d (.int i) ∧ y = .d (.int j) ∧ f i j := by
  unfold EV.two at h
  split at h
  · exact ⟨_, _, rfl, rfl, h⟩
  · exact h.elim
theorem RR.lsr {xs : List PyData} (h : RR K hd B U H H2 x e) (hl : e.lsr = some xs) : ∃ a vs, x = .ref a ∧ H2 a = some (.lst vs) ∧ DaA K B H2 vs xs := by
  cases e with
  | d y => cases hl
  | l xs =>
    cases hl
    obtain ⟨a, vs, rfl, e2, e3, e4⟩ := h
    exact ⟨a, vs, rfl, e3, DaA.kp (kp_less fun c z => .inl z) _ _ e4⟩
  | r xs =>
    cases hl
    obtain ⟨a, vs, rfl, e2, e3, e4, _⟩ := h
    exact ⟨a, vs, rfl, e2, e4⟩
  | b xs =>
    cases hl
    obtain ⟨a, vs, rfl, e2, e3, e4⟩ := h
    exact ⟨a, vs, rfl, e2, e4⟩
  | hand => cases hl
  | o a => cases hl
theorem RR.seq {xs : List PyData} (h : RR K hd B U H H2 x e) (hl : e.seq = some xs) : ∃ a vs, x = .ref a ∧ (SqL K H2 a vs ∨ SqT K H2 a vs) ∧ DaA K B H2 vs xs := by
  cases e with
  | d y =>
    cases y with
    | list ys =>
      cases hl
      cases h with
      | lst h1 h2 => exact ⟨_, _, rfl, .inl h1.sq, h2⟩
    | tuple ys =>
      cases hl
      cases h with
      | tup h1 h2 => exact ⟨_, _, rfl, .inr h1.sq, h2⟩
    | none => cases hl
    | bool b => cases hl
    | int i => cases hl
    | str z => cases hl
    | dict z => cases hl
  | l xs =>
    cases hl
    obtain ⟨a, vs, rfl, e2, e3, e4⟩ := h
    exact ⟨a, vs, rfl, .inl (.inl (.inl e3)), DaA.kp (kp_less fun c z => .inl z) _ _ e4⟩
  | r xs =>
    cases hl
    obtain ⟨a, vs, rfl, e2, e3, e4, _⟩ := h
    exact ⟨a, vs, rfl, .inl (.inl (.inl e2)), e4⟩
  | b xs =>
    cases hl
    obtain ⟨a, vs, rfl, e2, e3, e4⟩ := h
    exact ⟨a, vs, rfl, .inl (.inl (.inl e2)), e4⟩
  | hand => cases hl
  | o a => cases hl

theorem o2_I {C : Int → Int → Prop} {C' : Int → Int → Prop} {g : Int → Int → V} {g' : Int → Int → PyData} (hC : ∀ i j, C' i j → C i j) (hg : ∀ i j B H, Da K B H (g i j) (g' i j)) : Op2 K (rI C g) (p2I C' g') := by
  intro hd B U H H2 x y ex ey Q q b x1 r1 r2 hp k
  obtain ⟨i, j, rfl, rfl, hc, hq⟩ := EV.two_of hp
  exact ⟨i, j, r1.int, r2.int, hC i j hc, k _ H2 (.d (g' i j)) .refl (hg _ _ _ _) hq⟩
theorem o2_I0 {g : Int → Int → V} {g' : Int → Int → PyData} (hg : ∀ i j B H, Da K B H (g i j) (g' i j)) : Op2 K (rI0 g) (p2I0 g') := by
  intro hd B U H H2 x y ex ey Q q b x1 r1 r2 hp k
  obtain ⟨i, j, rfl, rfl, hq⟩ := EV.two_of hp
  exact ⟨i, j, r1.int, r2.int, k _ H2 (.d (g' i j)) .refl (hg _ _ _ _) hq⟩
theorem o_sub : Op2 K (rI0 fun i j => .int (i - j)) pSub := o2_I0 fun _ _ _ _ => .int _
theorem o_mod : Op2 K (rI (fun _ j => j ≠ 0) fun i j => .int (i.fmod j)) pMod := o2_I (fun _ _ h => h) fun _ _ _ _ => .int _
theorem o_pow : Op2 K (rI CPow fun i j => .int (i ^ j.toNat)) pPow := o2_I (fun _ _ h => h) fun _ _ _ _ => .int _
theorem o_fdiv : Op2 K (rI (fun _ j => DivOk j) fun i j => .int (i.fdiv j)) pFdiv := o2_I (fun _ _ h => h) fun _ _ _ _ => .int _
theorem o_lt : Op2 K (rI0 fun i j => .bl (decide (i < j))) pLt := o2_I0 fun _ _ _ _ => .bl _
theorem o_le : Op2 K (rI0 fun i j => .bl (decide (i ≤ j))) pLe := o2_I0 fun _ _ _ _ => .bl _
theorem o_gt : Op2 K (rI0 fun i j => .bl (decide (j < i))) pGt := o2_I0 fun _ _ _ _ => .bl _
theorem o_ge : Op2 K (rI0 fun i j => .bl (decide (j ≤ i))) pGe := o2_I0 fun _ _ _ _ => .bl _
theorem o_eq : Op2 K (rEqD K) pEq := by
  intro hd B U H H2 x y ex ey Q q b x1 r1 r2 hp k
  obtain ⟨a, c, h1, h2, h3, h4, hq⟩ := hp
  exact ⟨a, c, r1.look h1, r2.look h2, h3, h4, k _ H2 (.d (.bool _)) .refl (Da.bl _) hq⟩
theorem o_ne : Op2 K (rNeD K) pNe := by
  intro hd B U H H2 x y ex ey Q q b x1 r1 r2 hp k
  obtain ⟨a, c, h1, h2, h3, h4, hq⟩ := hp
  exact ⟨a, c, r1.look h1, r2.look h2, h3, h4, k _ H2 (.d (.bool _)) .refl (Da.bl _) hq⟩
theorem isN_of {d : PyData} (h : Dp K H2 x d) : decide (x = .non) = PyData.isN d := by cases h <;> rfl
theorem o_isN : Op2 K (fun x y H Q => y = .non ∧ Q (.bl (decide (x = .non))) H) pIsN := by
  intro hd B U H H2 x y ex ey Q q b x1 r1 r2 hp k
  obtain ⟨a, h1, rfl, hq⟩ := hp
  refine ⟨by cases r2; rfl, ?_⟩
  rw [isN_of (r1.look h1)]
  exact k _ H2 (.d (.bool _)) .refl (Da.bl _) hq
theorem o_notN : Op2 K (fun x y H Q => y = .non ∧ Q (.bl (!decide (x = .non))) H) pNotN := by
  intro hd B U H H2 x y ex ey Q q b x1 r1 r2 hp k
  obtain ⟨a, h1, rfl, hq⟩ := hp
  refine ⟨by cases r2; rfl, ?_⟩
  rw [isN_of (r1.look h1)]
  exact k _ H2 (.d (.bool _)) .refl (Da.bl _) hq
theorem DaA.atI {vs : List V} {ds : List PyData} {i : Int} {d : PyData} (h : DaA K B H vs ds) (e : L2.atI ds i = some d) : ∃ v, L2.atI vs i = some v ∧ Da K B H v d := by
  unfold L2.atI at e ⊢
  rw [h.length]
  cases h1 : ixN ds.length i with
  | none => rw [h1] at e; cases e
  | some j =>
    rw [h1] at e
    exact h.get e
theorem o_ix : Op2 K (fun x y H Q => rIxL K x y H Q ∨ rIxT K x y H Q) pIx := by
  intro hd B U H H2 x y ex ey Q q b x1 r1 r2 hp k
  obtain ⟨xs, i, v, h1, rfl, h3, hq⟩ := hp
  obtain ⟨a, vs, rfl, h4, h5⟩ := r1.seq h1
  obtain ⟨u, h6, h7⟩ := h5.atI h3
  have hq := k u H2 (.d v) .refl h7 hq
  rcases h4 with h4 | h4
  · exact .inl ⟨a, vs, i, u, rfl, r2.int, h4, h6, hq⟩
  · exact .inr ⟨a, vs, i, u, rfl, r2.int, h4, h6, hq⟩
theorem o_add : Op2 K (fun x y H Q => (rI0 (fun i j => .int (i + j)) x y H Q ∨ rCat x y H Q) ∨ rCatA K x y H Q) pAdd := by
  intro hd B U H H2 x y ex ey Q q b x1 r1 r2 hp k
  have b2 := b.ext x1
  unfold pAdd at hp
  split at hp
  · exact .inl (.inl ⟨_, _, r1.int, r2.int, k _ H2 (.d (.int _)) .refl (Da.int _) hp⟩)
  · rename_i xs ys
    obtain ⟨hz, hp⟩ := hp
    cases r1 with
    | @tup a vs _ h1 h2 =>
      cases r2 with
      | @tup a' vs' _ h1' h2' =>
        refine .inr ⟨a, a', vs, vs', rfl, rfl, h1.sq, h1'.sq, sz5 (by rw [h2.length, h2'.length]; exact hz), fun e => ?_, fun _ e => ?_, fun _ _ p hp' => ?_⟩
        · refine k _ H2 (.d (.tuple (xs ++ ys))) .refl ?_ hp
          subst e
          cases h2
          exact Da.tup h1' h2'
        · refine k _ H2 (.d (.tuple (xs ++ ys))) .refl ?_ hp
          subst e
          cases h2'
          rw [List.append_nil]
          exact Da.tup h1 h2
        · obtain ⟨y1, y2⟩ := new_tup b2 hp' (h2.append h2')
          exact k _ _ _ y1 y2 hp
  · obtain ⟨xs, ys, h1, h2, hz, hp⟩ := hp
    obtain ⟨a, vs, rfl, h3, h4⟩ := r1.lsr h1
    obtain ⟨a', vs', rfl, h3', h4'⟩ := r2.lsr h2
    refine .inl (.inr ⟨a, a', vs, vs', rfl, rfl, h3, h3', sz5 (by rw [h4.length, h4'.length]; exact hz), fun p hp' => ?_⟩)
    obtain ⟨y1, y2⟩ := new_lst b2 hp' (h4.append h4')
    exact k _ _ _ y1 y2 hp
theorem o_mul : Op2 K (fun x y H Q => rI CMulW (fun i j => .int (i * j)) x y H Q ∨ rRep x y H Q) pMul := by
  intro hd B U H H2 x y ex ey Q q b x1 r1 r2 hp k
  have b2 := b.ext x1
  unfold pMul at hp
  split at hp
  · exact .inl ⟨_, _, r1.int, r2.int, hp.1, k _ H2 (.d (.int _)) .refl (Da.int _) hp.2⟩
  · rename_i n _
    obtain ⟨xs, h1, hk1, hk2, hz, hp⟩ := hp
    obtain ⟨a, vs, rfl, h3, h4⟩ := r1.lsr h1
    refine .inr ⟨a, n, vs, rfl, r2.int, h3, by omega, by omega, ?_, fun p hp' => ?_⟩
    · have e := h4.length
      have : vs.length * n.toNat ≤ 100 * 1000 := Nat.mul_le_mul (by omega) (by omega)
      exact sz5 this
    · obtain ⟨y1, y2⟩ := new_lst b2 hp' (h4.rep n.toNat)
      exact k _ _ _ y1 y2 hp
  · exact hp.elim
theorem o_neg : Op1 K (rU fun i => .int (-i)) pNeg := by
  intro hd B U H H2 x ex Q q b x1 r1 hp k
  unfold pNeg at hp
  split at hp
  · exact ⟨_, r1.int, k _ H2 (.d (.int _)) .refl (Da.int _) hp⟩
  · exact hp.elim
end
section
variable {X : Cx} {a b c : Expr} {ta tb tc : PTE} {pos : Pos}
theorem OpR.or {f : Value → Value → Sem Value} {r r' : R2} (h : OpR X f r) (h' : OpR X f r') : OpR X f (fun x y H Q => r x y H Q ∨ r' x y H Q) := L2.OpR.or h h'
theorem op_fdivP : OpR X (binaryOp .FloorDiv) (rI (fun _ j => DivOk j) fun i j => .int (i.fdiv j)) := opI fun _ _ _ _ _ _ _ hc q => floordiv_int hc.1 q (.inl (PyProof.noPylong_of_log2 hc.2))
theorem qe_add (ha : QE X a ta) (hb : QE X b tb) : QE X (.BinOp a .Add b pos) (pOp pAdd ta tb) := qe_op o_add (OpR.or (OpR.or op_add op_cat) op_catA) ha hb
theorem qe_sub (ha : QE X a ta) (hb : QE X b tb) : QE X (.BinOp a .Sub b pos) (pOp pSub ta tb) := qe_op o_sub op_sub ha hb
theorem qe_mul (ha : QE X a ta) (hb : QE X b tb) : QE X (.BinOp a .Mult b pos) (pOp pMul ta tb) := qe_op o_mul (OpR.or op_mulW op_rep) ha hb
theorem qe_fdiv (ha : QE X a ta) (hb : QE X b tb) : QE X (.BinOp a .FloorDiv b pos) (pOp pFdiv ta tb) := qe_op o_fdiv op_fdivP ha hb
theorem qe_mod (ha : QE X a ta) (hb : QE X b tb) : QE X (.BinOp a .Mod b pos) (pOp pMod ta tb) := qe_op o_mod op_modN ha hb
theorem qe_pow (ha : QE X a ta) (hb : QE X b tb) : QE X (.BinOp a .Pow b pos) (pOp pPow ta tb) := qe_op o_pow op_pow ha hb
theorem qe_neg (ha : QE X a ta) : QE X (.UnaryOp .USub a pos) (pUn pNeg ta) := qe_un o_neg un_neg ha
theorem qe_ix (ha : QE X a ta) (hb : QE X b tb) (hs : PlainIx b := by intro _ _; rfl) : QE X (.Subscript a b pos) (pOp pIx ta tb) := PE.imp (pe_ix (IxR.or ix_list ix_tup) ha hb hs) (lift_op o_ix)
/-- comparisons as values, as tests -/
theorem qe_lt (ha : QE X a ta) (hb : QE X b tb) : QE X (.Compare a [.Lt] [b] pos) (pOp pLt ta tb) := qe_cmp o_lt op_lt ha hb
theorem qe_le (ha : QE X a ta) (hb : QE X b tb) : QE X (.Compare a [.LtE] [b] pos) (pOp pLe ta tb) := qe_cmp o_le op_le ha hb
theorem qe_gt (ha : QE X a ta) (hb : QE X b tb) : QE X (.Compare a [.Gt] [b] pos) (pOp pGt ta tb) := qe_cmp o_gt op_gt ha hb
theorem qe_ge (ha : QE X a ta) (hb : QE X b tb) : QE X (.Compare a [.GtE] [b] pos) (pOp pGe ta tb) := qe_cmp o_ge op_ge ha hb
theorem qe_eq (hu : X.A.units + 64 < cLine) (ha : QE X a ta) (hb : QE X b tb) : QE X (.Compare a [.Eq] [b] pos) (pOp pEq ta tb) := qe_cmp o_eq (op_eqD hu) ha hb
theorem qe_ne (hu : X.A.units + 64 < cLine) (ha : QE X a ta) (hb : QE X b tb) : QE X (.Compare a [.NotEq] [b] pos) (pOp pNe ta tb) := qe_cmp o_ne (op_neD hu) ha hb
theorem qe_isN (ha : QE X a ta) (hb : QE X b tb) : QE X (.Compare a [.Is] [b] pos) (pOp pIsN ta tb) := qe_cmp o_isN op_isN ha hb
theorem qe_notN (ha : QE X a ta) (hb : QE X b tb) : QE X (.Compare a [.IsNot] [b] pos) (pOp pNotN ta tb) := qe_cmp o_notN op_notN ha hb
theorem qt_lt (ha : QE X a ta) (hb : QE X b tb) : QT X (.Compare a [.Lt] [b] pos) (pTest (pOp pLt ta tb)) := qt_cmp o_lt op_lt ha hb
theorem qt_le (ha : QE X a ta) (hb : QE X b tb) : QT X (.Compare a [.LtE] [b] pos) (pTest (pOp pLe ta tb)) := qt_cmp o_le op_le ha hb
theorem qt_gt (ha : QE X a ta) (hb : QE X b tb) : QT X (.Compare a [.Gt] [b] pos) (pTest (pOp pGt ta tb)) := qt_cmp o_gt op_gt ha hb
theorem qt_ge (ha : QE X a ta) (hb : QE X b tb) : QT X (.Compare a [.GtE] [b] pos) (pTest (pOp pGe ta tb)) := qt_cmp o_ge op_ge ha hb
theorem qt_eq (hu : X.A.units + 64 < cLine) (ha : QE X a ta) (hb : QE X b tb) : QT X (.Compare a [.Eq] [b] pos) (pTest (pOp pEq ta tb)) := qt_cmp o_eq (op_eqD hu) ha hb
theorem qt_ne (hu : X.A.units + 64 < cLine) (ha : QE X a ta) (hb : QE X b tb) : QT X (.Compare a [.NotEq] [b] pos) (pTest (pOp pNe ta tb)) := qt_cmp o_ne (op_neD hu) ha hb
theorem qt_isN (ha : QE X a ta) (hb : QE X b tb) : QT X (.Compare a [.Is] [b] pos) (pTest (pOp pIsN ta tb)) := qt_cmp o_isN op_isN ha hb
theorem qt_notN (ha : QE X a ta) (hb : QE X b tb) : QT X (.Compare a [.IsNot] [b] pos) (pTest (pOp pNotN ta tb)) := qt_cmp o_notN op_notN ha hb
/-- a op b op' c of ints -/
def pChain (p p' : P2) (a b c : PTE) : PTE := fun ρ Q => a ρ fun x => b ρ fun y => p x y fun z => ∃ k, z = .d (.bool k) ∧ if k = true then c ρ fun u => p' y u Q else Q (.d (.bool false))
theorem lift_chain {r r' : R2} {p p' : P2} (o : Op2 X.K r p) (o' : Op2 X.K r' p') : ∀ σ H Q, liftE X.K (pChain p p' ta tb tc) σ H Q → tChain r r' (liftE X.K ta) (liftE X.K tb) (liftE X.K tc) σ H Q := by
  rintro σ H Q ⟨w, ρ, q, s, hp, k⟩
  refine ⟨w, ρ, _, s, hp, fun x H1 ex x1 r1 hp => ?_⟩
  refine ⟨w, ρ, _, s.ext x1, hp, fun y H2 ey x2 r2 hp => ?_⟩
  have r2' := r2.back s.bok x1
  refine o w.hd w.B w.U H H2 x y ex ey _ _ s.bok (x1.trans x2) (r1.ext s.bok x1 x2) r2' hp fun v H' e x3 r3 hq => ?_
  obtain ⟨kk, rfl, hq⟩ := hq
  refine ⟨kk, by cases r3; rfl, ?_⟩
  have x13 := (x1.trans x2).trans x3
  cases kk with
  | false => exact k _ H' (.d (.bool false)) x13 (Da.bl false) hq
  | true =>
    refine ⟨w, ρ, _, s.ext x13, hq, fun u H4 eu x4 r4 hq => ?_⟩
    exact o' w.hd w.B w.U H H4 y u ey eu Q q s.bok (x13.trans x4) (r2'.ext s.bok (x1.trans x2) (x3.trans x4)) (r4.back s.bok x13) hq fun v H5 e x5 r5 hq => k v H5 e (x13.trans (x4.trans x5)) (r5.back s.bok (x13.trans x4)) hq
theorem qe_chain {op op' : CmpOp} {r r' : R2} {p p' : P2} (o : Op2 X.K r p) (o' : Op2 X.K r' p') (ho : OpR X (compareOp op) r) (ho' : OpR X (compareOp op') r') (ha : QE X a ta) (hb : QE X b tb) (hc : QE X c tc)
    (hm : lastMarks [op, op'] [b, c] = false := by with_unfolding_all rfl) : QE X (.Compare a [op, op'] [b, c] pos) (pChain p p' ta tb tc) := PE.imp (pe_chain ho ho' ha hb hc hm) (lift_chain o o')
theorem qt_chain {op op' : CmpOp} {r r' : R2} {p p' : P2} (o : Op2 X.K r p) (o' : Op2 X.K r' p') (ho : OpR X (compareOp op) r) (ho' : OpR X (compareOp op') r') (ha : QE X a ta) (hb : QE X b tb) (hc : QE X c tc)
    (hm : lastMarks [op, op'] [b, c] = false := by with_unfolding_all rfl) : QT X (.Compare a [op, op'] [b, c] pos) (pTest (pChain p p' ta tb tc)) := PT.imp (pt_chain ho ho' ha hb hc hm) (lift_test (lift_chain o o'))
end

/-! ### slices -/
abbrev PTO := Env → (Option Int → Prop) → Prop
def pNoPart : PTO := fun _ Q => Q none
def pPart (t : PTE) : PTO := fun ρ Q => t ρ fun e => ∃ i, e = .d (.int i) ∧ Q (some i)
def cutD (xs : List PyData) (lo hi : Option Int) : List PyData := (xs.drop (HT.sIx xs.length 0 lo)).take (HT.sIx xs.length xs.length hi - HT.sIx xs.length 0 lo)
def pSl (t : PTE) (lo hi : PTO) : PTE := fun ρ Q => t ρ fun e => lo ρ fun l => hi ρ fun h => match e with
  | .d (.tuple xs) => Q (.d (.tuple (cutD xs l h)))
  | e => ∃ xs, e.lst = some xs ∧ Q (.l (cutD xs l h))
def liftO (K : PySem.W.Frag) (tp : PTO) : TO := fun σ H Q => ∃ (w : Ws) (ρ : Env) (q : Option Int → Prop), SR K w H σ ρ ∧ tp ρ q ∧ ∀ o H', Ext w.hd H H' → q o → Q o H'
section
variable {X : Cx} {a b c : Expr} {ta tb tc : PTE} {pos : Pos}
theorem PO.imp {e : Option Expr} {t u : TO} (h : PO X e t) (i : ∀ σ H Q, u σ H Q → t σ H Q) : PO X e u := ⟨fun pins s σ H Q I x => h.run pins s σ H Q I (i σ H Q x)⟩
theorem qo_none : PO X none (liftO X.K pNoPart) := PO.imp po_none fun σ H Q ⟨w, ρ, q, s, hp, k⟩ => k none H .refl hp
theorem qo_some (h : QE X a ta) : PO X (some a) (liftO X.K (pPart ta)) := PO.imp (po_some h) fun σ H Q ⟨w, ρ, q, s, hp, k⟩ => by
  refine ⟨w, ρ, _, s, hp, fun v H1 e x1 r1 hp => ?_⟩
  obtain ⟨i, rfl, hq⟩ := hp
  exact ⟨i, r1.int, k _ H1 x1 hq⟩
theorem DaA.cut {K : PySem.W.Frag} {B : Addr → Prop} {H : Hp} {vs : List V} {ds : List PyData} {lo hi : Option Int} (h : DaA K B H vs ds) : DaA K B H (cutV vs lo hi) (cutD ds lo hi) := by
  unfold cutV cutD
  rw [h.length]
  exact (h.drop _).take _
theorem RR.lst {K : PySem.W.Frag} {hd : Option Addr} {B U : Addr → Prop} {H H2 : Hp} {x : V} {e : EV} {xs : List PyData} (h : RR K hd B U H H2 x e) (hl : e.lst = some xs) : ∃ a vs, x = .ref a ∧ SqL K H2 a vs ∧ DaA K B H2 vs xs := by
  cases e with
  | d y =>
    cases y with
    | list ys =>
      cases hl
      cases h with
      | lst h1 h2 => exact ⟨_, _, rfl, h1.sq, h2⟩
    | tuple ys => cases hl
    | none => cases hl
    | bool b => cases hl
    | int i => cases hl
    | str z => cases hl
    | dict z => cases hl
  | l xs =>
    cases hl
    obtain ⟨a, vs, rfl, e2, e3, e4⟩ := h
    exact ⟨a, vs, rfl, .inl (.inl e3), DaA.kp (kp_less fun c z => .inl z) _ _ e4⟩
  | r xs =>
    cases hl
    obtain ⟨a, vs, rfl, e2, e3, e4, _⟩ := h
    exact ⟨a, vs, rfl, .inl (.inl e2), e4⟩
  | b xs =>
    cases hl
    obtain ⟨a, vs, rfl, e2, e3, e4⟩ := h
    exact ⟨a, vs, rfl, .inl (.inl e2), e4⟩
  | hand => cases hl
  | o a => cases hl
theorem cutV_all (xs : List V) (lo hi : Option Int) (h : HT.sIx xs.length 0 lo = 0 ∧ HT.sIx xs.length xs.length hi = xs.length) : cutV xs lo hi = xs := by
  unfold cutV
  rw [h.1, h.2, List.drop_zero, Nat.sub_zero, List.take_length]
theorem qe_sl {lo hi : Option Expr} {tl th : PTO} {p2 : Pos} (ha : QE X a ta) (hl : PO X lo (liftO X.K tl)) (hh : PO X hi (liftO X.K th)) : QE X (.Subscript a (.Slice lo hi none p2) pos) (pSl ta tl th) :=
  PE.imp (pe_slice (SlR.or sl_list sl_tupA) ha hl hh) fun σ H Q ⟨w, ρ, q, s, hp, k⟩ => by
  refine ⟨w, ρ, _, s, hp, fun v H1 e x1 r1 hp => ?_⟩
  refine ⟨w, ρ, _, s.ext x1, hp, fun l H2 x2 hp => ?_⟩
  refine ⟨w, ρ, _, (s.ext x1).ext x2, hp, fun h H3 x3 hp => ?_⟩
  have x13 := (x1.trans x2).trans x3
  have r3 := r1.ext s.bok x1 (x2.trans x3)
  have b3 := s.bok.ext x13
  split at hp
  · rename_i xs
    cases r3 with
    | @tup aa vs _ h1 h2 =>
      refine .inr ⟨aa, vs, rfl, h1.sq, fun hw => ?_, fun hw p hp' => ?_⟩
      · have e1 := h2.cut (lo := l) (hi := h)
        rw [cutV_all _ _ _ hw] at e1
        exact k _ H3 (.d (.tuple _)) x13 (Da.tup h1 e1) hp
      · obtain ⟨y1, y2⟩ := new_tup b3 hp' (h2.cut (lo := l) (hi := h))
        exact k _ _ _ (x13.trans y1) (y2.back s.bok x13) hp
  · obtain ⟨xs, h1, hq⟩ := hp
    obtain ⟨aa, vs, rfl, h4, h5⟩ := r3.lst h1
    refine .inl ⟨aa, vs, rfl, h4, fun p hp' => ?_⟩
    obtain ⟨y1, y2⟩ := new_lst b3 hp' (h5.cut (lo := l) (hi := h))
    exact k _ _ _ (x13.trans y1) (y2.back s.bok x13) hq
end
end PL
namespace PL
open PySem PySem.Spec PyProof.Rows L2

/-! ### from state to state -/
structure Tr (w w' : Ws) (H H' : Hp) : Prop where
  keep : ∀ a o, ¬ w.U a → H a = some o → H' a = some o
  ub : ∀ a, w'.U a → w.U a ∨ H a = none
  bb : ∀ a, w'.B a → w.B a ∨ H a = none
  hd0 : w'.hd0 = w.hd0
  b0 : w'.B0 = w.B0
  h0 : w'.H0 = w.H0
section
variable {K : PySem.W.Frag} {w w' w1 w2 : Ws} {H H1 H2 H' : Hp} {σ σ' : L2.St} {ρ ρ' : Env} {v : V} {e : EV}
theorem Tr.refl : Tr w w H H := ⟨fun _ _ _ h => h, fun _ h => .inl h, fun _ h => .inl h, rfl, rfl, rfl⟩
theorem Tr.trans (hub : ∀ a, w.U a → w.B a) (a : Tr w w1 H H1) (b : Tr w1 w2 H1 H2) : Tr w w2 H H2 := by
  have nU : ∀ x o, ¬ w.U x → H x = some o → ¬ w1.U x := fun x o n e z => by
    rcases a.ub x z with z | z
    · exact n z
    · rw [e] at z; cases z
  refine ⟨fun x o n e => b.keep x o (nU x o n e) (a.keep x o n e), fun x h => ?_, fun x h => ?_, b.hd0.trans a.hd0, b.b0.trans a.b0, b.h0.trans a.h0⟩
  · rcases b.ub x h with z | z
    · exact a.ub x z
    · by_cases n : w.U x
      · exact .inl n
      · cases q : H x with
        | none => exact .inr rfl
        | some o => rw [a.keep x o n q] at z; cases z
  · rcases b.bb x h with z | z
    · exact a.bb x z
    · by_cases n : w.U x
      · exact .inl (hub x n)
      · cases q : H x with
        | none => exact .inr rfl
        | some o => rw [a.keep x o n q] at z; cases z
theorem Tr.kp (t : Tr w w' H H') (hub : ∀ a, w.U a → w.B a) : Kp w.B w'.B H H' := fun a o n e => by
  refine ⟨fun z => ?_, t.keep a o (fun z => n (hub a z)) e⟩
  rcases t.bb a z with z | z
  · exact n z
  · rw [e] at z
    cases z
theorem Ext.tr (s : SR K w H σ ρ) (x : Ext w.hd H H') : Tr w w H H' := ⟨fun a o n e => x.keep a o (fun z => n (s.uh a z.symm)) e, fun _ h => .inl h, fun _ h => .inl h, rfl, rfl, rfl⟩

/-- what a name may take -/
def EV.sto : EV → Bool
  | .r _ => false
  | .b _ => false
  | _ => true
theorem slot_set {i : Nat} {σ : L2.St} {ρ : Env} {w : Ws} {v : V} {e : EV} (hl : σ.length = ρ.length) (h : ∀ (j : Nat) e', ρ[j]? = some (some e') → ∃ v', σ[j]? = some (some v') ∧ ER K w H v' e') (he : ER K w H v e) :
    ∀ (j : Nat) e', (ρ.set i (some e))[j]? = some (some e') → ∃ v', (σ.set i (some v))[j]? = some (some v') ∧ ER K w H v' e' := by
  intro j e' hj
  by_cases hji : i = j
  · subst hji
    have hlt : i < ρ.length := by
      cases Nat.lt_or_ge i ρ.length with
      | inl z => exact z
      | inr z => rw [List.getElem?_eq_none (by simpa using z)] at hj; cases hj
    rw [List.getElem?_set_self hlt] at hj
    cases hj
    exact ⟨v, List.getElem?_set_self (by omega), he⟩
  · rw [List.getElem?_set_ne hji] at hj ⊢
    exact h j e' hj
theorem get_set {α : Type} {l : List (Option α)} {i j : Nat} {x y : α} (h : (l.set i (some x))[j]? = some (some y)) : (j = i ∧ y = x) ∨ (j ≠ i ∧ l[j]? = some (some y)) := by
  by_cases e : j = i
  · subst e
    have hlt : j < l.length := by
      cases Nat.lt_or_ge j l.length with
      | inl z => exact z
      | inr z => rw [List.getElem?_eq_none (by simpa using z)] at h; cases h
    rw [List.getElem?_set_self hlt] at h
    cases h
    exact .inl ⟨rfl, rfl⟩
  · rw [List.getElem?_set_ne (fun z => e z.symm)] at h
    exact .inr ⟨e, h⟩
/-- values that wait to be stored -/
structure Pend (K : PySem.W.Frag) (w : Ws) (H : Hp) (σ : L2.St) (ρ : Env) (ps : List (V × EV)) : Prop where
  er : ∀ p ∈ ps, ER K w H p.1 p.2
  out : ∀ p ∈ ps, ∀ xs, p.2 = .l xs → ∀ (j : Nat) ys, ρ[j]? = some (some (.l ys)) → σ[j]? ≠ some (some p.1)
  apart : ps.Pairwise fun p q => ∀ xs ys, p.2 = .l xs → q.2 = .l ys → p.1 ≠ q.1
theorem Pend.nil : Pend K w H σ ρ [] := ⟨fun _ h => (nomatch h), fun _ h => (nomatch h), .nil⟩
theorem ER.kp {B' U' : Addr → Prop} (k : Kp w.B B' H H') (kh : ∀ a o, some a ≠ w.hd → H a = some o → H' a = some o) (ku : ∀ a o, H a = some o → U' a → w.U a) (ku2 : ∀ a, w.U a → U' a) (h : ER K w H v e) :
    ER K { w with B := B', U := U' } H' v e := by
  cases e with
  | d y => exact Da.kp k _ _ h
  | l ys =>
    obtain ⟨c, us, q1, q2, q3, q4, q5, q6⟩ := h
    exact ⟨c, us, q1, kh c _ q6 q2, DaA.kp k _ _ q3, ku2 c q4, q5, q6⟩
  | r ys =>
    obtain ⟨c, us, q1, q2, q3, q4, q5⟩ := h
    exact ⟨c, us, q1, kh c _ q4 q2, fun z => q3 (ku c _ q2 z), q4, DaA.kp k _ _ q5⟩
  | b ys => exact h
  | hand => exact h
  | o c => exact h
theorem ER.there {xs : List PyData} (h : ER K w H v (.l xs)) : ∃ a o, v = .ref a ∧ H a = some o := by
  obtain ⟨a, vs, h1, h2, _⟩ := h
  exact ⟨a, _, h1, h2⟩
/-- one value more waits -/
theorem SR.take {ps : List (V × EV)} (s : SR K w H σ ρ) (pd : Pend K w H σ ρ ps) (x : Ext w.hd H H') (r : RR K w.hd w.B w.U H H' v e) (hs : e.sto = true) :
    ∃ w', Tr w w' H H' ∧ SR K w' H' σ ρ ∧ Pend K w' H' σ ρ (ps ++ [(v, e)]) ∧ w'.hd = w.hd := by
  have s' := s.ext x
  have easy : (∀ xs, e ≠ .l xs) → ER K w H' v e → ∃ w', Tr w w' H H' ∧ SR K w' H' σ ρ ∧ Pend K w' H' σ ρ (ps ++ [(v, e)]) ∧ w'.hd = w.hd := fun nl he => by
    refine ⟨w, x.tr s, s', ⟨fun p hp => ?_, fun p hp xs hx => ?_, ?_⟩, rfl⟩
    · rcases List.mem_append.mp hp with hp | hp
      · exact (pd.er p hp).ext s.bok x
      · rw [List.mem_singleton.mp hp]; exact he
    · rcases List.mem_append.mp hp with hp | hp
      · exact pd.out p hp xs hx
      · rw [List.mem_singleton.mp hp] at hx
        exact absurd hx (nl xs)
    · refine List.pairwise_append.mpr ⟨pd.apart, List.pairwise_singleton _ _, fun p _ q hq xs ys _ h2 => ?_⟩
      rw [List.mem_singleton.mp hq] at h2
      exact absurd h2 (nl ys)
  cases e with
  | d y => exact easy (fun _ z => nomatch z) r
  | r xs => cases hs
  | b xs => cases hs
  | hand => exact easy (fun _ z => nomatch z) r
  | o a => exact easy (fun _ z => nomatch z) r
  | l xs =>
    obtain ⟨a, vs, rfl, e2, e3, e4⟩ := r
    have na : some a ≠ w.hd := s.bok.nh e2
    have h0 : w.H0 a = none := by
      cases q : w.H0 a with
      | none => rfl
      | some o => rw [s.keep a o na q] at e2; cases e2
    have up : ∀ b u, H b = some u → b ≠ a := fun b u q => ne_of_none q e2
    have k1 : Kp w.B (Bp w.B a) H H' := fun b o n e => ⟨fun z => z.elim n (up b o e), x.keep b o (fun z => n (s.bok.hB b z.symm)) e⟩
    have ku : ∀ b o, H b = some o → Bp w.U a b → w.U b := fun b o q z => z.elim id fun z => absurd z (up b o q)
    have old : ∀ {v' e'}, ER K w H v' e' → ER K { w with B := Bp w.B a, U := Bp w.U a } H' v' e' := fun h => h.kp k1 x.keep ku fun _ z => .inl z
    have fresh : ∀ {v' xs'}, ER K w H v' (.l xs') → v' ≠ .ref a := fun {v' xs'} h z => by
      obtain ⟨b, o, h1, h2⟩ := h.there
      rw [h1] at z
      cases z
      rw [e2] at h2
      cases h2
    refine ⟨{ w with B := Bp w.B a, U := Bp w.U a }, ⟨fun b o n e => x.keep b o (fun z => n (s.uh b z.symm)) e, fun b z => z.elim .inl fun z => .inr (z ▸ e2), fun b z => z.elim .inl fun z => .inr (z ▸ e2), rfl, rfl, rfl⟩,
      ⟨s.len, s'.keep, ⟨fun b z => z.elim (s'.bok.live b) fun z => by rw [z, e3]; simp, fun h q => ⟨?_, .inl (s.bok.hand h q).2⟩⟩, s.bok0, s.hds, fun b z => z.elim (fun z => .inl (s.ub b z)) .inr, fun b z => .inl (s.b0 b z), fun h q => .inl (s.uh h q),
        fun b z n => z.elim (fun z => s.u0 b z n) fun z => z ▸ h0, fun j e' hj => ?_, s.dist, s'.hk⟩, ⟨fun p hp => ?_, fun p hp xs' hx j ys hj => ?_, ?_⟩, rfl⟩
    · obtain ⟨c, zs, y, y2, y3⟩ := (s.bok.hand h q).1
      exact ⟨c, zs, x.hand h c _ q y, y2.kp k1, y3⟩
    · obtain ⟨v', h1, h2⟩ := s.slot j e' hj
      exact ⟨v', h1, old h2⟩
    · rcases List.mem_append.mp hp with hp | hp
      · exact old (pd.er p hp)
      · rw [List.mem_singleton.mp hp]
        exact ⟨a, vs, rfl, e3, e4, .inr rfl, h0, na⟩
    · rcases List.mem_append.mp hp with hp | hp
      · exact pd.out p hp xs' hx j ys hj
      · rw [List.mem_singleton.mp hp]
        intro z
        obtain ⟨v', h1, h2⟩ := s.slot j _ hj
        rw [h1] at z
        exact fresh h2 (Option.some.inj (Option.some.inj z))
    · refine List.pairwise_append.mpr ⟨pd.apart, List.pairwise_singleton _ _, fun p hp q hq xs' ys h1 h2 z => ?_⟩
      rw [List.mem_singleton.mp hq] at z
      have := pd.er p hp
      rw [h1] at this
      exact fresh this z
/-- the first that waits is stored -/
theorem SR.put {ps : List (V × EV)} (s : SR K w H σ ρ) (pd : Pend K w H σ ρ ((v, e) :: ps)) (i : Nat) : SR K w H (σ.set i (some v)) (ρ.set i (some e)) ∧ Pend K w H (σ.set i (some v)) (ρ.set i (some e)) ps := by
  have he : ER K w H v e := pd.er _ (List.mem_cons_self ..)
  have ho := pd.out (v, e) (List.mem_cons_self ..)
  refine ⟨⟨by rw [List.length_set, List.length_set]; exact s.len, s.keep, s.bok, s.bok0, s.hds, s.ub, s.b0, s.uh, s.u0, slot_set s.len s.slot he, fun j k xs ys c hjk h1 h2 h3 h4 => ?_, s.hk⟩, ⟨fun p hp => pd.er p (List.mem_cons_of_mem _ hp), fun p hp xs hx j ys hj z => ?_, (List.pairwise_cons.mp pd.apart).2⟩⟩
  · rcases get_set h1 with ⟨n1, z⟩ | ⟨n1, z1⟩
    · subst n1
      rcases get_set h2 with ⟨n2, _⟩ | ⟨n2, z2⟩
      · exact hjk n2.symm
      · rcases get_set h3 with ⟨_, z3⟩ | ⟨n3, _⟩
        · rw [List.getElem?_set_ne (fun z => n2 z.symm)] at h4
          exact ho xs z.symm k ys z2 (by rw [h4, z3])
        · exact n3 rfl
    · rw [List.getElem?_set_ne (fun z => n1 z.symm)] at h3
      rcases get_set h2 with ⟨n2, z⟩ | ⟨n2, z2⟩
      · subst n2
        rcases get_set h4 with ⟨_, z4⟩ | ⟨n4, _⟩
        · exact ho ys z.symm j xs z1 (by rw [h3, z4])
        · exact n4 rfl
      · rw [List.getElem?_set_ne (fun z => n2 z.symm)] at h4
        exact s.dist j k xs ys c hjk z1 z2 h3 h4
  · rcases get_set hj with ⟨n1, z1⟩ | ⟨n1, z1⟩
    · subst n1
      rcases get_set z with ⟨_, z2⟩ | ⟨n2, _⟩
      · exact (List.pairwise_cons.mp pd.apart).1 p hp ys xs z1.symm hx z2.symm
      · exact n2 rfl
    · rw [List.getElem?_set_ne (fun z => n1 z.symm)] at z
      exact pd.out p (List.mem_cons_of_mem _ hp) xs hx j ys z1 z
/-- a value is stored under a name -/
theorem SR.store (s : SR K w H σ ρ) (x : Ext w.hd H H') (r : RR K w.hd w.B w.U H H' v e) (hs : e.sto = true) (i : Nat) :
    ∃ w', Tr w w' H H' ∧ SR K w' H' (σ.set i (some v)) (ρ.set i (some e)) ∧ w'.hd = w.hd := by
  obtain ⟨w', t, s', p', h⟩ := s.take .nil x r hs
  exact ⟨w', t, (s'.put p' i).1, h⟩
end

/-! ### statements -/
structure PEnds where
  nx : Env → Prop
  rt : EV → Prop
  bk : Env → Prop := fun _ => False
  ct : Env → Prop := fun _ => False
abbrev PTS := PEnds → Env → Prop
/-- what a body may hand back -/
def RV (K : PySem.W.Frag) (hd : Option Addr) (B : Addr → Prop) (H H' : Hp) (v : V) (e : EV) : Prop := match e with
  | .d x => Da K B H' v x
  | .l xs => ∃ a vs, v = .ref a ∧ H a = none ∧ H' a = some (.lst vs) ∧ DaA K (Bp B a) H' vs xs
  | .o a => v = .ref a
  | _ => False
structure Cont (K : PySem.W.Frag) (w : Ws) (H : Hp) (P : PEnds) (D : Ends) : Prop where
  nx : ∀ w' σ' H' ρ', Tr w w' H H' → SR K w' H' σ' ρ' → P.nx ρ' → D.nx σ' H'
  bk : ∀ w' σ' H' ρ', Tr w w' H H' → SR K w' H' σ' ρ' → P.bk ρ' → D.bk σ' H'
  ct : ∀ w' σ' H' ρ', Tr w w' H H' → SR K w' H' σ' ρ' → P.ct ρ' → D.ct σ' H'
  rt : ∀ v H' e, Ext w.hd0 w.H0 H' → RV K w.hd0 w.B0 w.H0 H' v e → P.rt e → D.rt v H'
def liftS (K : PySem.W.Frag) (ts : PTS) : TS := fun D σ H => ∃ (w : Ws) (ρ : Env) (P : PEnds), SR K w H σ ρ ∧ ts P ρ ∧ Cont K w H P D
abbrev QS (X : Cx) (st : Stmt) (t : PTS) : Prop := PS X st (liftS X.K t)
abbrev QSs (X : Cx) (st : List Stmt) (t : PTS) : Prop := PSs X st (liftS X.K t)
theorem PS.imp {X : Cx} {e : Stmt} {t u : TS} (h : PS X e t) (i : ∀ D σ H, u D σ H → t D σ H) : PS X e u := ⟨fun pins s σ H D I x => h.run pins s σ H D I (i D σ H x)⟩
theorem PSs.imp {X : Cx} {e : List Stmt} {t u : TS} (h : PSs X e t) (i : ∀ D σ H, u D σ H → t D σ H) : PSs X e u := ⟨fun pins s σ H D I x => h.run pins s σ H D I (i D σ H x)⟩

def pNext : PTS := fun P ρ => P.nx ρ
def pSeq (t u : PTS) : PTS := fun P ρ => t { P with nx := u P } ρ
def pBreak : PTS := fun P ρ => P.bk ρ
def pCont : PTS := fun P ρ => P.ct ρ
def pNever : PTS := fun _ _ => False
def pAsg (i : Nat) (t : PTE) : PTS := fun P ρ => t ρ fun e => e.sto = true ∧ P.nx (ρ.set i (some e))
def pIf (c : PTT) (t u : PTS) : PTS := fun P ρ => c ρ fun b => if b = true then t P ρ else u P ρ
def EV.ret : EV → Bool
  | .d _ => true
  | .l _ => true
  | .o _ => true
  | _ => false
def pRet (t : PTE) : PTS := fun P ρ => t ρ fun e => e.ret = true ∧ P.rt e
/-- return of a name -/
def pRetV (i : Nat) : PTS := fun P ρ => match ρ[i]? with
  | some (some e) => e.ret = true ∧ P.rt e
  | _ => False
def pRetN : PTS := fun P _ => P.rt (.d .none)
def pDrop (t : PTE) : PTS := fun P ρ => t ρ fun _ => P.nx ρ
def pAppend (i : Nat) (t : PTE) : PTS := fun P ρ => ∃ xs, ρ[i]? = some (some (.l xs)) ∧ t ρ fun e => ∃ x, e.dat = some x ∧ xs.length < 100000 ∧ P.nx (ρ.set i (some (.l (xs ++ [x]))))
def pSetIx (i : Nat) (ti te : PTE) : PTS := fun P ρ => ∃ xs, ρ[i]? = some (some (.l xs)) ∧ te ρ fun e => ti ρ fun j => ∃ x k n, e.dat = some x ∧ j = .d (.int k) ∧ ixN xs.length k = some n ∧ P.nx (ρ.set i (some (.l (xs.set n x))))
def pAug (i : Nat) (p : P2) (t : PTE) : PTS := fun P ρ => match ρ[i]? with
  | some (some x) => t ρ fun y => p x.rd y fun e => e.sto = true ∧ P.nx (ρ.set i (some e))
  | _ => False
/-- a list of this body's own is data from now on -/
def pFreeze (i : Nat) (t : PTS) : PTS := fun P ρ => ∃ xs, ρ[i]? = some (some (.l xs)) ∧ t P (ρ.set i (some (.d (.list xs))))
abbrev PTG := PyData → Env → (Env → Prop) → Prop
def pgName (i : Nat) : PTG := fun x ρ Q => Q (ρ.set i (some (.d x)))
abbrev PTGs := List PyData → Env → (Env → Prop) → Prop
def pgNil : PTGs := fun xs ρ Q => xs = [] ∧ Q ρ
def pgCons (g : PTG) (r : PTGs) : PTGs := fun xs ρ Q => ∃ x ys, xs = x :: ys ∧ g x ρ fun ρ1 => r ys ρ1 Q
def pgTup (n : Nat) (g : PTGs) : PTG := fun x ρ Q => ∃ xs, x = .tuple xs ∧ xs.length = n ∧ g xs ρ Q
/-- a, b = e -/
def pAsgT (g : PTG) (t : PTE) : PTS := fun P ρ => t ρ fun e => ∃ x, e = .d x ∧ g x ρ P.nx
def pPar (i j : Nat) (t u : PTE) : PTS := fun P ρ => t ρ fun a => a.sto = true ∧ u ρ fun b => b.sto = true ∧ P.nx ((ρ.set i (some a)).set j (some b))
def pPar3 (i j k : Nat) (t u v : PTE) : PTS := fun P ρ => t ρ fun a => a.sto = true ∧ u ρ fun b => b.sto = true ∧ v ρ fun c => c.sto = true ∧ P.nx (((ρ.set i (some a)).set j (some b)).set k (some c))

section
variable {X : Cx} {K : PySem.W.Frag} {w w' : Ws} {H H' : Hp} {σ : L2.St} {ρ : Env} {P : PEnds} {D : Ends} {st : Stmt} {rest : List Stmt} {t u : PTS} {a : Expr} {ta : PTE} {pos : Pos}
theorem Cont.on (c : Cont K w H P D) (s : SR K w H σ ρ) (t : Tr w w' H H') : Cont K w' H' P D :=
  ⟨fun w2 σ' H2 ρ' t2 s2 h => c.nx w2 σ' H2 ρ' (t.trans s.ub t2) s2 h, fun w2 σ' H2 ρ' t2 s2 h => c.bk w2 σ' H2 ρ' (t.trans s.ub t2) s2 h, fun w2 σ' H2 ρ' t2 s2 h => c.ct w2 σ' H2 ρ' (t.trans s.ub t2) s2 h,
    fun v H2 e x r h => c.rt v H2 e (by rw [← t.hd0, ← t.h0]; exact x) (by rw [← t.hd0, ← t.b0, ← t.h0]; exact r) h⟩
theorem Cont.next (c : Cont K w H P D) (s : SR K w H σ ρ) {Px : Env → Prop} {Dx : L2.St → Hp → Prop} (h : ∀ w' σ' H' ρ', Tr w w' H H' → SR K w' H' σ' ρ' → Px ρ' → Dx σ' H') : Cont K w H { P with nx := Px } { D with nx := Dx } :=
  ⟨h, c.bk, c.ct, c.rt⟩
theorem qs_nil : QSs X [] pNext := PSs.imp pss_nil fun D σ H ⟨w, ρ, P, s, h, c⟩ => c.nx w σ H ρ .refl s h
theorem qs_cons (h1 : QS X st t) (h2 : QSs X rest u) : QSs X (st :: rest) (pSeq t u) := PSs.imp (pss_cons h1 h2) fun D σ H ⟨w, ρ, P, s, h, c⟩ =>
  ⟨w, ρ, _, s, h, c.next s fun w' σ' H' ρ' t s' h => ⟨w', ρ', P, s', h, c.on s t⟩⟩
theorem qs_one (h1 : QS X st t) : QSs X [st] t := pss_one h1
theorem qs_pass : QS X (.Pass pos) pNext := PS.imp ps_pass fun D σ H ⟨w, ρ, P, s, h, c⟩ => c.nx w σ H ρ .refl s h
theorem qs_break : QS X (.Break pos) pBreak := PS.imp ps_break fun D σ H ⟨w, ρ, P, s, h, c⟩ => c.bk w σ H ρ .refl s h
theorem qs_cont : QS X (.Continue pos) pCont := PS.imp ps_continue fun D σ H ⟨w, ρ, P, s, h, c⟩ => c.ct w σ H ρ .refl s h
theorem qs_never : QS X st pNever := PS.imp ps_never fun D σ H ⟨w, ρ, P, s, h, c⟩ => h
theorem lift_asg {i : Nat} : ∀ D σ H, liftS K (pAsg i ta) D σ H → tAsg (liftE K ta) (gName i) D σ H := by
  rintro D σ H ⟨w, ρ, P, s, h, c⟩
  refine ⟨w, ρ, _, s, h, fun v H' e x r hq => ?_⟩
  obtain ⟨hs, hq⟩ := hq
  obtain ⟨w', t, s', _⟩ := s.store x r hs i
  exact c.nx w' _ H' _ t s' hq
theorem qs_if {e : Expr} {tt : PTT} {b1 b2 : List Stmt} (hc : QT X e tt) (h1 : QSs X b1 t) (h2 : QSs X b2 u) : QS X (.If e b1 b2 pos) (pIf tt t u) := PS.imp (ps_if hc h1 h2) fun D σ H ⟨w, ρ, P, s, h, c⟩ => by
  refine ⟨w, ρ, _, s, h, fun b H' x hq => ?_⟩
  cases b with
  | true => exact ⟨w, ρ, P, s.ext x, hq, c.on s (x.tr s)⟩
  | false => exact ⟨w, ρ, P, s.ext x, hq, c.on s (x.tr s)⟩
/-- what is handed back -/
theorem SR.back (s : SR K w H σ ρ) (x : Ext w.hd H H') : Ext w.hd0 w.H0 H' := by
  have s' := s.ext x
  refine ⟨fun a o n e => ?_, fun h c l e q => ?_⟩
  · by_cases z : some a = w.hd
    · rcases s.hds with y | ⟨_, h, y, y2⟩
      · exact absurd (z.trans y) n
      · rw [y] at z
        cases z
        rw [y2] at e
        cases e
    · exact s'.keep a o z e
  · exact s'.hk h c l e q
theorem RR.rv (s : SR K w H σ ρ) {v : V} {e : EV} (x : Ext w.hd H H') (r : RR K w.hd w.B w.U H H' v e) (hr : e.ret = true) : RV K w.hd0 w.B0 w.H0 H' v e := by
  cases e with
  | d y => exact Da.kp (kp_less s.b0) _ _ r
  | l xs =>
    obtain ⟨a, vs, e1, e2, e3, e4⟩ := r
    refine ⟨a, vs, e1, ?_, e3, DaA.kp (kp_less fun b z => z.elim (fun z => .inl (s.b0 b z)) .inr) _ _ e4⟩
    cases q : w.H0 a with
    | none => rfl
    | some o =>
      rw [s.keep a o (s.bok.nh e2) q] at e2
      cases e2
  | o a => exact r
  | r xs => cases hr
  | b xs => cases hr
  | hand => cases hr
theorem qs_ret (ha : QE X a ta) : QS X (.Return (some a) pos) (pRet ta) := PS.imp (ps_ret ha) fun D σ H ⟨w, ρ, P, s, h, c⟩ =>
  ⟨w, ρ, _, s, h, fun v H' e x r hq => c.rt v H' e (s.back x) (r.rv s x hq.1) hq.2⟩
theorem qs_retN : QS X (.Return none pos) pRetN := PS.imp ps_retN fun D σ H ⟨w, ρ, P, s, h, c⟩ => c.rt .non H (.d .none) (s.back .refl) Da.non h
theorem qs_retV {i : Nat} {x : Str} {p : Pos} (ha : PE X (.Name x p) (tVar i)) : QS X (.Return (some (.Name x p)) pos) (pRetV i) := PS.imp (ps_ret ha) fun D σ H ⟨w, ρ, P, s, h, c⟩ => by
  unfold pRetV at h
  split at h
  · rename_i e he
    obtain ⟨v, h1, h2⟩ := s.slot i e he
    refine ⟨v, h1, c.rt v H e (s.back .refl) ?_ h.2⟩
    cases e with
    | d y => exact Da.kp (kp_less s.b0) _ _ h2
    | l xs =>
      obtain ⟨a, vs, e1, e2, e3, e4, e5, e6⟩ := h2
      exact ⟨a, vs, e1, e5, e2, DaA.kp (kp_less fun b z => z.elim (s.b0 b) fun z => z ▸ s.ub a e4) _ _ e3⟩
    | o a => exact h2
    | r xs => cases h.1
    | b xs => cases h.1
    | hand => cases h.1
  · exact h.elim
theorem qs_drop (ha : QE X a ta) (hs : swapsWith a none pos.line X.env = pure false := by rfl) : QS X (.Expr a pos) (pDrop ta) := PS.imp (ps_expr ha hs) fun D σ H ⟨w, ρ, P, s, h, c⟩ =>
  ⟨w, ρ, _, s, h, fun v H' e x r hq => c.nx w σ H' ρ (x.tr s) (s.ext x) hq⟩
end
end PL
namespace PL
open PySem PySem.Spec PyProof.Rows L2
section
variable {X : Cx} {K : PySem.W.Frag} {w w' : Ws} {H H' : Hp} {σ : L2.St} {ρ : Env} {P : PEnds} {D : Ends} {st : Stmt} {rest : List Stmt} {t u : PTS} {a : Expr} {ta : PTE} {pos : Pos}
theorem SR.mut (s : SR K w H σ ρ) {i : Nat} {xs ys : List PyData} {p : Addr} {vs us : List V} (hi : ρ[i]? = some (some (.l xs))) (hσ : σ[i]? = some (some (.ref p))) (hp : H p = some (.lst vs)) (hU : w.U p) (h0 : w.H0 p = none) (np : some p ≠ w.hd)
    (hd : DaA K w.B H us ys) : Tr w w H (upd H p (.lst us)) ∧ SR K w (upd H p (.lst us)) σ (ρ.set i (some (.l ys))) := by
  have kp : Kp w.B w.B H (upd H p (.lst us)) := fun b o n e => ⟨n, by
    rw [upd_ne (fun z => n (by rw [z]; exact s.ub p hU))]
    exact e⟩
  have hlt : i < ρ.length := (List.getElem?_eq_some_iff.mp hi).1
  refine ⟨⟨fun b o n e => ?_, fun _ h => .inl h, fun _ h => .inl h, rfl, rfl, rfl⟩, ⟨by rw [List.length_set]; exact s.len, fun b o n e => ?_, ⟨fun b hb => ?_, fun h e => ?_⟩, s.bok0, s.hds, s.ub, s.b0, s.uh, s.u0, fun j e hj => ?_, fun j k zs ws c hjk h1 h2 h3 h4 => ?_, fun h c l e q => ?_⟩⟩
  · rw [upd_ne (fun z => n (by rw [z]; exact hU))]
    exact e
  · rw [upd_ne (fun z => by rw [z, h0] at e; cases e)]
    exact s.keep b o n e
  · by_cases z : b = p
    · rw [z, upd_same]; simp
    · rw [upd_ne z]; exact s.bok.live b hb
  · obtain ⟨⟨c, zs, q1, q2, q3⟩, q4⟩ := s.bok.hand h e
    exact ⟨⟨c, zs, q1.kp fun o q => by rw [upd_ne (fun z => np (by rw [← z]; exact e.symm))]; exact q, q2.kp kp, q3⟩, q4⟩
  · rcases get_set hj with ⟨e1, e2⟩ | ⟨n1, h1⟩
    · subst e1 e2
      exact ⟨.ref p, hσ, p, us, rfl, upd_same, DaA.kp kp _ _ hd, hU, h0, np⟩
    · obtain ⟨v, h2, h3⟩ := s.slot j e h1
      refine ⟨v, h2, ?_⟩
      cases e with
      | d y => exact Da.kp kp _ _ h3
      | l zs =>
        obtain ⟨c, ws, e1, e2, e3, e4, e5, e6⟩ := h3
        have ne : c ≠ p := fun z => s.dist i j xs zs p (fun z => n1 z.symm) hi h1 hσ (by rw [h2, e1, z])
        exact ⟨c, ws, e1, by rw [upd_ne ne]; exact e2, DaA.kp kp _ _ e3, e4, e5, e6⟩
      | r zs =>
        obtain ⟨c, ws, e1, e2, e3, e4, e5⟩ := h3
        exact ⟨c, ws, e1, by rw [upd_ne (fun z => e3 (by rw [z]; exact hU))]; exact e2, e3, e4, DaA.kp kp _ _ e5⟩
      | b zs => exact h3
      | hand => exact h3
      | o c => exact h3
  · have back : ∀ (m : Nat) qs, (ρ.set i (some (EV.l ys)))[m]? = some (some (.l qs)) → ∃ qs', ρ[m]? = some (some (.l qs')) := fun m qs q => by
      rcases get_set q with ⟨e1, _⟩ | ⟨_, h⟩
      · exact ⟨xs, e1 ▸ hi⟩
      · exact ⟨qs, h⟩
    obtain ⟨zs', h1'⟩ := back j zs h1
    obtain ⟨ws', h2'⟩ := back k ws h2
    exact s.dist j k zs' ws' c hjk h1' h2' h3 h4
  · exact (s.hk h c l e q).kp fun o q => by rw [upd_ne (fun z => np (by rw [← z]; exact (s.hd_of e).symm))]; exact q
theorem SR.own (s : SR K w H σ ρ) {i : Nat} {xs : List PyData} (hi : ρ[i]? = some (some (.l xs))) : ∃ p vs, σ[i]? = some (some (.ref p)) ∧ H p = some (.lst vs) ∧ DaA K w.B H vs xs ∧ w.U p ∧ w.H0 p = none ∧ some p ≠ w.hd := by
  obtain ⟨v, h1, p, vs, rfl, h2⟩ := s.slot i _ hi
  exact ⟨p, vs, h1, h2⟩
theorem sz6 {n : Nat} (h : n < 100000) : n < sizeLine := Nat.lt_of_lt_of_le h (by decide)
theorem qs_append {i : Nat} {st : Stmt} (h : PS X st (tDrop (tBM X.K "list" rAppend (tVar i) (tCons (liftE X.K ta) tNil)))) : QS X st (pAppend i ta) := PS.imp h fun D σ H ⟨w, ρ, P, s, h, c⟩ => by
  obtain ⟨xs, hi, h⟩ := h
  obtain ⟨p, vs, h1, h2, h3, h4, h5, h6⟩ := s.own hi
  refine ⟨.ref p, h1, .inl ⟨rfl, vs, .inl (.inl h2)⟩, w, ρ, _, s, h, fun v H' e x r hq => ?_⟩
  obtain ⟨y, hd, hz, hq⟩ := hq
  have s' := s.ext x
  have g2 := x.keep p _ h6 h2
  have g3 : DaA X.K w.B H' vs xs := DaA.kp (x.kp s.bok.hB) _ _ h3
  refine ⟨p, vs, v, rfl, rfl, g2, sz6 (by rw [h3.length]; exact hz), ?_⟩
  obtain ⟨t1, s2⟩ := s'.mut hi h1 g2 h4 h5 h6 (g3.append (.cons (r.dat s.bok hd) .nil))
  exact c.nx w _ _ _ ((x.tr s).trans s.ub t1) s2 hq
variable {ti : PTE}
theorem qs_setIx {i : Nat} {st : Stmt} (h : PS X st (tAsg (liftE X.K ta) (gSub (tVar i) (liftE X.K ti) rSetL))) : QS X st (pSetIx i ti ta) := PS.imp h fun D σ H ⟨w, ρ, P, s, h, c⟩ => by
  obtain ⟨xs, hi, h⟩ := h
  refine ⟨w, ρ, _, s, h, fun v H1 e x1 r1 hq => ?_⟩
  have s1 := s.ext x1
  obtain ⟨p, vs, h1, h2, h3, h4, h5, h6⟩ := s1.own hi
  refine ⟨.ref p, h1, w, ρ, _, s1, hq, fun u H2 ej x2 r2 hq => ?_⟩
  obtain ⟨y, k, n, hd, rfl, hn, hq⟩ := hq
  have s2 := s1.ext x2
  have g2 := x2.keep p _ h6 h2
  have g3 : DaA X.K w.B H2 vs xs := DaA.kp (x2.kp s1.bok.hB) _ _ h3
  refine ⟨p, vs, k, n, rfl, r2.int, g2, by rw [h3.length]; exact hn, ?_⟩
  obtain ⟨t1, s3⟩ := s2.mut hi h1 g2 h4 h5 h6 (g3.set ((r1.ext s.bok x1 x2).dat s.bok hd) n)
  exact c.nx w _ _ _ (((x1.trans x2).tr s).trans s.ub t1) s3 hq
theorem qs_asg {i : Nat} {st : Stmt} (h : PS X st (tAsg (liftE X.K ta) (gName i))) : QS X st (pAsg i ta) := PS.imp h lift_asg
theorem qs_aug {i : Nat} {st : Stmt} {r : R2} {p : P2} (o : Op2 X.K r p) (h : PS X st (tAug i (liftE X.K ta) r)) : QS X st (pAug i p ta) := PS.imp h fun D σ H ⟨w, ρ, P, s, h, c⟩ => by
  unfold pAug at h
  split at h
  · rename_i e he
    obtain ⟨v, h1, h2⟩ := s.slot i e he
    refine ⟨v, h1, w, ρ, _, s, h, fun u H1 e2 x1 r1 hq => ?_⟩
    refine o w.hd w.B w.U H H1 v u _ e2 _ _ s.bok x1 (h2.rr.ext s.bok .refl x1) r1 hq fun z H2 e3 x2 r2 hq => ?_
    obtain ⟨w', t, s', _⟩ := s.store (x1.trans x2) (r2.back s.bok x1) hq.1 i
    exact c.nx w' _ _ _ t s' hq.2
  · exact h.elim
/-- targets, by data -/
def GL (K : PySem.W.Frag) (g : TG) (pg : PTG) : Prop := ∀ (w : Ws) (H : Hp) (σ : L2.St) (ρ : Env) (v : V) (x : PyData) (Q : L2.St → Hp → Prop) (q : Env → Prop), SR K w H σ ρ → Da K w.B H v x → pg x ρ q → (∀ σ' ρ', SR K w H σ' ρ' → q ρ' → Q σ' H) → g v σ H Q
def GLs (K : PySem.W.Frag) (g : TGs) (pg : PTGs) : Prop := ∀ (w : Ws) (H : Hp) (σ : L2.St) (ρ : Env) (vs : List V) (xs : List PyData) (Q : L2.St → Hp → Prop) (q : Env → Prop), SR K w H σ ρ → DaA K w.B H vs xs → pg xs ρ q → (∀ σ' ρ', SR K w H σ' ρ' → q ρ' → Q σ' H) → g vs σ H Q
theorem SR.storeD (s : SR K w H σ ρ) {v : V} {x : PyData} (h : Da K w.B H v x) (i : Nat) : SR K w H (σ.set i (some v)) (ρ.set i (some (.d x))) := by
  refine ⟨by rw [List.length_set, List.length_set]; exact s.len, s.keep, s.bok, s.bok0, s.hds, s.ub, s.b0, s.uh, s.u0, slot_set s.len s.slot h, fun j k zs ws c hjk h1 h2 h3 h4 => ?_, s.hk⟩
  rcases get_set h1 with ⟨_, z⟩ | ⟨n1, z1⟩
  · cases z
  rcases get_set h2 with ⟨_, z⟩ | ⟨n2, z2⟩
  · cases z
  rw [List.getElem?_set_ne (fun z => n1 z.symm)] at h3
  rw [List.getElem?_set_ne (fun z => n2 z.symm)] at h4
  exact s.dist j k zs ws c hjk z1 z2 h3 h4
theorem gl_name (i : Nat) : GL K (gName i) (pgName i) := fun w H σ ρ v x Q q s h hp k => k _ _ (s.storeD h i) hp
theorem gls_nil : GLs K gNil pgNil := fun w H σ ρ vs xs Q q s h hp k => by
  obtain ⟨rfl, hq⟩ := hp
  cases h
  exact ⟨rfl, k _ _ s hq⟩
theorem gls_cons {g : TG} {gs : TGs} {pg : PTG} {pgs : PTGs} (h1 : GL K g pg) (h2 : GLs K gs pgs) : GLs K (gCons g gs) (pgCons pg pgs) := fun w H σ ρ vs xs Q q s h hp k => by
  obtain ⟨x, ys, rfl, hq⟩ := hp
  cases h with
  | cons d1 d2 => exact ⟨_, _, rfl, h1 w H σ ρ _ x _ _ s d1 hq fun σ' ρ' s' hq => h2 w H σ' ρ' _ ys Q q s' d2 hq k⟩
theorem gl_tup {n : Nat} {gs : TGs} {pgs : PTGs} (h2 : GLs K gs pgs) : GL K (gTup K n gs) (pgTup n pgs) := fun w H σ ρ v x Q q s h hp k => by
  obtain ⟨xs, rfl, hl, hq⟩ := hp
  cases h with
  | tup d1 d2 => exact ⟨_, _, rfl, d1.sq, by rw [d2.length]; exact hl, h2 w H σ ρ _ xs Q q s d2 hq k⟩
theorem qs_asgT {g : TG} {pg : PTG} {st : Stmt} (hg : GL X.K g pg) (h : PS X st (tAsg (liftE X.K ta) g)) : QS X st (pAsgT pg ta) := PS.imp h fun D σ H ⟨w, ρ, P, s, h, c⟩ => by
  refine ⟨w, ρ, _, s, h, fun v H' e x r hq => ?_⟩
  obtain ⟨y, rfl, hq⟩ := hq
  exact hg w H' σ ρ v y _ _ (s.ext x) r hq fun σ' ρ' s' hq => c.nx w _ _ _ (x.tr s) s' hq
variable {tb tc : PTE}
theorem qs_par {i j : Nat} {st : Stmt} (h : PS X st (tPar i j (tCons (liftE X.K ta) (tCons (liftE X.K tb) tNil)))) : QS X st (pPar i j ta tb) := PS.imp h fun D σ H ⟨w, ρ, P, s, h, c⟩ => by
  refine ⟨w, ρ, _, s, h, fun v H1 e x1 r1 hq => ?_⟩
  obtain ⟨w1, t1, s1, p1, _⟩ := s.take .nil x1 r1 hq.1
  refine ⟨w1, ρ, _, s1, hq.2, fun u H2 e2 x2 r2 hq => ?_⟩
  obtain ⟨w2, t2, s2, p2, _⟩ := s1.take p1 x2 r2 hq.1
  obtain ⟨s3, p3⟩ := s2.put p2 i
  obtain ⟨s4, _⟩ := s3.put p3 j
  exact ⟨v, u, rfl, c.nx w2 _ _ _ (t1.trans s.ub t2) s4 hq.2⟩
theorem qs_par3 {i j k : Nat} {st : Stmt} (h : PS X st (tPar3 i j k (tCons (liftE X.K ta) (tCons (liftE X.K tb) (tCons (liftE X.K tc) tNil))))) : QS X st (pPar3 i j k ta tb tc) := PS.imp h fun D σ H ⟨w, ρ, P, s, h, c⟩ => by
  refine ⟨w, ρ, _, s, h, fun v H1 e x1 r1 hq => ?_⟩
  obtain ⟨w1, t1, s1, p1, _⟩ := s.take .nil x1 r1 hq.1
  refine ⟨w1, ρ, _, s1, hq.2, fun u H2 e2 x2 r2 hq => ?_⟩
  obtain ⟨w2, t2, s2, p2, _⟩ := s1.take p1 x2 r2 hq.1
  refine ⟨w2, ρ, _, s2, hq.2, fun z H3 e3 x3 r3 hq => ?_⟩
  obtain ⟨w3, t3, s3, p3, _⟩ := s2.take p2 x3 r3 hq.1
  obtain ⟨s4, p4⟩ := s3.put p3 i
  obtain ⟨s5, p5⟩ := s4.put p4 j
  obtain ⟨s6, _⟩ := s5.put p5 k
  exact ⟨v, u, z, rfl, c.nx w3 _ _ _ ((t1.trans s.ub t2).trans s.ub t3) s6 hq.2⟩
/-- a name's own list is data from now on -/
theorem lift_freeze {i : Nat} : ∀ D σ H, liftS K (pFreeze i t) D σ H → liftS K t D σ H := fun D σ H ⟨w, ρ, P, s, h, c⟩ => by
  obtain ⟨xs, hi, h⟩ := h
  obtain ⟨p, vs, h1, h2, h3, h4, h5, h6⟩ := s.own hi
  have nB0 : ¬ w.B0 p := fun z => s.bok0.live p z h5
  have ku : ∀ (b : Addr) (o : HO), H b = some o → (w.U b ∧ b ≠ p) → w.U b := fun b o _ z => z.1
  have kB : Kp w.B (fun b => w.B b ∧ b ≠ p) H H := fun b o n e => ⟨fun z => n z.1, e⟩
  refine ⟨{ w with B := fun b => w.B b ∧ b ≠ p, U := fun b => w.U b ∧ b ≠ p }, _, P, ⟨by rw [List.length_set]; exact s.len, s.keep, ⟨fun b z => s.bok.live b z.1, fun g e => ?_⟩, s.bok0, s.hds, fun b z => ⟨s.ub b z.1, z.2⟩, fun b z => ⟨s.b0 b z, fun q => nB0 (q ▸ z)⟩,
    fun g e => ⟨s.uh g e, fun q => h6 (q ▸ e.symm)⟩, fun b z n => s.u0 b z.1 n, fun j e hj => ?_, fun j k zs ws q hjk g1 g2 g3 g4 => ?_, s.hk⟩, h, c.on s ⟨fun _ _ _ e => e, fun _ z => .inl z.1, fun _ z => .inl z.1, rfl, rfl, rfl⟩⟩
  · obtain ⟨⟨q, zs, q1, q2, q3⟩, q4⟩ := s.bok.hand g e
    exact ⟨⟨q, zs, q1, q2.kp kB, q3⟩, q4, fun z => h6 (z ▸ e.symm)⟩
  · rcases get_set hj with ⟨e1, e2⟩ | ⟨n1, g1⟩
    · subst e1 e2
      exact ⟨.ref p, h1, Da.lst (.inl ⟨.inl h2, fun z => z.2 rfl⟩) (DaA.kp kB _ _ h3)⟩
    · obtain ⟨v, g2, g3⟩ := s.slot j e g1
      refine ⟨v, g2, ?_⟩
      cases e with
      | d y => exact Da.kp kB _ _ g3
      | l ys =>
        obtain ⟨q, us, q1, q2, q3, q4, q5, q6⟩ := g3
        exact ⟨q, us, q1, q2, DaA.kp kB _ _ q3, ⟨q4, fun z => s.dist i j xs ys p (fun z => n1 z.symm) hi g1 h1 (by rw [g2, q1, z])⟩, q5, q6⟩
      | r ys =>
        obtain ⟨q, us, q1, q2, q3, q4, q5⟩ := g3
        exact ⟨q, us, q1, q2, fun z => q3 z.1, q4, DaA.kp kB _ _ q5⟩
      | b ys => exact g3
      | hand => exact g3
      | o q => exact g3
  · rcases get_set g1 with ⟨_, z⟩ | ⟨n1, z1⟩
    · cases z
    rcases get_set g2 with ⟨_, z⟩ | ⟨n2, z2⟩
    · cases z
    exact s.dist j k zs ws q hjk z1 z2 g3 g4
theorem qs_freeze (i : Nat) {st : Stmt} (h : QS X st t) : QS X st (pFreeze i t) := PS.imp h lift_freeze
theorem qss_freeze (i : Nat) {sts : List Stmt} (h : QSs X sts t) : QSs X sts (pFreeze i t) := PSs.imp h lift_freeze
end
end PL
namespace PL
open PySem PySem.Spec PyProof.Rows L2

/-! ### what is walked -/
structure Src (K : PySem.W.Frag) (w : Ws) (H1 : Hp) (J : It) (xs : List PyData) : Prop where
  go : ∀ w' H' i, Tr w w' H1 H' → BOk K w'.hd w'.B H' → i < xs.length → J.go i H'
  stop : ∀ w' H', Tr w w' H1 H' → BOk K w'.hd w'.B H' → J.stop xs.length H'
  yld : ∀ w' H' i x H'', Tr w w' H1 H' → BOk K w'.hd w'.B H' → i < xs.length → J.yld i H' x H'' → ∃ d, xs[i]? = some d ∧ Ext w'.hd H' H'' ∧ Da K w'.B H'' x d
abbrev PTI := Env → (List PyData → Prop) → Prop
def liftI (K : PySem.W.Frag) (ti : PTI) : TI := fun σ H R => ∃ (w : Ws) (ρ : Env) (q : List PyData → Prop), SR K w H σ ρ ∧ ti ρ q ∧ ∀ J H1 xs, Ext w.hd H H1 → Src K w H1 J xs → q xs → R J H1
abbrev QI (X : Cx) (tg e : Expr) (ti : PTI) : Prop := PI X tg e (liftI X.K ti)
theorem PI.imp {X : Cx} {tg e : Expr} {t u : TI} (h : PI X tg e t) (i : ∀ σ H R, u σ H R → t σ H R) : PI X tg e u := ⟨fun pins s σ H R I x => h.run pins s σ H R I (i σ H R x)⟩

def pForL (g : PTG) (tb : PTS) (P : PEnds) : List PyData → Env → Prop
  | [], ρ => P.nx ρ
  | x :: xs, ρ => g x ρ fun ρ1 => tb { P with nx := pForL g tb P xs, ct := pForL g tb P xs, bk := P.nx } ρ1
def pFor (ti : PTI) (g : PTG) (tb : PTS) : PTS := fun P ρ => ti ρ fun xs => pForL g tb P xs ρ
def pWhile (c : PTT) (tb : PTS) : PTS := fun P ρ => ∃ I : Nat → Env → Prop, (∃ m, I m ρ) ∧ ∀ m ρ, I m ρ → c ρ fun b =>
  if b = true then tb { P with nx := fun ρ' => ∃ m', m' < m ∧ I m' ρ', ct := fun ρ' => ∃ m', m' < m ∧ I m' ρ', bk := P.nx } ρ else P.nx ρ
def wipeE (ρ : Env) : List Nat → Env
  | [] => ρ
  | v :: vs => (wipeE ρ vs).set v none
def pLcL (g : PTG) (tt : PTT) (te : PTE) (ρ : Env) (Q : EV → Prop) : List PyData → List PyData → Prop
  | [], acc => Q (.l acc)
  | x :: xs, acc => g x ρ fun ρ1 => tt ρ1 fun b => if b = true then te ρ1 fun e => ∃ d, e.dat = some d ∧ pLcL g tt te ρ Q xs (acc ++ [d]) else pLcL g tt te ρ Q xs acc
def pLc (ti : PTI) (g : PTG) (tt : PTT) (te : PTE) (vs : List Nat) : PTE := fun ρ Q => ti ρ fun xs => xs.length ≤ 50000 ∧ pLcL g tt te (wipeE ρ vs) Q xs []
def pYes : PTT := fun _ Q => Q true

section
variable {X : Cx} {K : PySem.W.Frag} {w w' : Ws} {H H' H1 : Hp} {σ : L2.St} {ρ : Env} {P : PEnds} {D : Ends} {t u : PTS} {pos : Pos}
theorem drop_cons {α : Type} {xs : List α} {i : Nat} {d : α} (h : xs[i]? = some d) : xs.drop i = d :: xs.drop (i + 1) := by
  obtain ⟨h1, h2⟩ := List.getElem?_eq_some_iff.mp h
  rw [← h2]
  exact List.drop_eq_getElem_cons h1
theorem qs_for {tg iter : Expr} {body : List Stmt} {ti : PTI} {g : TG} {pg : PTG} {tb : PTS} (hp : PassesOwn (model X.prog X.w) X.A X.env X.xe) (hc : X.calm = true) (hi : QI X tg iter ti) (hg : PG X tg g) (gl : GL X.K g pg) (hb : QSs X body tb) (hfs : ∀ x, foldedSetIterable iter X.env x = pure x := by intro _; rfl) :
    QS X (.For tg iter body [] pos) (pFor ti pg tb) := PS.imp (ps_for hp hc hi hg hb hfs) fun D σ H ⟨w, ρ, P, s, h, c⟩ => by
  refine ⟨w, ρ, _, s, h, fun J H1 xs x src hq => ?_⟩
  have s1 := s.ext x
  refine ⟨fun i m σ' H' => m = xs.length - i ∧ i ≤ xs.length ∧ ∃ w' ρ', Tr w w' H1 H' ∧ SR X.K w' H' σ' ρ' ∧ pForL pg tb P (xs.drop i) ρ', ⟨xs.length, by simp, Nat.zero_le _, w, ρ, .refl, s1, by rw [List.drop_zero]; exact hq⟩, ?_⟩
  rintro i m σ' H' ⟨rfl, hle, w', ρ', t1, s', hq'⟩
  have c' : Cont X.K w' H' P D := c.on s ((x.tr s).trans s.ub t1)
  by_cases hlt : i < xs.length
  · refine .inr ⟨src.go w' H' i t1 s'.bok hlt, fun σ2 H2 => ∃ w2 ρ2, Tr w w2 H1 H2 ∧ SR X.K w2 H2 σ2 ρ2 ∧ pForL pg tb P (xs.drop (i + 1)) ρ2, fun σ2 H2 ⟨w2, ρ2, t2, s2, hq2⟩ => ⟨xs.length - (i + 1), by omega, rfl, hlt, w2, ρ2, t2, s2, hq2⟩, fun v H2 hy => ?_⟩
    obtain ⟨d, hd, x2, da⟩ := src.yld w' H' i v H2 t1 s'.bok hlt hy
    rw [drop_cons hd] at hq'
    have s2 := s'.ext x2
    refine gl w' H2 σ' ρ' v d _ _ s2 da hq' fun σ3 ρ3 s3 hq3 => ⟨w', ρ3, _, s3, hq3, ?_⟩
    have t2 : Tr w w' H1 H2 := t1.trans s.ub (x2.tr s')
    have c2 : Cont X.K w' H2 P D := c'.on s' (x2.tr s')
    exact ⟨fun w3 σ4 H4 ρ4 t3 s4 hn => ⟨w3, ρ4, t2.trans s.ub t3, s4, hn⟩, fun w3 σ4 H4 ρ4 t3 s4 hn => c2.nx w3 σ4 H4 ρ4 t3 s4 hn, fun w3 σ4 H4 ρ4 t3 s4 hn => ⟨w3, ρ4, t2.trans s.ub t3, s4, hn⟩, c2.rt⟩
  · have e : i = xs.length := by omega
    subst e
    rw [List.drop_length] at hq'
    exact .inl ⟨src.stop w' H' t1 s'.bok, c'.nx w' σ' H' ρ' .refl s' hq'⟩
theorem qs_while {e : Expr} {body : List Stmt} {tc : PTT} {tb : PTS} (hp : PassesOwn (model X.prog X.w) X.A X.env X.xe) (hc : QT X e tc) (hb : QSs X body tb) : QS X (.While e body [] pos) (pWhile tc tb) := PS.imp (ps_while hp hc hb) fun D σ H ⟨w, ρ, P, s, h, c⟩ => by
  obtain ⟨I, ⟨m0, h0⟩, hI⟩ := h
  refine ⟨fun m σ' H' => ∃ w' ρ', Tr w w' H H' ∧ SR X.K w' H' σ' ρ' ∧ I m ρ', ⟨m0, w, ρ, .refl, s, h0⟩, ?_⟩
  rintro m σ' H' ⟨w', ρ', t1, s', hi⟩
  have c' : Cont X.K w' H' P D := c.on s t1
  refine ⟨w', ρ', _, s', hI m ρ' hi, fun b H2 x hq => ?_⟩
  have s2 := s'.ext x
  have c2 : Cont X.K w' H2 P D := c'.on s' (x.tr s')
  have t2 : Tr w w' H H2 := t1.trans s.ub (x.tr s')
  cases b with
  | true =>
    refine ⟨fun σ3 H3 => ∃ w3 ρ3, Tr w w3 H H3 ∧ SR X.K w3 H3 σ3 ρ3 ∧ ∃ m', m' < m ∧ I m' ρ3, fun σ3 H3 ⟨w3, ρ3, t3, s3, m', hm, hi'⟩ => ⟨m', hm, w3, ρ3, t3, s3, hi'⟩, w', ρ', _, s2, hq, ?_⟩
    exact ⟨fun w3 σ4 H4 ρ4 t3 s4 hn => ⟨w3, ρ4, t2.trans s.ub t3, s4, hn⟩, fun w3 σ4 H4 ρ4 t3 s4 hn => c2.nx w3 σ4 H4 ρ4 t3 s4 hn, fun w3 σ4 H4 ρ4 t3 s4 hn => ⟨w3, ρ4, t2.trans s.ub t3, s4, hn⟩, c2.rt⟩
  | false => exact c2.nx w' σ' H2 ρ' .refl s2 hq
end
end PL
namespace PL
open PySem PySem.Spec PyProof.Rows L2
theorem wipe_in {σ : L2.St} {i : Nat} (hl : i < σ.length) : ∀ {vs : List Nat}, i ∈ vs → (wipe σ vs)[i]? = some none
  | v :: vs, h => by
    unfold wipe
    by_cases e : v = i
    · subst e
      exact List.getElem?_set_self (by rw [wipe_length]; exact hl)
    · rw [List.getElem?_set_ne e]
      exact wipe_in hl ((List.mem_cons.mp h).resolve_left fun z => e z.symm)
theorem wipe_set {σ : L2.St} {j : Nat} {x : Option V} {vs : List Nat} (h : j ∈ vs) : wipe (σ.set j x) vs = wipe σ vs := by
  apply List.ext_getElem?
  intro i
  by_cases hi : i ∈ vs
  · by_cases hl : i < σ.length
    · rw [wipe_in (by rw [List.length_set]; exact hl) hi, wipe_in hl hi]
    · rw [List.getElem?_eq_none (by rw [wipe_length, List.length_set]; omega), List.getElem?_eq_none (by rw [wipe_length]; omega)]
  · rw [wipe_out hi, wipe_out hi, List.getElem?_set_ne (fun z => hi (by rw [← z]; exact h))]
theorem wipe_wipe {σ : L2.St} {vs : List Nat} : wipe (wipe σ vs) vs = wipe σ vs := by
  apply List.ext_getElem?
  intro i
  by_cases hi : i ∈ vs
  · by_cases hl : i < σ.length
    · rw [wipe_in (by rw [wipe_length]; exact hl) hi, wipe_in hl hi]
    · rw [List.getElem?_eq_none (by rw [wipe_length, wipe_length]; omega), List.getElem?_eq_none (by rw [wipe_length]; omega)]
  · rw [wipe_out hi]
theorem wipeE_length (ρ : Env) : ∀ vs : List Nat, (wipeE ρ vs).length = ρ.length
  | [] => rfl
  | v :: vs => by unfold wipeE; rw [List.length_set, wipeE_length ρ vs]
theorem wipeE_some {ρ : Env} {i : Nat} {e : EV} : ∀ {vs : List Nat}, (wipeE ρ vs)[i]? = some (some e) → ρ[i]? = some (some e) ∧ i ∉ vs
  | [], h => ⟨h, by simp⟩
  | v :: vs, h => by
    unfold wipeE at h
    by_cases hi : v = i
    · subst hi
      by_cases hv : v < (wipeE ρ vs).length
      · rw [List.getElem?_set_self hv] at h; cases h
      · rw [List.getElem?_eq_none (by simpa using hv)] at h; cases h
    · rw [List.getElem?_set_ne hi] at h
      obtain ⟨h1, h2⟩ := wipeE_some h
      exact ⟨h1, by simp only [List.mem_cons, not_or]; exact ⟨fun e => hi e.symm, h2⟩⟩
section
variable {X : Cx} {K : PySem.W.Frag} {w w' : Ws} {H H' H1 : Hp} {σ : L2.St} {ρ : Env}
theorem SR.wipe (s : SR K w H σ ρ) (vs : List Nat) : SR K w H (L2.wipe σ vs) (wipeE ρ vs) := by
  refine ⟨by rw [wipe_length, wipeE_length]; exact s.len, s.keep, s.bok, s.bok0, s.hds, s.ub, s.b0, s.uh, s.u0, fun i e h => ?_, fun i j xs ys a hij h1 h2 h3 h4 => ?_, s.hk⟩
  · obtain ⟨h1, h2⟩ := wipeE_some h
    obtain ⟨v, h3, h4⟩ := s.slot i e h1
    exact ⟨v, by rw [wipe_out h2]; exact h3, h4⟩
  · obtain ⟨h1, n1⟩ := wipeE_some h1
    obtain ⟨h2, n2⟩ := wipeE_some h2
    rw [wipe_out n1] at h3
    rw [wipe_out n2] at h4
    exact s.dist i j xs ys a hij h1 h2 h3 h4
/-- a new place is barred -/
theorem SR.bar {p : Addr} {o : HO} (s : SR K w H1 σ ρ) (hp : H1 p = none) (x : Ext w.hd H1 H') (ho : H' p = some o) : SR K { w with B := Bp w.B p } H' σ ρ ∧ Tr w { w with B := Bp w.B p } H1 H' := by
  have s' := s.ext x
  have up : ∀ b u, H1 b = some u → b ≠ p := fun b u q => ne_of_none q hp
  have k1 : Kp w.B (Bp w.B p) H1 H' := fun b o n e => ⟨fun z => z.elim n (up b o e), x.keep b o (fun z => n (s.bok.hB b z.symm)) e⟩
  refine ⟨⟨s.len, s'.keep, ⟨fun b z => z.elim (s'.bok.live b) fun z => by rw [z, ho]; simp, fun h q => ⟨?_, .inl (s.bok.hand h q).2⟩⟩, s.bok0, s.hds, fun b z => .inl (s.ub b z), fun b z => .inl (s.b0 b z), s.uh, s.u0, fun j e' hj => ?_, s.dist, s'.hk⟩,
    ⟨(x.tr s).keep, fun _ z => .inl z, fun b z => z.elim .inl fun z => .inr (z ▸ hp), rfl, rfl, rfl⟩⟩
  · obtain ⟨c, zs, y, y2, y3⟩ := (s.bok.hand h q).1
    exact ⟨c, zs, x.hand h c _ q y, y2.kp k1, y3⟩
  · obtain ⟨v', h1, h2⟩ := s.slot j e' hj
    exact ⟨v', h1, h2.kp k1 x.keep (fun _ _ _ z => z) fun _ z => z⟩
def GLw (K : PySem.W.Frag) (vs : List Nat) (g : TG) (pg : PTG) : Prop := ∀ (w : Ws) (H : Hp) (σ : L2.St) (ρ : Env) (v : V) (x : PyData) (Q : L2.St → Hp → Prop) (q : Env → Prop), SR K w H σ ρ → Da K w.B H v x → pg x ρ q → (∀ σ' ρ', SR K w H σ' ρ' → L2.wipe σ' vs = L2.wipe σ vs → q ρ' → Q σ' H) → g v σ H Q
def GLws (K : PySem.W.Frag) (vs : List Nat) (g : TGs) (pg : PTGs) : Prop := ∀ (w : Ws) (H : Hp) (σ : L2.St) (ρ : Env) (us : List V) (xs : List PyData) (Q : L2.St → Hp → Prop) (q : Env → Prop), SR K w H σ ρ → DaA K w.B H us xs → pg xs ρ q → (∀ σ' ρ', SR K w H σ' ρ' → L2.wipe σ' vs = L2.wipe σ vs → q ρ' → Q σ' H) → g us σ H Q
theorem glw_name {vs : List Nat} {i : Nat} (hi : i ∈ vs) : GLw K vs (gName i) (pgName i) := fun w H σ ρ v x Q q s h hp k => k _ _ (s.storeD h i) (wipe_set hi) hp
theorem glws_nil {vs : List Nat} : GLws K vs gNil pgNil := fun w H σ ρ us xs Q q s h hp k => by
  obtain ⟨rfl, hq⟩ := hp
  cases h
  exact ⟨rfl, k _ _ s rfl hq⟩
theorem glws_cons {vs : List Nat} {g : TG} {gs : TGs} {pg : PTG} {pgs : PTGs} (h1 : GLw K vs g pg) (h2 : GLws K vs gs pgs) : GLws K vs (gCons g gs) (pgCons pg pgs) := fun w H σ ρ us xs Q q s h hp k => by
  obtain ⟨x, ys, rfl, hq⟩ := hp
  cases h with
  | cons d1 d2 => exact ⟨_, _, rfl, h1 w H σ ρ _ x _ _ s d1 hq fun σ' ρ' s' e1 hq => h2 w H σ' ρ' _ ys Q q s' d2 hq fun σ2 ρ2 s2 e2 hq => k σ2 ρ2 s2 (e2.trans e1) hq⟩
theorem glw_tup {vs : List Nat} {n : Nat} {gs : TGs} {pgs : PTGs} (h2 : GLws K vs gs pgs) : GLw K vs (gTup K n gs) (pgTup n pgs) := fun w H σ ρ v x Q q s h hp k => by
  obtain ⟨xs, rfl, hl, hq⟩ := hp
  cases h with
  | tup d1 d2 => exact ⟨_, _, rfl, d1.sq, by rw [d2.length]; exact hl, h2 w H σ ρ _ xs Q q s d2 hq k⟩
theorem lift_lc {ti : PTI} {g : TG} {pg : PTG} {tt : PTT} {te : PTE} {vs : List Nat} (gl : GLw K vs g pg) : ∀ σ H Q, liftE K (pLc ti pg tt te vs) σ H Q → tLc (liftI K ti) g (liftT K tt) (liftE K te) vs σ H Q := by
  rintro σ H Q ⟨w, ρ, q, s, hp, k⟩
  refine ⟨w, ρ, _, s, hp, fun J H1 xs x src hq => ?_⟩
  obtain ⟨hz, hq⟩ := hq
  have s1 := s.ext x
  intro L hL
  have nL : some L ≠ w.hd := s1.bok.nh hL
  refine ⟨fun i m H' => m = xs.length - i ∧ i ≤ xs.length ∧ ∃ acc us, Ext w.hd H1 H' ∧ H' L = some (.lst us) ∧ DaA K (Bp w.B L) H' us acc ∧ acc.length ≤ i ∧ pLcL pg tt te (wipeE ρ vs) q (xs.drop i) acc,
    ⟨xs.length, by simp, Nat.zero_le _, [], [], .new hL, upd_same, .nil, Nat.le_refl _, by rw [List.drop_zero]; exact hq⟩, ?_⟩
  rintro i m H' ⟨rfl, hle, acc, us, x1, e1, e2, hal, hq'⟩
  obtain ⟨sD, tD⟩ := s1.bar hL x1 e1
  by_cases hlt : i < xs.length
  · refine .inr ⟨src.go _ H' i tD sD.bok hlt, fun H2 => i + 1 ≤ xs.length ∧ ∃ acc us, Ext w.hd H1 H2 ∧ H2 L = some (.lst us) ∧ DaA K (Bp w.B L) H2 us acc ∧ acc.length ≤ i + 1 ∧ pLcL pg tt te (wipeE ρ vs) q (xs.drop (i + 1)) acc, fun H2 h => ⟨xs.length - (i + 1), by omega, rfl, h⟩, fun v H2 hy => ?_⟩
    obtain ⟨d, hd, x2, da⟩ := src.yld _ H' i v H2 tD sD.bok hlt hy
    rw [drop_cons hd] at hq'
    have sD2 := (sD.ext x2).wipe vs
    refine gl _ H2 _ _ v d _ _ sD2 da hq' fun σ3 ρ3 s3 ew hq3 => ⟨by rw [ew, wipe_wipe], ?_⟩
    refine ⟨_, ρ3, _, s3, hq3, fun b H3 x3 hb => ?_⟩
    cases b with
    | true =>
      refine ⟨_, ρ3, _, s3.ext x3, hb, fun u H4 e x4 r4 hq4 => ?_⟩
      obtain ⟨d', hd', hq4⟩ := hq4
      have xx : Ext w.hd H' H4 := (x2.trans x3).trans x4
      have dd : Da K (Bp w.B L) H4 u d' := r4.dat (s3.ext x3).bok hd'
      have eL : H4 L = some (.lst us) := xx.keep L _ nL e1
      refine ⟨us, eL, sz6 (by rw [e2.length]; omega), hlt, acc ++ [d'], us ++ [u], ?_, upd_same, ?_, by rw [List.length_append]; exact Nat.succ_le_succ hal, hq4⟩
      · have y := x1.trans xx
        exact ⟨fun a o n e => by rw [upd_ne (ne_of_none e hL)]; exact y.keep a o n e, fun h c l e z => (y.hand h c l e z).kp fun o q => by rw [upd_ne (fun z => nL (by rw [← z]; exact e.symm))]; exact q⟩
      · refine DaA.kp (B := Bp w.B L) (H := H4) ?_ _ _ ((DaA.kp (xx.kp sD.bok.hB) _ _ e2).append (.cons dd .nil))
        intro b o n e
        exact ⟨n, by rw [upd_ne (fun z => n (.inr z))]; exact e⟩
    | false =>
      have xx : Ext w.hd H' H3 := x2.trans x3
      exact ⟨hlt, acc, us, x1.trans xx, xx.keep L _ nL e1, DaA.kp (xx.kp sD.bok.hB) _ _ e2, Nat.le_succ_of_le hal, hb⟩
  · have e : i = xs.length := by omega
    subst e
    rw [List.drop_length] at hq'
    refine .inl ⟨src.stop _ H' tD sD.bok, k (.ref L) H' (.l acc) (x.trans x1) ⟨L, us, rfl, x.free s.bok.hok hL, e1, e2⟩ hq'⟩
theorem qts_nil : PTs X [] (liftT X.K pYes) := ⟨fun pins s σ H Q I ⟨w, ρ, q, sr, hp, k⟩ => pts_nil.run pins s σ H Q I (k true H .refl hp)⟩
theorem qts_one {c : Expr} {t : PTT} (h : QT X c t) : PTs X [c] (liftT X.K t) := pts_one h
theorem qe_lc {pos : Pos} {elt tg iter : Expr} {ifs : List Expr} {scope : Scope} {own : List (Str × Nat)} {ti : PTI} {g : TG} {pg : PTG} {tt : PTT} {te : PTE} (hc : X.calm = true) (hN : X.N.Nodup) (hi : QI X tg iter ti) (ok : BlkOk X.N X.env.scope scope own)
    (hg : ∀ (s : Shared) (H : Hp) (C : Addr) (cl : List (Str × Addr)) (fp : List Addr), PG (X.blk s H scope (compEnvC scope cl C X.env) fp) tg g)
    (ht : ∀ (s : Shared) (H : Hp) (C : Addr) (cl : List (Str × Addr)) (fp : List Addr), PTs (X.blk s H scope (compEnvC scope cl C X.env) fp) ifs (liftT X.K tt))
    (he : ∀ (s : Shared) (H : Hp) (C : Addr) (cl : List (Str × Addr)) (fp : List Addr), PE (X.blk s H scope (compEnvC scope cl C X.env) fp) elt (liftE X.K te)) (gl : GLw X.K (own.map (·.2)) g pg) (hs : ∀ x, foldedSetIterable iter X.env x = pure x := by intro _; rfl) :
    QE X (.ListComp elt [⟨tg, iter, ifs, 0⟩] scope pos) (pLc ti pg tt te (own.map (·.2))) := PE.imp (pe_lc hc hN hi ok hg ht he hs) (lift_lc gl)
theorem qs_setLc {i : Nat} {y : Str} {py : Pos} {elt tg iter : Expr} {ifs : List Expr} {scope : Scope} {own : List (Str × Nat)} {pos spos : Pos} {ti : PTI} {g : TG} {pg : PTG} {tt : PTT} {te : PTE} (hc : X.calm = true) (hN : X.N.Nodup) (hy : X.N[i]? = some y) (hyl : X.env.scope.names.lookup y = some .local)
    (hsw : swapsWith (.ListComp elt [⟨tg, iter, ifs, 0⟩] scope pos) (some (.Name y py)) spos.line X.env = pure true) (hi : QI X tg iter ti) (ok : BlkOk X.N X.env.scope scope own)
    (hg : ∀ (s : Shared) (H : Hp) (C : Addr) (cl : List (Str × Addr)) (fp : List Addr), PG (X.blk s H scope (compEnvC scope cl C X.env) fp) tg g)
    (ht : ∀ (s : Shared) (H : Hp) (C : Addr) (cl : List (Str × Addr)) (fp : List Addr), PTs (X.blk s H scope (compEnvC scope cl C X.env) fp) ifs (liftT X.K tt))
    (he : ∀ (s : Shared) (H : Hp) (C : Addr) (cl : List (Str × Addr)) (fp : List Addr), PE (X.blk s H scope (compEnvC scope cl C X.env) fp) elt (liftE X.K te)) (gl : GLw X.K (own.map (·.2)) g pg) (hs : ∀ x, foldedSetIterable iter X.env x = pure x := by intro _; rfl) :
    QS X (.Assign [.Name y py] (.ListComp elt [⟨tg, iter, ifs, 0⟩] scope pos) spos) (pAsg i (pLc ti pg tt te (own.map (·.2)))) := PS.imp (ps_setLc hc hN hy hyl hsw hi ok hg ht he hs) fun D σ H ⟨w, ρ, P, s, h, c⟩ => lift_lc gl σ H _ ⟨w, ρ, _, s, h, fun v H' e x r hq => by
  obtain ⟨hs, hq⟩ := hq
  obtain ⟨w', t, s', _⟩ := s.store x r hs i
  exact c.nx w' _ H' _ t s' hq⟩
end
end PL
namespace PL
open PySem PySem.Spec PyProof.Rows L2

/-! ### enumerate of a list or a tuple, from any number -/
def SqA (K : PySem.W.Frag) (tup : Bool) (H : Hp) (a : Addr) (xs : List V) : Prop := if tup = true then SqT K H a xs else SqL K H a xs
def ItE (K : PySem.W.Frag) (tup : Bool) (c : Int) (a : Addr) (xs : List V) : It :=
  ⟨fun i H => SqA K tup H a xs ∧ i < xs.length, fun i H v H' => ∃ T x, v = .ref T ∧ H T = none ∧ H' = upd H T (.tup [.int (c + (i : Nat)), x]) ∧ xs[i]? = some x, fun i H => SqA K tup H a xs ∧ i = xs.length⟩
def IsItr (tup : Bool) (h : Heap) (it a : Addr) (i : Nat) : Prop := if tup = true then h.IsTupleIter it a i else h.IsListIter it a i
theorem IsItr.at {tup : Bool} {h h' : Heap} {it a : Addr} {i : Nat} (x : IsItr tup h it a i) (k : ∀ o, h.get? it = some o → h'.get? it = some o) : IsItr tup h' it a i := by
  cases tup with
  | true => exact Heap.IsTupleIter.at x k
  | false => exact Heap.IsListIter.at x k
theorem IsItr.obj {tup : Bool} {h : Heap} {it a : Addr} {i : Nat} (x : IsItr tup h it a i) : ∃ o, h.get? it = some o ∧ ∀ v, o.data ≠ .cell v := by
  cases tup with
  | true =>
    obtain ⟨o, ho, hc, hd⟩ := x
    exact ⟨o, ho, fun v q => by rw [hd] at q; cases q⟩
  | false =>
    obtain ⟨o, ho, hc, hd⟩ := x
    exact ⟨o, ho, fun v q => by rw [hd] at q; cases q⟩
def IsSq (tup : Bool) (h : Heap) (a : Addr) (items : Array Value) : Prop := if tup = true then h.IsTuple a items else h.IsList a items
theorem draws_of {prog : Program} {w : World} {A : Around} (tup : Bool) (hh : A.handled = none) (it a : Addr) (hne : a ≠ it) (items : Array Value) :
    Draws prog w A it [it, a] items.size (fun i v => items[i]? = some v) (fun i h => IsItr tup h it a i ∧ IsSq tup h a items) := by
  cases tup with
  | true => exact Draws.tuple hh it a hne items
  | false => exact Draws.list hh it a hne items
theorem sq_of {X : Cx} {pins : List (Addr × Obj)} {σ : L2.St} {H : Hp} {s : Shared} {tup : Bool} {a : Addr} {xs : List V} (I : Inv X pins σ H s) (h : SqA X.K tup H a xs) : ∃ its : List Value, Vals xs its ∧ IsSq tup s.heap a its.toArray ∧ ∃ o, s.heap.get? a = some o ∧ (∃ T, o.cls = .type T ∧ (T = "tuple" ∨ T = "list")) := by
  cases tup with
  | true =>
    obtain ⟨its, rv, p, _⟩ := I.tuple h
    obtain ⟨o, h1, h2, _⟩ := id p
    exact ⟨its, rv, p, o, h1, _, h2, .inl rfl⟩
  | false =>
    obtain ⟨its, rv, p, _⟩ := I.list h
    obtain ⟨o, n, h1, h2, _⟩ := id p
    exact ⟨its, rv, p.isList, o, h1, _, h2, .inr rfl⟩
theorem turn_enumA {P : Program} {w : World} {K : PySem.W.Frag} {elts : List Expr} {kk : Nat} {tpos : Pos} (tup : Bool) (c : Int) (a e it : Addr) (xs : List V) :
    Turn P w K (.Tuple elts kk tpos) (ItE K tup c a xs) [e, it] e (fun i h => (∃ old, IsEnum h e it (c + (i : Nat)) old) ∧ IsItr tup h it a i ∧ e ≠ it ∧ a ≠ it) where
  mem := by simp
  obj := fun i h st b hb => by
    obtain ⟨⟨old, he⟩, hi, _⟩ := st
    have e' : b = e ∨ b = it := by simpa using hb
    rcases e' with z | z
    · rw [z]; exact ⟨_, he, fun v q => nomatch q⟩
    · rw [z]; exact hi.obj
  keep := fun i h h' st k => let ⟨⟨old, he⟩, hi, hne⟩ := st; ⟨⟨old, k e (by simp) _ he⟩, hi.at fun o q => k it (by simp) o q, hne⟩
  item := by
    intro X hP hw hK hc i pins s σ H E I hf st hg
    subst hP hw hK
    obtain ⟨⟨old, he⟩, hit, hne, hai⟩ := st
    obtain ⟨hq, hlt⟩ := hg
    obtain ⟨its, rv, p, oa, hoa, _, hcl, hT⟩ := sq_of I hq
    have hea : e ≠ a := fun z => by
      subst z
      rw [he] at hoa
      cases hoa
      cases hcl
      rcases hT with z | z <;> exact absurd z (by decide)
    have hxi : xs[i]? = some xs[i] := List.getElem?_eq_getElem hlt
    obtain ⟨u, hu, ru⟩ := rv.get hxi
    have hel : e < s.heap.objs.size := Heap.lt_size he
    have hil : it < s.heap.objs.size := by obtain ⟨_, q, _⟩ := hit.obj; exact Heap.lt_size q
    have hlen := rv.length
    have D := draws_of (prog := X.prog) (w := X.w) (A := X.A.in1) tup (I.ok.hd hc) it a hai its.toArray
    refine wpAny_pyNext_enum_itemC D he ⟨hit, p⟩ (by rw [List.size_toArray]; omega) hne (by simp; exact ⟨hne, hea⟩) fun x h' tk hx ho hst hT hsz hk => ?_
    have hxu : x = u := by
      rw [List.getElem?_toArray, hu] at hx
      exact (Option.some.inj hx).symm
    subst hxu
    refine ⟨_, rfl, wpAny_letOwnedTupleGo_enum (s := { s with heap := h', toks := tk + 1 }) ho fun h'' he' sb => ?_⟩
    have hT2 : h''.get? s.heap.objs.size = some { cls := .type "tuple", data := .seq #[.int (c + (i : Nat)) tk, x] } := (sb.2 _ (Nat.ne_of_gt hel)).trans hT
    have new : ObjOk X.prog X.w (upd H s.heap.objs.size (.tup [.int (c + (i : Nat)), xs[i]])) h'' s.heap.objs.size (.tup [.int (c + (i : Nat)), xs[i]]) :=
      ⟨by show 2 ≤ sizeLine; decide, [.int (c + (i : Nat)) tk, x], .cons ⟨_, rfl⟩ (.cons ru .nil), ⟨_, hT2, rfl, _, rfl⟩⟩
    have I1 : Inv X pins σ (upd H s.heap.objs.size (.tup [.int (c + (i : Nat)), xs[i]])) { s with heap := h'', toks := tk + 1 } :=
      I.turnedNew (ch := [e, it]) (fun b ob hb q => (sb.2 b (fun z => hb (by simp [z]))).trans (hk b ob (fun z => hb (by simp [z])) (fun z => hb (by simp [z])) q)) hf (Nat.le_refl _) new
    refine ⟨.ref s.heap.objs.size, _, I1, rfl, ⟨_, xs[i], rfl, I.hok.fresh (Nat.le_refl _), rfl, hxi⟩, ⟨⟨x, ?_⟩, hst.1.at fun o q => (sb.2 it (Ne.symm hne)).trans q, hne, hai⟩, fun b hb => ?_⟩
    · have e1 : c + ((i + 1 : Nat) : Int) = c + (i : Nat) + 1 := by omega
      rw [e1]; exact he'
    · have hb' : b < s.heap.objs.size := by
        have e' : b = e ∨ b = it := by simpa using hb
        rcases e' with z | z
        · rw [z]; exact hel
        · rw [z]; exact hil
      rw [upd_ne (Nat.ne_of_lt hb')]
      exact (hf b hb).1
  done := by
    intro X hP hw hK hc i pins s σ H E I hf st hg
    subst hP hw hK
    obtain ⟨⟨old, he⟩, hit, hne, hai⟩ := st
    obtain ⟨hq, rfl⟩ := hg
    obtain ⟨its, rv, p, oa, hoa, _, hcl, hT⟩ := sq_of I hq
    obtain ⟨f0, f1, f2, f3, f4, f5⟩ := hf it (by simp)
    have hl := rv.length
    have D := draws_of (prog := X.prog) (w := X.w) (A := X.A.in1) tup (I.ok.hd hc) it a hai its.toArray
    have hl' : its.toArray.size = xs.length := by rw [List.size_toArray]; exact hl.symm
    rw [← hl'] at hit he
    exact wpAny_pyNext_enum_endD D he ⟨hit, p⟩ fun h' eb => ⟨rfl, I.turned (t' := s.toks) (fun b o hb q => eb b o hb q) f0 f1 f3 f4 f5⟩
  self := fun A i s Q E st h => let ⟨⟨_, he⟩, _⟩ := st; wpAny_pyIter_enum he h
/-- enumerate(v), enumerate(v, k) -/
theorem pi_enum_go {X : Cx} {pins : List (Addr × Obj)} {σ : L2.St} {H : Hp} {s : Shared} {tup : Bool} {a : Addr} {xs : List V} {c : Int} {R : It → Hp → Prop} {elts : List Expr} {kk : Nat} {tpos : Pos} (I : Inv X pins σ H s) (hq : SqA X.K tup H a xs) (q : R (ItE X.K tup c a xs) H)
    {h' : Heap} (he : IsEnum h' (s.heap.objs.size + 1) s.heap.objs.size c .none) (hit : IsItr tup h' s.heap.objs.size a 0) (hk : ∀ b o, s.heap.get? b = some o → h'.get? b = some o) :
    PIE X pins σ (.Tuple elts kk tpos) R (.ref (s.heap.objs.size + 1)) { s with heap := h' } := by
  obtain ⟨its, rv, p, oa, hoa, _⟩ := sq_of I hq
  have I2 : Inv X pins σ H { s with heap := h' } := I.kept (t' := s.toks) hk
  refine ⟨s.heap.objs.size + 1, [s.heap.objs.size + 1, s.heap.objs.size], _, _, H, rfl, I2, turn_enumA tup c a (s.heap.objs.size + 1) s.heap.objs.size xs, ⟨⟨.none, by simpa using he⟩, hit, Nat.succ_ne_self _, Nat.ne_of_lt (Heap.lt_size hoa)⟩, fun b hb => ?_, q⟩
  have e' : b = s.heap.objs.size + 1 ∨ b = s.heap.objs.size := by simpa using hb
  have hle : s.heap.objs.size ≤ b := by
    rcases e' with z | z
    · rw [z]; exact Nat.le_add_right _ _
    · rw [z]; exact Nat.le_refl _
  exact I.fpOk hle (I.hok.fresh hle)
theorem itr_new {tup : Bool} {h : Heap} {it a : Addr} (e : h.get? it = some { cls := .type (if tup = true then "tuple_iterator" else "list_iterator"), data := .fields #[.ref a, .int 0 0] }) : IsItr tup h it a 0 := by
  cases tup with
  | true => exact ⟨_, e, rfl, rfl⟩
  | false => exact ⟨_, e, rfl, rfl⟩
theorem begins_of (tup : Bool) (a : Addr) (items : Array Value) : Begins (.ref a) { cls := .type (if tup = true then "tuple_iterator" else "list_iterator"), data := .fields #[.ref a, .int 0 0] } fun h => IsSq tup h a items := by
  cases tup with
  | true => exact begins_tuple a items
  | false => exact begins_list a items
def iEnumA (K : PySem.W.Frag) (ta : TA) : TI := fun σ H R => ta σ H fun vs H1 => ∃ a xs tup, vs = [.ref a] ∧ SqA K tup H1 a xs ∧ R (ItE K tup 0 a xs) H1
def iEnumA2 (K : PySem.W.Frag) (ta : TA) : TI := fun σ H R => ta σ H fun vs H1 => ∃ a xs tup c, vs = [.ref a, .int c] ∧ -1000 ≤ c ∧ c ≤ 1000 ∧ SqA K tup H1 a xs ∧ R (ItE K tup c a xs) H1

open Sem (wp) in
theorem meets_enum1 {v : Value} {o : Obj} {H : Heap → Prop} (B : Begins v o H) :
    Meets (Builtin.«enumerate.__new__» ⟨[.type "enumerate", v], []⟩) (fun _ R s => H s.heap ∧
      R (.ok (.ret (.ref (s.heap.push o).objs.size))) { s with heap := (s.heap.push o).push { cls := .type "enumerate", data := .fields #[.none, .bool false, .ref s.heap.objs.size, rawInt 0, .none, .none] } }) :=
  .of_wp fun prog w A R s h => by
    obtain ⟨hp, g, d, tk, os⟩ := s
    obtain ⟨h1, h⟩ := h
    have hsub := sub_enumerate
    have q1 : ∀ {A' : Around} {E : Value → Shared → Prop} {Q : Value → Shared → Prop}, Q (.ref hp.objs.size) ⟨hp.push o, g, d, tk, os⟩ → wpAny (model prog w) A' (pyIter v) Q E ⟨hp, g, d, tk, os⟩ :=
      fun q => B.iter prog w _ _ ⟨hp, g, d, tk, os⟩ _ h1 q
    wp_walk using q1
    refine wpAny_stack_any fun st => wpAny_pure ?_
    split
    · rename_i c _ _ _ _ _
      cases (c == Value.type "enumerate")
      · wp_walk using q1
        exact ⟨_, rfl, h⟩
      · wp_walk using q1
        exact ⟨_, rfl, h⟩
    · wp_walk using q1
      exact ⟨_, rfl, h⟩
theorem enum_begins1 {prog : Program} {w : World} {A : Around} {E : Value → Shared → Prop} {s : Shared} {v : Value} {o : Obj} {H : Heap → Prop} {Q : Value → Shared → Prop} (B : Begins v o H) (h1 : H s.heap)
    (h : ∀ h', IsEnum h' (s.heap.objs.size + 1) s.heap.objs.size 0 .none → h'.get? s.heap.objs.size = some o → (∀ b o, s.heap.get? b = some o → h'.get? b = some o) → Q (.ref (s.heap.objs.size + 1)) { s with heap := h' }) :
    wpAny (model prog w) A (call (.type "enumerate") [v]) Q E s := by
  refine callType_new F.called_enumerate (by decide) (F.typeCall_enumerate_1 _) (F.newCall_enumerate_1 _) (fun obj => F.args_object_init_2 obj _) F.entry_enumerate_new (meets_enum1 B) ⟨h1, ?_⟩
  have hz : (s.heap.push o).objs.size = s.heap.objs.size + 1 := Heap.size_push ..
  show _ ∧ _
  rw [hz]
  have he : IsEnum ((s.heap.push o).push { cls := .type "enumerate", data := .fields #[.none, .bool false, .ref s.heap.objs.size, rawInt 0, .none, .none] }) (s.heap.objs.size + 1) s.heap.objs.size 0 .none := by
    have q := Heap.get?_push_size (s.heap.push o) (o := { cls := .type "enumerate", data := .fields #[.none, .bool false, .ref s.heap.objs.size, rawInt 0, .none, .none] }) rfl
    rw [hz] at q
    exact q
  exact ⟨⟨_, he, rfl⟩, h _ he (Heap.get?_push_of_some _ (Heap.get?_push_size _ B.free)) fun b o x => Heap.get?_push_of_some _ (Heap.get?_push_of_some _ x)⟩
section
variable {X : Cx} {a b c e e2 : Expr} {ta tb tc : PTE} {pos p tpos : Pos} {elts : List Expr} {kk : Nat} {tg : Expr}
theorem pi_enumA {tA : TA} (hg : Gl X "enumerate") (hm : X.mg "enumerate" = none) (ha : PA X [e] tA) (hs : starEach [e] X.env = [(false, eval e X.env)] := by rfl) :
    PI X (.Tuple elts kk tpos) (.Call (.Name "enumerate" p) [e] [] pos) (iEnumA X.K tA) := by
  refine ⟨fun pins s σ H R I h => ?_⟩
  refine Call_ (ld_blt I hg hm boot_enumerate (PyProof.Rows.callWith_type1 (thn (ha.run pos pins s σ H _ I h) fun us s1 ⟨vs, H1, I1, r1, q1⟩ => ?_) hs rfl))
  obtain ⟨a, xs, tup, ex, hq, q⟩ := q1
  subst ex
  cases r1 with
  | cons r rr =>
    cases rr
    cases r
    obtain ⟨its, rv, p', _⟩ := sq_of I1 hq
    exact enum_begins1 (begins_of tup a its.toArray) p' fun h' he hit hk => wpAny_pyIter_enum he (pi_enum_go I1 hq q he (itr_new hit) hk)
theorem pi_enumA2 {tA : TA} (hg : Gl X "enumerate") (hm : X.mg "enumerate" = none) (ha : PA X [e, e2] tA) (hs : starEach [e, e2] X.env = (false, eval e X.env) :: starEach [e2] X.env := by rfl) (hpl : (backTo pos (starEach [e2] X.env)).any (·.1) = false := by rfl) :
    PI X (.Tuple elts kk tpos) (.Call (.Name "enumerate" p) [e, e2] [] pos) (iEnumA2 X.K tA) := by
  refine ⟨fun pins s σ H R I h => ?_⟩
  refine Call_ (ld_blt I hg hm boot_enumerate (PyProof.Rows.callWith_type1 (thn (ha.run pos pins s σ H _ I h) fun us s1 ⟨vs, H1, I1, r1, q1⟩ => ?_) hs hpl))
  obtain ⟨a, xs, tup, c, ex, h1, h2, hq, q⟩ := q1
  subst ex
  cases r1 with
  | cons r rr =>
    cases rr with
    | cons r' rr =>
      cases rr
      cases r
      obtain ⟨t, rfl⟩ := r'
      obtain ⟨its, rv, p', _⟩ := sq_of I1 hq
      exact enum_begins (begins_of tup a its.toArray) p' (by omega) (by omega) fun h' he hit _ hk => wpAny_pyIter_enum he (pi_enum_go I1 hq q he (itr_new hit) hk)

/-! ### the sources, over data -/
theorem Tr.rd {w w' : Ws} {H1 H' : Hp} {a : Addr} {u : HO} (t : Tr w w' H1 H') (n : ¬ w.U a) (h : Rd H1 a u) : Rd H' a u := by
  rcases h with h | ⟨o, h⟩
  · exact .inl (t.keep a _ n h)
  · exact .inr ⟨o, t.keep a _ n h⟩
/-- data that may be walked: what it holds stays while it is walked -/
inductive Wk (K : PySem.W.Frag) (w : Ws) (H1 : Hp) : V → List PyData → Prop
  | mk {a : Addr} {vs : List V} {xs : List PyData} (tup : Bool) (h : ∀ w' H', Tr w w' H1 H' → SqA K tup H' a vs) (d : DaA K w.B H1 vs xs) : Wk K w H1 (.ref a) xs
def EV.wlk : EV → Option (List PyData)
  | .d (.list xs) => some xs
  | .d (.tuple xs) => some xs
  | .l xs => some xs
  | .r xs => some xs
  | _ => none
theorem SqT.tr {K : PySem.W.Frag} {w w' : Ws} {H1 H' : Hp} {a : Addr} {xs : List V} (ub : ∀ a, w.U a → w.B a) (t : Tr w w' H1 H') (h : TB K w.B H1 a xs) : SqT K H' a xs := h.elim (fun h => .inl (t.rd (fun z => h.2 (ub a z)) h.1)) .inr
theorem SqL.tr {K : PySem.W.Frag} {w w' : Ws} {H1 H' : Hp} {a : Addr} {xs : List V} (ub : ∀ a, w.U a → w.B a) (t : Tr w w' H1 H') (h : LB K w.B H1 a xs) : SqL K H' a xs := h.elim (fun h => .inl (t.rd (fun z => h.2 (ub a z)) h.1)) .inr
theorem RR.wk {K : PySem.W.Frag} {w : Ws} {H H1 : Hp} {σ : L2.St} {ρ : Env} {v : V} {e : EV} {xs : List PyData} (s : SR K w H σ ρ) (h : RR K w.hd w.B w.U H H1 v e) (hl : e.wlk = some xs) : Wk K w H1 v xs := by
  cases e with
  | d y =>
    cases y with
    | list ys =>
      cases hl
      cases h with
      | lst h1 h2 => exact .mk false (fun w' H' t => SqL.tr s.ub t h1) h2
    | tuple ys =>
      cases hl
      cases h with
      | tup h1 h2 => exact .mk true (fun w' H' t => SqT.tr s.ub t h1) h2
    | none => cases hl
    | bool b => cases hl
    | int i => cases hl
    | str z => cases hl
    | dict z => cases hl
  | l ys =>
    cases hl
    obtain ⟨a, vs, rfl, e2, e3, e4⟩ := h
    exact .mk false (fun w' H' t => SqL.tr s.ub t (.inl ⟨.inl e3, s.bok.new e2⟩)) (DaA.kp (kp_less fun c z => .inl z) _ _ e4)
  | r ys =>
    cases hl
    obtain ⟨a, vs, rfl, e2, e3, e4, e5⟩ := h
    exact .mk false (fun w' H' t => .inl (.inl (t.keep a _ e5 e2))) e4
  | b ys => cases hl
  | hand => cases hl
  | o a => cases hl
theorem SqA.inj {K : PySem.W.Frag} {tup : Bool} {H : Hp} {a : Addr} {xs : List V} (h : SqA K tup H a xs) : (SqL K H a xs ∧ tup = false) ∨ (SqT K H a xs ∧ tup = true) := by
  cases tup with
  | true => exact .inr ⟨h, rfl⟩
  | false => exact .inl ⟨h, rfl⟩
def pItems (t : PTE) : PTI := fun ρ Q => t ρ fun e => ∃ xs, e.wlk = some xs ∧ Q xs
theorem src_items {K : PySem.W.Frag} {w : Ws} {H1 : Hp} {a : Addr} {vs : List V} {xs : List PyData} {σ : L2.St} {ρ : Env} (s : SR K w H1 σ ρ) (tup : Bool) (h : ∀ w' H', Tr w w' H1 H' → SqA K tup H' a vs) (d : DaA K w.B H1 vs xs) :
    Src K w H1 (if tup = true then Itt K a else Itl K a) xs := by
  have dat : ∀ {w' H'} {i : Nat} {x : V}, Tr w w' H1 H' → vs[i]? = some x → ∃ dd, xs[i]? = some dd ∧ Da K w'.B H' x dd := fun t hx => by
    obtain ⟨dd, h1, h2⟩ := d.getV hx
    exact ⟨dd, h1, Da.kp (t.kp s.ub) _ _ h2⟩
  cases tup with
  | true =>
    refine ⟨fun w' H' i t _ hi => ⟨vs, vs[i]'(by rw [d.length]; exact hi), h w' H' t, List.getElem?_eq_getElem _⟩, fun w' H' t _ => ⟨vs, h w' H' t, Nat.le_of_eq d.length⟩, fun w' H' i x H'' t _ hi y => ?_⟩
    obtain ⟨rfl, hy⟩ := y
    obtain ⟨dd, h1, h2⟩ := dat t (hy _ (h w' _ t))
    exact ⟨dd, h1, .refl, h2⟩
  | false =>
    refine ⟨fun w' H' i t _ hi => ⟨vs, vs[i]'(by rw [d.length]; exact hi), h w' H' t, List.getElem?_eq_getElem _⟩, fun w' H' t _ => ⟨vs, h w' H' t, Nat.le_of_eq d.length⟩, fun w' H' i x H'' t _ hi y => ?_⟩
    obtain ⟨rfl, hy⟩ := y
    obtain ⟨dd, h1, h2⟩ := dat t (hy _ (h w' _ t))
    exact ⟨dd, h1, .refl, h2⟩
/-- a list or a tuple walked -/
theorem pi_seq {tl : TE} (hl : PE X a tl) : PI X tg a (fun σ H R => tl σ H fun x H1 => ∃ p tup, x = .ref p ∧ (∃ xs, SqA X.K tup H1 p xs) ∧ R (if tup = true then Itt X.K p else Itl X.K p) H1) := by
  refine ⟨fun pins s σ H R I h => ?_⟩
  refine thn (hl.run pins s σ H _ I h) fun v s1 ⟨x, H1, I1, r1, q1⟩ => ?_
  obtain ⟨p, tup, e, ⟨xs, hq⟩, q⟩ := q1
  subst e
  cases r1
  have fp : ∀ b ∈ [s1.heap.objs.size], FpOk X pins H1 b := fun b hb => by
    have e : b = s1.heap.objs.size := by simpa using hb
    subst e
    exact I1.fpOk (Nat.le_refl _) (I1.hok.fresh (Nat.le_refl _))
  cases tup with
  | true =>
    obtain ⟨its, rv, pp, hz⟩ := I1.tuple hq
    exact wpAny_pyIter_tuple (show s1.heap.IsTuple p its.toArray from pp) ⟨s1.heap.objs.size, [s1.heap.objs.size], _, _, H1, rfl, I1.kept (t' := s1.toks) fun b o e => Heap.get?_push_of_some _ e, turn_tuple p _, ⟨_, Heap.get?_push_size _ rfl, rfl, rfl⟩, fp, q⟩
  | false =>
    obtain ⟨its, rv, pp, hz⟩ := I1.list hq
    exact wpAny_pyIter_list pp.isList ⟨s1.heap.objs.size, [s1.heap.objs.size], _, _, H1, rfl, I1.kept (t' := s1.toks) fun b o e => Heap.get?_push_of_some _ e, turn_list p _, ⟨_, Heap.get?_push_size _ rfl, rfl, rfl⟩, fp, q⟩
theorem qi_items (ha : QE X a ta) : QI X tg a (pItems ta) := PI.imp (pi_seq ha) fun σ H R ⟨w, ρ, q, s, hp, k⟩ => by
  refine ⟨w, ρ, _, s, hp, fun v H1 e x r hq => ?_⟩
  obtain ⟨xs, hx, hq⟩ := hq
  cases r.wk s hx with
  | mk tup h d =>
    have s1 := s.ext x
    exact ⟨_, tup, rfl, ⟨_, h w H1 .refl⟩, k _ H1 xs x (src_items s1 tup h d) hq⟩
def rngD (lo c : Int) (n : Nat) : List PyData := (List.range n).map fun i => .int (lo + (i : Nat) * c)
theorem rngD_length {lo c : Int} {n : Nat} : (rngD lo c n).length = n := by unfold rngD; rw [List.length_map, List.length_range]
theorem rngD_get {lo c : Int} {n i : Nat} (h : i < n) : (rngD lo c n)[i]? = some (.int (lo + (i : Nat) * c)) := by
  unfold rngD
  rw [List.getElem?_map, List.getElem?_range h]
  rfl
def pRng1 (t : PTE) : PTI := fun ρ Q => t ρ fun e => ∃ j, e = .d (.int j) ∧ -100000 ≤ j ∧ j ≤ 100000 ∧ Q (rngD 0 1 j.toNat)
def pRng2 (t u : PTE) : PTI := fun ρ Q => t ρ fun e => u ρ fun f => ∃ i j, e = .d (.int i) ∧ f = .d (.int j) ∧ -100000 ≤ i ∧ i ≤ 100000 ∧ -100000 ≤ j ∧ j ≤ 100000 ∧ Q (rngD i 1 (j - i).toNat)
/-- downwards by ones -/
def pRngD (t u : PTE) : PTI := fun ρ Q => t ρ fun e => u ρ fun f => ∃ i j, e = .d (.int i) ∧ f = .d (.int j) ∧ -100000 ≤ i ∧ i ≤ 100000 ∧ -100000 ≤ j ∧ j ≤ 100000 ∧ Q (rngD i (-1) (i - j).toNat)
theorem src_rng {K : PySem.W.Frag} {w : Ws} {H1 : Hp} {lo : Int} {n : Nat} : Src K w H1 (Itr lo n) (rngD lo 1 n) :=
  ⟨fun w' H' i _ _ hi => by rw [rngD_length] at hi; exact hi, fun w' H' _ _ => by rw [rngD_length]; exact Nat.le_refl _, fun w' H' i x H'' _ _ hi y => by
    rw [rngD_length] at hi
    obtain ⟨rfl, rfl⟩ := y
    refine ⟨_, rngD_get hi, .refl, ?_⟩
    rw [Int.mul_one]
    exact .int _⟩
theorem src_rngC {K : PySem.W.Frag} {w : Ws} {H1 : Hp} {lo c : Int} {n : Nat} : Src K w H1 (Itc lo c n) (rngD lo c n) :=
  ⟨fun w' H' i _ _ hi => by rw [rngD_length] at hi; exact hi, fun w' H' _ _ => by rw [rngD_length]; exact Nat.le_refl _, fun w' H' i x H'' _ _ hi y => by
    rw [rngD_length] at hi
    obtain ⟨rfl, rfl⟩ := y
    exact ⟨_, rngD_get hi, .refl, .int _⟩⟩
theorem qi_rng1 (hg : Gl X "range") (hm : X.mg "range" = none) (ha : QE X a ta) (hs : starEach [a] X.env = [(false, eval a X.env)] := by rfl) : QI X tg (.Call (.Name "range" p) [a] [] pos) (pRng1 ta) :=
  PI.imp (pi_range1 hg hm (pa_cons ha pa_nil hs) hs) fun σ H R ⟨w, ρ, q, s, hp, k⟩ => by
  refine ⟨w, ρ, _, s, hp, fun v H1 e x r hq => ?_⟩
  obtain ⟨j, rfl, h1, h2, hq⟩ := hq
  exact ⟨j, by rw [r.int], by omega, by omega, k _ H1 _ x src_rng hq⟩
theorem qi_rng2 (hg : Gl X "range") (hm : X.mg "range" = none) (ha : QE X a ta) (hb : QE X b tb) (hs : starEach [a, b] X.env = [(false, eval a X.env), (false, eval b X.env)] := by rfl) (hs2 : starEach [b] X.env = [(false, eval b X.env)] := by rfl) :
    QI X tg (.Call (.Name "range" p) [a, b] [] pos) (pRng2 ta tb) :=
  PI.imp (pi_range2 hg hm (pa_cons ha (pa_cons hb pa_nil hs2) (by rw [hs, hs2])) hs hs2) fun σ H R ⟨w, ρ, q, s, hp, k⟩ => by
  refine ⟨w, ρ, _, s, hp, fun v H1 e x1 r1 hq => ?_⟩
  refine ⟨w, ρ, _, s.ext x1, hq, fun u H2 f x2 r2 hq => ?_⟩
  obtain ⟨i, j, rfl, rfl, h1, h2, h3, h4, hq⟩ := hq
  exact ⟨i, j, by rw [r1.int, r2.int], ⟨by omega, by omega, by omega, by omega⟩, k _ H2 _ (x1.trans x2) src_rng hq⟩
theorem qi_rngD {k1 : Nat} {p1 p2 : Pos} (hg : Gl X "range") (hm : X.mg "range" = none) (ha : QE X a ta) (hb : QE X b tb)
    (hA : PA X [a, b, .UnaryOp .USub (.Constant (.int 1) k1 p1) p2] (tCons (liftE X.K ta) (tCons (liftE X.K tb) (tCons (tUn (rU fun i => .int (-i)) (tC (.int 1))) tNil))))
    (hh : ∀ {tA : TA}, PA X [a, b, .UnaryOp .USub (.Constant (.int 1) k1 p1) p2] tA → PI X tg (.Call (.Name "range" p) [a, b, .UnaryOp .USub (.Constant (.int 1) k1 p1) p2] [] pos) (iRng3 tA)) :
    QI X tg (.Call (.Name "range" p) [a, b, .UnaryOp .USub (.Constant (.int 1) k1 p1) p2] [] pos) (pRngD ta tb) :=
  PI.imp (hh hA) fun σ H R ⟨w, ρ, q, s, hp, k⟩ => by
  refine ⟨w, ρ, _, s, hp, fun v H1 e x1 r1 hq => ?_⟩
  refine ⟨w, ρ, _, s.ext x1, hq, fun u H2 f x2 r2 hq => ?_⟩
  obtain ⟨i, j, rfl, rfl, h1, h2, h3, h4, hq⟩ := hq
  refine ⟨1, rfl, ?_⟩
  exact ⟨i, j, -1, (i - j).toNat, by rw [r1.int, r2.int], .neg (by omega) (by omega) (by omega) (by omega), k _ H2 _ (x1.trans x2) src_rngC hq⟩
def enumD (c : Int) (xs : List PyData) : List PyData := (List.range xs.length).zipWith (fun (i : Nat) x => .tuple [.int (c + i), x]) xs
theorem enumD_length {c : Int} {xs : List PyData} : (enumD c xs).length = xs.length := by unfold enumD; rw [List.length_zipWith, List.length_range, Nat.min_self]
theorem enumD_get {c : Int} {xs : List PyData} {i : Nat} {x : PyData} (h : xs[i]? = some x) : (enumD c xs)[i]? = some (.tuple [.int (c + i), x]) := by
  have hl : i < xs.length := (List.getElem?_eq_some_iff.mp h).1
  unfold enumD
  rw [List.getElem?_zipWith, List.getElem?_range hl, h]
def pEnum (t : PTE) : PTI := fun ρ Q => t ρ fun e => ∃ xs, e.wlk = some xs ∧ Q (enumD 0 xs)
def pEnum2 (t u : PTE) : PTI := fun ρ Q => t ρ fun e => u ρ fun f => ∃ xs c, e.wlk = some xs ∧ f = .d (.int c) ∧ -1000 ≤ c ∧ c ≤ 1000 ∧ Q (enumD c xs)
theorem src_enum {K : PySem.W.Frag} {w : Ws} {H1 : Hp} {a : Addr} {vs : List V} {xs : List PyData} {σ : L2.St} {ρ : Env} {c : Int} (s : SR K w H1 σ ρ) (tup : Bool) (h : ∀ w' H', Tr w w' H1 H' → SqA K tup H' a vs) (d : DaA K w.B H1 vs xs) :
    Src K w H1 (ItE K tup c a vs) (enumD c xs) := by
  refine ⟨fun w' H' i t _ hi => ⟨h w' H' t, by rw [enumD_length] at hi; rw [d.length]; exact hi⟩, fun w' H' t _ => ⟨h w' H' t, by rw [enumD_length, d.length]⟩, fun w' H' i x H'' t b hi y => ?_⟩
  obtain ⟨T, x', rfl, hT, rfl, hx⟩ := y
  obtain ⟨dd, h1, h2⟩ := d.getV hx
  have h3 : Da K w'.B H' x' dd := Da.kp (t.kp s.ub) _ _ h2
  obtain ⟨y1, y2⟩ := new_tup (U := w'.U) b hT (.cons (.int (c + (i : Nat))) (.cons h3 .nil))
  exact ⟨_, enumD_get h1, y1, y2⟩
theorem qi_enum (hg : Gl X "enumerate") (hm : X.mg "enumerate" = none) (ha : QE X a ta) (hs : starEach [a] X.env = [(false, eval a X.env)] := by rfl) : QI X (.Tuple elts kk tpos) (.Call (.Name "enumerate" p) [a] [] pos) (pEnum ta) :=
  PI.imp (pi_enumA hg hm (pa_cons ha pa_nil hs) hs) fun σ H R ⟨w, ρ, q, s, hp, k⟩ => by
  refine ⟨w, ρ, _, s, hp, fun v H1 e x r hq => ?_⟩
  obtain ⟨xs, hx, hq⟩ := hq
  cases r.wk s hx with
  | mk tup h d => exact ⟨_, _, tup, rfl, h w H1 .refl, k _ H1 _ x (src_enum (s.ext x) tup h d) hq⟩
end
end PL
namespace PL
open PySem PySem.Spec PyProof.Rows L2 RZ
section
variable {X : Cx} {a b c e e2 : Expr} {ta tb tc : PTE} {pos p tpos : Pos} {elts : List Expr} {kk : Nat} {tg : Expr}
theorem qi_enum2 (hg : Gl X "enumerate") (hm : X.mg "enumerate" = none) (ha : QE X a ta) (hb : QE X b tb) (hs : starEach [a, b] X.env = (false, eval a X.env) :: starEach [b] X.env := by rfl) (hs2 : starEach [b] X.env = [(false, eval b X.env)] := by rfl) (hpl : (backTo pos (starEach [b] X.env)).any (·.1) = false := by rfl) :
    QI X (.Tuple elts kk tpos) (.Call (.Name "enumerate" p) [a, b] [] pos) (pEnum2 ta tb) :=
  PI.imp (pi_enumA2 hg hm (pa_cons ha (pa_cons hb pa_nil hs2) hs) hs hpl) fun σ H R ⟨w, ρ, q, s, hp, k⟩ => by
  refine ⟨w, ρ, _, s, hp, fun v H1 e x1 r1 hq => ?_⟩
  refine ⟨w, ρ, _, s.ext x1, hq, fun u H2 f x2 r2 hq => ?_⟩
  obtain ⟨xs, c, hx, rfl, h1, h2, hq⟩ := hq
  cases (r1.ext s.bok x1 x2).wk s hx with
  | mk tup h d =>
    rw [r2.int]
    exact ⟨_, _, tup, c, rfl, h1, h2, h w H2 .refl, k _ H2 _ (x1.trans x2) (src_enum ((s.ext x1).ext x2) tup h d) hq⟩
/-! ### zip -/
def zipD (xs ys : List PyData) : List PyData := xs.zipWith (fun x y => .tuple [x, y]) ys
theorem zipD_length {xs ys : List PyData} : (zipD xs ys).length = min xs.length ys.length := by unfold zipD; rw [List.length_zipWith]
theorem zipD_get {xs ys : List PyData} {i : Nat} {x y : PyData} (h : xs[i]? = some x) (h2 : ys[i]? = some y) : (zipD xs ys)[i]? = some (.tuple [x, y]) := by
  unfold zipD
  rw [List.getElem?_zipWith, h, h2]
def EV.tup : EV → Bool
  | .d (.tuple _) => true
  | _ => false
/-- both lists, or both tuples -/
def pZip (t u : PTE) : PTI := fun ρ Q => t ρ fun e => u ρ fun f => ∃ xs ys, e.wlk = some xs ∧ f.wlk = some ys ∧ e.tup = f.tup ∧ Q (zipD xs ys)
inductive Wk2 (K : PySem.W.Frag) (w : Ws) (H1 : Hp) : Bool → V → List PyData → Prop
  | mk {a : Addr} {vs : List V} {xs : List PyData} {tup : Bool} (h : ∀ w' H', Tr w w' H1 H' → SqA K tup H' a vs) (d : DaA K w.B H1 vs xs) : Wk2 K w H1 tup (.ref a) xs
theorem RR.wk2 {K : PySem.W.Frag} {w : Ws} {H H1 : Hp} {σ : L2.St} {ρ : Env} {v : V} {e : EV} {xs : List PyData} (s : SR K w H σ ρ) (h : RR K w.hd w.B w.U H H1 v e) (hl : e.wlk = some xs) : Wk2 K w H1 e.tup v xs := by
  cases e with
  | d y =>
    cases y with
    | list ys =>
      cases hl
      cases h with
      | lst h1 h2 => exact .mk (fun w' H' t => SqL.tr s.ub t h1) h2
    | tuple ys =>
      cases hl
      cases h with
      | tup h1 h2 => exact .mk (fun w' H' t => SqT.tr s.ub t h1) h2
    | none => cases hl
    | bool b => cases hl
    | int i => cases hl
    | str z => cases hl
    | dict z => cases hl
  | l ys =>
    cases hl
    obtain ⟨a, vs, rfl, e2, e3, e4⟩ := h
    exact .mk (fun w' H' t => SqL.tr s.ub t (.inl ⟨.inl e3, s.bok.new e2⟩)) (DaA.kp (kp_less fun c z => .inl z) _ _ e4)
  | r ys =>
    cases hl
    obtain ⟨a, vs, rfl, e2, e3, e4, e5⟩ := h
    exact .mk (fun w' H' t => .inl (.inl (t.keep a _ e5 e2))) e4
  | b ys => cases hl
  | hand => cases hl
  | o a => cases hl
theorem src_zip {K : PySem.W.Frag} {w : Ws} {H1 : Hp} {a b : Addr} {vs us : List V} {xs ys : List PyData} {σ : L2.St} {ρ : Env} (s : SR K w H1 σ ρ) (h : ∀ w' H', Tr w w' H1 H' → SqL K H' a vs) (g : ∀ w' H', Tr w w' H1 H' → SqL K H' b us) (d : DaA K w.B H1 vs xs) (f : DaA K w.B H1 us ys) :
    Src K w H1 (Itz K a b) (zipD xs ys) := by
  have l1 := d.length
  have l2 := f.length
  refine ⟨fun w' H' i t _ hi => ⟨vs, us, vs[i]'(by rw [zipD_length] at hi; omega), us[i]'(by rw [zipD_length] at hi; omega), h w' H' t, g w' H' t, List.getElem?_eq_getElem _, List.getElem?_eq_getElem _⟩, fun w' H' t _ => ⟨vs, us, h w' H' t, g w' H' t, by rw [zipD_length]; omega⟩, fun w' H' i x H'' t b' hi y => ?_⟩
  obtain ⟨T, x', y', rfl, hT, rfl, hx, hy⟩ := y
  obtain ⟨dd, h1, h2⟩ := d.getV (hx _ (h w' H' t))
  obtain ⟨ee, g1, g2⟩ := f.getV (hy _ (g w' H' t))
  obtain ⟨y1, y2⟩ := new_tup (U := w'.U) b' hT (.cons (Da.kp (t.kp s.ub) _ _ h2) (.cons (Da.kp (t.kp s.ub) _ _ g2) .nil))
  exact ⟨_, zipD_get h1 g1, y1, y2⟩
theorem src_zipT {K : PySem.W.Frag} {w : Ws} {H1 : Hp} {a b : Addr} {vs us : List V} {xs ys : List PyData} {σ : L2.St} {ρ : Env} (s : SR K w H1 σ ρ) (h : ∀ w' H', Tr w w' H1 H' → SqT K H' a vs) (g : ∀ w' H', Tr w w' H1 H' → SqT K H' b us) (d : DaA K w.B H1 vs xs) (f : DaA K w.B H1 us ys) :
    Src K w H1 (ItzT K a b) (zipD xs ys) := by
  have l1 := d.length
  have l2 := f.length
  refine ⟨fun w' H' i t _ hi => ⟨vs, us, vs[i]'(by rw [zipD_length] at hi; omega), us[i]'(by rw [zipD_length] at hi; omega), h w' H' t, g w' H' t, List.getElem?_eq_getElem _, List.getElem?_eq_getElem _⟩, fun w' H' t _ => ⟨vs, us, h w' H' t, g w' H' t, by rw [zipD_length]; omega⟩, fun w' H' i x H'' t b' hi y => ?_⟩
  obtain ⟨T, x', y', rfl, hT, rfl, hx, hy⟩ := y
  obtain ⟨dd, h1, h2⟩ := d.getV (hx _ (h w' H' t))
  obtain ⟨ee, g1, g2⟩ := f.getV (hy _ (g w' H' t))
  obtain ⟨y1, y2⟩ := new_tup (U := w'.U) b' hT (.cons (Da.kp (t.kp s.ub) _ _ h2) (.cons (Da.kp (t.kp s.ub) _ _ g2) .nil))
  exact ⟨_, zipD_get h1 g1, y1, y2⟩
theorem qi_zip (hg : Gl X "zip") (hm : X.mg "zip" = none) (ha : QE X a ta) (hb : QE X b tb) (hs : starEach [a, b] X.env = (false, eval a X.env) :: starEach [b] X.env := by rfl) (hs2 : starEach [b] X.env = [(false, eval b X.env)] := by rfl) (hpl : (backTo pos (starEach [b] X.env)).any (·.1) = false := by rfl) :
    QI X (.Tuple elts kk tpos) (.Call (.Name "zip" p) [a, b] [] pos) (pZip ta tb) :=
  PI.imp (pi_zipA hg hm (pa_cons ha (pa_cons hb pa_nil hs2) hs) hs hpl) fun σ H R ⟨w, ρ, q, s, hp, k⟩ => by
  refine ⟨w, ρ, _, s, hp, fun v H1 e x1 r1 hq => ?_⟩
  refine ⟨w, ρ, _, s.ext x1, hq, fun u H2 f x2 r2 hq => ?_⟩
  obtain ⟨xs, ys, hx, hy, ht, hq⟩ := hq
  have s2 := (s.ext x1).ext x2
  have k1 := (r1.ext s.bok x1 x2).wk2 s hx
  have k2 := r2.wk2 (s.ext x1) hy
  rw [ht] at k1
  cases ht2 : f.tup with
  | true =>
    rw [ht2] at k1 k2
    cases k1 with
    | mk h d =>
      cases k2 with
      | mk g f => exact ⟨_, _, _, _, rfl, .inr ⟨h w H2 .refl, g w H2 .refl, k _ H2 _ (x1.trans x2) (src_zipT s2 h g d f) hq⟩⟩
  | false =>
    rw [ht2] at k1 k2
    cases k1 with
    | mk h d =>
      cases k2 with
      | mk g f => exact ⟨_, _, _, _, rfl, .inl ⟨h w H2 .refl, g w H2 .refl, k _ H2 _ (x1.trans x2) (src_zip s2 h g d f) hq⟩⟩

/-! ### built-in functions -/
abbrev PC1 := EV → (EV → Prop) → Prop
def pF1 (f : PC1) (t : PTE) : PTE := fun ρ Q => t ρ fun e => f e Q
abbrev PC2 := EV → EV → (EV → Prop) → Prop
def pF2 (f : PC2) (t u : PTE) : PTE := fun ρ Q => t ρ fun e => u ρ fun g => f e g Q
def Cl1 (K : PySem.W.Frag) (r : List V → Hp → VK → Prop) (f : PC1) : Prop := ∀ hd B U H H2 x ex (Q : VK) (q : EV → Prop), BOk K hd B H → Ext hd H H2 → RR K hd B U H H2 x ex → f ex q → (∀ v H' e, Ext hd H2 H' → RR K hd B U H2 H' v e → q e → Q v H') → r [x] H2 Q
def Cl2 (K : PySem.W.Frag) (r : List V → Hp → VK → Prop) (f : PC2) : Prop := ∀ hd B U H H2 x y ex ey (Q : VK) (q : EV → Prop), BOk K hd B H → Ext hd H H2 → RR K hd B U H H2 x ex → RR K hd B U H H2 y ey → f ex ey q →
  (∀ v H' e, Ext hd H2 H' → RR K hd B U H2 H' v e → q e → Q v H') → r [x, y] H2 Q
theorem lift_f1 {r : List V → Hp → VK → Prop} {f : PC1} (o : Cl1 X.K r f) : ∀ σ H Q, liftE X.K (pF1 f ta) σ H Q → tCB r (tCons (liftE X.K ta) tNil) σ H Q := by
  rintro σ H Q ⟨w, ρ, q, s, hp, k⟩
  refine ⟨w, ρ, _, s, hp, fun x H1 ex x1 r1 hp => ?_⟩
  exact o w.hd w.B w.U H H1 x ex Q q s.bok x1 r1 hp fun v H' e x3 r3 hq => k v H' e (x1.trans x3) (r3.back s.bok x1) hq
theorem lift_f2 {r : List V → Hp → VK → Prop} {f : PC2} (o : Cl2 X.K r f) : ∀ σ H Q, liftE X.K (pF2 f ta tb) σ H Q → tCB r (tCons (liftE X.K ta) (tCons (liftE X.K tb) tNil)) σ H Q := by
  rintro σ H Q ⟨w, ρ, q, s, hp, k⟩
  refine ⟨w, ρ, _, s, hp, fun x H1 ex x1 r1 hp => ?_⟩
  refine ⟨w, ρ, _, s.ext x1, hp, fun y H2 ey x2 r2 hp => ?_⟩
  exact o w.hd w.B w.U H H2 x y ex ey Q q s.bok (x1.trans x2) (r1.ext s.bok x1 x2) (r2.back s.bok x1) hp fun v H' e x3 r3 hq => k v H' e ((x1.trans x2).trans x3) (r3.back s.bok (x1.trans x2)) hq
def fLen : PC1 := fun e Q => ∃ xs, e.seq = some xs ∧ Q (.d (.int xs.length))
def fTuple : PC1 := fun e Q => ∃ xs, e.seq = some xs ∧ Q (.d (.tuple xs))
def fList : PC1 := fun e Q => ∃ xs, e.seq = some xs ∧ Q (.l xs)
def fAbs : PC1 := fun e Q => ∃ i, e = .d (.int i) ∧ Q (.d (.int (if i < 0 then -i else i)))
def fInt : PC1 := fun e Q => ∃ i, e = .d (.int i) ∧ Q (.d (.int i))
def fMax2 : PC2 := fun e f Q => ∃ i j, e = .d (.int i) ∧ f = .d (.int j) ∧ Q (.d (.int (if j > i then j else i)))
def fMin2 : PC2 := fun e f Q => ∃ i j, e = .d (.int i) ∧ f = .d (.int j) ∧ Q (.d (.int (if j < i then j else i)))
def fMaxL : PC1 := fun e Q => ∃ ns : List Int, e.lst = some (ns.map .int) ∧ 0 < ns.length ∧ ∀ m, m ∈ ns → (∀ y, y ∈ ns → y ≤ m) → Q (.d (.int m))
def fMinL : PC1 := fun e Q => ∃ ns : List Int, e.lst = some (ns.map .int) ∧ 0 < ns.length ∧ ∀ m, m ∈ ns → (∀ y, y ∈ ns → m ≤ y) → Q (.d (.int m))
def fAll : PC1 := fun e Q => ∃ bs : List Bool, e.lst = some (bs.map .bool) ∧ Q (.d (.bool (bs.all id)))
def fAny : PC1 := fun e Q => ∃ bs : List Bool, e.lst = some (bs.map .bool) ∧ Q (.d (.bool (bs.any id)))
section
variable {K : PySem.W.Frag}
theorem c_len : Cl1 K (fun xs H Q => ∃ p ys, xs = [.ref p] ∧ (SqL K H p ys ∨ SqT K H p ys) ∧ Q (.int ys.length) H) fLen := by
  intro hd B U H H2 x ex Q q b x1 r1 hp k
  obtain ⟨xs, h1, hq⟩ := hp
  obtain ⟨a, vs, rfl, h2, h3⟩ := r1.seq h1
  refine ⟨a, vs, rfl, h2, ?_⟩
  rw [h3.length]
  exact k _ H2 (.d (.int _)) .refl (Da.int _) hq
theorem c_tuple : Cl1 K (fun xs H Q => ∃ p ys, xs = [.ref p] ∧ ((SqL K H p ys ∧ ∀ l, H l = none → Q (.ref l) (upd H l (.tup ys))) ∨ (SqT K H p ys ∧ Q (.ref p) H))) fTuple := by
  intro hd B U H H2 x ex Q q b x1 r1 hp k
  have b2 := b.ext x1
  obtain ⟨xs, h1, hq⟩ := hp
  have lst : ∀ {a vs}, SqL K H2 a vs → DaA K B H2 vs xs → ∀ l, H2 l = none → Q (.ref l) (upd H2 l (.tup vs)) := fun h2 h3 l hl => by
    obtain ⟨y1, y2⟩ := new_tup b2 hl h3
    exact k _ _ _ y1 y2 hq
  cases ex with
  | d y =>
    cases y with
    | list ys =>
      cases h1
      cases r1 with
      | lst g1 g2 => exact ⟨_, _, rfl, .inl ⟨g1.sq, lst g1.sq g2⟩⟩
    | tuple ys =>
      cases h1
      cases r1 with
      | @tup a vs _ g1 g2 => exact ⟨_, _, rfl, .inr ⟨g1.sq, k _ H2 (.d (.tuple _)) .refl (Da.tup g1 g2) hq⟩⟩
    | none => cases h1
    | bool b => cases h1
    | int i => cases h1
    | str z => cases h1
    | dict z => cases h1
  | l ys =>
    obtain ⟨a, vs, rfl, g1, g2⟩ := r1.lst (show (EV.l ys).lst = some xs from h1)
    exact ⟨a, vs, rfl, .inl ⟨g1, lst g1 g2⟩⟩
  | r ys =>
    obtain ⟨a, vs, rfl, g1, g2⟩ := r1.lst (show (EV.r ys).lst = some xs from h1)
    exact ⟨a, vs, rfl, .inl ⟨g1, lst g1 g2⟩⟩
  | b ys =>
    obtain ⟨a, vs, rfl, g1, g2⟩ := r1.lst (show (EV.b ys).lst = some xs from h1)
    exact ⟨a, vs, rfl, .inl ⟨g1, lst g1 g2⟩⟩
  | hand => cases h1
  | o a => cases h1
theorem c_list : Cl1 K (fun xs H Q => ∃ p ys, xs = [.ref p] ∧ (SqL K H p ys ∨ SqT K H p ys) ∧ ∀ l, H l = none → Q (.ref l) (upd H l (.lst ys))) fList := by
  intro hd B U H H2 x ex Q q b x1 r1 hp k
  obtain ⟨xs, h1, hq⟩ := hp
  obtain ⟨a, vs, rfl, h2, h3⟩ := r1.seq h1
  refine ⟨a, vs, rfl, h2, fun l hl => ?_⟩
  obtain ⟨y1, y2⟩ := new_lst (b.ext x1) hl h3
  exact k _ _ _ y1 y2 hq
theorem c_abs : Cl1 K (fun xs H Q => ∃ i, xs = [.int i] ∧ Q (.int (if i < 0 then -i else i)) H) fAbs := by
  intro hd B U H H2 x ex Q q b x1 r1 hp k
  obtain ⟨i, rfl, hq⟩ := hp
  exact ⟨i, by rw [r1.int], k _ H2 (.d (.int _)) .refl (Da.int _) hq⟩
theorem c_int : Cl1 K (fun xs H Q => (∃ i, xs = [.int i] ∧ Q (.int i) H) ∨ ∃ k, xs = [.bl k] ∧ Q (.int (if k then 1 else 0)) H) fInt := by
  intro hd B U H H2 x ex Q q b x1 r1 hp k
  obtain ⟨i, rfl, hq⟩ := hp
  exact .inl ⟨i, by rw [r1.int], k _ H2 (.d (.int _)) .refl (Da.int _) hq⟩
theorem c_max2 : Cl2 K (fun xs H Q => ∃ i j, xs = [.int i, .int j] ∧ Q (.int (if j > i then j else i)) H) fMax2 := by
  intro hd B U H H2 x y ex ey Q q b x1 r1 r2 hp k
  obtain ⟨i, j, rfl, rfl, hq⟩ := hp
  exact ⟨i, j, by rw [r1.int, r2.int], k _ H2 (.d (.int _)) .refl (Da.int _) hq⟩
theorem c_min2 : Cl2 K (fun xs H Q => ∃ i j, xs = [.int i, .int j] ∧ Q (.int (if j < i then j else i)) H) fMin2 := by
  intro hd B U H H2 x y ex ey Q q b x1 r1 r2 hp k
  obtain ⟨i, j, rfl, rfl, hq⟩ := hp
  exact ⟨i, j, by rw [r1.int, r2.int], k _ H2 (.d (.int _)) .refl (Da.int _) hq⟩
theorem c_maxL : Cl1 K (rMax K) fMaxL := by
  intro hd B U H H2 x ex Q q b x1 r1 hp k
  obtain ⟨ns, h1, h2, hq⟩ := hp
  obtain ⟨a, vs, rfl, g1, g2⟩ := r1.lst h1
  rw [g2.ints] at g1
  exact ⟨a, ns, rfl, g1, h2, fun m hm hy => k _ H2 (.d (.int _)) .refl (Da.int _) (hq m hm hy)⟩
theorem c_minL : Cl1 K (rMin K) fMinL := by
  intro hd B U H H2 x ex Q q b x1 r1 hp k
  obtain ⟨ns, h1, h2, hq⟩ := hp
  obtain ⟨a, vs, rfl, g1, g2⟩ := r1.lst h1
  rw [g2.ints] at g1
  exact ⟨a, ns, rfl, g1, h2, fun m hm hy => k _ H2 (.d (.int _)) .refl (Da.int _) (hq m hm hy)⟩
theorem c_all : Cl1 K (rAll K) fAll := by
  intro hd B U H H2 x ex Q q b x1 r1 hp k
  obtain ⟨bs, h1, hq⟩ := hp
  obtain ⟨a, vs, rfl, g1, g2⟩ := r1.lst h1
  rw [g2.bools] at g1
  exact ⟨a, bs, rfl, g1, k _ H2 (.d (.bool _)) .refl (Da.bl _) hq⟩
theorem c_any : Cl1 K (rAny K) fAny := by
  intro hd B U H H2 x ex Q q b x1 r1 hp k
  obtain ⟨bs, h1, hq⟩ := hp
  obtain ⟨a, vs, rfl, g1, g2⟩ := r1.lst h1
  rw [g2.bools] at g1
  exact ⟨a, bs, rfl, g1, k _ H2 (.d (.bool _)) .refl (Da.bl _) hq⟩
end
theorem qe_fB1 {r : List V → Hp → VK → Prop} {f : PC1} {x : Str} {id : String} (o : Cl1 X.K r f) (hc : CallR X (.builtin id) r) (hg : Gl X x) (hm : X.mg x = none) (hv : bootBuiltins x = some (.builtin id)) (ha : QE X a ta) (hn : x ≠ "__name__" := by decide) (hdb : (x == ("__debug__" : Str)) = false := by decide)
    (hs : starEach [a] X.env = [(false, eval a X.env)] := by rfl) : QE X (.Call (.Name x p) [a] [] pos) (pF1 f ta) := PE.imp (pe_callB hc hg hm hv (pa_cons ha pa_nil hs) hn hdb hs (by rfl)) (lift_f1 o)
theorem qe_fT1 {r : List V → Hp → VK → Prop} {f : PC1} {x : Str} {id : String} (o : Cl1 X.K r f) (hc : CallR X (.type id) r) (hg : Gl X x) (hm : X.mg x = none) (hv : bootBuiltins x = some (.type id)) (ha : QE X a ta) (hn : x ≠ "__name__" := by decide) (hdb : (x == ("__debug__" : Str)) = false := by decide)
    (hs : starEach [a] X.env = [(false, eval a X.env)] := by rfl) : QE X (.Call (.Name x p) [a] [] pos) (pF1 f ta) := PE.imp (pe_callTy hc hg hm hv (pa_cons ha pa_nil hs) hn hdb hs (by rfl)) (lift_f1 o)
theorem qe_fB2 {r : List V → Hp → VK → Prop} {f : PC2} {x : Str} {id : String} (o : Cl2 X.K r f) (hc : CallR X (.builtin id) r) (hg : Gl X x) (hm : X.mg x = none) (hv : bootBuiltins x = some (.builtin id)) (ha : QE X a ta) (hb : QE X b tb) (hn : x ≠ "__name__" := by decide) (hdb : (x == ("__debug__" : Str)) = false := by decide)
    (hs : starEach [a, b] X.env = (false, eval a X.env) :: starEach [b] X.env := by rfl) (hs2 : starEach [b] X.env = [(false, eval b X.env)] := by rfl) (hpl : (backTo pos (starEach [b] X.env)).any (·.1) = false := by rfl) : QE X (.Call (.Name x p) [a, b] [] pos) (pF2 f ta tb) := PE.imp (pe_callB hc hg hm hv (pa_cons ha (pa_cons hb pa_nil hs2) hs) hn hdb hs hpl) (lift_f2 o)
end
/-! ### isinstance against a built-in type -/
def PyData.tyN : PyData → String
  | .none => "NoneType"
  | .bool _ => "bool"
  | .int _ => "int"
  | .str _ => "str"
  | .list _ => "list"
  | .tuple _ => "tuple"
  | .dict _ => "dict"
def PyData.isi (T : String) (x : PyData) : Bool := PyData.tyN x == T || (T == "int" && PyData.tyN x == "bool")
def pIsi (T : String) (t : PTE) : PTE := fun ρ Q => t ρ fun e => ∃ x, e.look = some x ∧ Q (.d (.bool (PyData.isi T x)))

def tyNs : List String := ["NoneType", "bool", "int", "str", "list", "tuple"]
theorem kb_int : ∀ n ∈ tyNs, kitB n "int" = some (n == "int" || ("int" == "int" && n == "bool")) := by decide +kernel
theorem kb_bool : ∀ n ∈ tyNs, kitB n "bool" = some (n == "bool" || ("bool" == "int" && n == "bool")) := by decide +kernel
theorem kb_str : ∀ n ∈ tyNs, kitB n "str" = some (n == "str" || ("str" == "int" && n == "bool")) := by decide +kernel
theorem kb_list : ∀ n ∈ tyNs, kitB n "list" = some (n == "list" || ("list" == "int" && n == "bool")) := by decide +kernel
theorem kb_tuple : ∀ n ∈ tyNs, kitB n "tuple" = some (n == "tuple" || ("tuple" == "int" && n == "bool")) := by decide +kernel
theorem ty_lst {K : PySem.W.Frag} {H : Hp} {a : Addr} {xs : List V} (h : SqL K H a xs) : TyX K H (.ref a) (.type "list") := by
  rcases h with (h | ⟨o, h⟩) | ⟨o, us, n, h1, h2, _⟩
  · exact .base (.lst h)
  · exact .base (.frz h)
  · exact .kList h1 h2
theorem ty_tup {K : PySem.W.Frag} {H : Hp} {a : Addr} {xs : List V} (h : SqT K H a xs) : TyX K H (.ref a) (.type "tuple") := by
  rcases h with (h | ⟨o, h⟩) | ⟨o, us, n, h1, h2, _⟩
  · exact .base (.tup h)
  · exact .fTuple h
  · exact .kTuple h1 h2
theorem ty_of {K : PySem.W.Frag} {H : Hp} {v : V} {x : PyData} (h : Dp K H v x) : TyX K H v (.type (PyData.tyN x)) ∧ PyData.tyN x ∈ tyNs := by
  cases h with
  | non => exact ⟨.base .non, by simp [PyData.tyN, tyNs]⟩
  | bl b => exact ⟨.base (.bl b), by simp [PyData.tyN, tyNs]⟩
  | int i => exact ⟨.base (.int i), by simp [PyData.tyN, tyNs]⟩
  | str y => exact ⟨.base (.str y), by simp [PyData.tyN, tyNs]⟩
  | lst h1 h2 => exact ⟨ty_lst h1, by simp [PyData.tyN, tyNs]⟩
  | tup h1 h2 => exact ⟨ty_tup h1, by simp [PyData.tyN, tyNs]⟩
section
variable {X : Cx} {a b : Expr} {ta tb : PTE} {pos p p2 : Pos}
theorem qe_isi {T : String} {n : Str} (hT : ∀ m ∈ tyNs, kitB m T = some (m == T || (T == "int" && m == "bool"))) (hg : Gl X "isinstance") (hm : X.mg "isinstance" = none) (ha : QE X a ta) (hb : PE X (.Name n p2) (tC (.ty T)))
    (hv : bootBuiltins "isinstance" = some (.builtin "isinstance") := by decide +kernel) (hs : starEach [a, .Name n p2] X.env = (false, eval a X.env) :: starEach [.Name n p2] X.env := by rfl) (hs2 : starEach [.Name n p2] X.env = [(false, eval (.Name n p2) X.env)] := by rfl)
    (hpl : (backTo pos (starEach [.Name n p2] X.env)).any (·.1) = false := by rfl) : QE X (.Call (.Name "isinstance" p) [a, .Name n p2] [] pos) (pIsi T ta) :=
  PE.imp (pe_callB call_isi hg hm hv (pa_cons ha (pa_cons hb pa_nil hs2) hs) (by decide) (by decide) hs hpl) fun σ H Q ⟨w, ρ, q, s, hp, k⟩ => by
  refine ⟨w, ρ, _, s, hp, fun v H1 e x r hq => ?_⟩
  obtain ⟨d, hd, hq⟩ := hq
  obtain ⟨h1, h2⟩ := ty_of (r.look hd)
  exact ⟨v, .ty T, _, .type T, _, rfl, .ty T, h1, kit_ty (hT _ h2), k _ H1 (.d (.bool _)) x (Da.bl _) hq⟩
end

/-! ### defs -/
abbrev FSpec := List EV → (EV → Prop) → Prop
def Uh (hd : Option Addr) : Addr → Prop := fun a => hd = some a
/-- a def's promise by its pure one -/
def spP (K : PySem.W.Frag) (F : FSpec) : Sp := fun vs H Q _ => ∃ (hd : Option Addr) (B : Addr → Prop) (es : List EV) (q : EV → Prop), BOk K hd B H ∧ RRs K hd B (Uh hd) H H vs es ∧ (∀ e ∈ es, (∀ xs, e ≠ .l xs) ∧ ∀ xs, e ≠ .b xs) ∧ F es q ∧
  ∀ v H' e, Ext hd H H' → RV K hd B H H' v e → q e → Q v H'
def startE (n : Nat) (es : List EV) : Env := es.map some ++ List.replicate (n - es.length) none
theorem RRs.get {K : PySem.W.Frag} {hd : Option Addr} {B U : Addr → Prop} {H H1 : Hp} {vs : List V} {es : List EV} (h : RRs K hd B U H H1 vs es) : ∀ {i : Nat} {e : EV}, es[i]? = some e → ∃ v, vs[i]? = some v ∧ RR K hd B U H H1 v e := by
  induction h with
  | nil => intro i e h; simp at h
  | @cons v vs e es h1 h2 ih =>
    intro i f hi
    cases i with
    | zero => simp at hi; subst hi; exact ⟨v, rfl, h1⟩
    | succ i => obtain ⟨u, g1, g2⟩ := ih (i := i) (e := f) (by simpa using hi); exact ⟨u, by simpa using g1, g2⟩
theorem start_get {n : Nat} {es : List EV} {i : Nat} {e : EV} (h : (startE n es)[i]? = some (some e)) : es[i]? = some e := by
  unfold startE at h
  by_cases hi : i < es.length
  · rw [List.getElem?_append_left (by simpa using hi), List.getElem?_map] at h
    cases q : es[i]? with
    | none => rw [q] at h; cases h
    | some a => rw [q] at h; cases h; rfl
  · rw [List.getElem?_append_right (by simpa using hi), List.getElem?_replicate] at h
    split at h <;> cases h
theorem start_at {N : List Str} {vs : List V} {i : Nat} {v : V} (h : vs[i]? = some v) : (L2.start N vs)[i]? = some (some v) := by
  have hi : i < vs.length := (List.getElem?_eq_some_iff.mp h).1
  unfold L2.start
  rw [List.getElem?_append_left (by simpa using hi), List.getElem?_map, h]
  rfl
/-- where a body begins -/
theorem sr_start {K : PySem.W.Frag} {hd : Option Addr} {B : Addr → Prop} {H : Hp} {N : List Str} {vs : List V} {es : List EV} (b : BOk K hd B H) (r : RRs K hd B (Uh hd) H H vs es) (hes : ∀ e ∈ es, (∀ xs, e ≠ .l xs) ∧ ∀ xs, e ≠ .b xs) :
    SR K ⟨hd, hd, B, H, B, Uh hd⟩ H (L2.start N vs) (startE N.length es) := by
  have noL : ∀ {i : Nat} {xs}, (startE N.length es)[i]? = some (some (.l xs)) → False := fun h => (hes _ (List.mem_of_getElem? (start_get h))).1 _ rfl
  refine ⟨?_, fun _ _ _ h => h, b, b, .inl rfl, fun a h => b.hB a h, fun _ h => h, fun h e => e, fun a h n => absurd h.symm n, fun i e h => ?_, fun i j xs ys a _ h1 _ _ => (noL h1).elim, fun _ _ _ _ h => h⟩
  · unfold L2.start startE
    rw [List.length_append, List.length_append, List.length_map, List.length_map, List.length_replicate, List.length_replicate, r.length]
  · have h1 := start_get h
    obtain ⟨v, h2, h3⟩ := r.get h1
    refine ⟨v, start_at h2, ?_⟩
    have hm := hes _ (List.mem_of_getElem? h1)
    cases e with
    | d y => exact h3
    | l xs => exact (hm.1 xs rfl).elim
    | b xs => exact (hm.2 xs rfl).elim
    | r xs =>
      obtain ⟨a, us, e1, e2, e3, e4, e5⟩ := h3
      exact ⟨a, us, e1, e2, e5, e3, e4⟩
    | hand => exact h3
    | o a => exact h3
section
variable {P : Program} {w : World} {K : PySem.W.Frag} {mg : Str → Option Value} {base : Heap}
/-- THE RULE for a def: its body's derivation, then the pure reading -/
theorem fn_pure {x qual : Str} {st : Stmt} {f : Addr} {fd : FuncData} {N ps : List Str} {k : Nat} {F : FSpec} {t : PTS} (D : Fun K x qual st f fd) (S : FnScope N ps (defScope st)) (len : ∀ es q, F es q → es.length = ps.length)
    (body : ∀ (cdv : Value) (A : Around) (outer : List PySem.Env) (s : Shared) (H : Hp) (E : XK), Room k (A.deeper (envOfC qual (defScope st) s.heap.objs.size f cdv)) →
      QSs (cxOf CX0 P w K mg base N qual (defScope st) f cdv A outer s H E).nox (defBody st) t)
    (pure : ∀ es q, F es q → t { nx := fun _ => q (.d .none), rt := q } (startE N.length es)) : FnOk P w K mg base CX0 (k + 1) f fd ps (spP K F) := by
  refine D.ok S (fun vs H Q E h => ?_) (fun cdv A outer s H vs Q E hr h => ?_)
  · obtain ⟨hd, B, es, q, b, r, hes, hF, _⟩ := h
    rw [r.length]
    exact len es q hF
  · obtain ⟨hd, B, es, q, b, r, hes, hF, k⟩ := h
    refine ⟨_, body cdv A outer s H E hr, ⟨hd, hd, B, H, B, Uh hd⟩, startE N.length es, _, sr_start b r hes, pure es q hF, ?_⟩
    exact ⟨fun w' σ' H' ρ' t s' h => k .non H' (.d .none) (by have := s'.back .refl; rw [t.hd0, t.h0] at this; exact this) Da.non h, fun _ _ _ _ _ _ h => h.elim, fun _ _ _ _ _ _ h => h.elim, fun v H' e x r h => k v H' e x r h⟩
/-- a def that may be called by its name -/
structure Has (P : Program) (w : World) (K : PySem.W.Frag) (mg : Str → Option Value) (base : Heap) (x : Str) (k : Nat) (F : FSpec) : Prop where
  ex : ∃ (f : Addr) (fd : FuncData) (ps : List Str), mg x = some (.ref f) ∧ PySem.W.keepIn K (.ref f) = true ∧ Binds K fd ps [] ∧ FnOk P w K mg base CX0 k f fd ps (spP K F)
/-- a def as it stands behind the top -/
structure DefAt (K : PySem.W.Frag) (mg : Str → Option Value) (x : Str) (st : Stmt) (ps : List Str) : Prop where
  ex : ∃ (f : Addr) (fd : FuncData), mg x = some (.ref f) ∧ Fun K x x st f fd ∧ Binds K fd ps []
theorem has_of {x : Str} {st : Stmt} {N ps : List Str} {k : Nat} {F : FSpec} {t : PTS} (D : DefAt K mg x st ps) (S : FnScope N ps (defScope st)) (len : ∀ es q, F es q → es.length = ps.length)
    (body : ∀ (f : Addr) (cdv : Value) (A : Around) (outer : List PySem.Env) (s : Shared) (H : Hp) (E : XK), Room k (A.deeper (envOfC x (defScope st) s.heap.objs.size f cdv)) →
      QSs (cxOf CX0 P w K mg base N x (defScope st) f cdv A outer s H E).nox (defBody st) t)
    (pure : ∀ es q, F es q → t { nx := fun _ => q (.d .none), rt := q } (startE N.length es)) : Has P w K mg base x (k + 1) F := by
  obtain ⟨f, fd, h1, h2, h3⟩ := D.ex
  exact ⟨f, fd, ps, h1, h2.kp, h3, fn_pure h2 S len (body f) pure⟩
end
def EV.arg : EV → EV
  | .l xs => .r xs
  | .b xs => .r xs
  | e => e
def pCall (F : FSpec) (t : PTA) : PTE := fun ρ Q => t ρ fun es => F (es.map EV.arg) Q
theorem RRs.args {K : PySem.W.Frag} {hd : Option Addr} {B U : Addr → Prop} {H H1 : Hp} {vs : List V} {es : List EV} (b : BOk K hd B H) (h : RRs K hd B U H H1 vs es) : RRs K hd B (Uh hd) H1 H1 vs (es.map EV.arg) := by
  induction h with
  | nil => exact .nil
  | @cons v vs e es h1 h2 ih =>
    refine .cons ?_ ih
    cases e with
    | d y => exact h1
    | l xs =>
      obtain ⟨a, us, e1, e2, e3, e4⟩ := h1
      exact ⟨a, us, e1, e3, b.nh e2, DaA.kp (kp_less fun c z => .inl z) _ _ e4, fun z => b.nh e2 z.symm⟩
    | r xs =>
      obtain ⟨a, us, e1, e2, e3, e4, e5⟩ := h1
      exact ⟨a, us, e1, e2, e3, e4, fun z => e3 z.symm⟩
    | b xs =>
      obtain ⟨a, us, e1, e2, e3, e4⟩ := h1
      exact ⟨a, us, e1, e2, e3, e4, fun z => e3 z.symm⟩
    | hand => exact h1
    | o a => exact h1
theorem arg_ok {es : List EV} : ∀ e ∈ es.map EV.arg, (∀ xs, e ≠ .l xs) ∧ ∀ xs, e ≠ .b xs := by
  intro e he
  obtain ⟨f, _, rfl⟩ := List.mem_map.mp he
  cases f <;> exact ⟨fun _ z => (nomatch z), fun _ z => (nomatch z)⟩
theorem RV.rr {K : PySem.W.Frag} {hd : Option Addr} {B U : Addr → Prop} {H H' : Hp} {v : V} {e : EV} (h : RV K hd B H H' v e) : RR K hd B U H H' v e := by
  cases e with
  | d y => exact h
  | l xs => exact h
  | o a => exact h
  | r xs => exact h.elim
  | b xs => exact h.elim
  | hand => exact h.elim
section
variable {X : Cx} {e : Expr} {es : List Expr} {tA : PTA} {pos p : Pos} {x : Str} {k : Nat} {F : FSpec}
theorem lift_call {E : XK} : ∀ σ H Q, liftE X.K (pCall F tA) σ H Q → tCall (spP X.K F) [] E (liftA X.K tA) σ H Q := by
  rintro σ H Q ⟨w, ρ, q, s, hp, k⟩
  refine ⟨w, ρ, _, s, hp, fun vs H1 es x1 r1 hq => ?_⟩
  show spP X.K F (vs ++ []) H1 Q E
  rw [List.append_nil]
  exact ⟨w.hd, w.B, _, _, s.bok.ext x1, r1.args s.bok, arg_ok, hq, fun v H' e x r h => k v H' e (x1.trans x) (r.rr.back s.bok x1) h⟩
theorem qe_call (h : Has X.prog X.w X.K X.mg X.base x k F) (hr : Room k X.A) (hg : Gl X x) (ha : QA X (e :: es) tA) (hdb : (x == ("__debug__" : Str)) = false := by decide) (he : starEach (e :: es) X.env = (false, eval e X.env) :: starEach es X.env := by rfl) (hpl : (backTo pos (starEach es X.env)).any (·.1) = false := by rfl) :
    QE X (.Call (.Name x p) (e :: es) [] pos) (pCall F tA) := by
  obtain ⟨f, fd, ps, h1, h2, h3, h4⟩ := h.ex
  exact PE.imp (pe_call h4 hr hg h1 h2 h3 .nil pass0 ha hdb he hpl) lift_call
/-- a module's constant: data of the written part -/
theorem qe_glob {v : V} {u : Value} {d : PyData} (hg : Gl X x) (hm : X.mg x = some u) (r : RelV v u) (hd : ∀ B H, Da X.K B H v d) (hdb : (x == ("__debug__" : Str)) = false := by decide) : QE X (.Name x p) (pC d) := qe_const (pe_glob hg hm r hdb) hd
end
end PL
namespace PL
open PySem PySem.Spec PyProof.Rows L2
/-- a module's constant: data of the written part -/
structure Cst (K : PySem.W.Frag) (mg : Str → Option Value) (x : Str) (d : PyData) : Prop where
  ex : ∃ (v : V) (u : Value), mg x = some u ∧ RelV v u ∧ ∀ B H, Da K B H v d
section
variable {X : Cx} {x : Str} {d : PyData} {a b : Expr} {ta tb : PTE} {p pos : Pos} {tg : Expr}
theorem qe_cst (h : Cst X.K X.mg x d) (hg : Gl X x) (hdb : (x == ("__debug__" : Str)) = false := by decide) : QE X (.Name x p) (pC d) := by
  obtain ⟨v, u, h1, h2, h3⟩ := h.ex
  exact qe_glob hg h1 h2 h3 hdb
theorem q_len (hg : Gl X "len") (hm : X.mg "len" = none) (ha : QE X a ta) (hs : starEach [a] X.env = [(false, eval a X.env)] := by rfl) : QE X (.Call (.Name "len" p) [a] [] pos) (pF1 fLen ta) := qe_fB1 c_len call_len_seq hg hm PySem.boot_len ha (by decide) (by decide) hs
theorem q_abs (hg : Gl X "abs") (hm : X.mg "abs" = none) (ha : QE X a ta) (hs : starEach [a] X.env = [(false, eval a X.env)] := by rfl) : QE X (.Call (.Name "abs" p) [a] [] pos) (pF1 fAbs ta) := qe_fB1 c_abs call_abs hg hm (by decide +kernel) ha (by decide) (by decide) hs
theorem q_tuple (hg : Gl X "tuple") (hm : X.mg "tuple" = none) (ha : QE X a ta) (hs : starEach [a] X.env = [(false, eval a X.env)] := by rfl) : QE X (.Call (.Name "tuple" p) [a] [] pos) (pF1 fTuple ta) := qe_fT1 c_tuple call_tuple_of hg hm (by decide +kernel) ha (by decide) (by decide) hs
theorem q_list (hg : Gl X "list") (hm : X.mg "list" = none) (ha : QE X a ta) (hs : starEach [a] X.env = [(false, eval a X.env)] := by rfl) : QE X (.Call (.Name "list" p) [a] [] pos) (pF1 fList ta) := qe_fT1 c_list call_list_of hg hm (by decide +kernel) ha (by decide) (by decide) hs
theorem q_int (hg : Gl X "int") (hm : X.mg "int" = none) (ha : QE X a ta) (hs : starEach [a] X.env = [(false, eval a X.env)] := by rfl) : QE X (.Call (.Name "int" p) [a] [] pos) (pF1 fInt ta) := qe_fT1 c_int call_int1 hg hm (by decide +kernel) ha (by decide) (by decide) hs
theorem q_maxL (hg : Gl X "max") (hm : X.mg "max" = none) (ha : QE X a ta) (hc : X.calm = true := by rfl) (hs : starEach [a] X.env = [(false, eval a X.env)] := by rfl) : QE X (.Call (.Name "max" p) [a] [] pos) (pF1 fMaxL ta) := qe_fB1 c_maxL (cr_max hc) hg hm (by decide +kernel) ha (by decide) (by decide) hs
theorem q_minL (hg : Gl X "min") (hm : X.mg "min" = none) (ha : QE X a ta) (hc : X.calm = true := by rfl) (hs : starEach [a] X.env = [(false, eval a X.env)] := by rfl) : QE X (.Call (.Name "min" p) [a] [] pos) (pF1 fMinL ta) := qe_fB1 c_minL (cr_min hc) hg hm (by decide +kernel) ha (by decide) (by decide) hs
theorem q_all (hg : Gl X "all") (hm : X.mg "all" = none) (ha : QE X a ta) (hc : X.calm = true := by rfl) (hs : starEach [a] X.env = [(false, eval a X.env)] := by rfl) : QE X (.Call (.Name "all" p) [a] [] pos) (pF1 fAll ta) := qe_fB1 c_all (cr_all hc) hg hm (by decide +kernel) ha (by decide) (by decide) hs
theorem q_any (hg : Gl X "any") (hm : X.mg "any" = none) (ha : QE X a ta) (hc : X.calm = true := by rfl) (hs : starEach [a] X.env = [(false, eval a X.env)] := by rfl) : QE X (.Call (.Name "any" p) [a] [] pos) (pF1 fAny ta) := qe_fB1 c_any (cr_any hc) hg hm (by decide +kernel) ha (by decide) (by decide) hs
theorem q_max2 (hc : X.calm = true) (hg : Gl X "max") (hm : X.mg "max" = none) (ha : QE X a ta) (hb : QE X b tb) (hs : starEach [a, b] X.env = (false, eval a X.env) :: starEach [b] X.env := by rfl) (hs2 : starEach [b] X.env = [(false, eval b X.env)] := by rfl) (hpl : (backTo pos (starEach [b] X.env)).any (·.1) = false := by rfl) :
    QE X (.Call (.Name "max" p) [a, b] [] pos) (pF2 fMax2 ta tb) := qe_fB2 c_max2 (call_max2 hc) hg hm (by decide +kernel) ha hb (by decide) (by decide) hs hs2 hpl
theorem q_min2 (hc : X.calm = true) (hg : Gl X "min") (hm : X.mg "min" = none) (ha : QE X a ta) (hb : QE X b tb) (hs : starEach [a, b] X.env = (false, eval a X.env) :: starEach [b] X.env := by rfl) (hs2 : starEach [b] X.env = [(false, eval b X.env)] := by rfl) (hpl : (backTo pos (starEach [b] X.env)).any (·.1) = false := by rfl) :
    QE X (.Call (.Name "min" p) [a, b] [] pos) (pF2 fMin2 ta tb) := qe_fB2 c_min2 (call_min2 hc) hg hm (by decide +kernel) ha hb (by decide) (by decide) hs hs2 hpl
theorem qi_rng3 {k1 : Nat} {p1 p2 : Pos} (hg : Gl X "range") (hm : X.mg "range" = none) (ha : QE X a ta) (hb : QE X b tb)
    (hs : starEach [a, b, .UnaryOp .USub (.Constant (.int 1) k1 p1) p2] X.env = (false, eval a X.env) :: starEach [b, .UnaryOp .USub (.Constant (.int 1) k1 p1) p2] X.env := by rfl)
    (hs2 : starEach [b, .UnaryOp .USub (.Constant (.int 1) k1 p1) p2] X.env = (false, eval b X.env) :: starEach [.UnaryOp .USub (.Constant (.int 1) k1 p1) p2] X.env := by rfl)
    (hh : ∀ {tA : TA}, PA X [a, b, .UnaryOp .USub (.Constant (.int 1) k1 p1) p2] tA → PI X tg (.Call (.Name "range" p) [a, b, .UnaryOp .USub (.Constant (.int 1) k1 p1) p2] [] pos) (iRng3 tA) := by intro _ h; exact pi_range3 (by assumption) (by assumption) h) :
    QI X tg (.Call (.Name "range" p) [a, b, .UnaryOp .USub (.Constant (.int 1) k1 p1) p2] [] pos) (pRngD ta tb) :=
  qi_rngD hg hm ha hb (pa_cons ha (pa_cons hb (pa_cons (pe_un un_neg pe_int) pa_nil) hs2) hs) hh
/-- op= -/
abbrev pAddI : P2 := p2I0 fun i j => .int (i + j)
abbrev pMulI : P2 := p2I MulOk fun i j => .int (i * j)
theorem o_addI {K : PySem.W.Frag} : Op2 K (rI0 fun i j => .int (i + j)) pAddI := o2_I0 fun _ _ _ _ => .int _
theorem o_mulI {K : PySem.W.Frag} : Op2 K (rI CMulW fun i j => .int (i * j)) pMulI := o2_I (fun _ _ h => h) fun _ _ _ _ => .int _
theorem iop_mulP : OpR X (inplaceOp .Mult) (rI CMulW fun i j => .int (i * j)) := opI fun _ _ _ _ _ _ _ hc q => imul_int q hc.ok
theorem iop_fdivP : OpR X (inplaceOp .FloorDiv) (rI (fun _ j => DivOk j) fun i j => .int (i.fdiv j)) := opI fun _ _ _ _ _ _ _ hc q => ifloordiv_int hc.1 q (.inl (PyProof.noPylong_of_log2 hc.2))
theorem qs_doc {y : Str} {j} {pos pos' : Pos} : QS X (.Expr (.Constant (.str y) j pos) pos') pNext := PS.imp ps_doc fun D σ H ⟨w, ρ, P, s, h, c⟩ => c.nx w σ H ρ .refl s h
/-! ### repr of data -/
def fRepr : PC1 := fun e Q => ∃ x, e.look = some x ∧ PyData.showable x = true ∧ PyData.depth x ≤ 64 ∧ x.shown.length ≤ sizeLine ∧ Q (.d (.str x.shown))
mutual
theorem Dp.noDict {K : PySem.W.Frag} {H : Hp} : ∀ (d : PyData) (v : V), Dp K H v d → d.hasDict = false
  | .none, _, _ => by simp only [PyData.hasDict]
  | .bool _, _, _ => by simp only [PyData.hasDict]
  | .int _, _, _ => by simp only [PyData.hasDict]
  | .str _, _, _ => by simp only [PyData.hasDict]
  | .list ds, _, h => by
    cases h with
    | lst h1 h2 => simp only [PyData.hasDict, DpAll.noDict ds _ h2]
  | .tuple ds, _, h => by
    cases h with
    | tup h1 h2 => simp only [PyData.hasDict, DpAll.noDict ds _ h2]
  | .dict _, _, h => by cases h
theorem DpAll.noDict {K : PySem.W.Frag} {H : Hp} : ∀ (ds : List PyData) (vs : List V), DpAll K H vs ds → PyData.hasDictAll ds = false
  | [], _, _ => by simp only [PyData.hasDictAll]
  | d :: ds, _, h => by
    cases h with
    | cons h1 h2 => simp only [PyData.hasDictAll, Dp.noDict d _ h1, DpAll.noDict ds _ h2, Bool.or_self]
end
def rRepr (K : PySem.W.Frag) : List V → Hp → VK → Prop := fun xs H Q => ∃ v x, xs = [v] ∧ Dp K H v x ∧ PyData.showable x = true ∧ PyData.depth x ≤ 64 ∧ x.shown.length ≤ sizeLine ∧ Q (.str x.shown) H
end

section
variable {X : Cx} {a : Expr} {ta : PTE} {p pos : Pos}
theorem call_repr (hg : X.A.guards = some []) (hu : X.A.units + 66 < cLine) : CallR X (.builtin "repr") (rRepr X.K) := by
  intro pins s σ H xs us Q I r h
  obtain ⟨v, x, rfl, hd, h1, h2, h3, q⟩ := h
  obtain ⟨u, rfl, ru⟩ := vals1 r
  obtain ⟨as, rd⟩ := Dp.reads I x v u hd ru
  cases hd with
  | non =>
    cases ru
    simp only [PyData.shown] at q
    exact PySem.P.repr_of_none ⟨.str _, H, I.tok _, ⟨_, rfl⟩, q⟩
  | bl b =>
    cases ru
    simp only [PyData.shown] at q
    exact PySem.P.repr_of_bool ⟨.str _, H, I.tok _, ⟨_, rfl⟩, q⟩
  | int i =>
    obtain ⟨t, rfl⟩ := ru
    simp only [PyData.shown] at q
    exact PySem.P.repr_of_int (by simpa [PyData.showable] using h1) ⟨.str _, H, I.tok _, ⟨_, rfl⟩, q⟩
  | str y =>
    obtain ⟨t, rfl⟩ := ru
    simp only [PyData.shown] at q h3
    exact PySem.P.repr_of_str ⟨.str _, H, I.tok _, ⟨_, rfl⟩, q⟩ h3
  | lst h4 h5 =>
    cases ru
    exact repr_of_reads' rd h1 (PyData.noDict_hsm (Dp.noDict _ _ (.lst h4 h5))) hg (by omega) (fun _ _ e => e) (fun h' u tk hk => ⟨.str _, H, I.kept hk, ⟨_, rfl⟩, q⟩) h3
  | tup h4 h5 =>
    cases ru
    exact repr_of_reads' rd h1 (PyData.noDict_hsm (Dp.noDict _ _ (.tup h4 h5))) hg (by omega) (fun _ _ e => e) (fun h' u tk hk => ⟨.str _, H, I.kept hk, ⟨_, rfl⟩, q⟩) h3
theorem c_repr {K : PySem.W.Frag} : Cl1 K (rRepr K) fRepr := by
  intro hd B U H H2 x ex Q q b x1 r1 hp k
  obtain ⟨d, h1, h2, h3, h4, hq⟩ := hp
  exact ⟨x, d, rfl, r1.look h1, h2, h3, h4, k _ H2 (.d (.str _)) .refl (Da.str _) hq⟩
theorem q_repr {k : Nat} (hg0 : X.A.guards = some [] ∧ Room k X.A) (hg : Gl X "repr") (hm : X.mg "repr" = none) (ha : QE X a ta) (hs : starEach [a] X.env = [(false, eval a X.env)] := by rfl) : QE X (.Call (.Name "repr" p) [a] [] pos) (pF1 fRepr ta) :=
  qe_fB1 c_repr (call_repr hg0.1 (by have := hg0.2.un; omega)) hg hm (by decide +kernel) ha (by decide) (by decide) hs
end

/-! ### defs that look at what is being shown: called where nothing is -/
structure FnOkG (P : Program) (w : World) (K : PySem.W.Frag) (mg : Str → Option Value) (base : Heap) (k : Nat) (f : Addr) (fd : FuncData) (ps : List Str) (sp : Sp) : Prop where
  len : ∀ vs H Q E, sp vs H Q E → vs.length = ps.length
  run : ∀ (A : Around) (outer : List PySem.Env) (s : Shared) (H : Hp) (args : Args) (us : List Value) (vs : List V) (Q : VK) (E : XK), Room k A → A.guards = some [] → Env0 P w K mg base A outer s H → BindsTo s fd args (ps.zip us) → Vals vs us → sp vs H Q E →
    codeAny (model P w) A (.call (.ref f) args) (CR CX0 outer P w H s Q E) s
section
variable {P : Program} {w : World} {K : PySem.W.Frag} {mg : Str → Option Value} {base : Heap}
theorem fn_ofG {k : Nat} {f : Addr} {x qual : Str} {st : Stmt} {fd : FuncData} {N ps : List Str} {sp : Sp} (D : Fun K x qual st f fd) (S : FnScope N ps (defScope st)) (len : ∀ vs H Q E, sp vs H Q E → vs.length = ps.length)
    (hbody : ∀ (cdv : Value) (A : Around) (outer : List PySem.Env) (s : Shared) (H : Hp) (vs : List V) (Q : VK) (E : XK), A.guards = some [] ∧ Room k (A.deeper (envOfC qual (defScope st) s.heap.objs.size f cdv)) → sp vs H Q E →
      ∃ t, PSs (cxOf CX0 P w K mg base N qual (defScope st) f cdv A outer s H E).nox (defBody st) t ∧ t { nx := fun _ H' => Q .non H', rt := Q } (L2.start N vs) H) :
    FnOkG P w K mg base (k + 1) f fd ps sp := by
  obtain ⟨oc, od, kV, doc, pm, an, cdv, ct, osl, rfl, lk, hcd⟩ := D.ex
  refine ⟨len, fun A outer s H args us vs Q E hr hg e0 hb r hsp => ?_⟩
  have hl := len _ _ _ _ hsp
  have kIn : K.In s.heap := e0.mod.kin.keeps fun b o e => (e0.bs b o e).1
  have nolim : s.heap.NoLimit := e0.mod.nolimit.keeps fun b o e => (e0.bs b o e).1
  have kinds : ∀ y ∈ ps.zip us, (defScope st).names.lookup y.1 = some .local ∨ ((defScope st).names.lookup y.1 = some .cell ∧ ((cellsFrom (s.heap.objs.size + 1) (defScope st).names []).lookup y.1).isSome = true) := by
    rintro ⟨n, v⟩ hy
    exact (S.par n (List.of_mem_zip hy).1).imp id fun q => ⟨q, PySem.W.cellsFrom_some _ _ _ (.inl q)⟩
  refine codeAny_call_function hr.depth (kIn _ _ lk) rfl S.co S.gen rfl (PySem.W.codeRec_of kIn hcd) (hb _ _ _ _ ?_)
  refine wpAny_newFunctionEnv_cells S.kind kinds fun env he s1 inC => ?_
  subst he
  refine ⟨nolim.keeps inC.toInCall.keep, codeAny_func ?_⟩
  obtain ⟨t, ht, hq⟩ := hbody cdv A outer s H vs Q E ⟨hg, hr.deeper _⟩ hsp
  have ht := ht.nox
  have I : Inv (cxOf CX0 P w K mg base N qual (defScope st) f cdv A outer s H E) [] (L2.start N vs) H s1 := inv_start S hr.hd e0 hl r inC
  refine wpAny_mono (ht.run [] s1 _ H _ I hq) (fun fl s' hs => ?_) fun e s' hs => hs
  match fl, hs with
  | .ret u, ⟨v, σ', H', J, rv, q⟩ => exact ⟨v, H', J.os, J.bare, J.base, J.hok, rv, q⟩
  | .next, ⟨σ', H', J, q⟩ => exact ⟨V.non, H', J.os, J.bare, J.base, J.hok, rfl, q⟩
  | .brk, ⟨_, _, _, q⟩ => exact q.elim
  | .cont, ⟨_, _, _, q⟩ => exact q.elim
structure HasG (P : Program) (w : World) (K : PySem.W.Frag) (mg : Str → Option Value) (base : Heap) (x : Str) (k : Nat) (F : FSpec) : Prop where
  ex : ∃ (f : Addr) (fd : FuncData) (ps : List Str), mg x = some (.ref f) ∧ PySem.W.keepIn K (.ref f) = true ∧ Binds K fd ps [] ∧ FnOkG P w K mg base k f fd ps (spP K F)
theorem hasG_of {x : Str} {st : Stmt} {N ps : List Str} {k : Nat} {F : FSpec} {t : PTS} (D : DefAt K mg x st ps) (S : FnScope N ps (defScope st)) (len : ∀ es q, F es q → es.length = ps.length)
    (body : ∀ (f : Addr) (cdv : Value) (A : Around) (outer : List PySem.Env) (s : Shared) (H : Hp) (E : XK), A.guards = some [] ∧ Room k (A.deeper (envOfC x (defScope st) s.heap.objs.size f cdv)) →
      QSs (cxOf CX0 P w K mg base N x (defScope st) f cdv A outer s H E).nox (defBody st) t)
    (pure : ∀ es q, F es q → t { nx := fun _ => q (.d .none), rt := q } (startE N.length es)) : HasG P w K mg base x (k + 1) F := by
  obtain ⟨f, fd, h1, h2, h3⟩ := D.ex
  refine ⟨f, fd, ps, h1, h2.kp, h3, fn_ofG h2 S (fun vs H Q E h => ?_) fun cdv A outer s H vs Q E hr h => ?_⟩
  · obtain ⟨hd, B, es, q, b, r, hes, hF, _⟩ := h
    rw [r.length]
    exact len es q hF
  · obtain ⟨hd, B, es, q, b, r, hes, hF, k⟩ := h
    refine ⟨_, body f cdv A outer s H E hr, ⟨hd, hd, B, H, B, Uh hd⟩, startE N.length es, _, sr_start b r hes, pure es q hF, ?_⟩
    exact ⟨fun w' σ' H' ρ' t s' h => k .non H' (.d .none) (by have := s'.back .refl; rw [t.hd0, t.h0] at this; exact this) Da.non h, fun _ _ _ _ _ _ h => h.elim, fun _ _ _ _ _ _ h => h.elim, fun v H' e x r h => k v H' e x r h⟩
end
section
variable {X : Cx} {e : Expr} {es : List Expr} {tA : PTA} {pos p : Pos} {x : Str} {k : Nat} {F : FSpec}
theorem qe_callG {m : Nat} (hg0 : X.A.guards = some [] ∧ Room m X.A) (h : HasG X.prog X.w X.K X.mg X.base x k F) (hkm : k ≤ m) (hg : Gl X x) (ha : QA X (e :: es) tA) (hdb : (x == ("__debug__" : Str)) = false := by decide) (he : starEach (e :: es) X.env = (false, eval e X.env) :: starEach es X.env := by rfl)
    (hpl : (backTo pos (starEach es X.env)).any (·.1) = false := by rfl) : QE X (.Call (.Name x p) (e :: es) [] pos) (pCall F tA) := by
  obtain ⟨f, fd, ps, h1, h2, h3, h4⟩ := h.ex
  refine ⟨fun pins s σ H Q I hq => ?_⟩
  refine wpAny_Call_Name_kw (ld_glob I hg h1 ?_ hdb)
  refine PySem.W.callWith_K (h₀ := X.base) I.ok.mod.kin h2 (thn (ha.run pos pins s σ H _ I (lift_call (E := E0) σ H Q hq)) fun us s1 ⟨vs, H1, I1, r, q⟩ => ⟨I1.kIn, ?_⟩) he hpl
  have r2 : Vals (vs ++ []) (us ++ []) := r.append .nil
  have hl : (us ++ []).length = ps.length := by rw [← r2.length]; exact h4.len _ _ _ _ q
  refine wpAny_call (codeAny_mono (h4.run X.A X.stack s1 H1 ⟨us, []⟩ (us ++ []) (vs ++ []) Q E0 (hg0.2.mono hkm) hg0.1 I1.env0 (h3 s1 us I1.kIn hl) r2 q) fun r s' hq => ?_)
  cases r with
  | error e => exact False.elim hq
  | ok fl =>
    cases fl with
    | ret u => exact I1.after hq
    | next => exact False.elim hq
    | brk => exact False.elim hq
    | cont => exact False.elim hq
end
end PL
namespace PL
open PySem PySem.Spec PyProof.Rows L2 HT
section
variable {prog : Program} {w : World} {A : Around} {E : Value → Shared → Prop} {s : Shared}
theorem rev_places (n : Nat) : Builtin.Slice.slicePlaces ((n : Int) - 1) (-1) (-1) = n := by
  unfold Builtin.Slice.slicePlaces
  have h1 : ¬ ((-1 : Int) > 0) := by omega
  simp only [h1, if_false]
  by_cases h : n = 0
  · subst h; rfl
  · rw [if_pos (by omega)]
    simp only [Int.neg_neg, Int.ediv_one]
    omega
theorem rev_pick (xs : Array Value) : ((List.range xs.size).filterMap fun (m : Nat) => xs[(((xs.size : Nat) : Int) - 1 + (m : Int) * (-1)).toNat]?) = xs.toList.reverse := by
  have e : (List.range xs.size).filterMap (fun (m : Nat) => xs[(((xs.size : Nat) : Int) - 1 + (m : Int) * (-1)).toNat]?) = ((List.range xs.size).map (fun k => xs.size - 1 - k)).filterMap (xs[·]?) := by
    rw [List.filterMap_map]
    have h : (fun (m : Nat) => xs[(((xs.size : Nat) : Int) - 1 + (m : Int) * (-1)).toNat]?) = ((xs[·]?) ∘ fun k => xs.size - 1 - k) := by
      funext m
      show xs[(((xs.size : Nat) : Int) - 1 + (m : Int) * (-1)).toNat]? = xs[xs.size - 1 - m]?
      have h : (((xs.size : Nat) : Int) - 1 + (m : Int) * (-1)).toNat = xs.size - 1 - m := by omega
      rw [h]
    rw [h]
  rw [e, PySem.W.krv_range, List.filterMap_reverse, PySem.W.krv_all]
theorem applied_rev {sl : Addr} {t : Tok} {n : Nat} {Q : Int × Int × Nat → Shared → Prop} (hs : s.heap.IsSliceOf sl .none .none (.int (-1) t))
    (h : Q ((n : Int) - 1, -1, n) s) : wpAny (model prog w) A (Builtin.Slice.sliceApplied (.ref sl) (pure (n : Int))) Q E s := by
  obtain ⟨os, hos, hcs, hds⟩ := id hs
  unfold Builtin.Slice.sliceApplied Builtin.Slice.sliceFields
  refine wpAny_bind (wpAny_bind (wpAny_field hos hds (x := .none) rfl (wpAny_bind (wpAny_field hos hds (x := .none) rfl (wpAny_bind (wpAny_field hos hds (x := .int (-1) t) rfl (wpAny_pure ?_)))))))
  refine wpAny_bind (slicePart_int ?_)
  show wpAny _ _ (if ((-1 : Int) == 0) = true then _ else _) _ _ s
  rw [if_neg (by decide)]
  refine wpAny_bind (slicePart_none (wpAny_bind (slicePart_none (wpAny_bind (wpAny_pure ?_)))))
  show wpAny _ _ (pure ((n : Int) - 1, (-1 : Int), Builtin.Slice.slicePlaces ((n : Int) - 1) (-1) (-1))) _ _ s
  rw [rev_places]
  exact wpAny_pure h
theorem getItem_tuple_rev {t sl : Addr} {tk : Tok} {items : Array Value} {Q : Value → Shared → Prop} (ht : IsTup s.heap t items) (hs : s.heap.IsSliceOf sl .none .none (.int (-1) tk))
    (h : Q (.ref s.heap.objs.size) { s with heap := s.heap.push { cls := .type "tuple", data := .seq items.toList.reverse.toArray } }) (hsz : items.size ≤ sizeLine) : wpAny (model prog w) A (getItem (.ref t) (.ref sl)) Q E s := by
  have hok : sizeOk (.seq items.toList.reverse.toArray) := by
    show items.toList.reverse.toArray.size ≤ sizeLine
    rw [List.size_toArray, List.length_reverse, Array.length_toList]
    exact hsz
  obtain ⟨os, hos, hcs, hds⟩ := id hs
  have hTs : s.TypeIs (.ref sl) "slice" := ⟨os, hos, hcs⟩
  unfold getItem
  try with_reducible refine wpAny_holding ?_
  first | refine wpAny_bind (wpAny_pure ?_) | skip
  refine wpAny_bind (wpAny_sequenceKey ht.typeIs (by decide) ?_)
  refine wpAny_bind (wpAny_callSpecial?_slot (name := Str.ofString "__getitem__") ht.typeIs PyProof.Rows.slot_tuple_getitem
    (wpAny_call_entry PyProof.Rows.slot_tuple_getitem ht.typeIs entry_tuple_getitem ?_ (args_tuple_getitem _ _)))
  show wpAny _ _ (Builtin.Tuple.tupleItemsOf (.ref t) >>= _) _ _ s
  refine wpAny_bind (tupleItemsOf_ ht ?_)
  refine wpAny_bind (wpAny_typeOf hTs ?_)
  rw [if_pos (by decide)]
  refine wpAny_bind (applied_rev hs ?_)
  have hno : ¬ ((((items.size : Nat) : Int) - 1 == 0 && (-1 : Int) == 1 && items.size == items.size) = true) := by
    intro q
    rw [Bool.and_eq_true, Bool.and_eq_true] at q
    exact absurd q.1.2 (by decide)
  show wpAny _ _ (if ((((items.size : Nat) : Int) - 1 == 0 && (-1 : Int) == 1 && items.size == items.size) = true) then _ else _) _ _ s
  rw [if_neg hno, rev_pick]
  first
    | exact wpAny_bind (m := Builtin.Tuple.tupleExact _) (wpAny_newObj_type (wpAny_pure ⟨_, rfl, wpAny_pure h⟩) hok)
    | exact wpAny_bind (m := Builtin.Tuple.tupleExact _) (wpAny_newObj_type (wpAny_bind (wpAny_pure (wpAny_pure ⟨_, rfl, wpAny_pure h⟩))) hok)
    | exact wpAny_bind (wpAny_bind (m := Builtin.Tuple.tupleExact _) (wpAny_newObj_type (wpAny_pure (wpAny_pure ⟨_, rfl, wpAny_pure h⟩)) hok))
    | exact wpAny_bind (wpAny_bind (m := Builtin.Tuple.tupleExact _) (wpAny_newObj_type (wpAny_pure ⟨_, rfl, wpAny_pure h⟩) hok))
end
section
variable {X : Cx} {e : Expr} {te : TE} {ta : PTE} {k : Nat} {p1 p2 p3 pos : Pos}
/-- x[::-1] of a list, of a tuple -/
def tRevA (K : PySem.W.Frag) (te : TE) : TE := fun σ H Q => te σ H fun x H1 => ∃ a xs, x = .ref a ∧ ((SqL K H1 a xs ∧ ∀ p, H1 p = none → Q (.ref p) (upd H1 p (.lst xs.reverse))) ∨ (SqT K H1 a xs ∧ ∀ p, H1 p = none → Q (.ref p) (upd H1 p (.tup xs.reverse))))
theorem pe_revA (he : PE X e te) : PE X (.Subscript e (.Slice none none (some (.UnaryOp .USub (.Constant (.int 1) k p1) p2)) p3) pos) (tRevA X.K te) := by
  refine ⟨fun pins s σ H Q I h => ?_⟩
  refine Subscript_ (thn (he.run pins s σ H _ I h) fun v s1 ⟨x, H1, I1, r1, q1⟩ => ?_)
  obtain ⟨a, xs, ex, hx⟩ := q1
  subst ex
  cases r1
  have hst : PO X (some (.UnaryOp .USub (.Constant (.int 1) k p1) p2)) (tPart (tUn (rU fun i => .int (-i)) (tC (.int 1)))) := po_some (pe_un un_neg pe_int)
  refine wpAny_Slice (thn (po_none.run pins s1 σ H1 (fun o H2 => o = none ∧ H2 = H1) I1 ⟨rfl, rfl⟩) fun vl s2 ⟨l, H2, I2, pl, el, e2⟩ => ?_)
  subst el e2
  refine thn (po_none.run pins s2 σ H2 (fun o H3 => o = none ∧ H3 = H2) I2 ⟨rfl, rfl⟩) fun vu s3 ⟨u, H3, I3, pu, eu, e3⟩ => ?_
  subst eu e3
  refine thn (hst.run pins s3 σ H3 (fun o H4 => o = some (-1) ∧ H4 = H3) I3 ⟨1, rfl, -1, rfl, rfl, rfl⟩) fun vs s4 ⟨o, H4, I4, ps, eo, e4⟩ => ?_
  subst eo e4
  have I5 : Inv X pins σ H4 { s4 with heap := s4.heap.push { cls := .type "slice", data := .fields #[vl, vu, vs] } } := I4.kept (t' := s4.toks) fun b ob q => Heap.get?_push_of_some _ q
  show wpAny (model X.prog X.w) X.A (subscriptTail e (.Slice none none (some (.UnaryOp .USub (.Constant (.int 1) k p1) p2)) p3) (.ref a) (.ref s4.heap.objs.size)) (EP X pins σ Q) X.xe { s4 with heap := s4.heap.push { cls := .type "slice", data := .fields #[vl, vu, vs] } }
  rcases hx with ⟨hx, q⟩ | ⟨hx, q⟩
  · obtain ⟨its, r, ht, hz⟩ := I5.list hx
    have hlen := r.length
    refine tail_any (ops := [.ref a, .ref s4.heap.objs.size]) ht.isList.typeIs (PySem.slot_list_getitem.lookup) ?_ (by with_unfolding_all rfl)
    refine wpAny_getItem_list_slice ht.isList (Heap.IsSliceOf.new _ vl vu vs) pl pu ps (by decide) ?_ (by rw [List.size_toArray]; omega)
    rw [PySem.W.krv_pick]
    refine ⟨.ref _, _, I5.laid (t' := s4.toks) (o := .lst xs.reverse) (fun b ob q => Heap.get?_push_of_some _ q) (Nat.le_refl _) ?_, rfl, q _ (I5.hok.fresh (Nat.le_refl _))⟩
    exact ⟨by rw [List.length_reverse]; exact hz, _, 0, r.reverse, Heap.get?_push_size _ rfl⟩
  · obtain ⟨its, r, ht, hz⟩ := I5.tuple hx
    have hlen := r.length
    cases pl
    cases pu
    cases ps
    refine tail_any (ops := [.ref a, .ref s4.heap.objs.size]) ht.typeIs (PyProof.Rows.slot_tuple_getitem.lookup) ?_ (by with_unfolding_all rfl)
    refine getItem_tuple_rev ht (Heap.IsSliceOf.new _ _ _ _) ?_ (by rw [List.size_toArray]; omega)
    refine ⟨.ref _, _, I5.laid (t' := s4.toks) (o := .tup xs.reverse) (fun b ob q => Heap.get?_push_of_some _ q) (Nat.le_refl _) ?_, rfl, q _ (I5.hok.fresh (Nat.le_refl _))⟩
    exact ⟨by rw [List.length_reverse]; exact hz, _, r.reverse, IsTup.new _ _⟩
def pRev (t : PTE) : PTE := fun ρ Q => t ρ fun e => match e with
  | .d (.tuple xs) => Q (.d (.tuple xs.reverse))
  | e => ∃ xs, e.lst = some xs ∧ Q (.l xs.reverse)
theorem qe_rev (ha : QE X e ta) : QE X (.Subscript e (.Slice none none (some (.UnaryOp .USub (.Constant (.int 1) k p1) p2)) p3) pos) (pRev ta) := PE.imp (pe_revA ha) fun σ H Q ⟨w, ρ, q, s, hp, kk⟩ => by
  refine ⟨w, ρ, _, s, hp, fun v H1 e x1 r1 hp => ?_⟩
  have b1 := s.bok.ext x1
  split at hp
  · cases r1 with
    | @tup aa vs _ h1 h2 =>
      refine ⟨aa, vs, rfl, .inr ⟨h1.sq, fun p hp' => ?_⟩⟩
      obtain ⟨y1, y2⟩ := new_tup b1 hp' h2.reverse
      exact kk _ _ _ (x1.trans y1) (y2.back s.bok x1) hp
  · obtain ⟨xs, h1, hq⟩ := hp
    obtain ⟨aa, vs, rfl, h4, h5⟩ := r1.lst h1
    refine ⟨aa, vs, rfl, .inl ⟨h4, fun p hp' => ?_⟩⟩
    obtain ⟨y1, y2⟩ := new_lst b1 hp' h5.reverse
    exact kk _ _ _ (x1.trans y1) (y2.back s.bok x1) hq
end
/-! texts: == -/
def pEqS : P2 := fun x y Q => ∃ a b : Str, x = .d (.str a) ∧ y = .d (.str b) ∧ Q (.d (.bool (decide (a = b))))
def pNeS : P2 := fun x y Q => ∃ a b : Str, x = .d (.str a) ∧ y = .d (.str b) ∧ Q (.d (.bool (!decide (a = b))))
theorem RR.str {K : PySem.W.Frag} {hd : Option Addr} {B U : Addr → Prop} {H H1 : Hp} {v : V} {x : Str} (h : RR K hd B U H H1 v (.d (.str x))) : v = .str x := by cases h; rfl
theorem o_eqS {K : PySem.W.Frag} : Op2 K rEq pEqS := by
  intro hd B U H H2 x y ex ey Q q b x1 r1 r2 hp k
  obtain ⟨i, j, rfl, rfl, hq⟩ := hp
  rw [r1.str, r2.str]
  refine ⟨rfl, ?_⟩
  have e : decide (V.str i = V.str j) = decide (i = j) := decide_eq_decide.mpr (by rw [V.str.injEq])
  rw [e]
  exact k _ H2 (.d (.bool _)) .refl (Da.bl _) hq
theorem o_neS {K : PySem.W.Frag} : Op2 K rNe pNeS := by
  intro hd B U H H2 x y ex ey Q q b x1 r1 r2 hp k
  obtain ⟨i, j, rfl, rfl, hq⟩ := hp
  rw [r1.str, r2.str]
  refine ⟨rfl, ?_⟩
  have e : decide (V.str i = V.str j) = decide (i = j) := decide_eq_decide.mpr (by rw [V.str.injEq])
  rw [e]
  exact k _ H2 (.d (.bool _)) .refl (Da.bl _) hq
section
variable {X : Cx} {a b : Expr} {ta tb : PTE} {pos : Pos}
theorem qe_eqS (ha : QE X a ta) (hb : QE X b tb) : QE X (.Compare a [.Eq] [b] pos) (pOp pEqS ta tb) := qe_cmp o_eqS op_eq ha hb
theorem qe_neS (ha : QE X a ta) (hb : QE X b tb) : QE X (.Compare a [.NotEq] [b] pos) (pOp pNeS ta tb) := qe_cmp o_neS op_ne ha hb
theorem qt_eqS (ha : QE X a ta) (hb : QE X b tb) : QT X (.Compare a [.Eq] [b] pos) (pTest (pOp pEqS ta tb)) := qt_cmp o_eqS op_eq ha hb
theorem qt_neS (ha : QE X a ta) (hb : QE X b tb) : QT X (.Compare a [.NotEq] [b] pos) (pTest (pOp pNeS ta tb)) := qt_cmp o_neS op_ne ha hb
end
end PL
namespace PL
open PySem PySem.Spec PyProof.Rows L2
/-! fractions -/
def fr (q : Rat) : PyData := .tuple [.int q.num, .int q.den]
theorem eqv_int (i j : Int) : PyData.eqv (.int i) (.int j) = decide (i = j) := by
  simp only [PyData.eqv]; rw [Bool.eq_iff_iff]; simp
theorem shaped_int (i : Int) : SeqAt.shaped (.int i) = true := rfl
theorem rat_ext {x y : Rat} (h1 : x.num = y.num) (h2 : x.den = y.den) : x = y := by
  cases x; cases y; simp only at h1 h2; subst h1 h2; rfl
theorem eqv_fr (x y : Rat) : PyData.eqv (fr x) (fr y) = decide (x = y) := by
  unfold fr
  simp only [PyData.eqv, PyData.eqvAll, Bool.and_true]
  rw [Bool.eq_iff_iff, Bool.and_eq_true, beq_iff_eq, beq_iff_eq, decide_eq_true_eq]
  exact ⟨fun h => rat_ext h.1 (by have := h.2; omega), fun h => by rw [h]; exact ⟨rfl, rfl⟩⟩
theorem shaped_fr (x : Rat) : SeqAt.shaped (fr x) = true := rfl
theorem ix2_0 (a b : PyData) : atI [a, b] 0 = some a := rfl
theorem ix2_1 (a b : PyData) : atI [a, b] 1 = some b := rfl
theorem ix_fr0 (x : Rat) : atI [PyData.int x.num, .int x.den] 0 = some (.int x.num) := rfl
theorem ix_fr1 (x : Rat) : atI [PyData.int x.num, .int x.den] 1 = some (.int x.den) := rfl
theorem fr_mk (t b : Int) (hb : b ≠ 0) : fr (Rat.divInt t b) = .tuple [.int (t.fdiv (if b < 0 then -(Int.gcd t b : Int) else Int.gcd t b)), .int (b.fdiv (if b < 0 then -(Int.gcd t b : Int) else Int.gcd t b))] := by
  have g0 : (Int.gcd t b : Int) ≠ 0 := by
    have : Int.gcd t b ≠ 0 := by rw [Ne, Int.gcd_eq_zero_iff]; exact fun h => hb h.2
    omega
  have d1 : (Int.gcd t b : Int) ∣ t := Int.gcd_dvd_left ..
  have d2 : (Int.gcd t b : Int) ∣ b := Int.gcd_dvd_right ..
  unfold fr
  rw [Rat.num_divInt, Rat.den_divInt, if_neg hb, Int.gcd_comm b t]
  by_cases h : b < 0
  · rw [if_pos h, Int.fdiv_eq_ediv_of_dvd ((Int.neg_dvd).mpr d1), Int.fdiv_eq_ediv_of_dvd ((Int.neg_dvd).mpr d2), Int.sign_eq_neg_one_of_neg h, Int.ediv_neg, Int.ediv_neg]
    have e1 : (-1 * t) / (Int.gcd t b : Int) = -(t / (Int.gcd t b : Int)) := by
      rw [Int.neg_one_mul, Int.neg_ediv_of_dvd d1]
    have e2 : ((b.natAbs / Int.gcd t b : Nat) : Int) = -(b / (Int.gcd t b : Int)) := by
      rw [Int.natCast_ediv, ← Int.neg_ediv_of_dvd d2]
      congr 1
      omega
    rw [e1, e2]
  · rw [if_neg h, Int.fdiv_eq_ediv_of_dvd d1, Int.fdiv_eq_ediv_of_dvd d2, Int.sign_eq_one_of_pos (by omega), Int.one_mul]
    have e2 : ((b.natAbs / Int.gcd t b : Nat) : Int) = (b / (Int.gcd t b : Int)) := by
      rw [Int.natCast_ediv]
      congr 1
      omega
    rw [e2]
theorem log2_lt {n k : Nat} (h : n < 2 ^ k) (hk : 0 < k) : n.log2 < k := by
  by_cases n0 : n = 0
  · subst n0; simpa using hk
  · exact (Nat.log2_lt n0).mpr h
/-- a size -/
def Ok (q : Rat) : Prop := q.num.natAbs < 2 ^ 4000 ∧ q.den < 2 ^ 4000
theorem mulOk_of {i j : Int} (h1 : i.natAbs < 2 ^ 9000) (h2 : j.natAbs < 2 ^ 9000) : MulOk i j := by
  have := log2_lt h1 (by decide); have := log2_lt h2 (by decide)
  unfold MulOk; omega
theorem big_lt {n : Nat} (h : n < 2 ^ 4000) : n < 2 ^ 9000 := Nat.lt_of_lt_of_le h (Nat.pow_le_pow_right (by decide) (by decide))
theorem mul_big {m n : Nat} (h1 : m < 2 ^ 4000) (h2 : n < 2 ^ 4000) : m * n < 2 ^ 8000 := by
  have e : (2 : Nat) ^ 8000 = 2 ^ 4000 * 2 ^ 4000 := by rw [← Nat.pow_add]
  rw [e]
  exact Nat.mul_lt_mul'' h1 h2
theorem mul_big2 {i j : Int} (h1 : i.natAbs < 2 ^ 4000) (h2 : j.natAbs < 2 ^ 4000) : (i * j).natAbs.log2 < 9000 := by
  rw [Int.natAbs_mul]
  exact Nat.lt_of_lt_of_le (log2_lt (mul_big h1 h2) (by decide)) (by decide)
theorem Ok.mulN {x y : Rat} (hx : Ok x) (hy : Ok y) : MulOk x.num y.num := mulOk_of (big_lt hx.1) (big_lt hy.1)
theorem Ok.mulD {x y : Rat} (hx : Ok x) (hy : Ok y) : MulOk (x.den : Int) (y.den : Int) := mulOk_of (big_lt (by simpa using hx.2)) (big_lt (by simpa using hy.2))
theorem Ok.mulND {x y : Rat} (hx : Ok x) (hy : Ok y) : MulOk x.num (y.den : Int) := mulOk_of (big_lt hx.1) (big_lt (by simpa using hy.2))
theorem Ok.mulDN {x y : Rat} (hx : Ok x) (hy : Ok y) : MulOk (x.den : Int) y.num := mulOk_of (big_lt (by simpa using hx.2)) (big_lt hy.1)

def S_common : FSpec := fun es Q => ∃ a b : Int, es = [.d (.int a), .d (.int b)] ∧ Q (.d (.int (Int.gcd a b)))
def T_common : PTS := (pSeq (pPar 0 1 (pF1 fAbs (pVar 0)) (pF1 fAbs (pVar 1))) (pSeq (pWhile (pTest (pOp pGt (pVar 1) (pC (.int 0)))) (pPar 0 1 (pVar 1) (pOp pMod (pVar 0) (pVar 1)))) (pRetV 0)))
theorem l_common : ∀ es q, S_common es q → es.length = 2 := by rintro es q ⟨a, b, rfl, _⟩; rfl
theorem abs_eq (a : Int) : (if a < 0 then -a else a) = (a.natAbs : Int) := by split <;> omega
theorem p_common : ∀ es q, S_common es q → T_common { nx := fun _ => q (.d .none), rt := q } (startE 2 es) := by
  rintro es q ⟨a, b, rfl, hq⟩
  unfold T_common
  simp only [pSeq, pNext, pAsg, pAsgT, pAug, pSub, pIf, pRet, pRetV, pRetN, pDrop, pPar, pPar3, pVar, pC, pOp, pUn, pNil, pCons, pTest, pTruth, pAnd, pOr, pNot, pAndV, pOrV, pNotV, pIfE, pTup, pLst, pF1, pF2, fLen, fTuple, fList, fAbs, fInt, fMax2, fMin2, fAll, fAny, pCall, pNever, p2I, p2I0, EV.two, EV.rd, EV.dat, EV.look, EV.seq, EV.lst, EV.wlk, EV.lsr, EV.sto, EV.ret, EV.arg, pNeg, pItems, pgName, pgTup, pgCons, pgNil, pYes, startE, List.map_cons, List.map_nil, List.cons_append, List.nil_append, List.length_cons, List.length_nil, Nat.reduceAdd, Nat.reduceSub, List.replicate_succ, List.replicate_zero, List.getElem?_cons_zero, List.getElem?_cons_succ, List.set_cons_zero, List.set_cons_succ, wipeE, EV.d.injEq, EV.l.injEq, PyData.int.injEq, PyData.bool.injEq, PyData.tuple.injEq, PyData.list.injEq, Option.some.injEq, exists_eq_left, exists_eq_left', true_and, and_true, List.mapM_cons, List.mapM_nil, bind_pure_comp, Option.pure_def, Option.bind_eq_bind, Option.bind_some, Option.map_some, Option.map_eq_map, truthD, if_true, if_false, reduceIte, Bool.false_eq_true, Bool.not_true, Bool.not_false, exists_and_left, exists_eq_left, decide_eq_true_eq, List.set_nil, pIx, pEq, pNe, pMul, pAdd, shaped_int, eqv_int, ix2_0, ix2_1, abs_eq]
  refine ⟨fun m ρ => ∃ x y : Nat, ρ = [some (.d (.int x)), some (.d (.int y))] ∧ Nat.gcd x y = Int.gcd a b ∧ m = y, ⟨_, a.natAbs, b.natAbs, rfl, rfl, rfl⟩, ?_⟩
  rintro m ρ ⟨x, y, rfl, hg, hm⟩
  subst hm
  simp only [pSeq, pNext, pAsg, pAsgT, pAug, pSub, pIf, pRet, pRetV, pRetN, pDrop, pPar, pPar3, pVar, pC, pOp, pUn, pNil, pCons, pTest, pTruth, pAnd, pOr, pNot, pAndV, pOrV, pNotV, pIfE, pTup, pLst, pF1, pF2, fLen, fTuple, fList, fAbs, fInt, fMax2, fMin2, fAll, fAny, pCall, pNever, p2I, p2I0, EV.two, EV.rd, EV.dat, EV.look, EV.seq, EV.lst, EV.wlk, EV.lsr, EV.sto, EV.ret, EV.arg, pNeg, pItems, pgName, pgTup, pgCons, pgNil, pYes, startE, List.map_cons, List.map_nil, List.cons_append, List.nil_append, List.length_cons, List.length_nil, Nat.reduceAdd, Nat.reduceSub, List.replicate_succ, List.replicate_zero, List.getElem?_cons_zero, List.getElem?_cons_succ, List.set_cons_zero, List.set_cons_succ, wipeE, EV.d.injEq, EV.l.injEq, PyData.int.injEq, PyData.bool.injEq, PyData.tuple.injEq, PyData.list.injEq, Option.some.injEq, exists_eq_left, exists_eq_left', true_and, and_true, List.mapM_cons, List.mapM_nil, bind_pure_comp, Option.pure_def, Option.bind_eq_bind, Option.bind_some, Option.map_some, Option.map_eq_map, truthD, if_true, if_false, reduceIte, Bool.false_eq_true, Bool.not_true, Bool.not_false, exists_and_left, exists_eq_left, decide_eq_true_eq, List.set_nil, pIx, pEq, pNe, pMul, pAdd, shaped_int, eqv_int, ix2_0, ix2_1]
  by_cases h : (0 : Int) < m
  · rw [if_pos h]
    refine ⟨by omega, x % m, Nat.mod_lt _ (by omega), m, x % m, ?_, ?_, rfl⟩
    · rw [Int.fmod_eq_emod_of_nonneg _ (by omega), Int.natCast_emod]
    · rw [← hg, Nat.gcd_comm m, ← Nat.gcd_rec, Nat.gcd_comm]
  · rw [if_neg h]
    have : m = 0 := by omega
    subst this
    rw [Nat.gcd_zero_right] at hg
    rw [hg]
    exact hq
def S_raw_part : FSpec := fun es Q => ∃ t b : Int, es = [.d (.int t), .d (.int b)] ∧ b ≠ 0 ∧ b.natAbs.log2 < 9000 ∧ Q (.d (fr (Rat.divInt t b)))
def T_raw_part : PTS := (pSeq (pAsg 2 (pCall S_common (pCons (pVar 0) (pCons (pVar 1) pNil)))) (pSeq (pIf (pTest (pOp pLt (pVar 1) (pC (.int 0)))) (pAsg 2 (pUn pNeg (pVar 2))) pNext) (pRet (pTup (pCons (pOp pFdiv (pVar 0) (pVar 2)) (pCons (pOp pFdiv (pVar 1) (pVar 2)) pNil))))))
theorem l_raw_part : ∀ es q, S_raw_part es q → es.length = 2 := by rintro es q ⟨a, b, rfl, _⟩; rfl
theorem divOk_gcd {t b : Int} (hb : b ≠ 0) (hl : b.natAbs.log2 < 9000) : DivOk (Int.gcd t b) ∧ DivOk (-(Int.gcd t b : Int)) := by
  have g0 : Int.gcd t b ≠ 0 := by rw [Ne, Int.gcd_eq_zero_iff]; exact fun h => hb h.2
  have gl : Int.gcd t b ≤ b.natAbs := Nat.le_of_dvd (by omega) (Nat.gcd_dvd_right ..)
  have h1 : (Int.gcd t b).log2 < 9000 := by
    have := (Nat.log2_lt (show b.natAbs ≠ 0 by omega)).mp hl
    exact log2_lt (Nat.lt_of_le_of_lt gl this) (by decide)
  exact ⟨⟨by omega, by simpa using h1⟩, ⟨by omega, by simpa using h1⟩⟩
theorem p_raw_part : ∀ es q, S_raw_part es q → T_raw_part { nx := fun _ => q (.d .none), rt := q } (startE 3 es) := by
  rintro es q ⟨t, b, rfl, hb, hl, hq⟩
  unfold T_raw_part
  simp only [pSeq, pNext, pAsg, pAsgT, pAug, pSub, pIf, pRet, pRetV, pRetN, pDrop, pPar, pPar3, pVar, pC, pOp, pUn, pNil, pCons, pTest, pTruth, pAnd, pOr, pNot, pAndV, pOrV, pNotV, pIfE, pTup, pLst, pF1, pF2, fLen, fTuple, fList, fAbs, fInt, fMax2, fMin2, fAll, fAny, pCall, pNever, p2I, p2I0, EV.two, EV.rd, EV.dat, EV.look, EV.seq, EV.lst, EV.wlk, EV.lsr, EV.sto, EV.ret, EV.arg, pNeg, pItems, pgName, pgTup, pgCons, pgNil, pYes, startE, List.map_cons, List.map_nil, List.cons_append, List.nil_append, List.length_cons, List.length_nil, Nat.reduceAdd, Nat.reduceSub, List.replicate_succ, List.replicate_zero, List.getElem?_cons_zero, List.getElem?_cons_succ, List.set_cons_zero, List.set_cons_succ, wipeE, EV.d.injEq, EV.l.injEq, PyData.int.injEq, PyData.bool.injEq, PyData.tuple.injEq, PyData.list.injEq, Option.some.injEq, exists_eq_left, exists_eq_left', true_and, and_true, List.mapM_cons, List.mapM_nil, bind_pure_comp, Option.pure_def, Option.bind_eq_bind, Option.bind_some, Option.map_some, Option.map_eq_map, truthD, if_true, if_false, reduceIte, Bool.false_eq_true, Bool.not_true, Bool.not_false, exists_and_left, exists_eq_left, decide_eq_true_eq, List.set_nil, pIx, pEq, pNe, pMul, pAdd, shaped_int, eqv_int, ix2_0, ix2_1]
  refine ⟨t, b, rfl, ?_⟩
  simp only [pSeq, pNext, pAsg, pAsgT, pAug, pSub, pIf, pRet, pRetV, pRetN, pDrop, pPar, pPar3, pVar, pC, pOp, pUn, pNil, pCons, pTest, pTruth, pAnd, pOr, pNot, pAndV, pOrV, pNotV, pIfE, pTup, pLst, pF1, pF2, fLen, fTuple, fList, fAbs, fInt, fMax2, fMin2, fAll, fAny, pCall, pNever, p2I, p2I0, EV.two, EV.rd, EV.dat, EV.look, EV.seq, EV.lst, EV.wlk, EV.lsr, EV.sto, EV.ret, EV.arg, pNeg, pItems, pgName, pgTup, pgCons, pgNil, pYes, startE, List.map_cons, List.map_nil, List.cons_append, List.nil_append, List.length_cons, List.length_nil, Nat.reduceAdd, Nat.reduceSub, List.replicate_succ, List.replicate_zero, List.getElem?_cons_zero, List.getElem?_cons_succ, List.set_cons_zero, List.set_cons_succ, wipeE, EV.d.injEq, EV.l.injEq, PyData.int.injEq, PyData.bool.injEq, PyData.tuple.injEq, PyData.list.injEq, Option.some.injEq, exists_eq_left, exists_eq_left', true_and, and_true, List.mapM_cons, List.mapM_nil, bind_pure_comp, Option.pure_def, Option.bind_eq_bind, Option.bind_some, Option.map_some, Option.map_eq_map, truthD, if_true, if_false, reduceIte, Bool.false_eq_true, Bool.not_true, Bool.not_false, exists_and_left, exists_eq_left, decide_eq_true_eq, List.set_nil, pIx, pEq, pNe, pMul, pAdd, shaped_int, eqv_int, ix2_0, ix2_1]
  have hd := divOk_gcd (t := t) hb hl
  rw [fr_mk t b hb] at hq
  by_cases h : b < 0
  · rw [if_pos h]
    rw [if_pos h] at hq
    exact ⟨hd.2, hd.2, by decide, hq⟩
  · rw [if_neg h]
    rw [if_neg h] at hq
    exact ⟨hd.1, hd.1, by decide, hq⟩

def d_ZERO : PyData := .tuple [.int 0, .int 1]
def d_ONE : PyData := .tuple [.int 1, .int 1]
theorem d_ZERO_eq : d_ZERO = fr 0 := rfl
theorem d_ONE_eq : d_ONE = fr 1 := rfl
theorem fr_int (q : Rat) (h : (q.den : Int) = 1) : fr q = .tuple [.int q.num, .int 1] := by unfold fr; rw [h]
theorem rat_int (n : Int) : fr n = .tuple [.int n, .int 1] := rfl
theorem rat_of_int {q : Rat} (h : (q.den : Int) = 1) : q = (q.num : Rat) := rat_ext rfl (by rw [Rat.den_intCast]; omega)
theorem rat_divInt_self (q : Rat) : Rat.divInt q.num q.den = q := Rat.num_divInt_den q
theorem den_ne (q : Rat) : (q.den : Int) ≠ 0 := by have := q.den_nz; omega
theorem add_divInt (x y : Rat) : Rat.divInt (x.num * y.den + y.num * x.den) (x.den * y.den) = x + y := by
  rw [← Rat.divInt_add_divInt _ _ (den_ne x) (den_ne y), rat_divInt_self, rat_divInt_self]
theorem sub_divInt (x y : Rat) : Rat.divInt (x.num * y.den - y.num * x.den) (x.den * y.den) = x - y := by
  have := add_divInt x (-y)
  rw [Rat.neg_num, Rat.neg_den, Int.neg_mul] at this
  rw [Int.sub_eq_add_neg, this, Rat.sub_eq_add_neg]
theorem mul_divInt (x y : Rat) : Rat.divInt (x.num * y.num) (x.den * y.den) = x * y := by
  rw [← Rat.divInt_mul_divInt, rat_divInt_self, rat_divInt_self]
theorem div_divInt (x y : Rat) : Rat.divInt (x.num * y.den) (x.den * y.num) = x / y := by
  rw [← Rat.divInt_mul_divInt, rat_divInt_self, Rat.div_def, Rat.inv_def]
theorem ok_den_mul {x y : Rat} (hx : Ok x) (hy : Ok y) : ((x.den : Int) * (y.den : Int)).natAbs.log2 < 9000 := mul_big2 (by simpa using hx.2) (by simpa using hy.2)
theorem den_mul_ne (x y : Rat) : (x.den : Int) * (y.den : Int) ≠ 0 := Int.mul_ne_zero (den_ne x) (den_ne y)

def S_raw_sum : FSpec := fun es Q => ∃ x y : Rat, es = [.d (fr x), .d (fr y)] ∧ Ok x ∧ Ok y ∧ Q (.d (fr (x + y)))
def T_raw_sum : PTS := (pSeq (pIf (pTest (pOp pEq (pOp pIx (pVar 0) (pC (.int 0))) (pC (.int 0)))) (pRetV 1) pNext) (pSeq (pIf (pTest (pOp pEq (pOp pIx (pVar 1) (pC (.int 0))) (pC (.int 0)))) (pRetV 0) pNext) (pSeq (pIf (pAnd (pTest (pOp pEq (pOp pIx (pVar 0) (pC (.int 1))) (pC (.int 1)))) (pTest (pOp pEq (pOp pIx (pVar 1) (pC (.int 1))) (pC (.int 1))))) (pRet (pTup (pCons (pOp pAdd (pOp pIx (pVar 0) (pC (.int 0))) (pOp pIx (pVar 1) (pC (.int 0)))) (pCons (pC (.int 1)) pNil)))) pNext) (pRet (pCall S_raw_part (pCons (pOp pAdd (pOp pMul (pOp pIx (pVar 0) (pC (.int 0))) (pOp pIx (pVar 1) (pC (.int 1)))) (pOp pMul (pOp pIx (pVar 1) (pC (.int 0))) (pOp pIx (pVar 0) (pC (.int 1))))) (pCons (pOp pMul (pOp pIx (pVar 0) (pC (.int 1))) (pOp pIx (pVar 1) (pC (.int 1)))) pNil)))))))
theorem l_raw_sum : ∀ es q, S_raw_sum es q → es.length = 2 := by rintro es q ⟨a, b, rfl, _⟩; rfl
theorem p_raw_sum : ∀ es q, S_raw_sum es q → T_raw_sum { nx := fun _ => q (.d .none), rt := q } (startE 2 es) := by
  rintro es q ⟨x, y, rfl, hx, hy, hq⟩
  unfold T_raw_sum
  simp only [pSeq, pNext, pAsg, pAsgT, pAug, pSub, pIf, pRet, pRetV, pRetN, pDrop, pPar, pPar3, pVar, pC, pOp, pUn, pNil, pCons, pTest, pTruth, pAnd, pOr, pNot, pAndV, pOrV, pNotV, pIfE, pTup, pLst, pF1, pF2, fLen, fTuple, fList, fAbs, fInt, fMax2, fMin2, fAll, fAny, pCall, pNever, p2I, p2I0, EV.two, EV.rd, EV.dat, EV.look, EV.seq, EV.lst, EV.wlk, EV.lsr, EV.sto, EV.ret, EV.arg, pNeg, pItems, pgName, pgTup, pgCons, pgNil, pYes, startE, List.map_cons, List.map_nil, List.cons_append, List.nil_append, List.length_cons, List.length_nil, Nat.reduceAdd, Nat.reduceSub, List.replicate_succ, List.replicate_zero, List.getElem?_cons_zero, List.getElem?_cons_succ, List.set_cons_zero, List.set_cons_succ, wipeE, EV.d.injEq, EV.l.injEq, PyData.int.injEq, PyData.bool.injEq, PyData.tuple.injEq, PyData.list.injEq, Option.some.injEq, exists_eq_left, exists_eq_left', true_and, and_true, List.mapM_cons, List.mapM_nil, bind_pure_comp, Option.pure_def, Option.bind_eq_bind, Option.bind_some, Option.map_some, Option.map_eq_map, truthD, if_true, if_false, reduceIte, Bool.false_eq_true, Bool.not_true, Bool.not_false, exists_and_left, exists_eq_left, decide_eq_true_eq, List.set_nil, pIx, pEq, pNe, pMul, pAdd, shaped_int, eqv_int, ix2_0, ix2_1, fr]
  split
  · rename_i h
    rw [Rat.num_eq_zero.mp h, Rat.zero_add] at hq; exact hq
  split
  · rename_i h
    rw [Rat.num_eq_zero.mp h, Rat.add_zero] at hq; exact hq
  have fin : MulOk x.num ↑y.den ∧ MulOk y.num ↑x.den ∧ MulOk ↑x.den ↑y.den ∧ S_raw_part [EV.d (PyData.int (x.num * ↑y.den + y.num * ↑x.den)), EV.d (PyData.int (↑x.den * ↑y.den))] fun e => e.ret = true ∧ q e := by
    refine ⟨hx.mulND hy, hy.mulND hx, hx.mulD hy, _, _, rfl, den_mul_ne x y, ok_den_mul hx hy, rfl, ?_⟩
    rw [add_divInt]; exact hq
  split
  · rename_i h1
    split
    · rename_i h2
      refine ⟨by decide, ?_⟩
      rw [rat_of_int h1, rat_of_int h2, ← Rat.intCast_add, rat_int] at hq
      exact hq
    · exact fin
  · exact fin
def S_raw_less : FSpec := fun es Q => ∃ x y : Rat, es = [.d (fr x), .d (fr y)] ∧ Ok x ∧ Ok y ∧ Q (.d (fr (x - y)))
def T_raw_less : PTS := (pRet (pCall S_raw_sum (pCons (pVar 0) (pCons (pTup (pCons (pUn pNeg (pOp pIx (pVar 1) (pC (.int 0)))) (pCons (pOp pIx (pVar 1) (pC (.int 1))) pNil))) pNil))))
theorem l_raw_less : ∀ es q, S_raw_less es q → es.length = 2 := by rintro es q ⟨a, b, rfl, _⟩; rfl
theorem Ok.neg {x : Rat} (h : Ok x) : Ok (-x) := ⟨by rw [Rat.neg_num, Int.natAbs_neg]; exact h.1, by rw [Rat.neg_den]; exact h.2⟩
theorem p_raw_less : ∀ es q, S_raw_less es q → T_raw_less { nx := fun _ => q (.d .none), rt := q } (startE 2 es) := by
  rintro es q ⟨x, y, rfl, hx, hy, hq⟩
  unfold T_raw_less
  simp only [pSeq, pNext, pAsg, pAsgT, pAug, pSub, pIf, pRet, pRetV, pRetN, pDrop, pPar, pPar3, pVar, pC, pOp, pUn, pNil, pCons, pTest, pTruth, pAnd, pOr, pNot, pAndV, pOrV, pNotV, pIfE, pTup, pLst, pF1, pF2, fLen, fTuple, fList, fAbs, fInt, fMax2, fMin2, fAll, fAny, pCall, pNever, p2I, p2I0, EV.two, EV.rd, EV.dat, EV.look, EV.seq, EV.lst, EV.wlk, EV.lsr, EV.sto, EV.ret, EV.arg, pNeg, pItems, pgName, pgTup, pgCons, pgNil, pYes, startE, List.map_cons, List.map_nil, List.cons_append, List.nil_append, List.length_cons, List.length_nil, Nat.reduceAdd, Nat.reduceSub, List.replicate_succ, List.replicate_zero, List.getElem?_cons_zero, List.getElem?_cons_succ, List.set_cons_zero, List.set_cons_succ, wipeE, EV.d.injEq, EV.l.injEq, PyData.int.injEq, PyData.bool.injEq, PyData.tuple.injEq, PyData.list.injEq, Option.some.injEq, exists_eq_left, exists_eq_left', true_and, and_true, List.mapM_cons, List.mapM_nil, bind_pure_comp, Option.pure_def, Option.bind_eq_bind, Option.bind_some, Option.map_some, Option.map_eq_map, truthD, if_true, if_false, reduceIte, Bool.false_eq_true, Bool.not_true, Bool.not_false, exists_and_left, exists_eq_left, decide_eq_true_eq, List.set_nil, pIx, pEq, pNe, pMul, pAdd, shaped_int, eqv_int, ix2_0, ix2_1, fr]
  refine ⟨by decide, x, -y, ?_, hx, hy.neg, rfl, ?_⟩
  · unfold fr; rw [Rat.neg_num, Rat.neg_den]
  · rw [← Rat.sub_eq_add_neg]; exact hq
def S_raw_product : FSpec := fun es Q => ∃ x y : Rat, es = [.d (fr x), .d (fr y)] ∧ Ok x ∧ Ok y ∧ Q (.d (fr (x * y)))
def T_raw_product : PTS := (pSeq (pIf (pOr (pTest (pOp pEq (pOp pIx (pVar 0) (pC (.int 0))) (pC (.int 0)))) (pTest (pOp pEq (pOp pIx (pVar 1) (pC (.int 0))) (pC (.int 0))))) (pRet (pC d_ZERO)) pNext) (pSeq (pIf (pAnd (pTest (pOp pEq (pOp pIx (pVar 0) (pC (.int 1))) (pC (.int 1)))) (pTest (pOp pEq (pOp pIx (pVar 1) (pC (.int 1))) (pC (.int 1))))) (pRet (pTup (pCons (pOp pMul (pOp pIx (pVar 0) (pC (.int 0))) (pOp pIx (pVar 1) (pC (.int 0)))) (pCons (pC (.int 1)) pNil)))) pNext) (pRet (pCall S_raw_part (pCons (pOp pMul (pOp pIx (pVar 0) (pC (.int 0))) (pOp pIx (pVar 1) (pC (.int 0)))) (pCons (pOp pMul (pOp pIx (pVar 0) (pC (.int 1))) (pOp pIx (pVar 1) (pC (.int 1)))) pNil))))))
theorem l_raw_product : ∀ es q, S_raw_product es q → es.length = 2 := by rintro es q ⟨a, b, rfl, _⟩; rfl
theorem p_raw_product : ∀ es q, S_raw_product es q → T_raw_product { nx := fun _ => q (.d .none), rt := q } (startE 2 es) := by
  rintro es q ⟨x, y, rfl, hx, hy, hq⟩
  unfold T_raw_product
  simp only [pSeq, pNext, pAsg, pAsgT, pAug, pSub, pIf, pRet, pRetV, pRetN, pDrop, pPar, pPar3, pVar, pC, pOp, pUn, pNil, pCons, pTest, pTruth, pAnd, pOr, pNot, pAndV, pOrV, pNotV, pIfE, pTup, pLst, pF1, pF2, fLen, fTuple, fList, fAbs, fInt, fMax2, fMin2, fAll, fAny, pCall, pNever, p2I, p2I0, EV.two, EV.rd, EV.dat, EV.look, EV.seq, EV.lst, EV.wlk, EV.lsr, EV.sto, EV.ret, EV.arg, pNeg, pItems, pgName, pgTup, pgCons, pgNil, pYes, startE, List.map_cons, List.map_nil, List.cons_append, List.nil_append, List.length_cons, List.length_nil, Nat.reduceAdd, Nat.reduceSub, List.replicate_succ, List.replicate_zero, List.getElem?_cons_zero, List.getElem?_cons_succ, List.set_cons_zero, List.set_cons_succ, wipeE, EV.d.injEq, EV.l.injEq, PyData.int.injEq, PyData.bool.injEq, PyData.tuple.injEq, PyData.list.injEq, Option.some.injEq, exists_eq_left, exists_eq_left', true_and, and_true, List.mapM_cons, List.mapM_nil, bind_pure_comp, Option.pure_def, Option.bind_eq_bind, Option.bind_some, Option.map_some, Option.map_eq_map, truthD, if_true, if_false, reduceIte, Bool.false_eq_true, Bool.not_true, Bool.not_false, exists_and_left, exists_eq_left, decide_eq_true_eq, List.set_nil, pIx, pEq, pNe, pMul, pAdd, shaped_int, eqv_int, ix2_0, ix2_1, fr]
  have fin : MulOk x.num ↑y.num ∧ MulOk ↑x.den ↑y.den ∧ S_raw_part [EV.d (PyData.int (x.num * y.num)), EV.d (PyData.int (↑x.den * ↑y.den))] fun e => e.ret = true ∧ q e := by
    refine ⟨hx.mulN hy, hx.mulD hy, _, _, rfl, den_mul_ne x y, ok_den_mul hx hy, rfl, ?_⟩
    rw [mul_divInt]; exact hq
  split
  · rename_i h
    rw [Rat.num_eq_zero.mp h, Rat.zero_mul] at hq; exact hq
  split
  · rename_i h
    rw [Rat.num_eq_zero.mp h, Rat.mul_zero] at hq; exact hq
  split
  · rename_i h1
    split
    · rename_i h2
      refine ⟨hx.mulN hy, by decide, ?_⟩
      rw [rat_of_int h1, rat_of_int h2, ← Rat.intCast_mul, rat_int] at hq
      exact hq
    · exact fin
  · exact fin
def S_raw_quotient : FSpec := fun es Q => ∃ x y : Rat, es = [.d (fr x), .d (fr y)] ∧ Ok x ∧ Ok y ∧ y ≠ 0 ∧ Q (.d (fr (x / y)))
def T_raw_quotient : PTS := (pRet (pCall S_raw_part (pCons (pOp pMul (pOp pIx (pVar 0) (pC (.int 0))) (pOp pIx (pVar 1) (pC (.int 1)))) (pCons (pOp pMul (pOp pIx (pVar 0) (pC (.int 1))) (pOp pIx (pVar 1) (pC (.int 0)))) pNil))))
theorem l_raw_quotient : ∀ es q, S_raw_quotient es q → es.length = 2 := by rintro es q ⟨a, b, rfl, _⟩; rfl
theorem num_ne {y : Rat} (h : y ≠ 0) : y.num ≠ 0 := fun e => h (Rat.num_eq_zero.mp e)
theorem p_raw_quotient : ∀ es q, S_raw_quotient es q → T_raw_quotient { nx := fun _ => q (.d .none), rt := q } (startE 2 es) := by
  rintro es q ⟨x, y, rfl, hx, hy, h0, hq⟩
  unfold T_raw_quotient
  simp only [pSeq, pNext, pAsg, pAsgT, pAug, pSub, pIf, pRet, pRetV, pRetN, pDrop, pPar, pPar3, pVar, pC, pOp, pUn, pNil, pCons, pTest, pTruth, pAnd, pOr, pNot, pAndV, pOrV, pNotV, pIfE, pTup, pLst, pF1, pF2, fLen, fTuple, fList, fAbs, fInt, fMax2, fMin2, fAll, fAny, pCall, pNever, p2I, p2I0, EV.two, EV.rd, EV.dat, EV.look, EV.seq, EV.lst, EV.wlk, EV.lsr, EV.sto, EV.ret, EV.arg, pNeg, pItems, pgName, pgTup, pgCons, pgNil, pYes, startE, List.map_cons, List.map_nil, List.cons_append, List.nil_append, List.length_cons, List.length_nil, Nat.reduceAdd, Nat.reduceSub, List.replicate_succ, List.replicate_zero, List.getElem?_cons_zero, List.getElem?_cons_succ, List.set_cons_zero, List.set_cons_succ, wipeE, EV.d.injEq, EV.l.injEq, PyData.int.injEq, PyData.bool.injEq, PyData.tuple.injEq, PyData.list.injEq, Option.some.injEq, exists_eq_left, exists_eq_left', true_and, and_true, List.mapM_cons, List.mapM_nil, bind_pure_comp, Option.pure_def, Option.bind_eq_bind, Option.bind_some, Option.map_some, Option.map_eq_map, truthD, if_true, if_false, reduceIte, Bool.false_eq_true, Bool.not_true, Bool.not_false, exists_and_left, exists_eq_left, decide_eq_true_eq, List.set_nil, pIx, pEq, pNe, pMul, pAdd, shaped_int, eqv_int, ix2_0, ix2_1, fr]
  refine ⟨hx.mulND hy, hx.mulDN hy, _, _, rfl, Int.mul_ne_zero (den_ne x) (num_ne h0), mul_big2 (by simpa using hx.2) hy.1, rfl, ?_⟩
  rw [div_divInt]; exact hq
/-! the laws' own -/
def S__law_part : FSpec := fun es Q => ∃ t b : Int, es = [.d (.int t), .d (.int b)] ∧ b ≠ 0 ∧ b.natAbs.log2 < 9000 ∧ Q (.d (fr (Rat.divInt t b)))
def T__law_part : PTS := (pSeq (pPar 2 3 (pF1 fAbs (pVar 0)) (pF1 fAbs (pVar 1))) (pSeq (pWhile (pTest (pOp pGt (pVar 3) (pC (.int 0)))) (pPar 2 3 (pVar 3) (pOp pMod (pF1 fInt (pVar 2)) (pVar 3)))) (pSeq (pAsg 2 (pIfE (pTest (pOp pGt (pVar 1) (pC (.int 0)))) (pVar 2) (pOp pSub (pC (.int 0)) (pVar 2)))) (pRet (pTup (pCons (pOp pFdiv (pVar 0) (pVar 2)) (pCons (pOp pFdiv (pVar 1) (pVar 2)) pNil)))))))
theorem l__law_part : ∀ es q, S__law_part es q → es.length = 2 := by rintro es q ⟨a, b, rfl, _⟩; rfl
theorem p__law_part : ∀ es q, S__law_part es q → T__law_part { nx := fun _ => q (.d .none), rt := q } (startE 4 es) := by
  rintro es q ⟨a, b, rfl, hb, hl, hq⟩
  unfold T__law_part
  simp only [pSeq, pNext, pAsg, pAsgT, pAug, pSub, pIf, pRet, pRetV, pRetN, pDrop, pPar, pPar3, pVar, pC, pOp, pUn, pNil, pCons, pTest, pTruth, pAnd, pOr, pNot, pAndV, pOrV, pNotV, pIfE, pTup, pLst, pF1, pF2, fLen, fTuple, fList, fAbs, fInt, fMax2, fMin2, fAll, fAny, pCall, pNever, p2I, p2I0, EV.two, EV.rd, EV.dat, EV.look, EV.seq, EV.lst, EV.wlk, EV.lsr, EV.sto, EV.ret, EV.arg, pNeg, pItems, pgName, pgTup, pgCons, pgNil, pYes, startE, List.map_cons, List.map_nil, List.cons_append, List.nil_append, List.length_cons, List.length_nil, Nat.reduceAdd, Nat.reduceSub, List.replicate_succ, List.replicate_zero, List.getElem?_cons_zero, List.getElem?_cons_succ, List.set_cons_zero, List.set_cons_succ, wipeE, EV.d.injEq, EV.l.injEq, PyData.int.injEq, PyData.bool.injEq, PyData.tuple.injEq, PyData.list.injEq, Option.some.injEq, exists_eq_left, exists_eq_left', true_and, and_true, List.mapM_cons, List.mapM_nil, bind_pure_comp, Option.pure_def, Option.bind_eq_bind, Option.bind_some, Option.map_some, Option.map_eq_map, truthD, if_true, if_false, reduceIte, Bool.false_eq_true, Bool.not_true, Bool.not_false, exists_and_left, exists_eq_left, decide_eq_true_eq, List.set_nil, pIx, pEq, pNe, pMul, pAdd, shaped_int, eqv_int, ix2_0, ix2_1, abs_eq]
  refine ⟨fun m ρ => ∃ x y : Nat, ρ = [some (.d (.int a)), some (.d (.int b)), some (.d (.int x)), some (.d (.int y))] ∧ Nat.gcd x y = Int.gcd a b ∧ m = y, ⟨_, a.natAbs, b.natAbs, rfl, rfl, rfl⟩, ?_⟩
  rintro m ρ ⟨x, y, rfl, hg, hm⟩
  subst hm
  simp only [pSeq, pNext, pAsg, pAsgT, pAug, pSub, pIf, pRet, pRetV, pRetN, pDrop, pPar, pPar3, pVar, pC, pOp, pUn, pNil, pCons, pTest, pTruth, pAnd, pOr, pNot, pAndV, pOrV, pNotV, pIfE, pTup, pLst, pF1, pF2, fLen, fTuple, fList, fAbs, fInt, fMax2, fMin2, fAll, fAny, pCall, pNever, p2I, p2I0, EV.two, EV.rd, EV.dat, EV.look, EV.seq, EV.lst, EV.wlk, EV.lsr, EV.sto, EV.ret, EV.arg, pNeg, pItems, pgName, pgTup, pgCons, pgNil, pYes, startE, List.map_cons, List.map_nil, List.cons_append, List.nil_append, List.length_cons, List.length_nil, Nat.reduceAdd, Nat.reduceSub, List.replicate_succ, List.replicate_zero, List.getElem?_cons_zero, List.getElem?_cons_succ, List.set_cons_zero, List.set_cons_succ, wipeE, EV.d.injEq, EV.l.injEq, PyData.int.injEq, PyData.bool.injEq, PyData.tuple.injEq, PyData.list.injEq, Option.some.injEq, exists_eq_left, exists_eq_left', true_and, and_true, List.mapM_cons, List.mapM_nil, bind_pure_comp, Option.pure_def, Option.bind_eq_bind, Option.bind_some, Option.map_some, Option.map_eq_map, truthD, if_true, if_false, reduceIte, Bool.false_eq_true, Bool.not_true, Bool.not_false, exists_and_left, exists_eq_left, decide_eq_true_eq, List.set_nil, pIx, pEq, pNe, pMul, pAdd, shaped_int, eqv_int, ix2_0, ix2_1]
  by_cases h : (0 : Int) < m
  · rw [if_pos h]
    refine ⟨by omega, x % m, Nat.mod_lt _ (by omega), m, x % m, ?_, ?_, rfl⟩
    · rw [Int.fmod_eq_emod_of_nonneg _ (by omega), Int.natCast_emod]
    · rw [← hg, Nat.gcd_comm m, ← Nat.gcd_rec, Nat.gcd_comm]
  · rw [if_neg h]
    have : m = 0 := by omega
    subst this
    rw [Nat.gcd_zero_right] at hg
    subst hg
    have hd := divOk_gcd (t := a) hb hl
    rw [fr_mk a b hb] at hq
    by_cases h : 0 < b
    · rw [if_pos h]
      rw [if_neg (by omega)] at hq
      exact ⟨hd.1, hd.1, by decide, hq⟩
    · rw [if_neg h, Int.zero_sub]
      rw [if_pos (by omega)] at hq
      exact ⟨hd.2, hd.2, by decide, hq⟩
def S__law_add : FSpec := S_raw_sum
def T__law_add : PTS := (pRet (pCall S__law_part (pCons (pOp pAdd (pOp pMul (pOp pIx (pVar 0) (pC (.int 0))) (pOp pIx (pVar 1) (pC (.int 1)))) (pOp pMul (pOp pIx (pVar 1) (pC (.int 0))) (pOp pIx (pVar 0) (pC (.int 1))))) (pCons (pOp pMul (pOp pIx (pVar 0) (pC (.int 1))) (pOp pIx (pVar 1) (pC (.int 1)))) pNil))))
theorem l__law_add : ∀ es q, S__law_add es q → es.length = 2 := l_raw_sum
theorem p__law_add : ∀ es q, S__law_add es q → T__law_add { nx := fun _ => q (.d .none), rt := q } (startE 2 es) := by
  rintro es q ⟨x, y, rfl, hx, hy, hq⟩
  unfold T__law_add
  simp only [pSeq, pNext, pAsg, pAsgT, pAug, pSub, pIf, pRet, pRetV, pRetN, pDrop, pPar, pPar3, pVar, pC, pOp, pUn, pNil, pCons, pTest, pTruth, pAnd, pOr, pNot, pAndV, pOrV, pNotV, pIfE, pTup, pLst, pF1, pF2, fLen, fTuple, fList, fAbs, fInt, fMax2, fMin2, fAll, fAny, pCall, pNever, p2I, p2I0, EV.two, EV.rd, EV.dat, EV.look, EV.seq, EV.lst, EV.wlk, EV.lsr, EV.sto, EV.ret, EV.arg, pNeg, pItems, pgName, pgTup, pgCons, pgNil, pYes, startE, List.map_cons, List.map_nil, List.cons_append, List.nil_append, List.length_cons, List.length_nil, Nat.reduceAdd, Nat.reduceSub, List.replicate_succ, List.replicate_zero, List.getElem?_cons_zero, List.getElem?_cons_succ, List.set_cons_zero, List.set_cons_succ, wipeE, EV.d.injEq, EV.l.injEq, PyData.int.injEq, PyData.bool.injEq, PyData.tuple.injEq, PyData.list.injEq, Option.some.injEq, exists_eq_left, exists_eq_left', true_and, and_true, List.mapM_cons, List.mapM_nil, bind_pure_comp, Option.pure_def, Option.bind_eq_bind, Option.bind_some, Option.map_some, Option.map_eq_map, truthD, if_true, if_false, reduceIte, Bool.false_eq_true, Bool.not_true, Bool.not_false, exists_and_left, exists_eq_left, decide_eq_true_eq, List.set_nil, pIx, pEq, pNe, pMul, pAdd, shaped_int, eqv_int, ix2_0, ix2_1, fr]
  refine ⟨hx.mulND hy, hy.mulND hx, hx.mulD hy, _, _, rfl, den_mul_ne x y, ok_den_mul hx hy, rfl, ?_⟩
  rw [add_divInt]; exact hq
def S__law_less : FSpec := S_raw_less
def T__law_less : PTS := (pRet (pCall S__law_part (pCons (pOp pSub (pOp pMul (pOp pIx (pVar 0) (pC (.int 0))) (pOp pIx (pVar 1) (pC (.int 1)))) (pOp pMul (pOp pIx (pVar 1) (pC (.int 0))) (pOp pIx (pVar 0) (pC (.int 1))))) (pCons (pOp pMul (pOp pIx (pVar 0) (pC (.int 1))) (pOp pIx (pVar 1) (pC (.int 1)))) pNil))))
theorem l__law_less : ∀ es q, S__law_less es q → es.length = 2 := l_raw_less
theorem p__law_less : ∀ es q, S__law_less es q → T__law_less { nx := fun _ => q (.d .none), rt := q } (startE 2 es) := by
  rintro es q ⟨x, y, rfl, hx, hy, hq⟩
  unfold T__law_less
  simp only [pSeq, pNext, pAsg, pAsgT, pAug, pSub, pIf, pRet, pRetV, pRetN, pDrop, pPar, pPar3, pVar, pC, pOp, pUn, pNil, pCons, pTest, pTruth, pAnd, pOr, pNot, pAndV, pOrV, pNotV, pIfE, pTup, pLst, pF1, pF2, fLen, fTuple, fList, fAbs, fInt, fMax2, fMin2, fAll, fAny, pCall, pNever, p2I, p2I0, EV.two, EV.rd, EV.dat, EV.look, EV.seq, EV.lst, EV.wlk, EV.lsr, EV.sto, EV.ret, EV.arg, pNeg, pItems, pgName, pgTup, pgCons, pgNil, pYes, startE, List.map_cons, List.map_nil, List.cons_append, List.nil_append, List.length_cons, List.length_nil, Nat.reduceAdd, Nat.reduceSub, List.replicate_succ, List.replicate_zero, List.getElem?_cons_zero, List.getElem?_cons_succ, List.set_cons_zero, List.set_cons_succ, wipeE, EV.d.injEq, EV.l.injEq, PyData.int.injEq, PyData.bool.injEq, PyData.tuple.injEq, PyData.list.injEq, Option.some.injEq, exists_eq_left, exists_eq_left', true_and, and_true, List.mapM_cons, List.mapM_nil, bind_pure_comp, Option.pure_def, Option.bind_eq_bind, Option.bind_some, Option.map_some, Option.map_eq_map, truthD, if_true, if_false, reduceIte, Bool.false_eq_true, Bool.not_true, Bool.not_false, exists_and_left, exists_eq_left, decide_eq_true_eq, List.set_nil, pIx, pEq, pNe, pMul, pAdd, shaped_int, eqv_int, ix2_0, ix2_1, fr]
  refine ⟨hx.mulND hy, hy.mulND hx, hx.mulD hy, _, _, rfl, den_mul_ne x y, ok_den_mul hx hy, rfl, ?_⟩
  rw [sub_divInt]; exact hq
def S__law_mul : FSpec := S_raw_product
def T__law_mul : PTS := (pRet (pCall S__law_part (pCons (pOp pMul (pOp pIx (pVar 0) (pC (.int 0))) (pOp pIx (pVar 1) (pC (.int 0)))) (pCons (pOp pMul (pOp pIx (pVar 0) (pC (.int 1))) (pOp pIx (pVar 1) (pC (.int 1)))) pNil))))
theorem l__law_mul : ∀ es q, S__law_mul es q → es.length = 2 := l_raw_product
theorem p__law_mul : ∀ es q, S__law_mul es q → T__law_mul { nx := fun _ => q (.d .none), rt := q } (startE 2 es) := by
  rintro es q ⟨x, y, rfl, hx, hy, hq⟩
  unfold T__law_mul
  simp only [pSeq, pNext, pAsg, pAsgT, pAug, pSub, pIf, pRet, pRetV, pRetN, pDrop, pPar, pPar3, pVar, pC, pOp, pUn, pNil, pCons, pTest, pTruth, pAnd, pOr, pNot, pAndV, pOrV, pNotV, pIfE, pTup, pLst, pF1, pF2, fLen, fTuple, fList, fAbs, fInt, fMax2, fMin2, fAll, fAny, pCall, pNever, p2I, p2I0, EV.two, EV.rd, EV.dat, EV.look, EV.seq, EV.lst, EV.wlk, EV.lsr, EV.sto, EV.ret, EV.arg, pNeg, pItems, pgName, pgTup, pgCons, pgNil, pYes, startE, List.map_cons, List.map_nil, List.cons_append, List.nil_append, List.length_cons, List.length_nil, Nat.reduceAdd, Nat.reduceSub, List.replicate_succ, List.replicate_zero, List.getElem?_cons_zero, List.getElem?_cons_succ, List.set_cons_zero, List.set_cons_succ, wipeE, EV.d.injEq, EV.l.injEq, PyData.int.injEq, PyData.bool.injEq, PyData.tuple.injEq, PyData.list.injEq, Option.some.injEq, exists_eq_left, exists_eq_left', true_and, and_true, List.mapM_cons, List.mapM_nil, bind_pure_comp, Option.pure_def, Option.bind_eq_bind, Option.bind_some, Option.map_some, Option.map_eq_map, truthD, if_true, if_false, reduceIte, Bool.false_eq_true, Bool.not_true, Bool.not_false, exists_and_left, exists_eq_left, decide_eq_true_eq, List.set_nil, pIx, pEq, pNe, pMul, pAdd, shaped_int, eqv_int, ix2_0, ix2_1, fr]
  refine ⟨hx.mulN hy, hx.mulD hy, _, _, rfl, den_mul_ne x y, ok_den_mul hx hy, rfl, ?_⟩
  rw [mul_divInt]; exact hq
def S__law_by : FSpec := S_raw_quotient
def T__law_by : PTS := (pRet (pCall S__law_part (pCons (pOp pMul (pOp pIx (pVar 0) (pC (.int 0))) (pOp pIx (pVar 1) (pC (.int 1)))) (pCons (pOp pMul (pOp pIx (pVar 0) (pC (.int 1))) (pOp pIx (pVar 1) (pC (.int 0)))) pNil))))
theorem l__law_by : ∀ es q, S__law_by es q → es.length = 2 := l_raw_quotient
theorem p__law_by : ∀ es q, S__law_by es q → T__law_by { nx := fun _ => q (.d .none), rt := q } (startE 2 es) := by
  rintro es q ⟨x, y, rfl, hx, hy, h0, hq⟩
  unfold T__law_by
  simp only [pSeq, pNext, pAsg, pAsgT, pAug, pSub, pIf, pRet, pRetV, pRetN, pDrop, pPar, pPar3, pVar, pC, pOp, pUn, pNil, pCons, pTest, pTruth, pAnd, pOr, pNot, pAndV, pOrV, pNotV, pIfE, pTup, pLst, pF1, pF2, fLen, fTuple, fList, fAbs, fInt, fMax2, fMin2, fAll, fAny, pCall, pNever, p2I, p2I0, EV.two, EV.rd, EV.dat, EV.look, EV.seq, EV.lst, EV.wlk, EV.lsr, EV.sto, EV.ret, EV.arg, pNeg, pItems, pgName, pgTup, pgCons, pgNil, pYes, startE, List.map_cons, List.map_nil, List.cons_append, List.nil_append, List.length_cons, List.length_nil, Nat.reduceAdd, Nat.reduceSub, List.replicate_succ, List.replicate_zero, List.getElem?_cons_zero, List.getElem?_cons_succ, List.set_cons_zero, List.set_cons_succ, wipeE, EV.d.injEq, EV.l.injEq, PyData.int.injEq, PyData.bool.injEq, PyData.tuple.injEq, PyData.list.injEq, Option.some.injEq, exists_eq_left, exists_eq_left', true_and, and_true, List.mapM_cons, List.mapM_nil, bind_pure_comp, Option.pure_def, Option.bind_eq_bind, Option.bind_some, Option.map_some, Option.map_eq_map, truthD, if_true, if_false, reduceIte, Bool.false_eq_true, Bool.not_true, Bool.not_false, exists_and_left, exists_eq_left, decide_eq_true_eq, List.set_nil, pIx, pEq, pNe, pMul, pAdd, shaped_int, eqv_int, ix2_0, ix2_1, fr]
  refine ⟨hx.mulND hy, hx.mulDN hy, _, _, rfl, Int.mul_ne_zero (den_ne x) (num_ne h0), mul_big2 (by simpa using hx.2) hy.1, rfl, ?_⟩
  rw [div_divInt]; exact hq
end PL
namespace PL
open PySem PySem.Spec PyProof.Rows L2
/-! polynomials over the fractions, by what they give -/
def ev : List Rat → Rat → Rat
  | [], _ => 0
  | c :: p, x => c + x * ev p x
theorem ev_nil (x : Rat) : ev [] x = 0 := rfl
theorem ev_cons (c : Rat) (p : List Rat) (x : Rat) : ev (c :: p) x = c + x * ev p x := rfl
theorem ev_append (p q : List Rat) (x : Rat) : ev (p ++ q) x = ev p x + x ^ p.length * ev q x := by
  induction p with
  | nil => simp [ev_nil]; grind
  | cons c p ih => rw [List.cons_append, ev_cons, ev_cons, ih, List.length_cons, Rat.pow_succ]; grind
theorem ev_zeros {p : List Rat} (h : ∀ c ∈ p, c = 0) (x : Rat) : ev p x = 0 := by
  induction p with
  | nil => rfl
  | cons c p ih => rw [ev_cons, h c (List.mem_cons_self ..), ih fun c hc => h c (List.mem_cons_of_mem _ hc)]; grind
theorem ev_take {p : List Rat} {m : Nat} (h : ∀ c ∈ p.drop m, c = 0) (x : Rat) : ev (p.take m) x = ev p x := by
  have := ev_append (p.take m) (p.drop m) x
  rw [List.take_append_drop, ev_zeros h] at this
  grind
theorem ev_set {p : List Rat} {k : Nat} {c d : Rat} (h : p[k]? = some d) (x : Rat) : ev (p.set k (d + c)) x = ev p x + x ^ k * c := by
  induction p generalizing k with
  | nil => simp at h
  | cons a p ih =>
    cases k with
    | zero => simp at h; subst h; rw [List.set_cons_zero, ev_cons, ev_cons, Rat.pow_zero]; grind
    | succ k => rw [List.set_cons_succ, ev_cons, ev_cons, ih (by simpa using h), Rat.pow_succ]; grind
theorem ev_map_add {α : Type} (l : List α) (f g : α → Rat) (x : Rat) : ev (l.map fun a => f a + g a) x = ev (l.map f) x + ev (l.map g) x := by
  induction l with
  | nil => simp [ev_nil]; grind
  | cons a l ih => rw [List.map_cons, List.map_cons, List.map_cons, ev_cons, ev_cons, ev_cons, ih]; grind
theorem ev_map_mul {α : Type} (l : List α) (f : α → Rat) (c : Rat) (x : Rat) : ev (l.map fun a => f a * c) x = ev (l.map f) x * c := by
  induction l with
  | nil => simp [ev_nil]
  | cons a l ih => rw [List.map_cons, List.map_cons, ev_cons, ev_cons, ih]; grind
/-- the number at a place, 0 behind the last -/
def cf (p : List Rat) (i : Nat) : Rat := p[i]?.getD 0
theorem ev_cf (p : List Rat) (n : Nat) (h : p.length ≤ n) (x : Rat) : ev ((List.range n).map (cf p)) x = ev p x := by
  induction p generalizing n with
  | nil => exact ev_zeros (by simp [cf]) x
  | cons c p ih =>
    cases n with
    | zero => simp at h
    | succ n =>
      rw [List.range_succ_eq_map, List.map_cons, List.map_map, ev_cons, ev_cons]
      have e : (cf (c :: p) ∘ Nat.succ) = cf p := by funext i; simp [cf]
      rw [e, ih n (by simpa using h)]
      simp [cf]
/-! two that give alike are alike -/
def syn (r : Rat) : List Rat → List Rat
  | [] => []
  | c :: p => ev (c :: p) r :: syn r p
theorem syn_length (r : Rat) : ∀ p, (syn r p).length = p.length
  | [] => rfl
  | c :: p => by simp [syn, syn_length r p]
theorem ev_syn (r c : Rat) (p : List Rat) (x : Rat) : ev (c :: p) x - ev (c :: p) r = (x - r) * ev (syn r p) x := by
  induction p generalizing c with
  | nil => simp [syn, ev_cons, ev_nil]; grind
  | cons d p ih =>
    have := ih d
    rw [ev_cons c, ev_cons c, syn, ev_cons (ev (d :: p) r)]
    grind
theorem ev_roots : ∀ (n : Nat) (p : List Rat) (k : Nat), p.length ≤ n → (∀ m : Nat, k ≤ m → ev p (m : Rat) = 0) → ∀ x, ev p x = 0
  | 0, p, k, h, _, x => by
    have : p = [] := List.length_eq_zero_iff.mp (by omega)
    rw [this]; rfl
  | n + 1, [], _, _, _, x => rfl
  | n + 1, c :: p, k, h, hr, x => by
    have hk := hr k (Nat.le_refl _)
    have f : ∀ y, ev (c :: p) y = (y - (k : Rat)) * ev (syn (k : Rat) p) y := fun y => by
      have := ev_syn (k : Rat) c p y
      rw [hk] at this
      grind
    have z := ev_roots n (syn (k : Rat) p) (k + 1) (by rw [syn_length]; simpa using h) fun m hm => by
      have h1 := f (m : Rat)
      rw [hr m (by omega)] at h1
      have h2 : (m : Rat) - (k : Rat) ≠ 0 := fun e => by
        have e2 : (m : Rat) = (k : Rat) := by grind
        have : m = k := by exact_mod_cast e2
        omega
      have := Rat.mul_eq_zero.mp h1.symm
      exact this.resolve_left h2
    rw [f x, z x]
    grind
theorem ev_all_zero : ∀ (p : List Rat), (∀ x, ev p x = 0) → ∀ c ∈ p, c = 0
  | [], _ => by simp
  | c :: p, h => by
    have h0 : c = 0 := by have := h 0; rw [ev_cons] at this; grind
    have h1 : ∀ x, ev p x = 0 := ev_roots _ p 1 (Nat.le_refl _) fun m hm => by
      have := h (m : Rat)
      rw [ev_cons, h0, Rat.zero_add] at this
      refine (Rat.mul_eq_zero.mp this).resolve_left fun e => ?_
      have : m = 0 := by exact_mod_cast e
      omega
    intro d hd
    rcases List.mem_cons.mp hd with e | e
    · rw [e, h0]
    · exact ev_all_zero p h1 d e
def Tr0 (p : List Rat) : Prop := ∀ d, p.getLast? = some d → d ≠ 0
theorem Tr0.nil : Tr0 [] := fun d h => by simp at h
theorem cf_add {p q : List Rat} (h : ∀ x, ev p x = ev q x) (i : Nat) : cf p i = cf q i := by
  have z : ∀ x, ev ((List.range (max p.length q.length)).map fun i => cf p i + (cf q i) * (-1)) x = 0 := fun x => by
    rw [ev_map_add, ev_map_mul _ (cf q), ev_cf p _ (Nat.le_max_left ..), ev_cf q _ (Nat.le_max_right ..), h]
    grind
  by_cases hi : i < max p.length q.length
  · have := ev_all_zero _ z (cf p i + (cf q i) * (-1)) (List.mem_map.mpr ⟨i, List.mem_range.mpr hi, rfl⟩)
    grind
  · unfold cf
    rw [List.getElem?_eq_none (by omega), List.getElem?_eq_none (by omega)]
theorem tr0_len {p q : List Rat} (hp : Tr0 p) (h : ∀ x, ev p x = ev q x) : p.length ≤ q.length := by
  cases Nat.lt_or_ge q.length p.length with
  | inr h => exact h
  | inl hl =>
    exfalso
    have e := cf_add h (p.length - 1)
    unfold cf at e
    rw [List.getElem?_eq_none (l := q) (by omega)] at e
    cases g : p.getLast? with
    | none => rw [List.getLast?_eq_none_iff] at g; subst g; simp at hl
    | some d =>
      have n := hp d g
      rw [List.getLast?_eq_getElem?] at g
      rw [g] at e
      exact n e
theorem tr0_uniq {p q : List Rat} (hp : Tr0 p) (hq : Tr0 q) (h : ∀ x, ev p x = ev q x) : p = q := by
  have l : p.length = q.length := Nat.le_antisymm (tr0_len hp h) (tr0_len hq fun x => (h x).symm)
  apply List.ext_getElem?
  intro i
  by_cases hi : i < p.length
  · have e := cf_add h i
    unfold cf at e
    rw [List.getElem?_eq_getElem hi, List.getElem?_eq_getElem (l ▸ hi)] at e ⊢
    exact congrArg some e
  · rw [List.getElem?_eq_none (by omega), List.getElem?_eq_none (by omega)]
/-! sizes: bottom D, no more than N -/
def Sz (D N : Nat) (x : Rat) : Prop := 0 < D ∧ ∃ k : Int, x * D = k ∧ k.natAbs ≤ N * D
theorem Sz.num {D N : Nat} {x : Rat} (h : Sz D N x) : x.num.natAbs ≤ N * D ∧ x.den ≤ D := by
  obtain ⟨h0, k, h1, h2⟩ := h
  have dn : (D : Rat) ≠ 0 := by intro e; have : D = 0 := by exact_mod_cast e
                                omega
  have e : x = Rat.divInt k D := by
    rw [Rat.divInt_eq_div, ← h1]
    have : ((D : Int) : Rat) = (D : Rat) := by norm_cast
    rw [this]
    grind
  have e1 := Rat.num_divInt k D
  have e2 := Rat.den_divInt k D
  rw [if_neg (by omega)] at e2
  rw [← e] at e1 e2
  refine ⟨?_, ?_⟩
  · rw [e1, Int.sign_eq_one_of_pos (by omega), Int.one_mul, Int.natAbs_ediv_of_dvd (by exact_mod_cast Int.gcd_dvd_right ..)]
    exact Nat.le_trans (Nat.div_le_self _ _) h2
  · rw [e2]
    simpa using Nat.div_le_self _ _
theorem Sz.ok {D N : Nat} {x : Rat} (h : Sz D N x) (h1 : N * D < 2 ^ 4000) (h2 : D < 2 ^ 4000) : Ok x := ⟨Nat.lt_of_le_of_lt h.num.1 h1, Nat.lt_of_le_of_lt h.num.2 h2⟩
theorem Sz.add {D N M : Nat} {x y : Rat} (h : Sz D N x) (g : Sz D M y) : Sz D (N + M) (x + y) := by
  obtain ⟨h0, k, h1, h2⟩ := h
  obtain ⟨g0, l, g1, g2⟩ := g
  refine ⟨h0, k + l, ?_, ?_⟩
  · rw [Rat.intCast_add, ← h1, ← g1]; grind
  · rw [Nat.add_mul]; omega
theorem Sz.mul {D N E M : Nat} {x y : Rat} (h : Sz D N x) (g : Sz E M y) : Sz (D * E) (N * M) (x * y) := by
  obtain ⟨h0, k, h1, h2⟩ := h
  obtain ⟨g0, l, g1, g2⟩ := g
  refine ⟨Nat.mul_pos h0 g0, k * l, ?_, ?_⟩
  · rw [Rat.intCast_mul, ← h1, ← g1]
    have : ((D * E : Nat) : Rat) = (D : Rat) * (E : Rat) := by norm_cast
    rw [this]; grind
  · rw [Int.natAbs_mul, Nat.mul_mul_mul_comm]; exact Nat.mul_le_mul h2 g2
theorem Sz.neg {D N : Nat} {x : Rat} (h : Sz D N x) : Sz D N (-x) := by
  obtain ⟨h0, k, h1, h2⟩ := h
  refine ⟨h0, -k, ?_, by rw [Int.natAbs_neg]; exact h2⟩
  rw [Rat.intCast_neg, ← h1]; grind
theorem Sz.zero {D N : Nat} (h : 0 < D) : Sz D N 0 := ⟨h, 0, by grind, by simp⟩
theorem Sz.mono {D N M : Nat} {x : Rat} (h : Sz D N x) (l : N ≤ M) : Sz D M x := by
  obtain ⟨h0, k, h1, h2⟩ := h
  exact ⟨h0, k, h1, Nat.le_trans h2 (Nat.mul_le_mul_right _ l)⟩
theorem Sz.den {D N E : Nat} {x : Rat} (h : Sz D N x) (hE : 0 < E) : Sz (D * E) N x := by
  have := h.mul (y := 1) (E := E) (M := 1) ⟨hE, E, by rw [Rat.one_mul]; norm_cast, by simp⟩
  rw [Rat.mul_one, Nat.mul_one] at this
  exact this
theorem Sz.int (n : Int) : Sz 1 n.natAbs n := ⟨by decide, n, by grind, by simp⟩
end PL
namespace PL
open PySem PySem.Spec PyProof.Rows L2
/-! loops -/
theorem pForL_inv {g : PTG} {tb : PTS} {P : PEnds} (xs : List PyData) (I : Nat → Env → Prop) (ρ : Env) (h0 : I 0 ρ)
    (step : ∀ i ρ x, xs[i]? = some x → I i ρ → ∀ R : Env → Prop, (∀ ρ', I (i + 1) ρ' → R ρ') → g x ρ fun ρ1 => tb { P with nx := R, ct := R, bk := P.nx } ρ1)
    (hend : ∀ ρ, I xs.length ρ → P.nx ρ) : pForL g tb P xs ρ := by
  induction xs generalizing I ρ with
  | nil => exact hend ρ h0
  | cons x xs ih =>
    exact step 0 ρ x rfl h0 _ fun ρ' h' => ih (fun i => I (i + 1)) ρ' h' (fun i ρ y hy hI R hR => step (i + 1) ρ y (by simpa using hy) hI R hR) (fun ρ h => hend ρ (by simpa using h))
theorem pLcL_inv' {g : PTG} {tt : PTT} {te : PTE} {ρ : Env} {Q : EV → Prop} (xs : List PyData) : ∀ (I : Nat → List PyData → Prop) (acc : List PyData), I 0 acc →
    (∀ i x acc, xs[i]? = some x → I i acc → ∀ R : List PyData → Prop, (∀ acc', I (i + 1) acc' → R acc') → g x ρ fun ρ1 => tt ρ1 fun b => if b = true then te ρ1 fun e => ∃ d, e.dat = some d ∧ R (acc ++ [d]) else R acc) →
    (∀ acc, I xs.length acc → Q (.l acc)) → pLcL g tt te ρ Q xs acc := by
  induction xs with
  | nil => intro I acc h0 _ hend; exact hend acc h0
  | cons x xs ih =>
    intro I acc h0 step hend
    exact step 0 x acc rfl h0 _ fun acc' h' => ih (fun i => I (i + 1)) acc' h' (fun i y acc hy hI R hR => step (i + 1) y acc (by simpa using hy) hI R hR) (fun acc h => hend acc (by simpa using h))
theorem pLcL_inv {g : PTG} {tt : PTT} {te : PTE} {ρ : Env} {Q : EV → Prop} (xs : List PyData) (I : Nat → List PyData → Prop) (h0 : I 0 [])
    (step : ∀ i x acc, xs[i]? = some x → I i acc → ∀ R : List PyData → Prop, (∀ acc', I (i + 1) acc' → R acc') → g x ρ fun ρ1 => tt ρ1 fun b => if b = true then te ρ1 fun e => ∃ d, e.dat = some d ∧ R (acc ++ [d]) else R acc)
    (hend : ∀ acc, I xs.length acc → Q (.l acc)) : pLcL g tt te ρ Q xs [] := pLcL_inv' xs I [] h0 step hend
theorem pLcL_map {α : Type} {g : PTG} {tt : PTT} {te : PTE} {ρ : Env} {Q : EV → Prop} (h f : α → PyData) (l : List α)
    (step : ∀ a, a ∈ l → ∀ R : PyData → Prop, R (f a) → g (h a) ρ fun ρ1 => tt ρ1 fun b => b = true ∧ te ρ1 fun e => ∃ d, e.dat = some d ∧ R d)
    (mon : ∀ x (P P' : Env → Prop), (∀ ρ, P ρ → P' ρ) → g x ρ P → g x ρ P') (mont : ∀ ρ (P P' : Bool → Prop), (∀ ρ, P ρ → P' ρ) → tt ρ P → tt ρ P')
    (hq : Q (.l (l.map f))) : pLcL g tt te ρ Q (l.map h) [] := by
  refine pLcL_inv _ (fun i acc => acc = (l.map f).take i) (by simp) (fun i x acc hx hI R hR => ?_) fun acc h => ?_
  · subst hI
    rw [List.getElem?_map, Option.map_eq_some_iff] at hx
    obtain ⟨a, ha, rfl⟩ := hx
    have hi : (l.map f).take i ++ [f a] = (l.map f).take (i + 1) := by
      rw [List.take_add_one, List.getElem?_map, ha]; rfl
    refine mon _ _ _ (fun ρ1 h1 => mont _ _ _ (fun b h2 => ?_) h1) (step a (List.mem_of_getElem? ha) (fun d => R ((l.map f).take i ++ [d])) (by rw [hi]; exact hR _ rfl))
    rw [h2.1, if_pos rfl]
    exact h2.2
  · rw [h, List.take_of_length_le (by simp)]
    exact hq
theorem mon_name {i : Nat} {ρ : Env} : ∀ x (P P' : Env → Prop), (∀ ρ, P ρ → P' ρ) → pgName i x ρ P → pgName i x ρ P' := fun x P P' h p => h _ p
theorem mon_yes : ∀ ρ (P P' : Bool → Prop), (∀ ρ, P ρ → P' ρ) → pYes ρ P → pYes ρ P' := fun ρ P P' h p => h _ p
theorem mon_pair {i j : Nat} {ρ : Env} : ∀ x (P P' : Env → Prop), (∀ ρ, P ρ → P' ρ) → pgTup 2 (pgCons (pgName i) (pgCons (pgName j) pgNil)) x ρ P → pgTup 2 (pgCons (pgName i) (pgCons (pgName j) pgNil)) x ρ P' := fun x P P' h p => by
  obtain ⟨xs, rfl, hl, a, ys, rfl, b, zs, rfl, rfl, hp⟩ := p
  exact ⟨_, rfl, hl, _, _, rfl, _, _, rfl, rfl, h _ hp⟩
/-! places -/
theorem atI_nat {α : Type} (xs : List α) (i : Nat) : atI xs (i : Int) = xs[i]? := by
  unfold atI ixN
  rw [if_pos (by omega)]
  by_cases h : (i : Int) < xs.length
  · rw [if_pos h]; simp
  · rw [if_neg h, List.getElem?_eq_none (by omega)]; rfl
theorem atI_neg {α : Type} (xs : List α) (i : Nat) (h : i < xs.length) : atI xs (-((i : Int) + 1)) = xs[xs.length - 1 - i]? := by
  unfold atI ixN
  rw [if_neg (by omega), if_pos (by omega), Option.bind_some]
  congr 1
  omega
theorem cutD_to (xs : List PyData) (m : Nat) (h : m ≤ xs.length) : cutD xs none (some (m : Int)) = xs.take m := by
  unfold cutD
  rw [HT.sIx_none, HT.sIx_nat, List.drop_zero, Nat.sub_zero, Nat.min_eq_left h]
theorem eqv_zero (x : Rat) : PyData.eqv (fr x) d_ZERO = decide (x = 0) := by rw [d_ZERO_eq, eqv_fr]
theorem shaped_zero : SeqAt.shaped d_ZERO = true := rfl
def po (p : List Rat) : PyData := .tuple (p.map fr)
structure PS (D N L : Nat) (p : List Rat) : Prop where
  pos : 0 < D
  sz : ∀ c ∈ p, Sz D N c
  len : p.length ≤ L
theorem PS.take {D N L : Nat} {p : List Rat} (h : PS D N L p) (m : Nat) : PS D N L (p.take m) := ⟨h.pos, fun c hc => h.sz c (List.mem_of_mem_take hc), by rw [List.length_take]; have := h.len; omega⟩
theorem PS.cf {D N L : Nat} {p : List Rat} (h : PS D N L p) (i : Nat) : Sz D N (cf p i) := by
  unfold PL.cf
  cases e : p[i]? with
  | none => exact .zero h.pos
  | some c => exact h.sz c (List.mem_of_getElem? e)
theorem PS.mono {D N L N' L' : Nat} {p : List Rat} (h : PS D N L p) (h1 : N ≤ N') (h2 : L ≤ L') : PS D N' L' p := ⟨h.pos, fun c hc => (h.sz c hc).mono h1, Nat.le_trans h.len h2⟩
theorem PS.den {D N L E : Nat} {p : List Rat} (h : PS D N L p) (hE : 0 < E) : PS (D * E) N L p := ⟨Nat.mul_pos h.pos hE, fun c hc => (h.sz c hc).den hE, h.len⟩
theorem PS.denL {D N L E : Nat} {p : List Rat} (h : PS D N L p) (hE : 0 < E) : PS (E * D) N L p := by rw [Nat.mul_comm]; exact h.den hE
theorem PS.nil {D N L : Nat} (h : 0 < D) : PS D N L [] := ⟨h, by simp, by simp⟩
theorem PS.one {D N : Nat} {c : Rat} (h : Sz D N c) : PS D N 1 [c] := ⟨h.1, fun d hd => by rw [List.mem_singleton.mp hd]; exact h, by simp⟩
def Bd (D N : Nat) : Prop := N * D < 2 ^ 4000 ∧ D < 2 ^ 4000
theorem Bd.ok {D N : Nat} {x : Rat} (b : Bd D N) (h : Sz D N x) : Ok x := h.ok b.1 b.2
theorem Bd.mono {D N M : Nat} (b : Bd D N) (h : M ≤ N) : Bd D M := ⟨Nat.lt_of_le_of_lt (Nat.mul_le_mul_right _ h) b.1, b.2⟩
/-- what a poly function tells -/
def PoQ (D N L : Nat) (f : Rat → Rat) (Q : EV → Prop) : Prop := ∀ r, Tr0 r → (∀ x, ev r x = f x) → PS D N L r → Q (.d (po r))
def S_trimmed : FSpec := fun es Q => ∃ e p, es = [e] ∧ (e = .r (p.map fr) ∨ e = .d (po p)) ∧ ∀ m, m ≤ p.length → Tr0 (p.take m) → (∀ x, ev (p.take m) x = ev p x) → Q (.d (po (p.take m)))
def T_trimmed : PTS := (pSeq (pAsg 1 (pF1 fLen (pVar 0))) (pSeq (pWhile (pAnd (pTest (pOp pGt (pVar 1) (pC (.int 0)))) (pTest (pOp pEq (pOp pIx (pVar 0) (pOp pSub (pVar 1) (pC (.int 1)))) (pC d_ZERO)))) (pAug 1 pSub (pC (.int 1)))) (pRet (pF1 fTuple (pSl (pVar 0) pNoPart (pPart (pVar 1)))))))
theorem l_trimmed : ∀ es q, S_trimmed es q → es.length = 1 := by rintro es q ⟨a, b, rfl, _⟩; rfl
theorem tr0_take {p : List Rat} {m : Nat} (hm : m ≤ p.length) (h : ∀ k, m = k + 1 → p[k]? ≠ some 0) : Tr0 (p.take m) := by
  intro d hd
  rw [List.getLast?_eq_getElem?, List.length_take, Nat.min_eq_left hm] at hd
  cases m with
  | zero => simp at hd
  | succ k =>
    rw [Nat.add_sub_cancel, List.getElem?_take_of_lt (by omega)] at hd
    intro e; subst e
    exact h k rfl hd
theorem p_trimmed : ∀ es q, S_trimmed es q → T_trimmed { nx := fun _ => q (.d .none), rt := q } (startE 2 es) := by
  rintro es q ⟨e, p, rfl, he, hq⟩
  unfold T_trimmed
  rcases he with rfl | rfl
  all_goals
    simp only [pSeq, pNext, pAsg, pAsgT, pAug, pSub, pIf, pRet, pRetV, pRetN, pDrop, pPar, pPar3, pVar, pC, pOp, pUn, pNil, pCons, pTest, pTruth, pAnd, pOr, pNot, pAndV, pOrV, pNotV, pIfE, pTup, pLst, pF1, pF2, fLen, fTuple, fList, fAbs, fInt, fMax2, fMin2, fAll, fAny, pCall, pNever, p2I, p2I0, EV.two, EV.rd, EV.dat, EV.look, EV.seq, EV.lst, EV.wlk, EV.lsr, EV.sto, EV.ret, EV.arg, pNeg, pItems, pgName, pgTup, pgCons, pgNil, pYes, startE, List.map_cons, List.map_nil, List.cons_append, List.nil_append, List.length_cons, List.length_nil, Nat.reduceAdd, Nat.reduceSub, List.replicate_succ, List.replicate_zero, List.getElem?_cons_zero, List.getElem?_cons_succ, List.set_cons_zero, List.set_cons_succ, wipeE, EV.d.injEq, EV.l.injEq, PyData.int.injEq, PyData.bool.injEq, PyData.tuple.injEq, PyData.list.injEq, Option.some.injEq, exists_eq_left, exists_eq_left', true_and, and_true, List.mapM_cons, List.mapM_nil, bind_pure_comp, Option.pure_def, Option.bind_eq_bind, Option.bind_some, Option.map_some, Option.map_eq_map, truthD, if_true, if_false, reduceIte, Bool.false_eq_true, Bool.not_true, Bool.not_false, exists_and_left, exists_eq_left, decide_eq_true_eq, List.set_nil, pIx, pEq, pNe, pMul, pAdd, shaped_int, eqv_int, ix2_0, ix2_1, po, List.length_map]
    refine ⟨fun m ρ => ∃ e, ρ = [some e, some (.d (.int m))] ∧ (e = .r (p.map fr) ∨ e = .d (po p)) ∧ m ≤ p.length ∧ ∀ c ∈ p.drop m, c = 0, ⟨p.length, _, rfl, by first | exact .inl rfl | exact .inr rfl, Nat.le_refl _, by simp⟩, ?_⟩
    rintro m ρ ⟨e, rfl, he, hm, hz⟩
    have fin : (∀ k, m = k + 1 → p[k]? ≠ some 0) → q (EV.d (po (p.take m))) := fun h => hq m hm (tr0_take hm h) (ev_take hz)
    rcases he with rfl | rfl
    all_goals
      simp only [pSeq, pNext, pAsg, pAsgT, pAug, pSub, pIf, pRet, pRetV, pRetN, pDrop, pPar, pPar3, pVar, pC, pOp, pUn, pNil, pCons, pTest, pTruth, pAnd, pOr, pNot, pAndV, pOrV, pNotV, pIfE, pTup, pLst, pF1, pF2, fLen, fTuple, fList, fAbs, fInt, fMax2, fMin2, fAll, fAny, pCall, pNever, p2I, p2I0, EV.two, EV.rd, EV.dat, EV.look, EV.seq, EV.lst, EV.wlk, EV.lsr, EV.sto, EV.ret, EV.arg, pNeg, pItems, pgName, pgTup, pgCons, pgNil, pYes, startE, List.map_cons, List.map_nil, List.cons_append, List.nil_append, List.length_cons, List.length_nil, Nat.reduceAdd, Nat.reduceSub, List.replicate_succ, List.replicate_zero, List.getElem?_cons_zero, List.getElem?_cons_succ, List.set_cons_zero, List.set_cons_succ, wipeE, EV.d.injEq, EV.l.injEq, PyData.int.injEq, PyData.bool.injEq, PyData.tuple.injEq, PyData.list.injEq, Option.some.injEq, exists_eq_left, exists_eq_left', true_and, and_true, List.mapM_cons, List.mapM_nil, bind_pure_comp, Option.pure_def, Option.bind_eq_bind, Option.bind_some, Option.map_some, Option.map_eq_map, truthD, if_true, if_false, reduceIte, Bool.false_eq_true, Bool.not_true, Bool.not_false, exists_and_left, exists_eq_left, decide_eq_true_eq, List.set_nil, pIx, pEq, pNe, pMul, pAdd, shaped_int, eqv_int, ix2_0, ix2_1, po, pSl, pPart, pNoPart]
      cases m with
      | zero =>
        simp only [Int.natCast_zero, Int.lt_irrefl, pSeq, pNext, pAsg, pAsgT, pAug, pSub, pIf, pRet, pRetV, pRetN, pDrop, pPar, pPar3, pVar, pC, pOp, pUn, pNil, pCons, pTest, pTruth, pAnd, pOr, pNot, pAndV, pOrV, pNotV, pIfE, pTup, pLst, pF1, pF2, fLen, fTuple, fList, fAbs, fInt, fMax2, fMin2, fAll, fAny, pCall, pNever, p2I, p2I0, EV.two, EV.rd, EV.dat, EV.look, EV.seq, EV.lst, EV.wlk, EV.lsr, EV.sto, EV.ret, EV.arg, pNeg, pItems, pgName, pgTup, pgCons, pgNil, pYes, startE, List.map_cons, List.map_nil, List.cons_append, List.nil_append, List.length_cons, List.length_nil, Nat.reduceAdd, Nat.reduceSub, List.replicate_succ, List.replicate_zero, List.getElem?_cons_zero, List.getElem?_cons_succ, List.set_cons_zero, List.set_cons_succ, wipeE, EV.d.injEq, EV.l.injEq, PyData.int.injEq, PyData.bool.injEq, PyData.tuple.injEq, PyData.list.injEq, Option.some.injEq, exists_eq_left, exists_eq_left', true_and, and_true, List.mapM_cons, List.mapM_nil, bind_pure_comp, Option.pure_def, Option.bind_eq_bind, Option.bind_some, Option.map_some, Option.map_eq_map, truthD, if_true, if_false, reduceIte, Bool.false_eq_true, Bool.not_true, Bool.not_false, exists_and_left, exists_eq_left, decide_eq_true_eq, List.set_nil, pIx, pEq, pNe, pMul, pAdd, shaped_int, eqv_int, ix2_0, ix2_1]
        rw [show ((0 : Int)) = ((0 : Nat) : Int) from rfl, cutD_to _ _ (by omega)]
        have := fin (by omega)
        simp only [po, List.take_zero, List.map_nil] at this
        simp only [List.take_zero]; exact this
      | succ k =>
        rw [if_pos (by omega), show ((k + 1 : Nat) : Int) - 1 = (k : Nat) by omega]
        have hk : k < p.length := by omega
        refine ⟨fr p[k], by rw [atI_nat, List.getElem?_map, List.getElem?_eq_getElem hk]; rfl, shaped_fr _, shaped_zero, ?_⟩
        rw [eqv_zero]
        by_cases h0 : p[k] = 0
        · rw [decide_eq_true h0, if_pos rfl]
          refine ⟨k, by omega, _, rfl, by first | exact .inl rfl | exact .inr rfl, by omega, ?_⟩
          intro c hc
          rw [List.drop_eq_getElem_cons hk] at hc
          rcases List.mem_cons.mp hc with h | h
          · rw [h, h0]
          · exact hz c h
        · rw [decide_eq_false h0, if_neg (by simp)]
          rw [cutD_to _ _ (by rw [List.length_map]; exact hm)]
          have := fin (fun j hj => by
            have : j = k := by omega
            subst this
            rw [List.getElem?_eq_getElem hk]
            exact fun z => h0 (Option.some.inj z))
          simp only [po, List.map_take] at this
          exact this
def S_at_or_zero : FSpec := fun es Q => ∃ p, ∃ i : Nat, es = [.d (po p), .d (.int i)] ∧ Q (.d (fr (cf p i)))
def T_at_or_zero : PTS := (pRet (pIfE (pTest (pOp pLt (pVar 1) (pF1 fLen (pVar 0)))) (pOp pIx (pVar 0) (pVar 1)) (pC d_ZERO)))
theorem l_at_or_zero : ∀ es q, S_at_or_zero es q → es.length = 2 := by rintro es q ⟨a, b, rfl, _⟩; rfl
theorem p_at_or_zero : ∀ es q, S_at_or_zero es q → T_at_or_zero { nx := fun _ => q (.d .none), rt := q } (startE 2 es) := by
  rintro es q ⟨p, i, rfl, hq⟩
  unfold T_at_or_zero
  simp only [pSeq, pNext, pAsg, pAsgT, pAug, pSub, pIf, pRet, pRetV, pRetN, pDrop, pPar, pPar3, pVar, pC, pOp, pUn, pNil, pCons, pTest, pTruth, pAnd, pOr, pNot, pAndV, pOrV, pNotV, pIfE, pTup, pLst, pF1, pF2, fLen, fTuple, fList, fAbs, fInt, fMax2, fMin2, fAll, fAny, pCall, pNever, p2I, p2I0, EV.two, EV.rd, EV.dat, EV.look, EV.seq, EV.lst, EV.wlk, EV.lsr, EV.sto, EV.ret, EV.arg, pNeg, pItems, pgName, pgTup, pgCons, pgNil, pYes, startE, List.map_cons, List.map_nil, List.cons_append, List.nil_append, List.length_cons, List.length_nil, Nat.reduceAdd, Nat.reduceSub, List.replicate_succ, List.replicate_zero, List.getElem?_cons_zero, List.getElem?_cons_succ, List.set_cons_zero, List.set_cons_succ, wipeE, EV.d.injEq, EV.l.injEq, PyData.int.injEq, PyData.bool.injEq, PyData.tuple.injEq, PyData.list.injEq, Option.some.injEq, exists_eq_left, exists_eq_left', true_and, and_true, List.mapM_cons, List.mapM_nil, bind_pure_comp, Option.pure_def, Option.bind_eq_bind, Option.bind_some, Option.map_some, Option.map_eq_map, truthD, if_true, if_false, reduceIte, Bool.false_eq_true, Bool.not_true, Bool.not_false, exists_and_left, exists_eq_left, decide_eq_true_eq, List.set_nil, pIx, pEq, pNe, pMul, pAdd, shaped_int, eqv_int, ix2_0, ix2_1, po, List.length_map]
  by_cases h : (i : Int) < p.length
  · rw [if_pos h]
    have hi : i < p.length := by omega
    refine ⟨fr p[i], by rw [atI_nat, List.getElem?_map, List.getElem?_eq_getElem hi]; rfl, ?_⟩
    have e : cf p i = p[i] := by unfold cf; rw [List.getElem?_eq_getElem hi]; rfl
    rw [← e]; exact hq
  · rw [if_neg h]
    have e : cf p i = 0 := by unfold cf; rw [List.getElem?_eq_none (by omega)]; rfl
    rw [d_ZERO_eq, ← e]; exact hq
def S_raw_poly_sum : FSpec := fun es Q => ∃ p q D N M L, es = [.d (po p), .d (po q)] ∧ PS D N L p ∧ PS D M L q ∧ Bd D (N + M) ∧ L ≤ 1000 ∧ PoQ D (N + M) L (fun x => ev p x + ev q x) Q
def T_raw_poly_sum : PTS := (pSeq (pAsg 2 (pF2 fMax2 (pF1 fLen (pVar 0)) (pF1 fLen (pVar 1)))) (pRet (pCall S_trimmed (pCons (pLc (pRng1 (pVar 2)) (pgName 3) pYes (pCall S_raw_sum (pCons (pCall S_at_or_zero (pCons (pVar 0) (pCons (pVar 3) pNil))) (pCons (pCall S_at_or_zero (pCons (pVar 1) (pCons (pVar 3) pNil))) pNil))) [3]) pNil))))
theorem l_raw_poly_sum : ∀ es q, S_raw_poly_sum es q → es.length = 2 := by rintro es q ⟨a, b, _, _, _, _, rfl, _⟩; rfl
theorem max_int (a b : Nat) : (if (b : Int) > (a : Int) then (b : Int) else (a : Int)) = ((max a b : Nat) : Int) := by split <;> omega
theorem rngD_map (n : Nat) : rngD 0 1 n = (List.range n).map fun (i : Nat) => PyData.int (i : Int) := by unfold rngD; congr 1; funext i; congr 1; omega
theorem sum_list {p q : List Rat} {D N M L n : Nat} (hp : PS D N L p) (hq : PS D M L q) (hn : n = max p.length q.length) :
    PS D (N + M) L ((List.range n).map fun i => cf p i + cf q i) ∧ ∀ x, ev ((List.range n).map fun i => cf p i + cf q i) x = ev p x + ev q x := by
  refine ⟨⟨hp.pos, fun c hc => ?_, by simp [hn]; have := hp.len; have := hq.len; omega⟩, fun x => ?_⟩
  · obtain ⟨i, _, rfl⟩ := List.mem_map.mp hc
    exact (hp.cf i).add (hq.cf i)
  · rw [ev_map_add, ev_cf p n (by omega), ev_cf q n (by omega)]
theorem p_raw_poly_sum : ∀ es q, S_raw_poly_sum es q → T_raw_poly_sum { nx := fun _ => q (.d .none), rt := q } (startE 4 es) := by
  rintro es Q ⟨p, q, D, N, M, L, rfl, hp, hq, hb, hL, hQ⟩
  unfold T_raw_poly_sum
  simp only [pSeq, pNext, pAsg, pAsgT, pAug, pSub, pIf, pRet, pRetV, pRetN, pDrop, pPar, pPar3, pVar, pC, pOp, pUn, pNil, pCons, pTest, pTruth, pAnd, pOr, pNot, pAndV, pOrV, pNotV, pIfE, pTup, pLst, pF1, pF2, fLen, fTuple, fList, fAbs, fInt, fMax2, fMin2, fAll, fAny, pCall, pNever, p2I, p2I0, EV.two, EV.rd, EV.dat, EV.look, EV.seq, EV.lst, EV.wlk, EV.lsr, EV.sto, EV.ret, EV.arg, pNeg, pItems, pgName, pgTup, pgCons, pgNil, pYes, startE, List.map_cons, List.map_nil, List.cons_append, List.nil_append, List.length_cons, List.length_nil, Nat.reduceAdd, Nat.reduceSub, List.replicate_succ, List.replicate_zero, List.getElem?_cons_zero, List.getElem?_cons_succ, List.set_cons_zero, List.set_cons_succ, wipeE, EV.d.injEq, EV.l.injEq, PyData.int.injEq, PyData.bool.injEq, PyData.tuple.injEq, PyData.list.injEq, Option.some.injEq, exists_eq_left, exists_eq_left', true_and, and_true, List.mapM_cons, List.mapM_nil, bind_pure_comp, Option.pure_def, Option.bind_eq_bind, Option.bind_some, Option.map_some, Option.map_eq_map, truthD, if_true, if_false, reduceIte, Bool.false_eq_true, Bool.not_true, Bool.not_false, exists_and_left, exists_eq_left, decide_eq_true_eq, List.set_nil, pIx, pEq, pNe, pMul, pAdd, shaped_int, eqv_int, ix2_0, ix2_1, po, List.length_map, max_int, pLc, pRng1]
  have h1 := hp.len
  have h2 := hq.len
  refine ⟨by omega, by omega, ?_, ?_⟩
  · rw [rngD_map, List.length_map, List.length_range]; omega
  · rw [rngD_map, Int.toNat_natCast]
    refine pLcL_map _ (fun i => fr (cf p i + cf q i)) _ (fun i hi R hR => ?_) mon_name mon_yes ?_
    · simp only [pSeq, pNext, pAsg, pAsgT, pAug, pSub, pIf, pRet, pRetV, pRetN, pDrop, pPar, pPar3, pVar, pC, pOp, pUn, pNil, pCons, pTest, pTruth, pAnd, pOr, pNot, pAndV, pOrV, pNotV, pIfE, pTup, pLst, pF1, pF2, fLen, fTuple, fList, fAbs, fInt, fMax2, fMin2, fAll, fAny, pCall, pNever, p2I, p2I0, EV.two, EV.rd, EV.dat, EV.look, EV.seq, EV.lst, EV.wlk, EV.lsr, EV.sto, EV.ret, EV.arg, pNeg, pItems, pgName, pgTup, pgCons, pgNil, pYes, startE, List.map_cons, List.map_nil, List.cons_append, List.nil_append, List.length_cons, List.length_nil, Nat.reduceAdd, Nat.reduceSub, List.replicate_succ, List.replicate_zero, List.getElem?_cons_zero, List.getElem?_cons_succ, List.set_cons_zero, List.set_cons_succ, wipeE, EV.d.injEq, EV.l.injEq, PyData.int.injEq, PyData.bool.injEq, PyData.tuple.injEq, PyData.list.injEq, Option.some.injEq, exists_eq_left, exists_eq_left', true_and, and_true, List.mapM_cons, List.mapM_nil, bind_pure_comp, Option.pure_def, Option.bind_eq_bind, Option.bind_some, Option.map_some, Option.map_eq_map, truthD, if_true, if_false, reduceIte, Bool.false_eq_true, Bool.not_true, Bool.not_false, exists_and_left, exists_eq_left, decide_eq_true_eq, List.set_nil, pIx, pEq, pNe, pMul, pAdd, shaped_int, eqv_int, ix2_0, ix2_1, po]
      refine ⟨p, i, rfl, q, i, rfl, cf p i, cf q i, rfl, (hb.mono (by omega)).ok (hp.cf i), (hb.mono (by omega)).ok (hq.cf i), _, rfl, hR⟩
    · obtain ⟨s1, s2⟩ := sum_list hp hq rfl
      refine ⟨_, (List.range (max p.length q.length)).map fun i => cf p i + cf q i, rfl, .inl ?_, fun m hm ht he => ⟨rfl, hQ _ ht (fun x => (he x).trans (s2 x)) (s1.take m)⟩⟩
      rw [List.map_map]; rfl
end PL
namespace PL
open PySem PySem.Spec PyProof.Rows L2
def S_raw_poly_scaled : FSpec := fun es Q => ∃ p a D N E M L, es = [.d (po p), .d (fr a)] ∧ PS D N L p ∧ Sz E M a ∧ Bd D N ∧ Bd E M ∧ L ≤ 1000 ∧ PoQ (D * E) (N * M) L (fun x => ev p x * a) Q
def T_raw_poly_scaled : PTS := (pRet (pCall S_trimmed (pCons (pLc (pItems (pVar 0)) (pgName 2) pYes (pCall S_raw_product (pCons (pVar 2) (pCons (pVar 1) pNil))) [2]) pNil)))
theorem l_raw_poly_scaled : ∀ es q, S_raw_poly_scaled es q → es.length = 2 := by rintro es q ⟨a, b, _, _, _, _, _, rfl, _⟩; rfl
theorem p_raw_poly_scaled : ∀ es q, S_raw_poly_scaled es q → T_raw_poly_scaled { nx := fun _ => q (.d .none), rt := q } (startE 3 es) := by
  rintro es Q ⟨p, a, D, N, E, M, L, rfl, hp, ha, hb, hc, hL, hQ⟩
  unfold T_raw_poly_scaled
  simp only [pSeq, pNext, pAsg, pAsgT, pAug, pSub, pIf, pRet, pRetV, pRetN, pDrop, pPar, pPar3, pVar, pC, pOp, pUn, pNil, pCons, pTest, pTruth, pAnd, pOr, pNot, pAndV, pOrV, pNotV, pIfE, pTup, pLst, pF1, pF2, fLen, fTuple, fList, fAbs, fInt, fMax2, fMin2, fAll, fAny, pCall, pNever, p2I, p2I0, EV.two, EV.rd, EV.dat, EV.look, EV.seq, EV.lst, EV.wlk, EV.lsr, EV.sto, EV.ret, EV.arg, pNeg, pItems, pgName, pgTup, pgCons, pgNil, pYes, startE, List.map_cons, List.map_nil, List.cons_append, List.nil_append, List.length_cons, List.length_nil, Nat.reduceAdd, Nat.reduceSub, List.replicate_succ, List.replicate_zero, List.getElem?_cons_zero, List.getElem?_cons_succ, List.set_cons_zero, List.set_cons_succ, wipeE, EV.d.injEq, EV.l.injEq, PyData.int.injEq, PyData.bool.injEq, PyData.tuple.injEq, PyData.list.injEq, Option.some.injEq, exists_eq_left, exists_eq_left', true_and, and_true, List.mapM_cons, List.mapM_nil, bind_pure_comp, Option.pure_def, Option.bind_eq_bind, Option.bind_some, Option.map_some, Option.map_eq_map, truthD, if_true, if_false, reduceIte, Bool.false_eq_true, Bool.not_true, Bool.not_false, exists_and_left, exists_eq_left, decide_eq_true_eq, List.set_nil, pIx, pEq, pNe, pMul, pAdd, shaped_int, eqv_int, ix2_0, ix2_1, po, List.length_map, pLc]
  have h1 := hp.len
  refine ⟨by omega, pLcL_map _ (fun c => fr (c * a)) _ (fun c hc' R hR => ?_) mon_name mon_yes ?_⟩
  · simp only [pSeq, pNext, pAsg, pAsgT, pAug, pSub, pIf, pRet, pRetV, pRetN, pDrop, pPar, pPar3, pVar, pC, pOp, pUn, pNil, pCons, pTest, pTruth, pAnd, pOr, pNot, pAndV, pOrV, pNotV, pIfE, pTup, pLst, pF1, pF2, fLen, fTuple, fList, fAbs, fInt, fMax2, fMin2, fAll, fAny, pCall, pNever, p2I, p2I0, EV.two, EV.rd, EV.dat, EV.look, EV.seq, EV.lst, EV.wlk, EV.lsr, EV.sto, EV.ret, EV.arg, pNeg, pItems, pgName, pgTup, pgCons, pgNil, pYes, startE, List.map_cons, List.map_nil, List.cons_append, List.nil_append, List.length_cons, List.length_nil, Nat.reduceAdd, Nat.reduceSub, List.replicate_succ, List.replicate_zero, List.getElem?_cons_zero, List.getElem?_cons_succ, List.set_cons_zero, List.set_cons_succ, wipeE, EV.d.injEq, EV.l.injEq, PyData.int.injEq, PyData.bool.injEq, PyData.tuple.injEq, PyData.list.injEq, Option.some.injEq, exists_eq_left, exists_eq_left', true_and, and_true, List.mapM_cons, List.mapM_nil, bind_pure_comp, Option.pure_def, Option.bind_eq_bind, Option.bind_some, Option.map_some, Option.map_eq_map, truthD, if_true, if_false, reduceIte, Bool.false_eq_true, Bool.not_true, Bool.not_false, exists_and_left, exists_eq_left, decide_eq_true_eq, List.set_nil, pIx, pEq, pNe, pMul, pAdd, shaped_int, eqv_int, ix2_0, ix2_1]
    exact ⟨c, a, rfl, hb.ok (hp.sz c hc'), hc.ok ha, _, rfl, hR⟩
  · refine ⟨_, p.map fun c => c * a, rfl, .inl (by rw [List.map_map]; rfl), fun m hm ht he => ⟨rfl, hQ _ ht (fun x => (he x).trans ?_) (PS.take ⟨Nat.mul_pos hp.pos ha.1, fun c hc => ?_, by simpa using h1⟩ m)⟩⟩
    · have := ev_map_mul p id a x
      rw [List.map_id] at this
      exact this
    · obtain ⟨d, hd, rfl⟩ := List.mem_map.mp hc
      exact (hp.sz d hd).mul ha
/-! products -/
theorem enum_get {xs : List PyData} {c : Int} {i : Nat} {x : PyData} (h : (enumD c xs)[i]? = some x) : ∃ y, xs[i]? = some y ∧ x = .tuple [.int (c + i), y] := by
  unfold enumD at h
  rw [List.getElem?_zipWith, List.getElem?_range] at h
  · cases e : xs[i]? with
    | none => rw [e] at h; cases h
    | some y => rw [e] at h; cases h; exact ⟨y, rfl, rfl⟩
  · cases Nat.lt_or_ge i xs.length with
    | inl h => exact h
    | inr h' => rw [List.getElem?_eq_none (l := xs) h'] at h; simp at h
theorem enum_len (xs : List PyData) (c : Int) : (enumD c xs).length = xs.length := by unfold enumD; simp
/-- the state of a product that is being made: rows ahead of `i` done, and of this one the places ahead of `j` -/
structure PM (p q : List Rat) (D N i j : Nat) (f : List Rat) : Prop where
  len : f.length = p.length + q.length - 1
  val : ∀ x, ev f x = ev (p.take i) x * ev q x + x ^ i * cf p i * ev (q.take j) x
  sz : ∀ (k : Nat) (c : Rat), f[k]? = some c → Sz D ((i + 1) * N) c
  sz2 : ∀ (k : Nat) (c : Rat), i + j ≤ k → f[k]? = some c → Sz D (i * N) c
/-- ahead of a row -/
structure PMr (p q : List Rat) (D N i : Nat) (f : List Rat) : Prop where
  len : f.length = p.length + q.length - 1
  val : ∀ x, ev f x = ev (p.take i) x * ev q x
  sz : ∀ (k : Nat) (c : Rat), f[k]? = some c → Sz D (i * N) c
theorem rpow_add (x : Rat) (m n : Nat) : x ^ (m + n) = x ^ m * x ^ n := by
  induction n with
  | zero => rw [Nat.add_zero, Rat.pow_zero]; grind
  | succ n ih => rw [← Nat.add_assoc, Rat.pow_succ, Rat.pow_succ, ih]; grind
theorem ev_take_succ (p : List Rat) (i : Nat) (x : Rat) : ev (p.take (i + 1)) x = ev (p.take i) x + x ^ i * cf p i := by
  rw [List.take_add_one]
  by_cases h : i < p.length
  · rw [ev_append, List.length_take, Nat.min_eq_left (by omega)]
    unfold cf
    rw [List.getElem?_eq_getElem h]
    simp only [Option.toList_some, ev_cons, ev_nil, Option.getD_some]
    grind
  · unfold cf
    rw [List.getElem?_eq_none (by omega)]
    simp only [Option.toList_none, List.append_nil, Option.getD_none]
    grind
theorem PMr.start {p q : List Rat} {D N : Nat} (hD : 0 < D) : PMr p q D N 0 (List.replicate (p.length + q.length - 1) 0) := by
  refine ⟨by simp, fun x => ?_, fun k c h => ?_⟩
  · rw [ev_zeros (by simp)]; simp [ev_nil]
  · rw [List.getElem?_replicate] at h
    split at h
    · cases h; exact .zero hD
    · cases h
theorem PMr.row {p q f : List Rat} {D N i : Nat} (h : PMr p q D N i f) : PM p q D N i 0 f := by
  refine ⟨h.len, fun x => ?_, fun k c hc => (h.sz k c hc).mono (Nat.mul_le_mul_right _ (by omega)), fun k c _ hc => h.sz k c hc⟩
  rw [h.val, List.take_zero, ev_nil]
  grind
theorem PM.next {p q f : List Rat} {D N i : Nat} (h : PM p q D N i q.length f) : PMr p q D N (i + 1) f := by
  refine ⟨h.len, fun x => ?_, h.sz⟩
  rw [h.val, ev_take_succ p i, List.take_length]
  grind
/-- a row of noughts -/
theorem PMr.skip {p q f : List Rat} {D N i : Nat} (h : PMr p q D N i f) (z : cf p i = 0) : PMr p q D N (i + 1) f := by
  refine ⟨h.len, fun x => ?_, fun k c hc => (h.sz k c hc).mono (Nat.mul_le_mul_right _ (by omega))⟩
  rw [h.val, ev_take_succ p i, z]
  grind
theorem PM.step {p q f : List Rat} {D N i j : Nat} {d b : Rat} (h : PM p q D N i j f) (hd : f[i + j]? = some d) (hb : q[j]? = some b) (hs : Sz D N (cf p i * b)) : PM p q D N i (j + 1) (f.set (i + j) (d + cf p i * b)) := by
  have hl : i + j < f.length := by
    cases Nat.lt_or_ge (i + j) f.length with
    | inl h => exact h
    | inr h => rw [List.getElem?_eq_none h] at hd; cases hd
  refine ⟨by rw [List.length_set]; exact h.len, fun x => ?_, fun k c hc => ?_, fun k c hk hc => ?_⟩
  · rw [ev_set hd, h.val, ev_take_succ q j]
    have : cf q j = b := by unfold cf; rw [hb]; rfl
    rw [this, rpow_add]
    grind
  · by_cases e : i + j = k
    · subst e
      rw [List.getElem?_set_self hl] at hc
      cases hc
      have := (h.sz2 _ _ (Nat.le_refl _) hd).add hs
      rw [← Nat.succ_mul] at this
      exact this
    · rw [List.getElem?_set_ne e] at hc
      exact h.sz k c hc
  · rw [List.getElem?_set_ne (by omega)] at hc
    exact h.sz2 k c (by omega) hc
/-- how long a product may be -/
def lenP (L K : Nat) : Nat := if L = 0 then 0 else L + K - 1
def S_raw_poly_product : FSpec := fun es Q => ∃ p q D N E M L K, es = [.d (po p), .d (po q)] ∧ PS D N L p ∧ PS E M K q ∧ Bd D N ∧ Bd E M ∧ Bd (D * E) (L * (N * M)) ∧ L ≤ 100 ∧ K ≤ 100 ∧ PoQ (D * E) (L * (N * M)) (lenP L K) (fun x => ev p x * ev q x) Q
def T_raw_poly_product : PTS := (pSeq (pIf (pOr (pNot (pTruth (pVar 0))) (pNot (pTruth (pVar 1)))) (pRet (pTup pNil)) pNext) (pSeq (pAsg 2 (pOp pMul (pLst (pCons (pC d_ZERO) pNil)) (pOp pSub (pOp pAdd (pF1 fLen (pVar 0)) (pF1 fLen (pVar 1))) (pC (.int 1))))) (pSeq (pFor (pEnum (pVar 0)) (pgTup 2 (pgCons (pgName 3) (pgCons (pgName 4) pgNil))) (pIf (pTest (pOp pNe (pVar 4) (pC d_ZERO))) (pFor (pEnum (pVar 1)) (pgTup 2 (pgCons (pgName 5) (pgCons (pgName 6) pgNil))) (pSetIx 2 (pOp pAdd (pVar 3) (pVar 5)) (pCall S_raw_sum (pCons (pOp pIx (pVar 2) (pOp pAdd (pVar 3) (pVar 5))) (pCons (pCall S_raw_product (pCons (pVar 4) (pCons (pVar 6) pNil))) pNil))))) pNext)) (pRet (pCall S_trimmed (pCons (pVar 2) pNil))))))
theorem l_raw_poly_product : ∀ es q, S_raw_poly_product es q → es.length = 2 := by rintro es q ⟨a, b, _, _, _, _, _, _, rfl, _⟩; rfl
theorem rep_one (n : Nat) (x : PyData) : (List.replicate n [x]).flatten = List.replicate n x := by
  induction n with
  | zero => rfl
  | succ n ih => rw [List.replicate_succ, List.flatten_cons, ih, List.replicate_succ]; rfl
theorem ixN_nat {n i : Nat} (h : i < n) : ixN n (i : Int) = some i := by
  unfold ixN
  rw [if_pos (by omega), if_pos (by omega)]
  simp
theorem PMr.fin {p q f : List Rat} {D N : Nat} {i : Nat} (hi : i = p.length) (h : PMr p q D N i f) (x : Rat) : ev f x = ev p x * ev q x := by
  subst hi
  rw [h.val, List.take_length]
theorem PMr.ps {p q f : List Rat} {D N L K : Nat} (hD : 0 < D) (hp : p.length ≤ L) (hq : q.length ≤ K) (hpe : p ≠ []) (h : PMr p q D N p.length f) : PS D (L * N) (lenP L K) f :=
  ⟨hD, fun c hc => by
    obtain ⟨k, hk⟩ := List.getElem?_of_mem hc
    exact (h.sz k c hk).mono (Nat.mul_le_mul_right _ hp), by
    have := List.length_pos_iff.mpr hpe
    unfold lenP
    rw [h.len, if_neg (by omega)]; omega⟩
theorem shaped_po (p : List Rat) : SeqAt.shaped (po p) = true := by
  unfold SeqAt.shaped po
  have h1 : ∀ p : List Rat, PyData.canLayAll0 (p.map fr) = true := fun p => by
    induction p with
    | nil => rfl
    | cons c p ih => rw [List.map_cons, PyData.canLayAll0, ih]; rfl
  have h2 : ∀ p : List Rat, PyData.depthAll (p.map fr) ≤ 1 := fun p => by
    induction p with
    | nil => simp [PyData.depthAll]
    | cons c p ih => rw [List.map_cons, PyData.depthAll]; exact Nat.max_le.mpr ⟨by simp [fr, PyData.depth, PyData.depthAll], ih⟩
  rw [PyData.canLay0, h1, PyData.depth, Bool.true_and, decide_eq_true_eq]
  have := h2 p
  omega
theorem set_map (f : List Rat) (k : Nat) (c : Rat) : (f.map fr).set k (fr c) = (f.set k c).map fr := by rw [List.map_set]
theorem isEmpty_map {α β : Type} (f : α → β) (l : List α) : (l.map f).isEmpty = l.isEmpty := by cases l <;> rfl
theorem p_raw_poly_product : ∀ es q, S_raw_poly_product es q → T_raw_poly_product { nx := fun _ => q (.d .none), rt := q } (startE 7 es) := by
  rintro es Q ⟨p, q, D, N, E, M, L, K, rfl, hp, hq, hb, hc, hbc, hL, hK, hQ⟩
  unfold T_raw_poly_product
  have h1 := hp.len
  have h2 := hq.len
  have hDE := Nat.mul_pos hp.pos hq.pos
  simp only [pSeq, pNext, pAsg, pAsgT, pAug, pSub, pIf, pRet, pRetV, pRetN, pDrop, pPar, pPar3, pVar, pC, pOp, pUn, pNil, pCons, pTest, pTruth, pAnd, pOr, pNot, pAndV, pOrV, pNotV, pIfE, pTup, pLst, pF1, pF2, fLen, fTuple, fList, fAbs, fInt, fMax2, fMin2, fAll, fAny, pCall, pNever, p2I, p2I0, EV.two, EV.rd, EV.dat, EV.look, EV.seq, EV.lst, EV.wlk, EV.lsr, EV.sto, EV.ret, EV.arg, pNeg, pItems, pgName, pgTup, pgCons, pgNil, pYes, startE, List.map_cons, List.map_nil, List.cons_append, List.nil_append, List.length_cons, List.length_nil, Nat.reduceAdd, Nat.reduceSub, List.replicate_succ, List.replicate_zero, List.getElem?_cons_zero, List.getElem?_cons_succ, List.set_cons_zero, List.set_cons_succ, wipeE, EV.d.injEq, EV.l.injEq, PyData.int.injEq, PyData.bool.injEq, PyData.tuple.injEq, PyData.list.injEq, Option.some.injEq, exists_eq_left, exists_eq_left', true_and, and_true, List.mapM_cons, List.mapM_nil, bind_pure_comp, Option.pure_def, Option.bind_eq_bind, Option.bind_some, Option.map_some, Option.map_eq_map, truthD, if_true, if_false, reduceIte, Bool.false_eq_true, Bool.not_true, Bool.not_false, exists_and_left, exists_eq_left, decide_eq_true_eq, List.set_nil, pIx, pEq, pNe, pMul, pAdd, shaped_int, eqv_int, ix2_0, ix2_1, po, List.length_map, isEmpty_map]
  have nil : (p = [] ∨ q = []) → Q (.d (.tuple [])) := fun h => by
    refine hQ [] .nil (fun x => ?_) (.nil hDE)
    rcases h with rfl | rfl <;> simp only [ev_nil] <;> grind
  by_cases hpe : p = []
  · subst hpe; simp only [pSeq, pNext, pAsg, pAsgT, pAug, pSub, pIf, pRet, pRetV, pRetN, pDrop, pPar, pPar3, pVar, pC, pOp, pUn, pNil, pCons, pTest, pTruth, pAnd, pOr, pNot, pAndV, pOrV, pNotV, pIfE, pTup, pLst, pF1, pF2, fLen, fTuple, fList, fAbs, fInt, fMax2, fMin2, fAll, fAny, pCall, pNever, p2I, p2I0, EV.two, EV.rd, EV.dat, EV.look, EV.seq, EV.lst, EV.wlk, EV.lsr, EV.sto, EV.ret, EV.arg, pNeg, pItems, pgName, pgTup, pgCons, pgNil, pYes, startE, List.map_cons, List.map_nil, List.cons_append, List.nil_append, List.length_cons, List.length_nil, Nat.reduceAdd, Nat.reduceSub, List.replicate_succ, List.replicate_zero, List.getElem?_cons_zero, List.getElem?_cons_succ, List.set_cons_zero, List.set_cons_succ, wipeE, EV.d.injEq, EV.l.injEq, PyData.int.injEq, PyData.bool.injEq, PyData.tuple.injEq, PyData.list.injEq, Option.some.injEq, exists_eq_left, exists_eq_left', true_and, and_true, List.mapM_cons, List.mapM_nil, bind_pure_comp, Option.pure_def, Option.bind_eq_bind, Option.bind_some, Option.map_some, Option.map_eq_map, truthD, if_true, if_false, reduceIte, Bool.false_eq_true, Bool.not_true, Bool.not_false, exists_and_left, exists_eq_left, decide_eq_true_eq, List.set_nil, pIx, pEq, pNe, pMul, pAdd, shaped_int, eqv_int, ix2_0, ix2_1, List.isEmpty_nil]; exact ⟨by decide, nil (.inl rfl)⟩
  by_cases hqe : q = []
  · subst hqe
    cases p with
    | nil => exact absurd rfl hpe
    | cons c p => simp only [pSeq, pNext, pAsg, pAsgT, pAug, pSub, pIf, pRet, pRetV, pRetN, pDrop, pPar, pPar3, pVar, pC, pOp, pUn, pNil, pCons, pTest, pTruth, pAnd, pOr, pNot, pAndV, pOrV, pNotV, pIfE, pTup, pLst, pF1, pF2, fLen, fTuple, fList, fAbs, fInt, fMax2, fMin2, fAll, fAny, pCall, pNever, p2I, p2I0, EV.two, EV.rd, EV.dat, EV.look, EV.seq, EV.lst, EV.wlk, EV.lsr, EV.sto, EV.ret, EV.arg, pNeg, pItems, pgName, pgTup, pgCons, pgNil, pYes, startE, List.map_cons, List.map_nil, List.cons_append, List.nil_append, List.length_cons, List.length_nil, Nat.reduceAdd, Nat.reduceSub, List.replicate_succ, List.replicate_zero, List.getElem?_cons_zero, List.getElem?_cons_succ, List.set_cons_zero, List.set_cons_succ, wipeE, EV.d.injEq, EV.l.injEq, PyData.int.injEq, PyData.bool.injEq, PyData.tuple.injEq, PyData.list.injEq, Option.some.injEq, exists_eq_left, exists_eq_left', true_and, and_true, List.mapM_cons, List.mapM_nil, bind_pure_comp, Option.pure_def, Option.bind_eq_bind, Option.bind_some, Option.map_some, Option.map_eq_map, truthD, if_true, if_false, reduceIte, Bool.false_eq_true, Bool.not_true, Bool.not_false, exists_and_left, exists_eq_left, decide_eq_true_eq, List.set_nil, pIx, pEq, pNe, pMul, pAdd, shaped_int, eqv_int, ix2_0, ix2_1, List.isEmpty_nil, List.isEmpty_cons]; exact ⟨by decide, nil (.inr rfl)⟩
  rw [List.isEmpty_eq_false_iff.mpr hpe, List.isEmpty_eq_false_iff.mpr hqe]
  have lp : 0 < p.length := List.length_pos_iff.mpr hpe
  have lq : 0 < q.length := List.length_pos_iff.mpr hqe
  simp only [pSeq, pNext, pAsg, pAsgT, pAug, pSub, pIf, pRet, pRetV, pRetN, pDrop, pPar, pPar3, pVar, pC, pOp, pUn, pNil, pCons, pTest, pTruth, pAnd, pOr, pNot, pAndV, pOrV, pNotV, pIfE, pTup, pLst, pF1, pF2, fLen, fTuple, fList, fAbs, fInt, fMax2, fMin2, fAll, fAny, pCall, pNever, p2I, p2I0, EV.two, EV.rd, EV.dat, EV.look, EV.seq, EV.lst, EV.wlk, EV.lsr, EV.sto, EV.ret, EV.arg, pNeg, pItems, pgName, pgTup, pgCons, pgNil, pYes, startE, List.map_cons, List.map_nil, List.cons_append, List.nil_append, List.length_cons, List.length_nil, Nat.reduceAdd, Nat.reduceSub, List.replicate_succ, List.replicate_zero, List.getElem?_cons_zero, List.getElem?_cons_succ, List.set_cons_zero, List.set_cons_succ, wipeE, EV.d.injEq, EV.l.injEq, PyData.int.injEq, PyData.bool.injEq, PyData.tuple.injEq, PyData.list.injEq, Option.some.injEq, exists_eq_left, exists_eq_left', true_and, and_true, List.mapM_cons, List.mapM_nil, bind_pure_comp, Option.pure_def, Option.bind_eq_bind, Option.bind_some, Option.map_some, Option.map_eq_map, truthD, if_true, if_false, reduceIte, Bool.false_eq_true, Bool.not_true, Bool.not_false, exists_and_left, exists_eq_left, decide_eq_true_eq, List.set_nil, pIx, pEq, pNe, pMul, pAdd, shaped_int, eqv_int, ix2_0, ix2_1]
  refine ⟨by decide, by omega, by omega, by decide, ?_⟩
  have en : ((p.length : Int) + (q.length : Int) - 1).toNat = p.length + q.length - 1 := by omega
  rw [en, rep_one, d_ZERO_eq, ← List.map_replicate]
  simp only [pFor, pEnum, pSeq, pNext, pAsg, pAsgT, pAug, pSub, pIf, pRet, pRetV, pRetN, pDrop, pPar, pPar3, pVar, pC, pOp, pUn, pNil, pCons, pTest, pTruth, pAnd, pOr, pNot, pAndV, pOrV, pNotV, pIfE, pTup, pLst, pF1, pF2, fLen, fTuple, fList, fAbs, fInt, fMax2, fMin2, fAll, fAny, pCall, pNever, p2I, p2I0, EV.two, EV.rd, EV.dat, EV.look, EV.seq, EV.lst, EV.wlk, EV.lsr, EV.sto, EV.ret, EV.arg, pNeg, pItems, pgName, pgTup, pgCons, pgNil, pYes, startE, List.map_cons, List.map_nil, List.cons_append, List.nil_append, List.length_cons, List.length_nil, Nat.reduceAdd, Nat.reduceSub, List.replicate_succ, List.replicate_zero, List.getElem?_cons_zero, List.getElem?_cons_succ, List.set_cons_zero, List.set_cons_succ, wipeE, EV.d.injEq, EV.l.injEq, PyData.int.injEq, PyData.bool.injEq, PyData.tuple.injEq, PyData.list.injEq, Option.some.injEq, exists_eq_left, exists_eq_left', true_and, and_true, List.mapM_cons, List.mapM_nil, bind_pure_comp, Option.pure_def, Option.bind_eq_bind, Option.bind_some, Option.map_some, Option.map_eq_map, truthD, if_true, if_false, reduceIte, Bool.false_eq_true, Bool.not_true, Bool.not_false, exists_and_left, exists_eq_left, decide_eq_true_eq, List.set_nil, pIx, pEq, pNe, pMul, pAdd, shaped_int, eqv_int, ix2_0, ix2_1]
  refine pForL_inv _ (fun i ρ => ∃ f a b c d, ρ = [some (.d (po p)), some (.d (po q)), some (.l (f.map fr)), a, b, c, d] ∧ PMr p q (D * E) (N * M) i f) _ ⟨_, _, _, _, _, rfl, PMr.start hDE⟩ ?_ ?_
  · rintro i ρ x hx ⟨f, a, b, c, d, rfl, hf⟩ R hR
    obtain ⟨y, hy, rfl⟩ := enum_get hx
    rw [List.getElem?_map, Option.map_eq_some_iff] at hy
    obtain ⟨u, hu, rfl⟩ := hy
    have cu : cf p i = u := by unfold cf; rw [hu]; rfl
    have li : i < p.length := by
      cases Nat.lt_or_ge i p.length with
      | inl h => exact h
      | inr h => rw [List.getElem?_eq_none h] at hu; cases hu
    have su : Sz D N u := cu ▸ hp.cf i
    simp only [pSeq, pNext, pAsg, pAsgT, pAug, pSub, pIf, pRet, pRetV, pRetN, pDrop, pPar, pPar3, pVar, pC, pOp, pUn, pNil, pCons, pTest, pTruth, pAnd, pOr, pNot, pAndV, pOrV, pNotV, pIfE, pTup, pLst, pF1, pF2, fLen, fTuple, fList, fAbs, fInt, fMax2, fMin2, fAll, fAny, pCall, pNever, p2I, p2I0, EV.two, EV.rd, EV.dat, EV.look, EV.seq, EV.lst, EV.wlk, EV.lsr, EV.sto, EV.ret, EV.arg, pNeg, pItems, pgName, pgTup, pgCons, pgNil, pYes, startE, List.map_cons, List.map_nil, List.cons_append, List.nil_append, List.length_cons, List.length_nil, Nat.reduceAdd, Nat.reduceSub, List.replicate_succ, List.replicate_zero, List.getElem?_cons_zero, List.getElem?_cons_succ, List.set_cons_zero, List.set_cons_succ, wipeE, EV.d.injEq, EV.l.injEq, PyData.int.injEq, PyData.bool.injEq, PyData.tuple.injEq, PyData.list.injEq, Option.some.injEq, exists_eq_left, exists_eq_left', true_and, and_true, List.mapM_cons, List.mapM_nil, bind_pure_comp, Option.pure_def, Option.bind_eq_bind, Option.bind_some, Option.map_some, Option.map_eq_map, truthD, if_true, if_false, reduceIte, Bool.false_eq_true, Bool.not_true, Bool.not_false, exists_and_left, exists_eq_left, decide_eq_true_eq, List.set_nil, pIx, pEq, pNe, pMul, pAdd, shaped_int, eqv_int, ix2_0, ix2_1, List.cons.injEq, and_assoc, po, Int.zero_add]
    refine ⟨shaped_fr _, shaped_fr _, ?_⟩
    rw [eqv_fr]
    by_cases hu0 : u = 0
    · rw [decide_eq_true hu0]
      simp only [pSeq, pNext, pAsg, pAsgT, pAug, pSub, pIf, pRet, pRetV, pRetN, pDrop, pPar, pPar3, pVar, pC, pOp, pUn, pNil, pCons, pTest, pTruth, pAnd, pOr, pNot, pAndV, pOrV, pNotV, pIfE, pTup, pLst, pF1, pF2, fLen, fTuple, fList, fAbs, fInt, fMax2, fMin2, fAll, fAny, pCall, pNever, p2I, p2I0, EV.two, EV.rd, EV.dat, EV.look, EV.seq, EV.lst, EV.wlk, EV.lsr, EV.sto, EV.ret, EV.arg, pNeg, pItems, pgName, pgTup, pgCons, pgNil, pYes, startE, List.map_cons, List.map_nil, List.cons_append, List.nil_append, List.length_cons, List.length_nil, Nat.reduceAdd, Nat.reduceSub, List.replicate_succ, List.replicate_zero, List.getElem?_cons_zero, List.getElem?_cons_succ, List.set_cons_zero, List.set_cons_succ, wipeE, EV.d.injEq, EV.l.injEq, PyData.int.injEq, PyData.bool.injEq, PyData.tuple.injEq, PyData.list.injEq, Option.some.injEq, exists_eq_left, exists_eq_left', true_and, and_true, List.mapM_cons, List.mapM_nil, bind_pure_comp, Option.pure_def, Option.bind_eq_bind, Option.bind_some, Option.map_some, Option.map_eq_map, truthD, if_true, if_false, reduceIte, Bool.false_eq_true, Bool.not_true, Bool.not_false, exists_and_left, exists_eq_left, decide_eq_true_eq, List.set_nil, pIx, pEq, pNe, pMul, pAdd, shaped_int, eqv_int, ix2_0, ix2_1]
      exact hR _ ⟨f, _, _, _, _, rfl, hf.skip (cu.trans hu0)⟩
    · rw [decide_eq_false hu0]
      simp only [pSeq, pNext, pAsg, pAsgT, pAug, pSub, pIf, pRet, pRetV, pRetN, pDrop, pPar, pPar3, pVar, pC, pOp, pUn, pNil, pCons, pTest, pTruth, pAnd, pOr, pNot, pAndV, pOrV, pNotV, pIfE, pTup, pLst, pF1, pF2, fLen, fTuple, fList, fAbs, fInt, fMax2, fMin2, fAll, fAny, pCall, pNever, p2I, p2I0, EV.two, EV.rd, EV.dat, EV.look, EV.seq, EV.lst, EV.wlk, EV.lsr, EV.sto, EV.ret, EV.arg, pNeg, pItems, pgName, pgTup, pgCons, pgNil, pYes, startE, List.map_cons, List.map_nil, List.cons_append, List.nil_append, List.length_cons, List.length_nil, Nat.reduceAdd, Nat.reduceSub, List.replicate_succ, List.replicate_zero, List.getElem?_cons_zero, List.getElem?_cons_succ, List.set_cons_zero, List.set_cons_succ, wipeE, EV.d.injEq, EV.l.injEq, PyData.int.injEq, PyData.bool.injEq, PyData.tuple.injEq, PyData.list.injEq, Option.some.injEq, exists_eq_left, exists_eq_left', true_and, and_true, List.mapM_cons, List.mapM_nil, bind_pure_comp, Option.pure_def, Option.bind_eq_bind, Option.bind_some, Option.map_some, Option.map_eq_map, truthD, if_true, if_false, reduceIte, Bool.false_eq_true, Bool.not_true, Bool.not_false, exists_and_left, exists_eq_left, decide_eq_true_eq, List.set_nil, pIx, pEq, pNe, pMul, pAdd, shaped_int, eqv_int, ix2_0, ix2_1, pFor, pEnum]
      refine pForL_inv _ (fun j ρ => ∃ f c d, ρ = [some (.d (po p)), some (.d (po q)), some (.l (f.map fr)), some (.d (.int i)), some (.d (fr u)), c, d] ∧ PM p q (D * E) (N * M) i j f) _ ⟨_, _, _, rfl, hf.row⟩ ?_ ?_
      · rintro j ρ x hx ⟨f, c, d, rfl, hf⟩ R' hR'
        obtain ⟨y, hy, rfl⟩ := enum_get hx
        rw [List.getElem?_map, Option.map_eq_some_iff] at hy
        obtain ⟨v, hv, rfl⟩ := hy
        have cv : cf q j = v := by unfold cf; rw [hv]; rfl
        have lj : j < q.length := by
          cases Nat.lt_or_ge j q.length with
          | inl h => exact h
          | inr h => rw [List.getElem?_eq_none h] at hv; cases hv
        have sv : Sz E M v := cv ▸ hq.cf j
        have lf : i + j < f.length := by rw [hf.len]; omega
        have suv : Sz (D * E) (N * M) (u * v) := su.mul sv
        have eij : ((i : Int) + (j : Int)) = ((i + j : Nat) : Int) := by omega
        have hfk : f[i + j]? = some f[i + j] := List.getElem?_eq_getElem lf
        have sf := hf.sz2 _ _ (Nat.le_refl _) hfk
        have b1 : 1 ≤ L := by omega
        have le1 : N * M ≤ L * (N * M) := Nat.le_mul_of_pos_left _ (by omega)
        have le2 : i * (N * M) ≤ L * (N * M) := Nat.mul_le_mul_right _ (by omega)
        simp only [pSeq, pNext, pAsg, pAsgT, pAug, pSub, pIf, pRet, pRetV, pRetN, pDrop, pPar, pPar3, pVar, pC, pOp, pUn, pNil, pCons, pTest, pTruth, pAnd, pOr, pNot, pAndV, pOrV, pNotV, pIfE, pTup, pLst, pF1, pF2, fLen, fTuple, fList, fAbs, fInt, fMax2, fMin2, fAll, fAny, pCall, pNever, p2I, p2I0, EV.two, EV.rd, EV.dat, EV.look, EV.seq, EV.lst, EV.wlk, EV.lsr, EV.sto, EV.ret, EV.arg, pNeg, pItems, pgName, pgTup, pgCons, pgNil, pYes, startE, List.map_cons, List.map_nil, List.cons_append, List.nil_append, List.length_cons, List.length_nil, Nat.reduceAdd, Nat.reduceSub, List.replicate_succ, List.replicate_zero, List.getElem?_cons_zero, List.getElem?_cons_succ, List.set_cons_zero, List.set_cons_succ, wipeE, EV.d.injEq, EV.l.injEq, PyData.int.injEq, PyData.bool.injEq, PyData.tuple.injEq, PyData.list.injEq, Option.some.injEq, exists_eq_left, exists_eq_left', true_and, and_true, List.mapM_cons, List.mapM_nil, bind_pure_comp, Option.pure_def, Option.bind_eq_bind, Option.bind_some, Option.map_some, Option.map_eq_map, truthD, if_true, if_false, reduceIte, Bool.false_eq_true, Bool.not_true, Bool.not_false, exists_and_left, exists_eq_left, decide_eq_true_eq, List.set_nil, pIx, pEq, pNe, pMul, pAdd, shaped_int, eqv_int, ix2_0, ix2_1, List.cons.injEq, and_assoc, po, Int.zero_add, eij, pSetIx, List.length_map]
        refine ⟨fr f[i + j], by rw [atI_nat, List.getElem?_map, hfk]; rfl, u, v, rfl, hb.ok su, hc.ok sv, f[i + j], u * v, rfl, (hbc.mono le2).ok sf, (hbc.mono le1).ok suv, fr (f[i + j] + u * v), rfl, i + j, ixN_nat lf, ?_⟩
        refine hR' _ ⟨_, _, _, by rw [set_map]; rfl, ?_⟩
        have := hf.step hfk hv (by rw [cu]; exact suv)
        rw [cu] at this
        exact this
      · rintro ρ ⟨f, c, d, rfl, hf⟩
        rw [enum_len, List.length_map] at hf
        exact hR _ ⟨f, _, _, _, _, rfl, hf.next⟩
  · rintro ρ ⟨f, a, b, c, d, rfl, hf⟩
    rw [enum_len, List.length_map] at hf
    simp only [pSeq, pNext, pAsg, pAsgT, pAug, pSub, pIf, pRet, pRetV, pRetN, pDrop, pPar, pPar3, pVar, pC, pOp, pUn, pNil, pCons, pTest, pTruth, pAnd, pOr, pNot, pAndV, pOrV, pNotV, pIfE, pTup, pLst, pF1, pF2, fLen, fTuple, fList, fAbs, fInt, fMax2, fMin2, fAll, fAny, pCall, pNever, p2I, p2I0, EV.two, EV.rd, EV.dat, EV.look, EV.seq, EV.lst, EV.wlk, EV.lsr, EV.sto, EV.ret, EV.arg, pNeg, pItems, pgName, pgTup, pgCons, pgNil, pYes, startE, List.map_cons, List.map_nil, List.cons_append, List.nil_append, List.length_cons, List.length_nil, Nat.reduceAdd, Nat.reduceSub, List.replicate_succ, List.replicate_zero, List.getElem?_cons_zero, List.getElem?_cons_succ, List.set_cons_zero, List.set_cons_succ, wipeE, EV.d.injEq, EV.l.injEq, PyData.int.injEq, PyData.bool.injEq, PyData.tuple.injEq, PyData.list.injEq, Option.some.injEq, exists_eq_left, exists_eq_left', true_and, and_true, List.mapM_cons, List.mapM_nil, bind_pure_comp, Option.pure_def, Option.bind_eq_bind, Option.bind_some, Option.map_some, Option.map_eq_map, truthD, if_true, if_false, reduceIte, Bool.false_eq_true, Bool.not_true, Bool.not_false, exists_and_left, exists_eq_left, decide_eq_true_eq, List.set_nil, pIx, pEq, pNe, pMul, pAdd, shaped_int, eqv_int, ix2_0, ix2_1]
    exact ⟨_, f, rfl, .inl rfl, fun m hm ht he => ⟨rfl, hQ _ ht (fun x => (he x).trans (hf.fin rfl x)) ((hf.ps hDE h1 h2 hpe).take m)⟩⟩
end PL
namespace PL
open PySem PySem.Spec PyProof.Rows L2
theorem Bd.le {D N D' N' : Nat} (b : Bd D' N') (h : D ≤ D') (h2 : N ≤ N') : Bd D N := ⟨Nat.lt_of_le_of_lt (Nat.mul_le_mul h2 h) b.1, Nat.lt_of_le_of_lt h b.2⟩
theorem pow_le {b i L : Nat} (hb : 0 < b) (h : i ≤ L) : b ^ i ≤ b ^ L := Nat.pow_le_pow_right hb h
/-- how long the one behind the other may be, i numbers in -/
def lenC (K i : Nat) : Nat := if i = 0 then 0 else (i - 1) * (K - 1) + 1
theorem lenC_succ (K i : Nat) : max (lenP (lenC K i) K) 1 = lenC K (i + 1) := by
  unfold lenP lenC
  cases i with
  | zero => simp
  | succ i =>
    have e : (i + 1) * (K - 1) = i * (K - 1) + (K - 1) := Nat.succ_mul ..
    simp only [Nat.add_sub_cancel, Nat.add_one_ne_zero, if_false, reduceIte]
    cases K with
    | zero => simp
    | succ K =>
      rw [e]
      simp only [Nat.add_sub_cancel]
      omega
theorem lenC_mono {K i L : Nat} (h : i ≤ L) : lenC K i ≤ lenC K L := by
  unfold lenC
  split
  · omega
  · rw [if_neg (by omega)]
    have := Nat.mul_le_mul_right (K - 1) (show i - 1 ≤ L - 1 by omega)
    omega
/-- what one behind the other asks of sizes -/
structure CB (D N L E M K V : Nat) : Prop where
  l : L ≤ 100
  k : K ≤ 100
  v : lenC K L ≤ V
  v2 : V ≤ 100
  b : Bd (D * E ^ L) (N * (V * M + 1) ^ L)
  e : Bd E M
def S_raw_poly_put : FSpec := fun es Q => ∃ p q D N L E M K V, es = [.d (po p), .d (po q)] ∧ PS D N L p ∧ PS E M K q ∧ p.length = L ∧ CB D N L E M K V ∧ PoQ (D * E ^ L) (N * (V * M + 1) ^ L) V (fun x => ev p (ev q x)) Q
def T_raw_poly_put : PTS := (pSeq (pAsg 2 (pTup pNil)) (pSeq (pFor (pItems (pRev (pVar 0))) (pgName 3) (pAsg 2 (pCall S_raw_poly_sum (pCons (pCall S_raw_poly_product (pCons (pVar 2) (pCons (pVar 1) pNil))) (pCons (pCall S_trimmed (pCons (pLst (pCons (pVar 3) pNil)) pNil)) pNil))))) (pRetV 2)))
theorem l_raw_poly_put : ∀ es q, S_raw_poly_put es q → es.length = 2 := by rintro es q ⟨a, b, _, _, _, _, _, _, _, rfl, _⟩; rfl
theorem ev_one (c x : Rat) : ev [c] x = c := by rw [ev_cons, ev_nil]; grind
/-- one more number put in -/
theorem put_step {p q f r1 : List Rat} {D N L E M K V i : Nat} (hp : PS D N L p) (hq : PS E M K q) (hl : p.length = L) (hc : CB D N L E M K V) (hi : i < p.length) :
    Bd (D * E ^ i) (N * (V * M + 1) ^ i) ∧ Bd (D * E ^ i * E) (lenC K i * (N * (V * M + 1) ^ i * M)) ∧ lenC K i ≤ 100 ∧ lenC K i * (N * (V * M + 1) ^ i * M) + N ≤ N * (V * M + 1) ^ (i + 1) ∧ Bd (D * E ^ i * E) (lenC K i * (N * (V * M + 1) ^ i * M) + N) := by
  have hE := hq.pos
  have hv := hc.v
  have e1 : D * E ^ i * E = D * E ^ (i + 1) := by rw [Nat.mul_assoc, Nat.pow_succ]
  have d1 : D * E ^ i ≤ D * E ^ L := Nat.mul_le_mul_left _ (pow_le hE (by omega))
  have d2 : D * E ^ i * E ≤ D * E ^ L := by rw [e1]; exact Nat.mul_le_mul_left _ (pow_le hE (by omega))
  have n1 : N * (V * M + 1) ^ i ≤ N * (V * M + 1) ^ L := Nat.mul_le_mul_left _ (pow_le (by omega) (by omega))
  have n2 : N * (V * M + 1) ^ (i + 1) ≤ N * (V * M + 1) ^ L := Nat.mul_le_mul_left _ (pow_le (by omega) (by omega))
  have l1 : lenC K i ≤ V := Nat.le_trans (lenC_mono (show i ≤ L by omega)) hv
  have n3 : lenC K i * (N * (V * M + 1) ^ i * M) + N ≤ N * (V * M + 1) ^ (i + 1) := by
    have a1 : lenC K i * (N * (V * M + 1) ^ i * M) ≤ V * (N * (V * M + 1) ^ i * M) := Nat.mul_le_mul_right _ l1
    have a2 : N * 1 ≤ N * (V * M + 1) ^ i := Nat.mul_le_mul_left _ (Nat.one_le_pow _ _ (by omega))
    have a3 : N * (V * M + 1) ^ (i + 1) = V * (N * (V * M + 1) ^ i * M) + N * (V * M + 1) ^ i := by
      rw [Nat.pow_succ, ← Nat.mul_assoc, Nat.mul_add, Nat.mul_one]
      congr 1
      rw [Nat.mul_left_comm, Nat.mul_comm V, Nat.mul_comm V]
    omega
  exact ⟨hc.b.le d1 n1, hc.b.le d2 (by omega), by have := hc.v2; omega, n3, hc.b.le d2 (by omega)⟩
theorem ev_drop_succ {p : List Rat} {k : Nat} {c : Rat} (h : p[k]? = some c) (y : Rat) : ev (p.drop k) y = c + y * ev (p.drop (k + 1)) y := by
  obtain ⟨h1, h2⟩ := List.getElem?_eq_some_iff.mp h
  rw [List.drop_eq_getElem_cons h1, ev_cons, h2]
theorem rev_get {p : List Rat} {i : Nat} {x : PyData} (h : (p.map fr).reverse[i]? = some x) : ∃ c, i < p.length ∧ p[p.length - 1 - i]? = some c ∧ x = fr c := by
  have hi : i < p.length := by
    cases Nat.lt_or_ge i p.length with
    | inl h => exact h
    | inr h' => rw [List.getElem?_eq_none (by simpa using h')] at h; cases h
  rw [List.getElem?_reverse (by simpa using hi), List.getElem?_map, Option.map_eq_some_iff, List.length_map] at h
  obtain ⟨c, h1, rfl⟩ := h
  exact ⟨c, hi, h1, rfl⟩
theorem ev_take_le {c : Rat} {m : Nat} (he : ∀ x, ev ([c].take m) x = ev [c] x) : ∀ x, ev ([c].take m) x = c := fun x => (he x).trans (ev_one c x)
theorem p_raw_poly_put : ∀ es q, S_raw_poly_put es q → T_raw_poly_put { nx := fun _ => q (.d .none), rt := q } (startE 4 es) := by
  rintro es Q ⟨p, q, D, N, L, E, M, K, V, rfl, hp, hq, hl, hc, hQ⟩
  unfold T_raw_poly_put
  have hE := hq.pos
  simp only [pSeq, pNext, pAsg, pAsgT, pAug, pSub, pIf, pRet, pRetV, pRetN, pDrop, pPar, pPar3, pVar, pC, pOp, pUn, pNil, pCons, pTest, pTruth, pAnd, pOr, pNot, pAndV, pOrV, pNotV, pIfE, pTup, pLst, pF1, pF2, fLen, fTuple, fList, fAbs, fInt, fMax2, fMin2, fAll, fAny, pCall, pNever, p2I, p2I0, EV.two, EV.rd, EV.dat, EV.look, EV.seq, EV.lst, EV.wlk, EV.lsr, EV.sto, EV.ret, EV.arg, pNeg, pItems, pgName, pgTup, pgCons, pgNil, pYes, startE, List.map_cons, List.map_nil, List.cons_append, List.nil_append, List.length_cons, List.length_nil, Nat.reduceAdd, Nat.reduceSub, List.replicate_succ, List.replicate_zero, List.getElem?_cons_zero, List.getElem?_cons_succ, List.set_cons_zero, List.set_cons_succ, wipeE, EV.d.injEq, EV.l.injEq, PyData.int.injEq, PyData.bool.injEq, PyData.tuple.injEq, PyData.list.injEq, Option.some.injEq, exists_eq_left, exists_eq_left', true_and, and_true, List.mapM_cons, List.mapM_nil, bind_pure_comp, Option.pure_def, Option.bind_eq_bind, Option.bind_some, Option.map_some, Option.map_eq_map, truthD, if_true, if_false, reduceIte, Bool.false_eq_true, Bool.not_true, Bool.not_false, exists_and_left, exists_eq_left, decide_eq_true_eq, List.set_nil, pIx, pEq, pNe, pMul, pAdd, shaped_int, eqv_int, ix2_0, ix2_1, po, pFor, pItems, pRev]
  refine ⟨by decide, ?_⟩
  refine pForL_inv _ (fun i ρ => ∃ f a, ρ = [some (.d (po p)), some (.d (po q)), some (.d (po f)), a] ∧ Tr0 f ∧ (∀ x, ev f x = ev (p.drop (p.length - i)) (ev q x)) ∧ PS (D * E ^ i) (N * (V * M + 1) ^ i) (lenC K i) f) _ ⟨[], _, rfl, .nil, ?_, .nil (by rw [Nat.pow_zero]; have := hp.pos; omega)⟩ ?_ ?_
  · intro x; rw [Nat.sub_zero, List.drop_length]; rfl
  · rintro i ρ x hx ⟨f, a, rfl, ht, hv, hs⟩ R hR
    obtain ⟨c, hi, hcc, rfl⟩ := rev_get hx
    obtain ⟨b1, b2, b3, b4, b5⟩ := put_step (f := f) (r1 := f) hp hq hl hc hi
    simp only [pSeq, pNext, pAsg, pAsgT, pAug, pSub, pIf, pRet, pRetV, pRetN, pDrop, pPar, pPar3, pVar, pC, pOp, pUn, pNil, pCons, pTest, pTruth, pAnd, pOr, pNot, pAndV, pOrV, pNotV, pIfE, pTup, pLst, pF1, pF2, fLen, fTuple, fList, fAbs, fInt, fMax2, fMin2, fAll, fAny, pCall, pNever, p2I, p2I0, EV.two, EV.rd, EV.dat, EV.look, EV.seq, EV.lst, EV.wlk, EV.lsr, EV.sto, EV.ret, EV.arg, pNeg, pItems, pgName, pgTup, pgCons, pgNil, pYes, startE, List.map_cons, List.map_nil, List.cons_append, List.nil_append, List.length_cons, List.length_nil, Nat.reduceAdd, Nat.reduceSub, List.replicate_succ, List.replicate_zero, List.getElem?_cons_zero, List.getElem?_cons_succ, List.set_cons_zero, List.set_cons_succ, wipeE, EV.d.injEq, EV.l.injEq, PyData.int.injEq, PyData.bool.injEq, PyData.tuple.injEq, PyData.list.injEq, Option.some.injEq, exists_eq_left, exists_eq_left', true_and, and_true, List.mapM_cons, List.mapM_nil, bind_pure_comp, Option.pure_def, Option.bind_eq_bind, Option.bind_some, Option.map_some, Option.map_eq_map, truthD, if_true, if_false, reduceIte, Bool.false_eq_true, Bool.not_true, Bool.not_false, exists_and_left, exists_eq_left, decide_eq_true_eq, List.set_nil, pIx, pEq, pNe, pMul, pAdd, shaped_int, eqv_int, ix2_0, ix2_1, po]
    refine ⟨f, q, _, _, _, _, _, _, rfl, hs, hq, b1, hc.e, b2, b3, hc.k, fun r1 t1 v1 s1 => ?_⟩
    simp only [pSeq, pNext, pAsg, pAsgT, pAug, pSub, pIf, pRet, pRetV, pRetN, pDrop, pPar, pPar3, pVar, pC, pOp, pUn, pNil, pCons, pTest, pTruth, pAnd, pOr, pNot, pAndV, pOrV, pNotV, pIfE, pTup, pLst, pF1, pF2, fLen, fTuple, fList, fAbs, fInt, fMax2, fMin2, fAll, fAny, pCall, pNever, p2I, p2I0, EV.two, EV.rd, EV.dat, EV.look, EV.seq, EV.lst, EV.wlk, EV.lsr, EV.sto, EV.ret, EV.arg, pNeg, pItems, pgName, pgTup, pgCons, pgNil, pYes, startE, List.map_cons, List.map_nil, List.cons_append, List.nil_append, List.length_cons, List.length_nil, Nat.reduceAdd, Nat.reduceSub, List.replicate_succ, List.replicate_zero, List.getElem?_cons_zero, List.getElem?_cons_succ, List.set_cons_zero, List.set_cons_succ, wipeE, EV.d.injEq, EV.l.injEq, PyData.int.injEq, PyData.bool.injEq, PyData.tuple.injEq, PyData.list.injEq, Option.some.injEq, exists_eq_left, exists_eq_left', true_and, and_true, List.mapM_cons, List.mapM_nil, bind_pure_comp, Option.pure_def, Option.bind_eq_bind, Option.bind_some, Option.map_some, Option.map_eq_map, truthD, if_true, if_false, reduceIte, Bool.false_eq_true, Bool.not_true, Bool.not_false, exists_and_left, exists_eq_left, decide_eq_true_eq, List.set_nil, pIx, pEq, pNe, pMul, pAdd, shaped_int, eqv_int, ix2_0, ix2_1]
    refine ⟨by decide, _, [c], rfl, .inl rfl, fun m hm t2 v2 => ?_⟩
    have sc : Sz D N c := hp.sz c (List.mem_of_getElem? hcc)
    have s2 : PS (D * E ^ i * E) N (max (lenP (lenC K i) K) 1) ([c].take m) := ((((PS.one sc).take m).den (Nat.pow_pos hE)).den hE).mono (Nat.le_refl _) (Nat.le_max_right ..)
    refine ⟨r1, _, _, _, _, _, rfl, s1.mono (Nat.le_refl _) (Nat.le_max_left ..), s2, b5, ?_, fun r t v s => ⟨rfl, hR _ ⟨r, _, rfl, t, fun x => ?_, ?_⟩⟩⟩
    · rw [lenC_succ]
      have := hc.v; have := hc.v2; have := lenC_mono (K := K) (show i + 1 ≤ L by omega); omega
    · rw [show ev r x = ev r1 x + ev ([c].take m) x from v x, show ev r1 x = ev f x * ev q x from v1 x, hv, ev_take_le v2, show p.length - (i + 1) = p.length - 1 - i by omega, ev_drop_succ hcc, show p.length - 1 - i + 1 = p.length - i by omega]
      grind
    · rw [lenC_succ] at s
      have := s.mono b4 (Nat.le_refl _)
      rw [Nat.mul_assoc, ← Nat.pow_succ] at this
      exact this
  · rintro ρ ⟨f, a, rfl, ht, hv, hs⟩
    rw [List.length_reverse, List.length_map, Nat.sub_self] at *
    simp only [pSeq, pNext, pAsg, pAsgT, pAug, pSub, pIf, pRet, pRetV, pRetN, pDrop, pPar, pPar3, pVar, pC, pOp, pUn, pNil, pCons, pTest, pTruth, pAnd, pOr, pNot, pAndV, pOrV, pNotV, pIfE, pTup, pLst, pF1, pF2, fLen, fTuple, fList, fAbs, fInt, fMax2, fMin2, fAll, fAny, pCall, pNever, p2I, p2I0, EV.two, EV.rd, EV.dat, EV.look, EV.seq, EV.lst, EV.wlk, EV.lsr, EV.sto, EV.ret, EV.arg, pNeg, pItems, pgName, pgTup, pgCons, pgNil, pYes, startE, List.map_cons, List.map_nil, List.cons_append, List.nil_append, List.length_cons, List.length_nil, Nat.reduceAdd, Nat.reduceSub, List.replicate_succ, List.replicate_zero, List.getElem?_cons_zero, List.getElem?_cons_succ, List.set_cons_zero, List.set_cons_succ, wipeE, EV.d.injEq, EV.l.injEq, PyData.int.injEq, PyData.bool.injEq, PyData.tuple.injEq, PyData.list.injEq, Option.some.injEq, exists_eq_left, exists_eq_left', true_and, and_true, List.mapM_cons, List.mapM_nil, bind_pure_comp, Option.pure_def, Option.bind_eq_bind, Option.bind_some, Option.map_some, Option.map_eq_map, truthD, if_true, if_false, reduceIte, Bool.false_eq_true, Bool.not_true, Bool.not_false, exists_and_left, exists_eq_left, decide_eq_true_eq, List.set_nil, pIx, pEq, pNe, pMul, pAdd, shaped_int, eqv_int, ix2_0, ix2_1, po]
    rw [hl] at hs
    exact hQ f ht hv (hs.mono (Nat.le_refl _) hc.v)
end PL
namespace PL
open PySem PySem.Spec PyProof.Rows L2
def S__law_poly : FSpec := fun es Q => ∃ e p, es = [e] ∧ (e = .r (p.map fr) ∨ e = .d (po p)) ∧ p.length ≤ 1000 ∧ ∀ m, m ≤ p.length → Tr0 (p.take m) → (∀ x, ev (p.take m) x = ev p x) → Q (.d (po (p.take m)))
def T__law_poly : PTS := (pSeq (pAsg 1 (pF1 fMaxL (pOp pAdd (pLst (pCons (pC (.int 0)) pNil)) (pLc (pEnum (pVar 0)) (pgTup 2 (pgCons (pgName 2) (pgCons (pgName 3) pgNil))) (pTest (pOp pNe (pOp pIx (pVar 3) (pC (.int 0))) (pC (.int 0)))) (pOp pAdd (pVar 2) (pC (.int 1))) [2, 3])))) (pRet (pF1 fTuple (pSl (pVar 0) pNoPart (pPart (pVar 1))))))
theorem l__law_poly : ∀ es q, S__law_poly es q → es.length = 1 := by rintro es q ⟨a, b, rfl, _⟩; rfl
theorem cf_ne {p : List Rat} {i : Nat} (h : cf p i ≠ 0) : i < p.length := by
  cases Nat.lt_or_ge i p.length with
  | inl h => exact h
  | inr h' => unfold cf at h; rw [List.getElem?_eq_none h'] at h; exact absurd rfl h
theorem get_cf {p : List Rat} {i : Nat} (h : i < p.length) : p[i]? = some (cf p i) := by unfold cf; rw [List.getElem?_eq_getElem h]; rfl
/-- the greatest place with a number, and one -/
theorem poly_cut {p : List Rat} {m : Nat} (hm : m = 0 ∨ ∃ j, m = j + 1 ∧ cf p j ≠ 0) (hy : ∀ j, cf p j ≠ 0 → j + 1 ≤ m) : m ≤ p.length ∧ Tr0 (p.take m) ∧ ∀ x, ev (p.take m) x = ev p x := by
  have h1 : m ≤ p.length := by
    rcases hm with h | ⟨j, h, h2⟩
    · omega
    · have := cf_ne h2; omega
  refine ⟨h1, tr0_take h1 fun k hk => ?_, ev_take fun c hc => ?_⟩
  · rcases hm with h | ⟨j, h, h2⟩
    · omega
    · have : j = k := by omega
      subst this
      rw [get_cf (cf_ne h2)]
      exact fun z => h2 (Option.some.inj z)
  · obtain ⟨i, hi⟩ := List.getElem?_of_mem hc
    rw [List.getElem?_drop] at hi
    have e : cf p (m + i) = c := by unfold cf; rw [hi]; rfl
    by_cases hz : c = 0
    · exact hz
    · have := hy (m + i) (e ▸ hz)
      omega
theorem law_poly_lc {p : List Rat} {a b : Option EV} {Q : EV → Prop} (hq : Q (.l (((List.range p.length).filter fun j => cf p j ≠ 0).map fun (j : Nat) => .int ((j : Int) + 1)))) :
    pLcL (pgTup 2 (pgCons (pgName 2) (pgCons (pgName 3) pgNil))) (pTest (pOp pNe (pOp pIx (pVar 3) (pC (.int 0))) (pC (.int 0)))) (pOp pAdd (pVar 2) (pC (.int 1))) [a, b, none, none] Q (enumD 0 (p.map fr)) [] := by
  refine pLcL_inv _ (fun i acc => acc = ((List.range i).filter fun j => cf p j ≠ 0).map fun (j : Nat) => .int ((j : Int) + 1)) rfl (fun i x acc hx hI R hR => ?_) fun acc h => ?_
  · subst hI
    obtain ⟨y, hy, rfl⟩ := enum_get hx
    rw [List.getElem?_map, Option.map_eq_some_iff] at hy
    obtain ⟨u, hu, rfl⟩ := hy
    have cu : cf p i = u := by unfold cf; rw [hu]; rfl
    simp only [pSeq, pNext, pAsg, pAsgT, pAug, pSub, pIf, pRet, pRetV, pRetN, pDrop, pPar, pPar3, pVar, pC, pOp, pUn, pNil, pCons, pTest, pTruth, pAnd, pOr, pNot, pAndV, pOrV, pNotV, pIfE, pTup, pLst, pF1, pF2, fLen, fTuple, fList, fAbs, fInt, fMax2, fMin2, fAll, fAny, pCall, pNever, p2I, p2I0, EV.two, EV.rd, EV.dat, EV.look, EV.seq, EV.lst, EV.wlk, EV.lsr, EV.sto, EV.ret, EV.arg, pNeg, pItems, pgName, pgTup, pgCons, pgNil, pYes, startE, List.map_cons, List.map_nil, List.cons_append, List.nil_append, List.length_cons, List.length_nil, Nat.reduceAdd, Nat.reduceSub, List.replicate_succ, List.replicate_zero, List.getElem?_cons_zero, List.getElem?_cons_succ, List.set_cons_zero, List.set_cons_succ, wipeE, EV.d.injEq, EV.l.injEq, PyData.int.injEq, PyData.bool.injEq, PyData.tuple.injEq, PyData.list.injEq, Option.some.injEq, exists_eq_left, exists_eq_left', true_and, and_true, List.mapM_cons, List.mapM_nil, bind_pure_comp, Option.pure_def, Option.bind_eq_bind, Option.bind_some, Option.map_some, Option.map_eq_map, truthD, if_true, if_false, reduceIte, Bool.false_eq_true, Bool.not_true, Bool.not_false, exists_and_left, exists_eq_left, decide_eq_true_eq, List.set_nil, pIx, pEq, pNe, pMul, pAdd, shaped_int, eqv_int, ix2_0, ix2_1, List.cons.injEq, and_assoc, fr, Int.zero_add]
    by_cases h : u.num = 0
    · rw [decide_eq_true h]
      simp only [pSeq, pNext, pAsg, pAsgT, pAug, pSub, pIf, pRet, pRetV, pRetN, pDrop, pPar, pPar3, pVar, pC, pOp, pUn, pNil, pCons, pTest, pTruth, pAnd, pOr, pNot, pAndV, pOrV, pNotV, pIfE, pTup, pLst, pF1, pF2, fLen, fTuple, fList, fAbs, fInt, fMax2, fMin2, fAll, fAny, pCall, pNever, p2I, p2I0, EV.two, EV.rd, EV.dat, EV.look, EV.seq, EV.lst, EV.wlk, EV.lsr, EV.sto, EV.ret, EV.arg, pNeg, pItems, pgName, pgTup, pgCons, pgNil, pYes, startE, List.map_cons, List.map_nil, List.cons_append, List.nil_append, List.length_cons, List.length_nil, Nat.reduceAdd, Nat.reduceSub, List.replicate_succ, List.replicate_zero, List.getElem?_cons_zero, List.getElem?_cons_succ, List.set_cons_zero, List.set_cons_succ, wipeE, EV.d.injEq, EV.l.injEq, PyData.int.injEq, PyData.bool.injEq, PyData.tuple.injEq, PyData.list.injEq, Option.some.injEq, exists_eq_left, exists_eq_left', true_and, and_true, List.mapM_cons, List.mapM_nil, bind_pure_comp, Option.pure_def, Option.bind_eq_bind, Option.bind_some, Option.map_some, Option.map_eq_map, truthD, if_true, if_false, reduceIte, Bool.false_eq_true, Bool.not_true, Bool.not_false, exists_and_left, exists_eq_left, decide_eq_true_eq, List.set_nil, pIx, pEq, pNe, pMul, pAdd, shaped_int, eqv_int, ix2_0, ix2_1]
      refine hR _ ?_
      rw [List.range_succ, List.filter_append, List.filter_cons_of_neg (by rw [cu]; simp [Rat.num_eq_zero.mp h]), List.filter_nil, List.append_nil]
    · rw [decide_eq_false h]
      simp only [pSeq, pNext, pAsg, pAsgT, pAug, pSub, pIf, pRet, pRetV, pRetN, pDrop, pPar, pPar3, pVar, pC, pOp, pUn, pNil, pCons, pTest, pTruth, pAnd, pOr, pNot, pAndV, pOrV, pNotV, pIfE, pTup, pLst, pF1, pF2, fLen, fTuple, fList, fAbs, fInt, fMax2, fMin2, fAll, fAny, pCall, pNever, p2I, p2I0, EV.two, EV.rd, EV.dat, EV.look, EV.seq, EV.lst, EV.wlk, EV.lsr, EV.sto, EV.ret, EV.arg, pNeg, pItems, pgName, pgTup, pgCons, pgNil, pYes, startE, List.map_cons, List.map_nil, List.cons_append, List.nil_append, List.length_cons, List.length_nil, Nat.reduceAdd, Nat.reduceSub, List.replicate_succ, List.replicate_zero, List.getElem?_cons_zero, List.getElem?_cons_succ, List.set_cons_zero, List.set_cons_succ, wipeE, EV.d.injEq, EV.l.injEq, PyData.int.injEq, PyData.bool.injEq, PyData.tuple.injEq, PyData.list.injEq, Option.some.injEq, exists_eq_left, exists_eq_left', true_and, and_true, List.mapM_cons, List.mapM_nil, bind_pure_comp, Option.pure_def, Option.bind_eq_bind, Option.bind_some, Option.map_some, Option.map_eq_map, truthD, if_true, if_false, reduceIte, Bool.false_eq_true, Bool.not_true, Bool.not_false, exists_and_left, exists_eq_left, decide_eq_true_eq, List.set_nil, pIx, pEq, pNe, pMul, pAdd, shaped_int, eqv_int, ix2_0, ix2_1]
      refine hR _ ?_
      rw [List.range_succ, List.filter_append, List.filter_cons_of_pos (by rw [cu]; simpa using fun z => h (by rw [z]; rfl)), List.filter_nil, List.map_append]
      rfl
  · rw [h, enum_len, List.length_map]
    exact hq
theorem p__law_poly : ∀ es q, S__law_poly es q → T__law_poly { nx := fun _ => q (.d .none), rt := q } (startE 4 es) := by
  rintro es q ⟨e, p, rfl, he, hl, hq⟩
  unfold T__law_poly
  have fin : ∀ (ns : List Int) (m : Int), PyData.int 0 :: ((List.range p.length).filter fun j => cf p j ≠ 0).map (fun (j : Nat) => .int ((j : Int) + 1)) = ns.map PyData.int → m ∈ ns → (∀ y, y ∈ ns → y ≤ m) → q (EV.d (PyData.tuple (cutD (p.map fr) none (some m)))) := by
    intro ns m e hm hy
    have mem : ∀ y, y ∈ ns ↔ y = 0 ∨ ∃ j : Nat, j < p.length ∧ cf p j ≠ 0 ∧ y = (j : Int) + 1 := fun y => by
      have : y ∈ ns ↔ PyData.int y ∈ ns.map PyData.int := by simp
      rw [this, ← e]
      simp
      constructor
      · rintro (h | ⟨j, h1, h2⟩)
        · exact .inl h
        · exact .inr ⟨j, h1.1, h1.2, h2.symm⟩
      · rintro (h | ⟨j, h1, h2, h3⟩)
        · exact .inl h
        · exact .inr ⟨j, ⟨h1, h2⟩, h3.symm⟩
    have m0 : 0 ≤ m := hy 0 ((mem 0).mpr (.inl rfl))
    obtain ⟨n, rfl⟩ := Int.eq_ofNat_of_zero_le m0
    obtain ⟨h1, h2, h3⟩ := poly_cut (p := p) (m := n) (((mem n).mp hm).imp (fun h => by omega) fun ⟨j, _, h2, h3⟩ => ⟨j, by omega, h2⟩) fun j hj => by
      have := hy ((j : Int) + 1) ((mem _).mpr (.inr ⟨j, cf_ne hj, hj, rfl⟩))
      omega
    rw [cutD_to _ _ (by rw [List.length_map]; exact h1)]
    have := hq n h1 h2 h3
    simp only [po, List.map_take] at this
    exact this
  have len : (((List.range p.length).filter fun j => cf p j ≠ 0).map fun (j : Nat) => PyData.int ((j : Int) + 1)).length ≤ p.length := by
    rw [List.length_map]
    exact Nat.le_trans (List.length_filter_le _ _) (by rw [List.length_range]; exact Nat.le_refl _)
  rcases he with rfl | rfl
  all_goals
    simp only [pSeq, pNext, pAsg, pAsgT, pAug, pSub, pIf, pRet, pRetV, pRetN, pDrop, pPar, pPar3, pVar, pC, pOp, pUn, pNil, pCons, pTest, pTruth, pAnd, pOr, pNot, pAndV, pOrV, pNotV, pIfE, pTup, pLst, pF1, pF2, fLen, fTuple, fList, fAbs, fInt, fMax2, fMin2, fAll, fAny, pCall, pNever, p2I, p2I0, EV.two, EV.rd, EV.dat, EV.look, EV.seq, EV.lst, EV.wlk, EV.lsr, EV.sto, EV.ret, EV.arg, pNeg, pItems, pgName, pgTup, pgCons, pgNil, pYes, startE, List.map_cons, List.map_nil, List.cons_append, List.nil_append, List.length_cons, List.length_nil, Nat.reduceAdd, Nat.reduceSub, List.replicate_succ, List.replicate_zero, List.getElem?_cons_zero, List.getElem?_cons_succ, List.set_cons_zero, List.set_cons_succ, wipeE, EV.d.injEq, EV.l.injEq, PyData.int.injEq, PyData.bool.injEq, PyData.tuple.injEq, PyData.list.injEq, Option.some.injEq, exists_eq_left, exists_eq_left', true_and, and_true, List.mapM_cons, List.mapM_nil, bind_pure_comp, Option.pure_def, Option.bind_eq_bind, Option.bind_some, Option.map_some, Option.map_eq_map, truthD, if_true, if_false, reduceIte, Bool.false_eq_true, Bool.not_true, Bool.not_false, exists_and_left, exists_eq_left, decide_eq_true_eq, List.set_nil, pIx, pEq, pNe, pMul, pAdd, shaped_int, eqv_int, ix2_0, ix2_1, po, pLc, pEnum, pSl, pNoPart, pPart, fMaxL, List.length_map]
    refine ⟨by decide, by rw [enum_len, List.length_map]; omega, law_poly_lc ⟨_, rfl, by omega, ?_⟩⟩
    refine ⟨0 :: ((List.range p.length).filter fun j => cf p j ≠ 0).map fun (j : Nat) => (j : Int) + 1, by rw [List.map_cons, List.map_map]; rfl, by simp, fun m hm hy => ?_⟩
    exact fin _ m (by rw [List.map_cons, List.map_map]; rfl) hm hy
theorem pad_range (p : List Rat) (n : Nat) : (p.map fr ++ List.replicate n (fr 0)).take n = (List.range n).map fun i => fr (cf p i) := by
  apply List.ext_getElem?
  intro i
  by_cases hi : i < n
  · rw [List.getElem?_take_of_lt hi, List.getElem?_map, List.getElem?_range hi]
    by_cases h : i < p.length
    · rw [List.getElem?_append_left (by rw [List.length_map]; exact h), List.getElem?_map, get_cf h]; rfl
    · rw [List.getElem?_append_right (by rw [List.length_map]; omega), List.getElem?_replicate, if_pos (by rw [List.length_map]; omega)]
      have : cf p i = 0 := by unfold cf; rw [List.getElem?_eq_none (by omega)]; rfl
      rw [Option.map_some, this]
  · rw [List.getElem?_eq_none (by rw [List.length_take]; omega), List.getElem?_eq_none (by simp; omega)]
theorem zip_range (f g : Nat → PyData) (n : Nat) : zipD ((List.range n).map f) ((List.range n).map g) = (List.range n).map fun i => .tuple [f i, g i] := by
  apply List.ext_getElem?
  intro i
  by_cases hi : i < n
  · rw [zipD_get (x := f i) (y := g i) (by rw [List.getElem?_map, List.getElem?_range hi]; rfl) (by rw [List.getElem?_map, List.getElem?_range hi]; rfl), List.getElem?_map, List.getElem?_range hi]; rfl
  · rw [List.getElem?_eq_none (by rw [zipD_length]; simp; omega), List.getElem?_eq_none (by simp; omega)]
def S__law_sum : FSpec := S_raw_poly_sum
def T__law_sum : PTS := (pSeq (pAsg 2 (pF2 fMax2 (pF1 fLen (pVar 0)) (pF1 fLen (pVar 1)))) (pSeq (pAsg 3 (pOp pMul (pLst (pCons (pTup (pCons (pC (.int 0)) (pCons (pC (.int 1)) pNil))) pNil)) (pVar 2))) (pRet (pCall S__law_poly (pCons (pLc (pZip (pSl (pOp pAdd (pF1 fList (pVar 0)) (pVar 3)) pNoPart (pPart (pVar 2))) (pSl (pOp pAdd (pF1 fList (pVar 1)) (pVar 3)) pNoPart (pPart (pVar 2)))) (pgTup 2 (pgCons (pgName 4) (pgCons (pgName 5) pgNil))) pYes (pCall S__law_add (pCons (pVar 4) (pCons (pVar 5) pNil))) [4, 5]) pNil)))))
theorem l__law_sum : ∀ es q, S__law_sum es q → es.length = 2 := l_raw_poly_sum
theorem p__law_sum : ∀ es q, S__law_sum es q → T__law_sum { nx := fun _ => q (.d .none), rt := q } (startE 6 es) := by
  rintro es Q ⟨p, q, D, N, M, L, rfl, hp, hq, hb, hL, hQ⟩
  unfold T__law_sum
  have h1 := hp.len
  have h2 := hq.len
  simp only [pSeq, pNext, pAsg, pAsgT, pAug, pSub, pIf, pRet, pRetV, pRetN, pDrop, pPar, pPar3, pVar, pC, pOp, pUn, pNil, pCons, pTest, pTruth, pAnd, pOr, pNot, pAndV, pOrV, pNotV, pIfE, pTup, pLst, pF1, pF2, fLen, fTuple, fList, fAbs, fInt, fMax2, fMin2, fAll, fAny, pCall, pNever, p2I, p2I0, EV.two, EV.rd, EV.dat, EV.look, EV.seq, EV.lst, EV.wlk, EV.lsr, EV.sto, EV.ret, EV.arg, pNeg, pItems, pgName, pgTup, pgCons, pgNil, pYes, startE, List.map_cons, List.map_nil, List.cons_append, List.nil_append, List.length_cons, List.length_nil, Nat.reduceAdd, Nat.reduceSub, List.replicate_succ, List.replicate_zero, List.getElem?_cons_zero, List.getElem?_cons_succ, List.set_cons_zero, List.set_cons_succ, wipeE, EV.d.injEq, EV.l.injEq, PyData.int.injEq, PyData.bool.injEq, PyData.tuple.injEq, PyData.list.injEq, Option.some.injEq, exists_eq_left, exists_eq_left', true_and, and_true, List.mapM_cons, List.mapM_nil, bind_pure_comp, Option.pure_def, Option.bind_eq_bind, Option.bind_some, Option.map_some, Option.map_eq_map, truthD, if_true, if_false, reduceIte, Bool.false_eq_true, Bool.not_true, Bool.not_false, exists_and_left, exists_eq_left, decide_eq_true_eq, List.set_nil, pIx, pEq, pNe, pMul, pAdd, shaped_int, eqv_int, ix2_0, ix2_1, po, List.length_map, max_int, pLc, pZip, pSl, pNoPart, pPart]
  refine ⟨by decide, by decide, by omega, by omega, by decide, ?_⟩
  rw [Int.toNat_natCast, rep_one]
  have er : List.replicate (max p.length q.length) (PyData.tuple [PyData.int 0, PyData.int 1]) = List.replicate (max p.length q.length) (fr 0) := rfl
  rw [er, cutD_to _ _ (by simp), cutD_to _ _ (by simp), pad_range, pad_range, zip_range, List.length_replicate, List.length_map, List.length_range]
  refine ⟨by omega, by omega, rfl, by omega, ?_⟩
  refine pLcL_map _ (fun i => fr (cf p i + cf q i)) _ (fun i hi R hR => ?_) mon_pair mon_yes ?_
  · simp only [pSeq, pNext, pAsg, pAsgT, pAug, pSub, pIf, pRet, pRetV, pRetN, pDrop, pPar, pPar3, pVar, pC, pOp, pUn, pNil, pCons, pTest, pTruth, pAnd, pOr, pNot, pAndV, pOrV, pNotV, pIfE, pTup, pLst, pF1, pF2, fLen, fTuple, fList, fAbs, fInt, fMax2, fMin2, fAll, fAny, pCall, pNever, p2I, p2I0, EV.two, EV.rd, EV.dat, EV.look, EV.seq, EV.lst, EV.wlk, EV.lsr, EV.sto, EV.ret, EV.arg, pNeg, pItems, pgName, pgTup, pgCons, pgNil, pYes, startE, List.map_cons, List.map_nil, List.cons_append, List.nil_append, List.length_cons, List.length_nil, Nat.reduceAdd, Nat.reduceSub, List.replicate_succ, List.replicate_zero, List.getElem?_cons_zero, List.getElem?_cons_succ, List.set_cons_zero, List.set_cons_succ, wipeE, EV.d.injEq, EV.l.injEq, PyData.int.injEq, PyData.bool.injEq, PyData.tuple.injEq, PyData.list.injEq, Option.some.injEq, exists_eq_left, exists_eq_left', true_and, and_true, List.mapM_cons, List.mapM_nil, bind_pure_comp, Option.pure_def, Option.bind_eq_bind, Option.bind_some, Option.map_some, Option.map_eq_map, truthD, if_true, if_false, reduceIte, Bool.false_eq_true, Bool.not_true, Bool.not_false, exists_and_left, exists_eq_left, decide_eq_true_eq, List.set_nil, pIx, pEq, pNe, pMul, pAdd, shaped_int, eqv_int, ix2_0, ix2_1, List.cons.injEq, and_assoc]
    exact ⟨cf p i, cf q i, rfl, (hb.mono (by omega)).ok (hp.cf i), (hb.mono (by omega)).ok (hq.cf i), _, rfl, hR⟩
  · obtain ⟨s1, s2⟩ := sum_list hp hq rfl
    refine ⟨_, (List.range (max p.length q.length)).map fun i => cf p i + cf q i, rfl, .inl ?_, by simp; omega, fun m hm ht he => ⟨rfl, hQ _ ht (fun x => (he x).trans (s2 x)) (s1.take m)⟩⟩
    rw [List.map_map]; rfl
def S__law_product : FSpec := S_raw_poly_product
def T__law_product : PTS := (pSeq (pAsg 2 (pOp pMul (pLst (pCons (pTup (pCons (pC (.int 0)) (pCons (pC (.int 1)) pNil))) pNil)) (pF2 fMax2 (pC (.int 0)) (pOp pSub (pOp pAdd (pF1 fLen (pVar 0)) (pF1 fLen (pVar 1))) (pC (.int 1)))))) (pSeq (pFor (pEnum (pVar 0)) (pgTup 2 (pgCons (pgName 3) (pgCons (pgName 4) pgNil))) (pFor (pEnum (pVar 1)) (pgTup 2 (pgCons (pgName 5) (pgCons (pgName 6) pgNil))) (pSetIx 2 (pOp pAdd (pVar 3) (pVar 5)) (pCall S__law_add (pCons (pOp pIx (pVar 2) (pOp pAdd (pVar 3) (pVar 5))) (pCons (pCall S__law_mul (pCons (pVar 4) (pCons (pVar 6) pNil))) pNil)))))) (pRet (pCall S__law_poly (pCons (pVar 2) pNil)))))
theorem l__law_product : ∀ es q, S__law_product es q → es.length = 2 := l_raw_poly_product
theorem prodN (a b : Nat) : (if (a : Int) + (b : Int) - 1 > 0 then (a : Int) + (b : Int) - 1 else 0).toNat = a + b - 1 := by split <;> omega
theorem p__law_product : ∀ es q, S__law_product es q → T__law_product { nx := fun _ => q (.d .none), rt := q } (startE 7 es) := by
  rintro es Q ⟨p, q, D, N, E, M, L, K, rfl, hp, hq, hb, hc, hbc, hL, hK, hQ⟩
  unfold T__law_product
  have h1 := hp.len
  have h2 := hq.len
  have hDE := Nat.mul_pos hp.pos hq.pos
  simp only [pSeq, pNext, pAsg, pAsgT, pAug, pSub, pIf, pRet, pRetV, pRetN, pDrop, pPar, pPar3, pVar, pC, pOp, pUn, pNil, pCons, pTest, pTruth, pAnd, pOr, pNot, pAndV, pOrV, pNotV, pIfE, pTup, pLst, pF1, pF2, fLen, fTuple, fList, fAbs, fInt, fMax2, fMin2, fAll, fAny, pCall, pNever, p2I, p2I0, EV.two, EV.rd, EV.dat, EV.look, EV.seq, EV.lst, EV.wlk, EV.lsr, EV.sto, EV.ret, EV.arg, pNeg, pItems, pgName, pgTup, pgCons, pgNil, pYes, startE, List.map_cons, List.map_nil, List.cons_append, List.nil_append, List.length_cons, List.length_nil, Nat.reduceAdd, Nat.reduceSub, List.replicate_succ, List.replicate_zero, List.getElem?_cons_zero, List.getElem?_cons_succ, List.set_cons_zero, List.set_cons_succ, wipeE, EV.d.injEq, EV.l.injEq, PyData.int.injEq, PyData.bool.injEq, PyData.tuple.injEq, PyData.list.injEq, Option.some.injEq, exists_eq_left, exists_eq_left', true_and, and_true, List.mapM_cons, List.mapM_nil, bind_pure_comp, Option.pure_def, Option.bind_eq_bind, Option.bind_some, Option.map_some, Option.map_eq_map, truthD, if_true, if_false, reduceIte, Bool.false_eq_true, Bool.not_true, Bool.not_false, exists_and_left, exists_eq_left, decide_eq_true_eq, List.set_nil, pIx, pEq, pNe, pMul, pAdd, shaped_int, eqv_int, ix2_0, ix2_1, po, List.length_map]
  refine ⟨by decide, by decide, by split <;> omega, by split <;> omega, by decide, ?_⟩
  rw [prodN, rep_one]
  have er : List.replicate (p.length + q.length - 1) (PyData.tuple [PyData.int 0, PyData.int 1]) = (List.replicate (p.length + q.length - 1) 0).map fr := by rw [List.map_replicate]; rfl
  rw [er]
  simp only [pFor, pEnum, pSeq, pNext, pAsg, pAsgT, pAug, pSub, pIf, pRet, pRetV, pRetN, pDrop, pPar, pPar3, pVar, pC, pOp, pUn, pNil, pCons, pTest, pTruth, pAnd, pOr, pNot, pAndV, pOrV, pNotV, pIfE, pTup, pLst, pF1, pF2, fLen, fTuple, fList, fAbs, fInt, fMax2, fMin2, fAll, fAny, pCall, pNever, p2I, p2I0, EV.two, EV.rd, EV.dat, EV.look, EV.seq, EV.lst, EV.wlk, EV.lsr, EV.sto, EV.ret, EV.arg, pNeg, pItems, pgName, pgTup, pgCons, pgNil, pYes, startE, List.map_cons, List.map_nil, List.cons_append, List.nil_append, List.length_cons, List.length_nil, Nat.reduceAdd, Nat.reduceSub, List.replicate_succ, List.replicate_zero, List.getElem?_cons_zero, List.getElem?_cons_succ, List.set_cons_zero, List.set_cons_succ, wipeE, EV.d.injEq, EV.l.injEq, PyData.int.injEq, PyData.bool.injEq, PyData.tuple.injEq, PyData.list.injEq, Option.some.injEq, exists_eq_left, exists_eq_left', true_and, and_true, List.mapM_cons, List.mapM_nil, bind_pure_comp, Option.pure_def, Option.bind_eq_bind, Option.bind_some, Option.map_some, Option.map_eq_map, truthD, if_true, if_false, reduceIte, Bool.false_eq_true, Bool.not_true, Bool.not_false, exists_and_left, exists_eq_left, decide_eq_true_eq, List.set_nil, pIx, pEq, pNe, pMul, pAdd, shaped_int, eqv_int, ix2_0, ix2_1]
  refine pForL_inv _ (fun i ρ => ∃ f a b c d, ρ = [some (.d (po p)), some (.d (po q)), some (.l (f.map fr)), a, b, c, d] ∧ PMr p q (D * E) (N * M) i f) _ ⟨_, _, _, _, _, rfl, PMr.start hDE⟩ ?_ ?_
  · rintro i ρ x hx ⟨f, a, b, c, d, rfl, hf⟩ R hR
    obtain ⟨y, hy, rfl⟩ := enum_get hx
    rw [List.getElem?_map, Option.map_eq_some_iff] at hy
    obtain ⟨u, hu, rfl⟩ := hy
    have cu : cf p i = u := by unfold cf; rw [hu]; rfl
    have li : i < p.length := by
      cases Nat.lt_or_ge i p.length with
      | inl h => exact h
      | inr h => rw [List.getElem?_eq_none h] at hu; cases hu
    have su : Sz D N u := cu ▸ hp.cf i
    simp only [pSeq, pNext, pAsg, pAsgT, pAug, pSub, pIf, pRet, pRetV, pRetN, pDrop, pPar, pPar3, pVar, pC, pOp, pUn, pNil, pCons, pTest, pTruth, pAnd, pOr, pNot, pAndV, pOrV, pNotV, pIfE, pTup, pLst, pF1, pF2, fLen, fTuple, fList, fAbs, fInt, fMax2, fMin2, fAll, fAny, pCall, pNever, p2I, p2I0, EV.two, EV.rd, EV.dat, EV.look, EV.seq, EV.lst, EV.wlk, EV.lsr, EV.sto, EV.ret, EV.arg, pNeg, pItems, pgName, pgTup, pgCons, pgNil, pYes, startE, List.map_cons, List.map_nil, List.cons_append, List.nil_append, List.length_cons, List.length_nil, Nat.reduceAdd, Nat.reduceSub, List.replicate_succ, List.replicate_zero, List.getElem?_cons_zero, List.getElem?_cons_succ, List.set_cons_zero, List.set_cons_succ, wipeE, EV.d.injEq, EV.l.injEq, PyData.int.injEq, PyData.bool.injEq, PyData.tuple.injEq, PyData.list.injEq, Option.some.injEq, exists_eq_left, exists_eq_left', true_and, and_true, List.mapM_cons, List.mapM_nil, bind_pure_comp, Option.pure_def, Option.bind_eq_bind, Option.bind_some, Option.map_some, Option.map_eq_map, truthD, if_true, if_false, reduceIte, Bool.false_eq_true, Bool.not_true, Bool.not_false, exists_and_left, exists_eq_left, decide_eq_true_eq, List.set_nil, pIx, pEq, pNe, pMul, pAdd, shaped_int, eqv_int, ix2_0, ix2_1, List.cons.injEq, and_assoc, po, Int.zero_add, pFor, pEnum]
    refine pForL_inv _ (fun j ρ => ∃ f c d, ρ = [some (.d (po p)), some (.d (po q)), some (.l (f.map fr)), some (.d (.int i)), some (.d (fr u)), c, d] ∧ PM p q (D * E) (N * M) i j f) _ ⟨_, _, _, rfl, hf.row⟩ ?_ ?_
    · rintro j ρ x hx ⟨f, c, d, rfl, hf⟩ R' hR'
      obtain ⟨y, hy, rfl⟩ := enum_get hx
      rw [List.getElem?_map, Option.map_eq_some_iff] at hy
      obtain ⟨v, hv, rfl⟩ := hy
      have cv : cf q j = v := by unfold cf; rw [hv]; rfl
      have lj : j < q.length := by
        cases Nat.lt_or_ge j q.length with
        | inl h => exact h
        | inr h => rw [List.getElem?_eq_none h] at hv; cases hv
      have sv : Sz E M v := cv ▸ hq.cf j
      have lf : i + j < f.length := by rw [hf.len]; omega
      have suv : Sz (D * E) (N * M) (u * v) := su.mul sv
      have eij : ((i : Int) + (j : Int)) = ((i + j : Nat) : Int) := by omega
      have hfk : f[i + j]? = some f[i + j] := List.getElem?_eq_getElem lf
      have sf := hf.sz2 _ _ (Nat.le_refl _) hfk
      have le1 : N * M ≤ L * (N * M) := Nat.le_mul_of_pos_left _ (by omega)
      have le2 : i * (N * M) ≤ L * (N * M) := Nat.mul_le_mul_right _ (by omega)
      simp only [pSeq, pNext, pAsg, pAsgT, pAug, pSub, pIf, pRet, pRetV, pRetN, pDrop, pPar, pPar3, pVar, pC, pOp, pUn, pNil, pCons, pTest, pTruth, pAnd, pOr, pNot, pAndV, pOrV, pNotV, pIfE, pTup, pLst, pF1, pF2, fLen, fTuple, fList, fAbs, fInt, fMax2, fMin2, fAll, fAny, pCall, pNever, p2I, p2I0, EV.two, EV.rd, EV.dat, EV.look, EV.seq, EV.lst, EV.wlk, EV.lsr, EV.sto, EV.ret, EV.arg, pNeg, pItems, pgName, pgTup, pgCons, pgNil, pYes, startE, List.map_cons, List.map_nil, List.cons_append, List.nil_append, List.length_cons, List.length_nil, Nat.reduceAdd, Nat.reduceSub, List.replicate_succ, List.replicate_zero, List.getElem?_cons_zero, List.getElem?_cons_succ, List.set_cons_zero, List.set_cons_succ, wipeE, EV.d.injEq, EV.l.injEq, PyData.int.injEq, PyData.bool.injEq, PyData.tuple.injEq, PyData.list.injEq, Option.some.injEq, exists_eq_left, exists_eq_left', true_and, and_true, List.mapM_cons, List.mapM_nil, bind_pure_comp, Option.pure_def, Option.bind_eq_bind, Option.bind_some, Option.map_some, Option.map_eq_map, truthD, if_true, if_false, reduceIte, Bool.false_eq_true, Bool.not_true, Bool.not_false, exists_and_left, exists_eq_left, decide_eq_true_eq, List.set_nil, pIx, pEq, pNe, pMul, pAdd, shaped_int, eqv_int, ix2_0, ix2_1, List.cons.injEq, and_assoc, po, Int.zero_add, eij, pSetIx, List.length_map]
      refine ⟨fr f[i + j], by rw [atI_nat, List.getElem?_map, hfk]; rfl, u, v, rfl, hb.ok su, hc.ok sv, f[i + j], u * v, rfl, (hbc.mono le2).ok sf, (hbc.mono le1).ok suv, fr (f[i + j] + u * v), rfl, i + j, ixN_nat lf, ?_⟩
      refine hR' _ ⟨_, _, _, by rw [set_map]; rfl, ?_⟩
      have := hf.step hfk hv (by rw [cu]; exact suv)
      rw [cu] at this
      exact this
    · rintro ρ ⟨f, c, d, rfl, hf⟩
      rw [enum_len, List.length_map] at hf
      exact hR _ ⟨f, _, _, _, _, rfl, hf.next⟩
  · rintro ρ ⟨f, a, b, c, d, rfl, hf⟩
    rw [enum_len, List.length_map] at hf
    simp only [pSeq, pNext, pAsg, pAsgT, pAug, pSub, pIf, pRet, pRetV, pRetN, pDrop, pPar, pPar3, pVar, pC, pOp, pUn, pNil, pCons, pTest, pTruth, pAnd, pOr, pNot, pAndV, pOrV, pNotV, pIfE, pTup, pLst, pF1, pF2, fLen, fTuple, fList, fAbs, fInt, fMax2, fMin2, fAll, fAny, pCall, pNever, p2I, p2I0, EV.two, EV.rd, EV.dat, EV.look, EV.seq, EV.lst, EV.wlk, EV.lsr, EV.sto, EV.ret, EV.arg, pNeg, pItems, pgName, pgTup, pgCons, pgNil, pYes, startE, List.map_cons, List.map_nil, List.cons_append, List.nil_append, List.length_cons, List.length_nil, Nat.reduceAdd, Nat.reduceSub, List.replicate_succ, List.replicate_zero, List.getElem?_cons_zero, List.getElem?_cons_succ, List.set_cons_zero, List.set_cons_succ, wipeE, EV.d.injEq, EV.l.injEq, PyData.int.injEq, PyData.bool.injEq, PyData.tuple.injEq, PyData.list.injEq, Option.some.injEq, exists_eq_left, exists_eq_left', true_and, and_true, List.mapM_cons, List.mapM_nil, bind_pure_comp, Option.pure_def, Option.bind_eq_bind, Option.bind_some, Option.map_some, Option.map_eq_map, truthD, if_true, if_false, reduceIte, Bool.false_eq_true, Bool.not_true, Bool.not_false, exists_and_left, exists_eq_left, decide_eq_true_eq, List.set_nil, pIx, pEq, pNe, pMul, pAdd, shaped_int, eqv_int, ix2_0, ix2_1]
    refine ⟨_, f, rfl, .inl rfl, by rw [hf.len]; omega, fun m hm ht he => ⟨rfl, hQ _ ht (fun x => (he x).trans (hf.fin rfl x)) ?_⟩⟩
    by_cases hpe : p = []
    · subst hpe
      have z : f.take m = [] := tr0_uniq ht .nil fun x => by rw [he x, hf.fin rfl x]; simp only [ev_nil]; grind
      rw [z]
      exact .nil hDE
    · exact (hf.ps hDE h1 h2 hpe).take m
def S__law_behind : FSpec := S_raw_poly_put
def T__law_behind : PTS := (pSeq (pAsg 2 (pTup pNil)) (pSeq (pFor (pItems (pRev (pVar 0))) (pgName 3) (pAsg 2 (pCall S__law_sum (pCons (pCall S__law_product (pCons (pVar 2) (pCons (pVar 1) pNil))) (pCons (pCall S__law_poly (pCons (pLst (pCons (pVar 3) pNil)) pNil)) pNil))))) (pRetV 2)))
theorem l__law_behind : ∀ es q, S__law_behind es q → es.length = 2 := l_raw_poly_put
theorem p__law_behind : ∀ es q, S__law_behind es q → T__law_behind { nx := fun _ => q (.d .none), rt := q } (startE 4 es) := by
  rintro es Q ⟨p, q, D, N, L, E, M, K, V, rfl, hp, hq, hl, hc, hQ⟩
  unfold T__law_behind
  have hE := hq.pos
  simp only [pSeq, pNext, pAsg, pAsgT, pAug, pSub, pIf, pRet, pRetV, pRetN, pDrop, pPar, pPar3, pVar, pC, pOp, pUn, pNil, pCons, pTest, pTruth, pAnd, pOr, pNot, pAndV, pOrV, pNotV, pIfE, pTup, pLst, pF1, pF2, fLen, fTuple, fList, fAbs, fInt, fMax2, fMin2, fAll, fAny, pCall, pNever, p2I, p2I0, EV.two, EV.rd, EV.dat, EV.look, EV.seq, EV.lst, EV.wlk, EV.lsr, EV.sto, EV.ret, EV.arg, pNeg, pItems, pgName, pgTup, pgCons, pgNil, pYes, startE, List.map_cons, List.map_nil, List.cons_append, List.nil_append, List.length_cons, List.length_nil, Nat.reduceAdd, Nat.reduceSub, List.replicate_succ, List.replicate_zero, List.getElem?_cons_zero, List.getElem?_cons_succ, List.set_cons_zero, List.set_cons_succ, wipeE, EV.d.injEq, EV.l.injEq, PyData.int.injEq, PyData.bool.injEq, PyData.tuple.injEq, PyData.list.injEq, Option.some.injEq, exists_eq_left, exists_eq_left', true_and, and_true, List.mapM_cons, List.mapM_nil, bind_pure_comp, Option.pure_def, Option.bind_eq_bind, Option.bind_some, Option.map_some, Option.map_eq_map, truthD, if_true, if_false, reduceIte, Bool.false_eq_true, Bool.not_true, Bool.not_false, exists_and_left, exists_eq_left, decide_eq_true_eq, List.set_nil, pIx, pEq, pNe, pMul, pAdd, shaped_int, eqv_int, ix2_0, ix2_1, po, pFor, pItems, pRev]
  refine ⟨by decide, ?_⟩
  refine pForL_inv _ (fun i ρ => ∃ f a, ρ = [some (.d (po p)), some (.d (po q)), some (.d (po f)), a] ∧ Tr0 f ∧ (∀ x, ev f x = ev (p.drop (p.length - i)) (ev q x)) ∧ PS (D * E ^ i) (N * (V * M + 1) ^ i) (lenC K i) f) _ ⟨[], _, rfl, .nil, ?_, .nil (by rw [Nat.pow_zero]; have := hp.pos; omega)⟩ ?_ ?_
  · intro x; rw [Nat.sub_zero, List.drop_length]; rfl
  · rintro i ρ x hx ⟨f, a, rfl, ht, hv, hs⟩ R hR
    obtain ⟨c, hi, hcc, rfl⟩ := rev_get hx
    obtain ⟨b1, b2, b3, b4, b5⟩ := put_step (f := f) (r1 := f) hp hq hl hc hi
    simp only [pSeq, pNext, pAsg, pAsgT, pAug, pSub, pIf, pRet, pRetV, pRetN, pDrop, pPar, pPar3, pVar, pC, pOp, pUn, pNil, pCons, pTest, pTruth, pAnd, pOr, pNot, pAndV, pOrV, pNotV, pIfE, pTup, pLst, pF1, pF2, fLen, fTuple, fList, fAbs, fInt, fMax2, fMin2, fAll, fAny, pCall, pNever, p2I, p2I0, EV.two, EV.rd, EV.dat, EV.look, EV.seq, EV.lst, EV.wlk, EV.lsr, EV.sto, EV.ret, EV.arg, pNeg, pItems, pgName, pgTup, pgCons, pgNil, pYes, startE, List.map_cons, List.map_nil, List.cons_append, List.nil_append, List.length_cons, List.length_nil, Nat.reduceAdd, Nat.reduceSub, List.replicate_succ, List.replicate_zero, List.getElem?_cons_zero, List.getElem?_cons_succ, List.set_cons_zero, List.set_cons_succ, wipeE, EV.d.injEq, EV.l.injEq, PyData.int.injEq, PyData.bool.injEq, PyData.tuple.injEq, PyData.list.injEq, Option.some.injEq, exists_eq_left, exists_eq_left', true_and, and_true, List.mapM_cons, List.mapM_nil, bind_pure_comp, Option.pure_def, Option.bind_eq_bind, Option.bind_some, Option.map_some, Option.map_eq_map, truthD, if_true, if_false, reduceIte, Bool.false_eq_true, Bool.not_true, Bool.not_false, exists_and_left, exists_eq_left, decide_eq_true_eq, List.set_nil, pIx, pEq, pNe, pMul, pAdd, shaped_int, eqv_int, ix2_0, ix2_1, po]
    refine ⟨f, q, _, _, _, _, _, _, rfl, hs, hq, b1, hc.e, b2, b3, hc.k, fun r1 t1 v1 s1 => ?_⟩
    simp only [pSeq, pNext, pAsg, pAsgT, pAug, pSub, pIf, pRet, pRetV, pRetN, pDrop, pPar, pPar3, pVar, pC, pOp, pUn, pNil, pCons, pTest, pTruth, pAnd, pOr, pNot, pAndV, pOrV, pNotV, pIfE, pTup, pLst, pF1, pF2, fLen, fTuple, fList, fAbs, fInt, fMax2, fMin2, fAll, fAny, pCall, pNever, p2I, p2I0, EV.two, EV.rd, EV.dat, EV.look, EV.seq, EV.lst, EV.wlk, EV.lsr, EV.sto, EV.ret, EV.arg, pNeg, pItems, pgName, pgTup, pgCons, pgNil, pYes, startE, List.map_cons, List.map_nil, List.cons_append, List.nil_append, List.length_cons, List.length_nil, Nat.reduceAdd, Nat.reduceSub, List.replicate_succ, List.replicate_zero, List.getElem?_cons_zero, List.getElem?_cons_succ, List.set_cons_zero, List.set_cons_succ, wipeE, EV.d.injEq, EV.l.injEq, PyData.int.injEq, PyData.bool.injEq, PyData.tuple.injEq, PyData.list.injEq, Option.some.injEq, exists_eq_left, exists_eq_left', true_and, and_true, List.mapM_cons, List.mapM_nil, bind_pure_comp, Option.pure_def, Option.bind_eq_bind, Option.bind_some, Option.map_some, Option.map_eq_map, truthD, if_true, if_false, reduceIte, Bool.false_eq_true, Bool.not_true, Bool.not_false, exists_and_left, exists_eq_left, decide_eq_true_eq, List.set_nil, pIx, pEq, pNe, pMul, pAdd, shaped_int, eqv_int, ix2_0, ix2_1]
    refine ⟨by decide, _, [c], rfl, .inl rfl, by simp, fun m hm t2 v2 => ?_⟩
    have sc : Sz D N c := hp.sz c (List.mem_of_getElem? hcc)
    have s2 : PS (D * E ^ i * E) N (max (lenP (lenC K i) K) 1) ([c].take m) := ((((PS.one sc).take m).den (Nat.pow_pos hE)).den hE).mono (Nat.le_refl _) (Nat.le_max_right ..)
    refine ⟨r1, _, _, _, _, _, rfl, s1.mono (Nat.le_refl _) (Nat.le_max_left ..), s2, b5, ?_, fun r t v s => ⟨rfl, hR _ ⟨r, _, rfl, t, fun x => ?_, ?_⟩⟩⟩
    · rw [lenC_succ]
      have := hc.v; have := hc.v2; have := lenC_mono (K := K) (show i + 1 ≤ L by omega); omega
    · rw [show ev r x = ev r1 x + ev ([c].take m) x from v x, show ev r1 x = ev f x * ev q x from v1 x, hv, ev_take_le v2, show p.length - (i + 1) = p.length - 1 - i by omega, ev_drop_succ hcc, show p.length - 1 - i + 1 = p.length - i by omega]
      grind
    · rw [lenC_succ] at s
      have := s.mono b4 (Nat.le_refl _)
      rw [Nat.mul_assoc, ← Nat.pow_succ] at this
      exact this
  · rintro ρ ⟨f, a, rfl, ht, hv, hs⟩
    rw [List.length_reverse, List.length_map, Nat.sub_self] at *
    simp only [pSeq, pNext, pAsg, pAsgT, pAug, pSub, pIf, pRet, pRetV, pRetN, pDrop, pPar, pPar3, pVar, pC, pOp, pUn, pNil, pCons, pTest, pTruth, pAnd, pOr, pNot, pAndV, pOrV, pNotV, pIfE, pTup, pLst, pF1, pF2, fLen, fTuple, fList, fAbs, fInt, fMax2, fMin2, fAll, fAny, pCall, pNever, p2I, p2I0, EV.two, EV.rd, EV.dat, EV.look, EV.seq, EV.lst, EV.wlk, EV.lsr, EV.sto, EV.ret, EV.arg, pNeg, pItems, pgName, pgTup, pgCons, pgNil, pYes, startE, List.map_cons, List.map_nil, List.cons_append, List.nil_append, List.length_cons, List.length_nil, Nat.reduceAdd, Nat.reduceSub, List.replicate_succ, List.replicate_zero, List.getElem?_cons_zero, List.getElem?_cons_succ, List.set_cons_zero, List.set_cons_succ, wipeE, EV.d.injEq, EV.l.injEq, PyData.int.injEq, PyData.bool.injEq, PyData.tuple.injEq, PyData.list.injEq, Option.some.injEq, exists_eq_left, exists_eq_left', true_and, and_true, List.mapM_cons, List.mapM_nil, bind_pure_comp, Option.pure_def, Option.bind_eq_bind, Option.bind_some, Option.map_some, Option.map_eq_map, truthD, if_true, if_false, reduceIte, Bool.false_eq_true, Bool.not_true, Bool.not_false, exists_and_left, exists_eq_left, decide_eq_true_eq, List.set_nil, pIx, pEq, pNe, pMul, pAdd, shaped_int, eqv_int, ix2_0, ix2_1, po]
    rw [hl] at hs
    exact hQ f ht hv (hs.mono (Nat.le_refl _) hc.v)
end PL
namespace PL
open PySem PySem.Spec PyProof.Rows L2
def d_MOST_DEGREE : PyData := .int 60
def d_LEAST_DEGREE : PyData := .int 2
def d_MOST_FAR : PyData := .int 12
/-! what is asked of things -/
def isInt : PyData → Bool
  | .int _ => true
  | _ => false
def S_is_integer : FSpec := fun es Q => ∃ d, es = [.d d] ∧ Q (.d (.bool (isInt d)))
def T_is_integer : PTS := (pRet (pAndV (pIsi "int" (pVar 0)) (pNotV (pIsi "bool" (pVar 0)))))
theorem l_is_integer : ∀ es q, S_is_integer es q → es.length = 1 := by rintro es q ⟨a, rfl, _⟩; rfl
theorem p_is_integer : ∀ es q, S_is_integer es q → T_is_integer { nx := fun _ => q (.d .none), rt := q } (startE 1 es) := by
  rintro es q ⟨d, rfl, hq⟩
  unfold T_is_integer
  simp only [pSeq, pNext, pAsg, pAsgT, pAug, pSub, pIf, pRet, pRetV, pRetN, pDrop, pPar, pPar3, pVar, pC, pOp, pUn, pNil, pCons, pTest, pTruth, pAnd, pOr, pNot, pAndV, pOrV, pNotV, pIfE, pTup, pLst, pF1, pF2, fLen, fTuple, fList, fAbs, fInt, fMax2, fMin2, fAll, fAny, pCall, pNever, p2I, p2I0, EV.two, EV.rd, EV.dat, EV.look, EV.seq, EV.lst, EV.wlk, EV.lsr, EV.sto, EV.ret, EV.arg, pNeg, pItems, pgName, pgTup, pgCons, pgNil, pYes, startE, List.map_cons, List.map_nil, List.cons_append, List.nil_append, List.length_cons, List.length_nil, Nat.reduceAdd, Nat.reduceSub, List.replicate_succ, List.replicate_zero, List.getElem?_cons_zero, List.getElem?_cons_succ, List.set_cons_zero, List.set_cons_succ, wipeE, EV.d.injEq, EV.l.injEq, PyData.int.injEq, PyData.bool.injEq, PyData.tuple.injEq, PyData.list.injEq, Option.some.injEq, exists_eq_left, exists_eq_left', true_and, and_true, List.mapM_cons, List.mapM_nil, bind_pure_comp, Option.pure_def, Option.bind_eq_bind, Option.bind_some, Option.map_some, Option.map_eq_map, truthD, if_true, if_false, reduceIte, Bool.false_eq_true, Bool.not_true, Bool.not_false, exists_and_left, exists_eq_left, decide_eq_true_eq, List.set_nil, pIx, pEq, pNe, pMul, pAdd, shaped_int, eqv_int, ix2_0, ix2_1, pIsi]
  cases d <;> exact hq
def S_is_tuple_of : FSpec := fun es Q => ∃ d k, es = [.d d, .d (.int k)] ∧ Q (.d (.bool (match d with | .tuple xs => decide ((xs.length : Int) = k) | _ => false)))
def T_is_tuple_of : PTS := (pRet (pAndV (pIsi "tuple" (pVar 0)) (pOp pEq (pF1 fLen (pVar 0)) (pVar 1))))
theorem l_is_tuple_of : ∀ es q, S_is_tuple_of es q → es.length = 2 := by rintro es q ⟨a, _, rfl, _⟩; rfl
theorem p_is_tuple_of : ∀ es q, S_is_tuple_of es q → T_is_tuple_of { nx := fun _ => q (.d .none), rt := q } (startE 2 es) := by
  rintro es q ⟨d, k, rfl, hq⟩
  unfold T_is_tuple_of
  simp only [pSeq, pNext, pAsg, pAsgT, pAug, pSub, pIf, pRet, pRetV, pRetN, pDrop, pPar, pPar3, pVar, pC, pOp, pUn, pNil, pCons, pTest, pTruth, pAnd, pOr, pNot, pAndV, pOrV, pNotV, pIfE, pTup, pLst, pF1, pF2, fLen, fTuple, fList, fAbs, fInt, fMax2, fMin2, fAll, fAny, pCall, pNever, p2I, p2I0, EV.two, EV.rd, EV.dat, EV.look, EV.seq, EV.lst, EV.wlk, EV.lsr, EV.sto, EV.ret, EV.arg, pNeg, pItems, pgName, pgTup, pgCons, pgNil, pYes, startE, List.map_cons, List.map_nil, List.cons_append, List.nil_append, List.length_cons, List.length_nil, Nat.reduceAdd, Nat.reduceSub, List.replicate_succ, List.replicate_zero, List.getElem?_cons_zero, List.getElem?_cons_succ, List.set_cons_zero, List.set_cons_succ, wipeE, EV.d.injEq, EV.l.injEq, PyData.int.injEq, PyData.bool.injEq, PyData.tuple.injEq, PyData.list.injEq, Option.some.injEq, exists_eq_left, exists_eq_left', true_and, and_true, List.mapM_cons, List.mapM_nil, bind_pure_comp, Option.pure_def, Option.bind_eq_bind, Option.bind_some, Option.map_some, Option.map_eq_map, truthD, if_true, if_false, reduceIte, Bool.false_eq_true, Bool.not_true, Bool.not_false, exists_and_left, exists_eq_left, decide_eq_true_eq, List.set_nil, pIx, pEq, pNe, pMul, pAdd, shaped_int, eqv_int, ix2_0, ix2_1, pIsi]
  cases d
  case tuple xs =>
    have : PyData.isi "tuple" (.tuple xs) = true := rfl
    simp only [pSeq, pNext, pAsg, pAsgT, pAug, pSub, pIf, pRet, pRetV, pRetN, pDrop, pPar, pPar3, pVar, pC, pOp, pUn, pNil, pCons, pTest, pTruth, pAnd, pOr, pNot, pAndV, pOrV, pNotV, pIfE, pTup, pLst, pF1, pF2, fLen, fTuple, fList, fAbs, fInt, fMax2, fMin2, fAll, fAny, pCall, pNever, p2I, p2I0, EV.two, EV.rd, EV.dat, EV.look, EV.seq, EV.lst, EV.wlk, EV.lsr, EV.sto, EV.ret, EV.arg, pNeg, pItems, pgName, pgTup, pgCons, pgNil, pYes, startE, List.map_cons, List.map_nil, List.cons_append, List.nil_append, List.length_cons, List.length_nil, Nat.reduceAdd, Nat.reduceSub, List.replicate_succ, List.replicate_zero, List.getElem?_cons_zero, List.getElem?_cons_succ, List.set_cons_zero, List.set_cons_succ, wipeE, EV.d.injEq, EV.l.injEq, PyData.int.injEq, PyData.bool.injEq, PyData.tuple.injEq, PyData.list.injEq, Option.some.injEq, exists_eq_left, exists_eq_left', true_and, and_true, List.mapM_cons, List.mapM_nil, bind_pure_comp, Option.pure_def, Option.bind_eq_bind, Option.bind_some, Option.map_some, Option.map_eq_map, truthD, if_true, if_false, reduceIte, Bool.false_eq_true, Bool.not_true, Bool.not_false, exists_and_left, exists_eq_left, decide_eq_true_eq, List.set_nil, pIx, pEq, pNe, pMul, pAdd, shaped_int, eqv_int, ix2_0, ix2_1, this]
    exact hq
  all_goals exact hq
def isFrac : PyData → Bool
  | .tuple [.int n, .int m] => decide (1 ≤ m) && decide (Int.gcd n m = 1)
  | _ => false
def S_is_fraction : FSpec := fun es Q => ∃ d, es = [.d d] ∧ Q (.d (.bool (isFrac d)))
def T_is_fraction : PTS := (pSeq (pIf (pOr (pNot (pTruth (pCall S_is_tuple_of (pCons (pVar 0) (pCons (pC (.int 2)) pNil))))) (pOr (pNot (pTruth (pCall S_is_integer (pCons (pOp pIx (pVar 0) (pC (.int 0))) pNil)))) (pOr (pNot (pTruth (pCall S_is_integer (pCons (pOp pIx (pVar 0) (pC (.int 1))) pNil)))) (pTest (pOp pLt (pOp pIx (pVar 0) (pC (.int 1))) (pC (.int 1))))))) (pRet (pC (.bool false))) pNext) (pRet (pOp pEq (pCall S_common (pCons (pOp pIx (pVar 0) (pC (.int 0))) (pCons (pOp pIx (pVar 0) (pC (.int 1))) pNil))) (pC (.int 1)))))
theorem l_is_fraction : ∀ es q, S_is_fraction es q → es.length = 1 := by rintro es q ⟨a, rfl, _⟩; rfl
theorem p_is_fraction : ∀ es q, S_is_fraction es q → T_is_fraction { nx := fun _ => q (.d .none), rt := q } (startE 1 es) := by
  rintro es q ⟨d, rfl, hq⟩
  unfold T_is_fraction
  simp only [pSeq, pNext, pAsg, pAsgT, pAug, pSub, pIf, pRet, pRetV, pRetN, pDrop, pPar, pPar3, pVar, pC, pOp, pUn, pNil, pCons, pTest, pTruth, pAnd, pOr, pNot, pAndV, pOrV, pNotV, pIfE, pTup, pLst, pF1, pF2, fLen, fTuple, fList, fAbs, fInt, fMax2, fMin2, fAll, fAny, pCall, pNever, p2I, p2I0, EV.two, EV.rd, EV.dat, EV.look, EV.seq, EV.lst, EV.wlk, EV.lsr, EV.sto, EV.ret, EV.arg, pNeg, pItems, pgName, pgTup, pgCons, pgNil, pYes, startE, List.map_cons, List.map_nil, List.cons_append, List.nil_append, List.length_cons, List.length_nil, Nat.reduceAdd, Nat.reduceSub, List.replicate_succ, List.replicate_zero, List.getElem?_cons_zero, List.getElem?_cons_succ, List.set_cons_zero, List.set_cons_succ, wipeE, EV.d.injEq, EV.l.injEq, PyData.int.injEq, PyData.bool.injEq, PyData.tuple.injEq, PyData.list.injEq, Option.some.injEq, exists_eq_left, exists_eq_left', true_and, and_true, List.mapM_cons, List.mapM_nil, bind_pure_comp, Option.pure_def, Option.bind_eq_bind, Option.bind_some, Option.map_some, Option.map_eq_map, truthD, if_true, if_false, reduceIte, Bool.false_eq_true, Bool.not_true, Bool.not_false, exists_and_left, exists_eq_left, decide_eq_true_eq, List.set_nil, pIx, pEq, pNe, pMul, pAdd, shaped_int, eqv_int, ix2_0, ix2_1]
  have no : ∀ d, (∀ xs, d ≠ .tuple xs) → isFrac d = false := fun d h => by
    cases d <;> first | rfl | exact absurd rfl (h _)
  cases d
  case tuple xs =>
    refine ⟨_, _, rfl, _, rfl, _, rfl, ?_⟩
    simp only [decide_eq_true_eq]
    by_cases h2 : (xs.length : Int) = 2
    · rw [decide_eq_true h2]
      simp only [pSeq, pNext, pAsg, pAsgT, pAug, pSub, pIf, pRet, pRetV, pRetN, pDrop, pPar, pPar3, pVar, pC, pOp, pUn, pNil, pCons, pTest, pTruth, pAnd, pOr, pNot, pAndV, pOrV, pNotV, pIfE, pTup, pLst, pF1, pF2, fLen, fTuple, fList, fAbs, fInt, fMax2, fMin2, fAll, fAny, pCall, pNever, p2I, p2I0, EV.two, EV.rd, EV.dat, EV.look, EV.seq, EV.lst, EV.wlk, EV.lsr, EV.sto, EV.ret, EV.arg, pNeg, pItems, pgName, pgTup, pgCons, pgNil, pYes, startE, List.map_cons, List.map_nil, List.cons_append, List.nil_append, List.length_cons, List.length_nil, Nat.reduceAdd, Nat.reduceSub, List.replicate_succ, List.replicate_zero, List.getElem?_cons_zero, List.getElem?_cons_succ, List.set_cons_zero, List.set_cons_succ, wipeE, EV.d.injEq, EV.l.injEq, PyData.int.injEq, PyData.bool.injEq, PyData.tuple.injEq, PyData.list.injEq, Option.some.injEq, exists_eq_left, exists_eq_left', true_and, and_true, List.mapM_cons, List.mapM_nil, bind_pure_comp, Option.pure_def, Option.bind_eq_bind, Option.bind_some, Option.map_some, Option.map_eq_map, truthD, if_true, if_false, reduceIte, Bool.false_eq_true, Bool.not_true, Bool.not_false, exists_and_left, exists_eq_left, decide_eq_true_eq, List.set_nil, pIx, pEq, pNe, pMul, pAdd, shaped_int, eqv_int, ix2_0, ix2_1]
      match xs, h2 with
      | [x, y], _ =>
        simp only [pSeq, pNext, pAsg, pAsgT, pAug, pSub, pIf, pRet, pRetV, pRetN, pDrop, pPar, pPar3, pVar, pC, pOp, pUn, pNil, pCons, pTest, pTruth, pAnd, pOr, pNot, pAndV, pOrV, pNotV, pIfE, pTup, pLst, pF1, pF2, fLen, fTuple, fList, fAbs, fInt, fMax2, fMin2, fAll, fAny, pCall, pNever, p2I, p2I0, EV.two, EV.rd, EV.dat, EV.look, EV.seq, EV.lst, EV.wlk, EV.lsr, EV.sto, EV.ret, EV.arg, pNeg, pItems, pgName, pgTup, pgCons, pgNil, pYes, startE, List.map_cons, List.map_nil, List.cons_append, List.nil_append, List.length_cons, List.length_nil, Nat.reduceAdd, Nat.reduceSub, List.replicate_succ, List.replicate_zero, List.getElem?_cons_zero, List.getElem?_cons_succ, List.set_cons_zero, List.set_cons_succ, wipeE, EV.d.injEq, EV.l.injEq, PyData.int.injEq, PyData.bool.injEq, PyData.tuple.injEq, PyData.list.injEq, Option.some.injEq, exists_eq_left, exists_eq_left', true_and, and_true, List.mapM_cons, List.mapM_nil, bind_pure_comp, Option.pure_def, Option.bind_eq_bind, Option.bind_some, Option.map_some, Option.map_eq_map, truthD, if_true, if_false, reduceIte, Bool.false_eq_true, Bool.not_true, Bool.not_false, exists_and_left, exists_eq_left, decide_eq_true_eq, List.set_nil, pIx, pEq, pNe, pMul, pAdd, shaped_int, eqv_int, ix2_0, ix2_1]
        refine ⟨_, rfl, _, rfl, _, rfl, ?_⟩
        cases x
        case int n _ =>
          simp only [isInt, pSeq, pNext, pAsg, pAsgT, pAug, pSub, pIf, pRet, pRetV, pRetN, pDrop, pPar, pPar3, pVar, pC, pOp, pUn, pNil, pCons, pTest, pTruth, pAnd, pOr, pNot, pAndV, pOrV, pNotV, pIfE, pTup, pLst, pF1, pF2, fLen, fTuple, fList, fAbs, fInt, fMax2, fMin2, fAll, fAny, pCall, pNever, p2I, p2I0, EV.two, EV.rd, EV.dat, EV.look, EV.seq, EV.lst, EV.wlk, EV.lsr, EV.sto, EV.ret, EV.arg, pNeg, pItems, pgName, pgTup, pgCons, pgNil, pYes, startE, List.map_cons, List.map_nil, List.cons_append, List.nil_append, List.length_cons, List.length_nil, Nat.reduceAdd, Nat.reduceSub, List.replicate_succ, List.replicate_zero, List.getElem?_cons_zero, List.getElem?_cons_succ, List.set_cons_zero, List.set_cons_succ, wipeE, EV.d.injEq, EV.l.injEq, PyData.int.injEq, PyData.bool.injEq, PyData.tuple.injEq, PyData.list.injEq, Option.some.injEq, exists_eq_left, exists_eq_left', true_and, and_true, List.mapM_cons, List.mapM_nil, bind_pure_comp, Option.pure_def, Option.bind_eq_bind, Option.bind_some, Option.map_some, Option.map_eq_map, truthD, if_true, if_false, reduceIte, Bool.false_eq_true, Bool.not_true, Bool.not_false, exists_and_left, exists_eq_left, decide_eq_true_eq, List.set_nil, pIx, pEq, pNe, pMul, pAdd, shaped_int, eqv_int, ix2_0, ix2_1]
          refine ⟨_, rfl, _, rfl, _, rfl, ?_⟩
          cases y
          case int m _ =>
            simp only [isInt, pSeq, pNext, pAsg, pAsgT, pAug, pSub, pIf, pRet, pRetV, pRetN, pDrop, pPar, pPar3, pVar, pC, pOp, pUn, pNil, pCons, pTest, pTruth, pAnd, pOr, pNot, pAndV, pOrV, pNotV, pIfE, pTup, pLst, pF1, pF2, fLen, fTuple, fList, fAbs, fInt, fMax2, fMin2, fAll, fAny, pCall, pNever, p2I, p2I0, EV.two, EV.rd, EV.dat, EV.look, EV.seq, EV.lst, EV.wlk, EV.lsr, EV.sto, EV.ret, EV.arg, pNeg, pItems, pgName, pgTup, pgCons, pgNil, pYes, startE, List.map_cons, List.map_nil, List.cons_append, List.nil_append, List.length_cons, List.length_nil, Nat.reduceAdd, Nat.reduceSub, List.replicate_succ, List.replicate_zero, List.getElem?_cons_zero, List.getElem?_cons_succ, List.set_cons_zero, List.set_cons_succ, wipeE, EV.d.injEq, EV.l.injEq, PyData.int.injEq, PyData.bool.injEq, PyData.tuple.injEq, PyData.list.injEq, Option.some.injEq, exists_eq_left, exists_eq_left', true_and, and_true, List.mapM_cons, List.mapM_nil, bind_pure_comp, Option.pure_def, Option.bind_eq_bind, Option.bind_some, Option.map_some, Option.map_eq_map, truthD, if_true, if_false, reduceIte, Bool.false_eq_true, Bool.not_true, Bool.not_false, exists_and_left, exists_eq_left, decide_eq_true_eq, List.set_nil, pIx, pEq, pNe, pMul, pAdd, shaped_int, eqv_int, ix2_0, ix2_1]
            by_cases h : m < 1
            · rw [if_pos h]
              have e : isFrac (.tuple [.int n, .int m]) = false := by simp only [isFrac]; rw [decide_eq_false (by omega)]; rfl
              rw [e] at hq
              exact hq
            · rw [if_neg h]
              refine ⟨_, _, rfl, _, rfl, rfl, ?_⟩
              have e : isFrac (.tuple [.int n, .int m]) = decide ((Int.gcd n m : Int) = 1) := by
                simp only [isFrac]; rw [decide_eq_true (by omega), Bool.true_and]
                exact decide_eq_decide.mpr (by omega)
              rw [e] at hq
              rw [eqv_int]
              exact hq
          all_goals first | exact hq | exact ⟨rfl, hq⟩
        all_goals first | exact hq | exact ⟨rfl, hq⟩
    · rw [decide_eq_false h2]
      simp only [pSeq, pNext, pAsg, pAsgT, pAug, pSub, pIf, pRet, pRetV, pRetN, pDrop, pPar, pPar3, pVar, pC, pOp, pUn, pNil, pCons, pTest, pTruth, pAnd, pOr, pNot, pAndV, pOrV, pNotV, pIfE, pTup, pLst, pF1, pF2, fLen, fTuple, fList, fAbs, fInt, fMax2, fMin2, fAll, fAny, pCall, pNever, p2I, p2I0, EV.two, EV.rd, EV.dat, EV.look, EV.seq, EV.lst, EV.wlk, EV.lsr, EV.sto, EV.ret, EV.arg, pNeg, pItems, pgName, pgTup, pgCons, pgNil, pYes, startE, List.map_cons, List.map_nil, List.cons_append, List.nil_append, List.length_cons, List.length_nil, Nat.reduceAdd, Nat.reduceSub, List.replicate_succ, List.replicate_zero, List.getElem?_cons_zero, List.getElem?_cons_succ, List.set_cons_zero, List.set_cons_succ, wipeE, EV.d.injEq, EV.l.injEq, PyData.int.injEq, PyData.bool.injEq, PyData.tuple.injEq, PyData.list.injEq, Option.some.injEq, exists_eq_left, exists_eq_left', true_and, and_true, List.mapM_cons, List.mapM_nil, bind_pure_comp, Option.pure_def, Option.bind_eq_bind, Option.bind_some, Option.map_some, Option.map_eq_map, truthD, if_true, if_false, reduceIte, Bool.false_eq_true, Bool.not_true, Bool.not_false, exists_and_left, exists_eq_left, decide_eq_true_eq, List.set_nil, pIx, pEq, pNe, pMul, pAdd, shaped_int, eqv_int, ix2_0, ix2_1]
      have e : isFrac (.tuple xs) = false := by
        match xs, h2 with
        | [], _ => rfl
        | [a], _ => cases a <;> rfl
        | [_, _], h => exact absurd rfl h
        | a :: b :: _ :: _, _ => cases a <;> first | rfl | (cases b <;> rfl)
      rw [e] at hq
      exact hq
  all_goals exact ⟨_, _, rfl, _, rfl, _, rfl, hq⟩
theorem isFrac_fr (x : Rat) : isFrac (fr x) = true := by
  unfold fr
  simp only [isFrac]
  have h1 := x.den_pos
  have h2 : Int.gcd x.num x.den = 1 := x.reduced
  rw [h2, decide_eq_true (by omega)]; rfl
def S_need_fraction : FSpec := fun es Q => ∃ d, es = [.d d] ∧ isFrac d = true ∧ Q (.d .none)
def T_need_fraction : PTS := (pIf (pNot (pTruth (pCall S_is_fraction (pCons (pVar 0) pNil)))) pNever pNext)
theorem l_need_fraction : ∀ es q, S_need_fraction es q → es.length = 1 := by rintro es q ⟨a, rfl, _⟩; rfl
theorem p_need_fraction : ∀ es q, S_need_fraction es q → T_need_fraction { nx := fun _ => q (.d .none), rt := q } (startE 1 es) := by
  rintro es q ⟨d, rfl, hd, hq⟩
  unfold T_need_fraction
  simp only [pSeq, pNext, pAsg, pAsgT, pAug, pSub, pIf, pRet, pRetV, pRetN, pDrop, pPar, pPar3, pVar, pC, pOp, pUn, pNil, pCons, pTest, pTruth, pAnd, pOr, pNot, pAndV, pOrV, pNotV, pIfE, pTup, pLst, pF1, pF2, fLen, fTuple, fList, fAbs, fInt, fMax2, fMin2, fAll, fAny, pCall, pNever, p2I, p2I0, EV.two, EV.rd, EV.dat, EV.look, EV.seq, EV.lst, EV.wlk, EV.lsr, EV.sto, EV.ret, EV.arg, pNeg, pItems, pgName, pgTup, pgCons, pgNil, pYes, startE, List.map_cons, List.map_nil, List.cons_append, List.nil_append, List.length_cons, List.length_nil, Nat.reduceAdd, Nat.reduceSub, List.replicate_succ, List.replicate_zero, List.getElem?_cons_zero, List.getElem?_cons_succ, List.set_cons_zero, List.set_cons_succ, wipeE, EV.d.injEq, EV.l.injEq, PyData.int.injEq, PyData.bool.injEq, PyData.tuple.injEq, PyData.list.injEq, Option.some.injEq, exists_eq_left, exists_eq_left', true_and, and_true, List.mapM_cons, List.mapM_nil, bind_pure_comp, Option.pure_def, Option.bind_eq_bind, Option.bind_some, Option.map_some, Option.map_eq_map, truthD, if_true, if_false, reduceIte, Bool.false_eq_true, Bool.not_true, Bool.not_false, exists_and_left, exists_eq_left, decide_eq_true_eq, List.set_nil, pIx, pEq, pNe, pMul, pAdd, shaped_int, eqv_int, ix2_0, ix2_1]
  refine ⟨_, rfl, _, rfl, _, rfl, ?_⟩
  rw [hd]
  exact hq
def S_is_poly : FSpec := fun es Q => ∃ p, es = [.d (po p)] ∧ Tr0 p ∧ p.length ≤ 61 ∧ Q (.d (.bool true))
def T_is_poly : PTS := (pSeq (pIf (pOr (pNot (pTruth (pIsi "tuple" (pVar 0)))) (pOr (pTest (pOp pGt (pF1 fLen (pVar 0)) (pOp pAdd (pC d_MOST_DEGREE) (pC (.int 1))))) (pNot (pTruth (pF1 fAll (pLc (pItems (pVar 0)) (pgName 1) pYes (pCall S_is_fraction (pCons (pVar 1) pNil)) [1])))))) (pRet (pC (.bool false))) pNext) (pRet (pOrV (pOp pEq (pVar 0) (pTup pNil)) (pOp pNe (pOp pIx (pVar 0) (pUn pNeg (pC (.int 1)))) (pC d_ZERO)))))
theorem l_is_poly : ∀ es q, S_is_poly es q → es.length = 1 := by rintro es q ⟨a, rfl, _⟩; rfl
theorem eqv_po (p q : List Rat) : PyData.eqv (po p) (po q) = decide (p = q) := by
  unfold po
  simp only [PyData.eqv]
  induction p generalizing q with
  | nil => cases q <;> simp [PyData.eqvAll]
  | cons a p ih =>
    cases q with
    | nil => simp [PyData.eqvAll]
    | cons b q =>
      rw [List.map_cons, List.map_cons, PyData.eqvAll, eqv_fr, ih, ← Bool.decide_and]
      exact decide_eq_decide.mpr (by rw [List.cons.injEq])
theorem p_is_poly : ∀ es q, S_is_poly es q → T_is_poly { nx := fun _ => q (.d .none), rt := q } (startE 2 es) := by
  rintro es q ⟨p, rfl, ht, hl, hq⟩
  unfold T_is_poly
  have hi : PyData.isi "tuple" (.tuple (p.map fr)) = true := rfl
  simp only [pSeq, pNext, pAsg, pAsgT, pAug, pSub, pIf, pRet, pRetV, pRetN, pDrop, pPar, pPar3, pVar, pC, pOp, pUn, pNil, pCons, pTest, pTruth, pAnd, pOr, pNot, pAndV, pOrV, pNotV, pIfE, pTup, pLst, pF1, pF2, fLen, fTuple, fList, fAbs, fInt, fMax2, fMin2, fAll, fAny, pCall, pNever, p2I, p2I0, EV.two, EV.rd, EV.dat, EV.look, EV.seq, EV.lst, EV.wlk, EV.lsr, EV.sto, EV.ret, EV.arg, pNeg, pItems, pgName, pgTup, pgCons, pgNil, pYes, startE, List.map_cons, List.map_nil, List.cons_append, List.nil_append, List.length_cons, List.length_nil, Nat.reduceAdd, Nat.reduceSub, List.replicate_succ, List.replicate_zero, List.getElem?_cons_zero, List.getElem?_cons_succ, List.set_cons_zero, List.set_cons_succ, wipeE, EV.d.injEq, EV.l.injEq, PyData.int.injEq, PyData.bool.injEq, PyData.tuple.injEq, PyData.list.injEq, Option.some.injEq, exists_eq_left, exists_eq_left', true_and, and_true, List.mapM_cons, List.mapM_nil, bind_pure_comp, Option.pure_def, Option.bind_eq_bind, Option.bind_some, Option.map_some, Option.map_eq_map, truthD, if_true, if_false, reduceIte, Bool.false_eq_true, Bool.not_true, Bool.not_false, exists_and_left, exists_eq_left, decide_eq_true_eq, List.set_nil, pIx, pEq, pNe, pMul, pAdd, shaped_int, eqv_int, ix2_0, ix2_1, pIsi, po, List.length_map, hi, d_MOST_DEGREE, pLc]
  rw [if_neg (by omega)]
  refine ⟨by omega, pLcL_map _ (fun _ => .bool true) _ (fun c hc R hR => ?_) mon_name mon_yes ?_⟩
  · simp only [pSeq, pNext, pAsg, pAsgT, pAug, pSub, pIf, pRet, pRetV, pRetN, pDrop, pPar, pPar3, pVar, pC, pOp, pUn, pNil, pCons, pTest, pTruth, pAnd, pOr, pNot, pAndV, pOrV, pNotV, pIfE, pTup, pLst, pF1, pF2, fLen, fTuple, fList, fAbs, fInt, fMax2, fMin2, fAll, fAny, pCall, pNever, p2I, p2I0, EV.two, EV.rd, EV.dat, EV.look, EV.seq, EV.lst, EV.wlk, EV.lsr, EV.sto, EV.ret, EV.arg, pNeg, pItems, pgName, pgTup, pgCons, pgNil, pYes, startE, List.map_cons, List.map_nil, List.cons_append, List.nil_append, List.length_cons, List.length_nil, Nat.reduceAdd, Nat.reduceSub, List.replicate_succ, List.replicate_zero, List.getElem?_cons_zero, List.getElem?_cons_succ, List.set_cons_zero, List.set_cons_succ, wipeE, EV.d.injEq, EV.l.injEq, PyData.int.injEq, PyData.bool.injEq, PyData.tuple.injEq, PyData.list.injEq, Option.some.injEq, exists_eq_left, exists_eq_left', true_and, and_true, List.mapM_cons, List.mapM_nil, bind_pure_comp, Option.pure_def, Option.bind_eq_bind, Option.bind_some, Option.map_some, Option.map_eq_map, truthD, if_true, if_false, reduceIte, Bool.false_eq_true, Bool.not_true, Bool.not_false, exists_and_left, exists_eq_left, decide_eq_true_eq, List.set_nil, pIx, pEq, pNe, pMul, pAdd, shaped_int, eqv_int, ix2_0, ix2_1]
    exact ⟨_, rfl, _, rfl, by rw [isFrac_fr]; exact hR⟩
  · refine ⟨p.map fun _ => true, by rw [List.map_map]; rfl, ?_⟩
    have e : (p.map fun _ => true).all id = true := by simp
    simp only [e, pSeq, pNext, pAsg, pAsgT, pAug, pSub, pIf, pRet, pRetV, pRetN, pDrop, pPar, pPar3, pVar, pC, pOp, pUn, pNil, pCons, pTest, pTruth, pAnd, pOr, pNot, pAndV, pOrV, pNotV, pIfE, pTup, pLst, pF1, pF2, fLen, fTuple, fList, fAbs, fInt, fMax2, fMin2, fAll, fAny, pCall, pNever, p2I, p2I0, EV.two, EV.rd, EV.dat, EV.look, EV.seq, EV.lst, EV.wlk, EV.lsr, EV.sto, EV.ret, EV.arg, pNeg, pItems, pgName, pgTup, pgCons, pgNil, pYes, startE, List.map_cons, List.map_nil, List.cons_append, List.nil_append, List.length_cons, List.length_nil, Nat.reduceAdd, Nat.reduceSub, List.replicate_succ, List.replicate_zero, List.getElem?_cons_zero, List.getElem?_cons_succ, List.set_cons_zero, List.set_cons_succ, wipeE, EV.d.injEq, EV.l.injEq, PyData.int.injEq, PyData.bool.injEq, PyData.tuple.injEq, PyData.list.injEq, Option.some.injEq, exists_eq_left, exists_eq_left', true_and, and_true, List.mapM_cons, List.mapM_nil, bind_pure_comp, Option.pure_def, Option.bind_eq_bind, Option.bind_some, Option.map_some, Option.map_eq_map, truthD, if_true, if_false, reduceIte, Bool.false_eq_true, Bool.not_true, Bool.not_false, exists_and_left, exists_eq_left, decide_eq_true_eq, List.set_nil, pIx, pEq, pNe, pMul, pAdd, shaped_int, eqv_int, ix2_0, ix2_1]
    refine ⟨by decide, shaped_po p, rfl, ?_⟩
    have en := eqv_po p []
    simp only [po, List.map_nil] at en
    rw [en]
    by_cases hp : p = []
    · rw [decide_eq_true hp, if_pos rfl]; exact hq
    · rw [decide_eq_false hp, if_neg (by simp)]
      have hlen := List.length_pos_iff.mpr hp
      have hlast : p[p.length - 1]? = some (p[p.length - 1]'(by omega)) := List.getElem?_eq_getElem _
      refine ⟨fr (p[p.length - 1]'(by omega)), ?_, shaped_fr _, shaped_zero, ?_⟩
      · have := atI_neg (p.map fr) 0 (by rw [List.length_map]; omega)
        rw [Int.natCast_zero, Int.zero_add] at this
        rw [this, List.length_map, Nat.sub_zero, List.getElem?_map, hlast]; rfl
      · rw [eqv_zero, decide_eq_false (ht _ (by rw [List.getLast?_eq_getElem?]; exact hlast))]
        exact hq
def S_is_far : FSpec := fun es Q => ∃ p, es = [.d (po p)] ∧ Tr0 p ∧ 3 ≤ p.length ∧ p.length ≤ 13 ∧ Q (.d (.bool true))
def T_is_far : PTS := (pRet (pAndV (pCall S_is_poly (pCons (pVar 0) pNil)) (pChain pLt pLe (pC d_LEAST_DEGREE) (pF1 fLen (pVar 0)) (pOp pAdd (pC d_MOST_FAR) (pC (.int 1))))))
theorem l_is_far : ∀ es q, S_is_far es q → es.length = 1 := by rintro es q ⟨a, rfl, _⟩; rfl
theorem p_is_far : ∀ es q, S_is_far es q → T_is_far { nx := fun _ => q (.d .none), rt := q } (startE 1 es) := by
  rintro es q ⟨p, rfl, ht, h1, h2, hq⟩
  unfold T_is_far
  simp only [pSeq, pNext, pAsg, pAsgT, pAug, pSub, pIf, pRet, pRetV, pRetN, pDrop, pPar, pPar3, pVar, pC, pOp, pUn, pNil, pCons, pTest, pTruth, pAnd, pOr, pNot, pAndV, pOrV, pNotV, pIfE, pTup, pLst, pF1, pF2, fLen, fTuple, fList, fAbs, fInt, fMax2, fMin2, fAll, fAny, pCall, pNever, p2I, p2I0, EV.two, EV.rd, EV.dat, EV.look, EV.seq, EV.lst, EV.wlk, EV.lsr, EV.sto, EV.ret, EV.arg, pNeg, pItems, pgName, pgTup, pgCons, pgNil, pYes, startE, List.map_cons, List.map_nil, List.cons_append, List.nil_append, List.length_cons, List.length_nil, Nat.reduceAdd, Nat.reduceSub, List.replicate_succ, List.replicate_zero, List.getElem?_cons_zero, List.getElem?_cons_succ, List.set_cons_zero, List.set_cons_succ, wipeE, EV.d.injEq, EV.l.injEq, PyData.int.injEq, PyData.bool.injEq, PyData.tuple.injEq, PyData.list.injEq, Option.some.injEq, exists_eq_left, exists_eq_left', true_and, and_true, List.mapM_cons, List.mapM_nil, bind_pure_comp, Option.pure_def, Option.bind_eq_bind, Option.bind_some, Option.map_some, Option.map_eq_map, truthD, if_true, if_false, reduceIte, Bool.false_eq_true, Bool.not_true, Bool.not_false, exists_and_left, exists_eq_left, decide_eq_true_eq, List.set_nil, pIx, pEq, pNe, pMul, pAdd, shaped_int, eqv_int, ix2_0, ix2_1, pChain, po, List.length_map, d_LEAST_DEGREE, d_MOST_FAR]
  refine ⟨p, rfl, ht, by omega, _, rfl, ?_⟩
  rw [if_pos rfl, if_pos (by omega), decide_eq_true (by omega)]
  exact hq
def S_need_far : FSpec := fun es Q => ∃ p, es = [.d (po p)] ∧ Tr0 p ∧ 3 ≤ p.length ∧ p.length ≤ 13 ∧ Q (.d .none)
def T_need_far : PTS := (pIf (pNot (pTruth (pCall S_is_far (pCons (pVar 0) pNil)))) pNever pNext)
theorem l_need_far : ∀ es q, S_need_far es q → es.length = 1 := by rintro es q ⟨a, rfl, _⟩; rfl
theorem p_need_far : ∀ es q, S_need_far es q → T_need_far { nx := fun _ => q (.d .none), rt := q } (startE 1 es) := by
  rintro es q ⟨p, rfl, ht, h1, h2, hq⟩
  unfold T_need_far
  simp only [pSeq, pNext, pAsg, pAsgT, pAug, pSub, pIf, pRet, pRetV, pRetN, pDrop, pPar, pPar3, pVar, pC, pOp, pUn, pNil, pCons, pTest, pTruth, pAnd, pOr, pNot, pAndV, pOrV, pNotV, pIfE, pTup, pLst, pF1, pF2, fLen, fTuple, fList, fAbs, fInt, fMax2, fMin2, fAll, fAny, pCall, pNever, p2I, p2I0, EV.two, EV.rd, EV.dat, EV.look, EV.seq, EV.lst, EV.wlk, EV.lsr, EV.sto, EV.ret, EV.arg, pNeg, pItems, pgName, pgTup, pgCons, pgNil, pYes, startE, List.map_cons, List.map_nil, List.cons_append, List.nil_append, List.length_cons, List.length_nil, Nat.reduceAdd, Nat.reduceSub, List.replicate_succ, List.replicate_zero, List.getElem?_cons_zero, List.getElem?_cons_succ, List.set_cons_zero, List.set_cons_succ, wipeE, EV.d.injEq, EV.l.injEq, PyData.int.injEq, PyData.bool.injEq, PyData.tuple.injEq, PyData.list.injEq, Option.some.injEq, exists_eq_left, exists_eq_left', true_and, and_true, List.mapM_cons, List.mapM_nil, bind_pure_comp, Option.pure_def, Option.bind_eq_bind, Option.bind_some, Option.map_some, Option.map_eq_map, truthD, if_true, if_false, reduceIte, Bool.false_eq_true, Bool.not_true, Bool.not_false, exists_and_left, exists_eq_left, decide_eq_true_eq, List.set_nil, pIx, pEq, pNe, pMul, pAdd, shaped_int, eqv_int, ix2_0, ix2_1]
  exact ⟨p, rfl, ht, h1, h2, _, rfl, _, rfl, hq⟩
end PL
namespace PL
open PySem PySem.Spec PyProof.Rows L2
/-- a, b to lead by -/
structure AB (A M : Nat) (a b : Rat) : Prop where
  ne : a ≠ 0
  one : 1 ≤ M
  bd : Bd A M
  sa : Sz A M a
  sb : Sz A M b
  sq : Sz A M (b / a)
  si : Sz A M (1 / a)
def ledD (D A L : Nat) : Nat := D * A ^ L * A
def ledN (N M L : Nat) : Nat := N * (L * M + 1) ^ L * M + M
def ledF (p : List Rat) (a b : Rat) (x : Rat) : Rat := a * ev p ((x - b) / a) + b
def S_raw_led : FSpec := fun es Q => ∃ p a b D N L A M, es = [.d (po p), .d (fr a), .d (fr b)] ∧ PS D N L p ∧ p.length = L ∧ 1 ≤ L ∧ L ≤ 50 ∧ AB A M a b ∧ Bd (ledD D A L) (ledN N M L) ∧ PoQ (ledD D A L) (ledN N M L) L (ledF p a b) Q
def T_raw_led : PTS := (pSeq (pAsg 3 (pCall S_trimmed (pCons (pLst (pCons (pCall S_raw_less (pCons (pC d_ZERO) (pCons (pCall S_raw_quotient (pCons (pVar 2) (pCons (pVar 1) pNil))) pNil))) (pCons (pCall S_raw_quotient (pCons (pC d_ONE) (pCons (pVar 1) pNil))) pNil))) pNil))) (pRet (pCall S_raw_poly_sum (pCons (pCall S_raw_poly_scaled (pCons (pCall S_raw_poly_put (pCons (pVar 0) (pCons (pVar 3) pNil))) (pCons (pVar 1) pNil))) (pCons (pCall S_trimmed (pCons (pLst (pCons (pVar 2) pNil)) pNil)) pNil)))))
theorem l_raw_led : ∀ es q, S_raw_led es q → es.length = 3 := by rintro es q ⟨a, b, _, _, _, _, _, _, rfl, _⟩; rfl
theorem Ok.zero : Ok 0 := ⟨by show (0 : Int).natAbs < _; exact Nat.pow_pos (by decide), by show 1 < _; exact Nat.one_lt_pow (by decide) (by decide)⟩
theorem Ok.one : Ok 1 := ⟨by show (1 : Int).natAbs < _; exact Nat.one_lt_pow (by decide) (by decide), by show 1 < _; exact Nat.one_lt_pow (by decide) (by decide)⟩
theorem back_PS {A M : Nat} {a b : Rat} (h : AB A M a b) : PS A M 2 [-(b / a), 1 / a] := ⟨h.sa.1, fun c hc => by
  rcases List.mem_cons.mp hc with rfl | hc
  · exact h.sq.neg
  · rw [List.mem_singleton.mp hc]; exact h.si, by simp⟩
theorem lenC2 (L : Nat) (h : 1 ≤ L) : lenC 2 L = L := by unfold lenC; rw [if_neg (by omega)]; omega
theorem led_cb {D N L A M : Nat} {p : List Rat} {a b : Rat} (hp : PS D N L p) (h1 : 1 ≤ L) (h2 : L ≤ 50) (h : AB A M a b) (hb : Bd (ledD D A L) (ledN N M L)) : CB D N L A M 2 L :=
  ⟨by omega, by omega, by rw [lenC2 L h1]; exact Nat.le_refl _, by omega, hb.le (Nat.le_mul_of_pos_right _ h.sa.1) (Nat.le_trans (Nat.le_mul_of_pos_right _ h.one) (Nat.le_add_right ..)), h.bd⟩
theorem led_val {p r0 : List Rat} {a b : Rat} (h : ∀ x, ev r0 x = ev p (ev [-(b / a), 1 / a] x)) (x : Rat) : ev r0 x = ev p ((x - b) / a) := by
  rw [h]
  congr 1
  simp only [ev_cons, ev_nil]
  rw [Rat.div_def, Rat.div_def, Rat.div_def]
  grind
theorem p_raw_led : ∀ es q, S_raw_led es q → T_raw_led { nx := fun _ => q (.d .none), rt := q } (startE 4 es) := by
  rintro es Q ⟨p, a, b, D, N, L, A, M, rfl, hp, hl, h1, h2, hab, hb, hQ⟩
  unfold T_raw_led
  have oa := hab.bd.ok hab.sa
  have ob := hab.bd.ok hab.sb
  have oq := hab.bd.ok hab.sq
  simp only [pSeq, pNext, pAsg, pAsgT, pAug, pSub, pIf, pRet, pRetV, pRetN, pDrop, pPar, pPar3, pVar, pC, pOp, pUn, pNil, pCons, pTest, pTruth, pAnd, pOr, pNot, pAndV, pOrV, pNotV, pIfE, pTup, pLst, pF1, pF2, fLen, fTuple, fList, fAbs, fInt, fMax2, fMin2, fAll, fAny, pCall, pNever, p2I, p2I0, EV.two, EV.rd, EV.dat, EV.look, EV.seq, EV.lst, EV.wlk, EV.lsr, EV.sto, EV.ret, EV.arg, pNeg, pItems, pgName, pgTup, pgCons, pgNil, pYes, startE, List.map_cons, List.map_nil, List.cons_append, List.nil_append, List.length_cons, List.length_nil, Nat.reduceAdd, Nat.reduceSub, List.replicate_succ, List.replicate_zero, List.getElem?_cons_zero, List.getElem?_cons_succ, List.set_cons_zero, List.set_cons_succ, wipeE, EV.d.injEq, EV.l.injEq, PyData.int.injEq, PyData.bool.injEq, PyData.tuple.injEq, PyData.list.injEq, Option.some.injEq, exists_eq_left, exists_eq_left', true_and, and_true, List.mapM_cons, List.mapM_nil, bind_pure_comp, Option.pure_def, Option.bind_eq_bind, Option.bind_some, Option.map_some, Option.map_eq_map, truthD, if_true, if_false, reduceIte, Bool.false_eq_true, Bool.not_true, Bool.not_false, exists_and_left, exists_eq_left, decide_eq_true_eq, List.set_nil, pIx, pEq, pNe, pMul, pAdd, shaped_int, eqv_int, ix2_0, ix2_1, d_ZERO_eq, d_ONE_eq]
  refine ⟨b, a, rfl, ob, oa, hab.ne, 0, b / a, rfl, .zero, oq, 1, a, rfl, .one, oa, hab.ne, _, rfl, by simp, _, [-(b / a), 1 / a], rfl, .inl ?_, fun m hm ht he => ?_⟩
  · rw [List.map_cons, List.map_cons, List.map_nil, show (0 - b / a : Rat) = -(b / a) by grind]
  · simp only [pSeq, pNext, pAsg, pAsgT, pAug, pSub, pIf, pRet, pRetV, pRetN, pDrop, pPar, pPar3, pVar, pC, pOp, pUn, pNil, pCons, pTest, pTruth, pAnd, pOr, pNot, pAndV, pOrV, pNotV, pIfE, pTup, pLst, pF1, pF2, fLen, fTuple, fList, fAbs, fInt, fMax2, fMin2, fAll, fAny, pCall, pNever, p2I, p2I0, EV.two, EV.rd, EV.dat, EV.look, EV.seq, EV.lst, EV.wlk, EV.lsr, EV.sto, EV.ret, EV.arg, pNeg, pItems, pgName, pgTup, pgCons, pgNil, pYes, startE, List.map_cons, List.map_nil, List.cons_append, List.nil_append, List.length_cons, List.length_nil, Nat.reduceAdd, Nat.reduceSub, List.replicate_succ, List.replicate_zero, List.getElem?_cons_zero, List.getElem?_cons_succ, List.set_cons_zero, List.set_cons_succ, wipeE, EV.d.injEq, EV.l.injEq, PyData.int.injEq, PyData.bool.injEq, PyData.tuple.injEq, PyData.list.injEq, Option.some.injEq, exists_eq_left, exists_eq_left', true_and, and_true, List.mapM_cons, List.mapM_nil, bind_pure_comp, Option.pure_def, Option.bind_eq_bind, Option.bind_some, Option.map_some, Option.map_eq_map, truthD, if_true, if_false, reduceIte, Bool.false_eq_true, Bool.not_true, Bool.not_false, exists_and_left, exists_eq_left, decide_eq_true_eq, List.set_nil, pIx, pEq, pNe, pMul, pAdd, shaped_int, eqv_int, ix2_0, ix2_1]
    have hcb := led_cb hp h1 h2 hab hb
    refine ⟨p, _, D, N, L, A, M, 2, L, rfl, hp, (back_PS hab).take m, hl, hcb, fun r0 t0 v0 s0 => ?_⟩
    have v0' := led_val (p := p) fun x => (v0 x).trans (congrArg (ev p) (he x))
    refine ⟨r0, a, _, _, A, M, L, rfl, s0, hab.sa, hcb.b, hab.bd, by omega, fun r1 t1 v1 s1 => ?_⟩
    refine ⟨by decide, _, [b], rfl, .inl rfl, fun m2 hm2 t2 v2 => ?_⟩
    have s2 : PS (ledD D A L) M L ([b].take m2) := ((PS.denL ((PS.one hab.sb).take m2) (E := D * A ^ L) (Nat.mul_pos hp.pos (Nat.pow_pos hab.sa.1))).mono (Nat.le_refl _) h1)
    refine ⟨r1, _, ledD D A L, _, M, L, rfl, s1, s2, hb, by omega, fun r t v s => ⟨rfl, hQ r t (fun x => ?_) s⟩⟩
    rw [show ev r x = ev r1 x + ev ([b].take m2) x from v x, show ev r1 x = ev r0 x * a from v1 x, v0', ev_take_le v2]
    unfold ledF
    grind
def S_led_poly_by : FSpec := fun es Q => ∃ p a b D N L A M, es = [.d (po p), .d (fr a), .d (fr b)] ∧ PS D N L p ∧ p.length = L ∧ 3 ≤ L ∧ L ≤ 13 ∧ Tr0 p ∧ AB A M a b ∧ Bd (ledD D A L) (ledN N M L) ∧ PoQ (ledD D A L) (ledN N M L) L (ledF p a b) Q
def T_led_poly_by : PTS := (pSeq (pDrop (pCall S_need_far (pCons (pVar 0) pNil))) (pSeq (pDrop (pCall S_need_fraction (pCons (pVar 1) pNil))) (pSeq (pDrop (pCall S_need_fraction (pCons (pVar 2) pNil))) (pSeq (pIf (pTest (pOp pEq (pVar 1) (pC d_ZERO))) pNever pNext) (pRet (pCall S_raw_led (pCons (pVar 0) (pCons (pVar 1) (pCons (pVar 2) pNil)))))))))
theorem l_led_poly_by : ∀ es q, S_led_poly_by es q → es.length = 3 := by rintro es q ⟨a, b, _, _, _, _, _, _, rfl, _⟩; rfl
theorem p_led_poly_by : ∀ es q, S_led_poly_by es q → T_led_poly_by { nx := fun _ => q (.d .none), rt := q } (startE 3 es) := by
  rintro es Q ⟨p, a, b, D, N, L, A, M, rfl, hp, hl, h1, h2, ht, hab, hb, hQ⟩
  unfold T_led_poly_by
  simp only [pSeq, pNext, pAsg, pAsgT, pAug, pSub, pIf, pRet, pRetV, pRetN, pDrop, pPar, pPar3, pVar, pC, pOp, pUn, pNil, pCons, pTest, pTruth, pAnd, pOr, pNot, pAndV, pOrV, pNotV, pIfE, pTup, pLst, pF1, pF2, fLen, fTuple, fList, fAbs, fInt, fMax2, fMin2, fAll, fAny, pCall, pNever, p2I, p2I0, EV.two, EV.rd, EV.dat, EV.look, EV.seq, EV.lst, EV.wlk, EV.lsr, EV.sto, EV.ret, EV.arg, pNeg, pItems, pgName, pgTup, pgCons, pgNil, pYes, startE, List.map_cons, List.map_nil, List.cons_append, List.nil_append, List.length_cons, List.length_nil, Nat.reduceAdd, Nat.reduceSub, List.replicate_succ, List.replicate_zero, List.getElem?_cons_zero, List.getElem?_cons_succ, List.set_cons_zero, List.set_cons_succ, wipeE, EV.d.injEq, EV.l.injEq, PyData.int.injEq, PyData.bool.injEq, PyData.tuple.injEq, PyData.list.injEq, Option.some.injEq, exists_eq_left, exists_eq_left', true_and, and_true, List.mapM_cons, List.mapM_nil, bind_pure_comp, Option.pure_def, Option.bind_eq_bind, Option.bind_some, Option.map_some, Option.map_eq_map, truthD, if_true, if_false, reduceIte, Bool.false_eq_true, Bool.not_true, Bool.not_false, exists_and_left, exists_eq_left, decide_eq_true_eq, List.set_nil, pIx, pEq, pNe, pMul, pAdd, shaped_int, eqv_int, ix2_0, ix2_1]
  refine ⟨p, rfl, ht, by omega, by omega, fr a, rfl, isFrac_fr a, fr b, rfl, isFrac_fr b, shaped_fr a, shaped_zero, ?_⟩
  rw [eqv_zero, decide_eq_false hab.ne, if_neg (by simp)]
  exact ⟨p, a, b, D, N, L, A, M, rfl, hp, hl, by omega, by omega, hab, hb, fun r t v s => ⟨rfl, hQ r t v s⟩⟩
/-- the b by which a poly is centred -/
def cenB (p : List Rat) : Rat := cf p (p.length - 2) / (((p.length - 1 : Nat) : Rat) * cf p (p.length - 1))
def S_raw_centred : FSpec := fun es Q => ∃ p D N L A M, es = [.d (po p)] ∧ PS D N L p ∧ p.length = L ∧ 3 ≤ L ∧ L ≤ 13 ∧ Tr0 p ∧ Bd D N ∧ Bd D (13 * N) ∧ AB A M 1 (cenB p) ∧ Bd (ledD D A L) (ledN N M L) ∧ PoQ (ledD D A L) (ledN N M L) L (ledF p 1 (cenB p)) (fun e => ∀ r, e = .d r → Q (.d (.tuple [r, fr (cenB p)])))
def T_raw_centred : PTS := (pSeq (pAsg 1 (pCall S_raw_quotient (pCons (pOp pIx (pVar 0) (pUn pNeg (pC (.int 2)))) (pCons (pCall S_raw_product (pCons (pTup (pCons (pOp pSub (pF1 fLen (pVar 0)) (pC (.int 1))) (pCons (pC (.int 1)) pNil))) (pCons (pOp pIx (pVar 0) (pUn pNeg (pC (.int 1)))) pNil))) pNil)))) (pRet (pTup (pCons (pCall S_raw_led (pCons (pVar 0) (pCons (pC d_ONE) (pCons (pVar 1) pNil)))) (pCons (pVar 1) pNil)))))
theorem l_raw_centred : ∀ es q, S_raw_centred es q → es.length = 1 := by rintro es q ⟨a, b, _, _, _, _, rfl, _⟩; rfl
theorem last_ne {p : List Rat} (ht : Tr0 p) (h : 0 < p.length) : cf p (p.length - 1) ≠ 0 := by
  refine ht _ ?_
  rw [List.getLast?_eq_getElem?, get_cf (by omega)]
theorem atI_po (p : List Rat) (i : Nat) (h : i < p.length) : atI (p.map fr) (-((i : Int) + 1)) = some (fr (cf p (p.length - 1 - i))) := by
  rw [atI_neg _ _ (by rw [List.length_map]; exact h), List.length_map, List.getElem?_map, get_cf (by omega)]; rfl
theorem p_raw_centred : ∀ es q, S_raw_centred es q → T_raw_centred { nx := fun _ => q (.d .none), rt := q } (startE 2 es) := by
  rintro es Q ⟨p, D, N, L, A, M, rfl, hp, hl, h1, h2, ht, hb0, hb1, hab, hb, hQ⟩
  unfold T_raw_centred
  simp only [pSeq, pNext, pAsg, pAsgT, pAug, pSub, pIf, pRet, pRetV, pRetN, pDrop, pPar, pPar3, pVar, pC, pOp, pUn, pNil, pCons, pTest, pTruth, pAnd, pOr, pNot, pAndV, pOrV, pNotV, pIfE, pTup, pLst, pF1, pF2, fLen, fTuple, fList, fAbs, fInt, fMax2, fMin2, fAll, fAny, pCall, pNever, p2I, p2I0, EV.two, EV.rd, EV.dat, EV.look, EV.seq, EV.lst, EV.wlk, EV.lsr, EV.sto, EV.ret, EV.arg, pNeg, pItems, pgName, pgTup, pgCons, pgNil, pYes, startE, List.map_cons, List.map_nil, List.cons_append, List.nil_append, List.length_cons, List.length_nil, Nat.reduceAdd, Nat.reduceSub, List.replicate_succ, List.replicate_zero, List.getElem?_cons_zero, List.getElem?_cons_succ, List.set_cons_zero, List.set_cons_succ, wipeE, EV.d.injEq, EV.l.injEq, PyData.int.injEq, PyData.bool.injEq, PyData.tuple.injEq, PyData.list.injEq, Option.some.injEq, exists_eq_left, exists_eq_left', true_and, and_true, List.mapM_cons, List.mapM_nil, bind_pure_comp, Option.pure_def, Option.bind_eq_bind, Option.bind_some, Option.map_some, Option.map_eq_map, truthD, if_true, if_false, reduceIte, Bool.false_eq_true, Bool.not_true, Bool.not_false, exists_and_left, exists_eq_left, decide_eq_true_eq, List.set_nil, pIx, pEq, pNe, pMul, pAdd, shaped_int, eqv_int, ix2_0, ix2_1, po, List.length_map, d_ONE_eq]
  have e1 : PyData.tuple [PyData.int ((p.length : Int) - 1), PyData.int 1] = fr (((p.length - 1 : Nat) : Int) : Rat) := by
    rw [rat_int, show ((p.length : Int) - 1) = ((p.length - 1 : Nat) : Int) by omega]
  have hn : ((((p.length - 1 : Nat) : Int) : Rat)) ≠ 0 := by
    intro e
    have : (((p.length - 1 : Nat) : Int)) = 0 := by exact_mod_cast e
    omega
  have sd : Sz 1 13 (((p.length - 1 : Nat) : Int) : Rat) := (Sz.int _).mono (by omega)
  have hlast := last_ne ht (by omega)
  have sl := hp.cf (p.length - 1)
  have sp := sd.mul sl
  rw [Nat.one_mul] at sp
  have hpn : (((p.length - 1 : Nat) : Int) : Rat) * cf p (p.length - 1) ≠ 0 := fun e => (Rat.mul_eq_zero.mp e).elim hn hlast
  have od : Ok (((p.length - 1 : Nat) : Int) : Rat) := sd.ok (by have : (2:Nat) ^ 4 ≤ 2 ^ 4000 := Nat.pow_le_pow_right (by decide) (by decide); omega) (Nat.one_lt_pow (by decide) (by decide))
  have ec : cf p (p.length - 2) / ((((p.length - 1 : Nat) : Int) : Rat) * cf p (p.length - 1)) = cenB p := by unfold cenB; norm_cast
  refine ⟨fr (cf p (p.length - 2)), ?_, by decide, fr (cf p (p.length - 1)), ?_, (((p.length - 1 : Nat) : Int) : Rat), cf p (p.length - 1), ?_, od, hb0.ok sl, _, _, rfl, hb0.ok (hp.cf _), hb1.ok sp, hpn, rfl, ?_⟩
  · have := atI_po p 1 (by omega)
    rw [show p.length - 1 - 1 = p.length - 2 by omega] at this
    exact this
  · exact atI_po p 0 (by omega)
  · rw [e1]
  · simp only [pSeq, pNext, pAsg, pAsgT, pAug, pSub, pIf, pRet, pRetV, pRetN, pDrop, pPar, pPar3, pVar, pC, pOp, pUn, pNil, pCons, pTest, pTruth, pAnd, pOr, pNot, pAndV, pOrV, pNotV, pIfE, pTup, pLst, pF1, pF2, fLen, fTuple, fList, fAbs, fInt, fMax2, fMin2, fAll, fAny, pCall, pNever, p2I, p2I0, EV.two, EV.rd, EV.dat, EV.look, EV.seq, EV.lst, EV.wlk, EV.lsr, EV.sto, EV.ret, EV.arg, pNeg, pItems, pgName, pgTup, pgCons, pgNil, pYes, startE, List.map_cons, List.map_nil, List.cons_append, List.nil_append, List.length_cons, List.length_nil, Nat.reduceAdd, Nat.reduceSub, List.replicate_succ, List.replicate_zero, List.getElem?_cons_zero, List.getElem?_cons_succ, List.set_cons_zero, List.set_cons_succ, wipeE, EV.d.injEq, EV.l.injEq, PyData.int.injEq, PyData.bool.injEq, PyData.tuple.injEq, PyData.list.injEq, Option.some.injEq, exists_eq_left, exists_eq_left', true_and, and_true, List.mapM_cons, List.mapM_nil, bind_pure_comp, Option.pure_def, Option.bind_eq_bind, Option.bind_some, Option.map_some, Option.map_eq_map, truthD, if_true, if_false, reduceIte, Bool.false_eq_true, Bool.not_true, Bool.not_false, exists_and_left, exists_eq_left, decide_eq_true_eq, List.set_nil, pIx, pEq, pNe, pMul, pAdd, shaped_int, eqv_int, ix2_0, ix2_1]
    rw [ec]
    refine ⟨p, 1, cenB p, D, N, L, A, M, rfl, hp, hl, by omega, by omega, hab, hb, fun r t v s => ?_⟩
    refine ⟨_, rfl, by simp, hQ r t v s _ rfl⟩
def S_centred : FSpec := S_raw_centred
def T_centred : PTS := (pSeq (pDrop (pCall S_need_far (pCons (pVar 0) pNil))) (pRet (pCall S_raw_centred (pCons (pVar 0) pNil))))
theorem l_centred : ∀ es q, S_centred es q → es.length = 1 := l_raw_centred
theorem p_centred : ∀ es q, S_centred es q → T_centred { nx := fun _ => q (.d .none), rt := q } (startE 1 es) := by
  rintro es Q ⟨p, D, N, L, A, M, rfl, hp, hl, h1, h2, ht, hb0, hb1, hab, hb, hQ⟩
  unfold T_centred
  simp only [pSeq, pNext, pAsg, pAsgT, pAug, pSub, pIf, pRet, pRetV, pRetN, pDrop, pPar, pPar3, pVar, pC, pOp, pUn, pNil, pCons, pTest, pTruth, pAnd, pOr, pNot, pAndV, pOrV, pNotV, pIfE, pTup, pLst, pF1, pF2, fLen, fTuple, fList, fAbs, fInt, fMax2, fMin2, fAll, fAny, pCall, pNever, p2I, p2I0, EV.two, EV.rd, EV.dat, EV.look, EV.seq, EV.lst, EV.wlk, EV.lsr, EV.sto, EV.ret, EV.arg, pNeg, pItems, pgName, pgTup, pgCons, pgNil, pYes, startE, List.map_cons, List.map_nil, List.cons_append, List.nil_append, List.length_cons, List.length_nil, Nat.reduceAdd, Nat.reduceSub, List.replicate_succ, List.replicate_zero, List.getElem?_cons_zero, List.getElem?_cons_succ, List.set_cons_zero, List.set_cons_succ, wipeE, EV.d.injEq, EV.l.injEq, PyData.int.injEq, PyData.bool.injEq, PyData.tuple.injEq, PyData.list.injEq, Option.some.injEq, exists_eq_left, exists_eq_left', true_and, and_true, List.mapM_cons, List.mapM_nil, bind_pure_comp, Option.pure_def, Option.bind_eq_bind, Option.bind_some, Option.map_some, Option.map_eq_map, truthD, if_true, if_false, reduceIte, Bool.false_eq_true, Bool.not_true, Bool.not_false, exists_and_left, exists_eq_left, decide_eq_true_eq, List.set_nil, pIx, pEq, pNe, pMul, pAdd, shaped_int, eqv_int, ix2_0, ix2_1]
  exact ⟨p, rfl, ht, by omega, by omega, p, D, N, L, A, M, rfl, hp, hl, h1, h2, ht, hb0, hb1, hab, hb, fun r t v s e he => ⟨rfl, hQ r t v s e he⟩⟩
def S__law_led_by : FSpec := S_raw_led
def T__law_led_by : PTS := (pSeq (pAsg 3 (pTup (pCons (pCall S__law_by (pCons (pCall S__law_less (pCons (pTup (pCons (pC (.int 0)) (pCons (pC (.int 1)) pNil))) (pCons (pVar 2) pNil))) (pCons (pVar 1) pNil))) (pCons (pCall S__law_by (pCons (pTup (pCons (pC (.int 1)) (pCons (pC (.int 1)) pNil))) (pCons (pVar 1) pNil))) pNil)))) (pRet (pCall S__law_sum (pCons (pCall S__law_product (pCons (pTup (pCons (pVar 1) pNil)) (pCons (pCall S__law_behind (pCons (pVar 0) (pCons (pCall S__law_poly (pCons (pVar 3) pNil)) pNil))) pNil))) (pCons (pCall S__law_poly (pCons (pLst (pCons (pVar 2) pNil)) pNil)) pNil)))))
theorem l__law_led_by : ∀ es q, S__law_led_by es q → es.length = 3 := l_raw_led
theorem p__law_led_by : ∀ es q, S__law_led_by es q → T__law_led_by { nx := fun _ => q (.d .none), rt := q } (startE 4 es) := by
  rintro es Q ⟨p, a, b, D, N, L, A, M, rfl, hp, hl, h1, h2, hab, hb, hQ⟩
  unfold T__law_led_by
  have oa := hab.bd.ok hab.sa
  have ob := hab.bd.ok hab.sb
  have sn := hab.sb.neg
  have on := hab.bd.ok sn
  simp only [pSeq, pNext, pAsg, pAsgT, pAug, pSub, pIf, pRet, pRetV, pRetN, pDrop, pPar, pPar3, pVar, pC, pOp, pUn, pNil, pCons, pTest, pTruth, pAnd, pOr, pNot, pAndV, pOrV, pNotV, pIfE, pTup, pLst, pF1, pF2, fLen, fTuple, fList, fAbs, fInt, fMax2, fMin2, fAll, fAny, pCall, pNever, p2I, p2I0, EV.two, EV.rd, EV.dat, EV.look, EV.seq, EV.lst, EV.wlk, EV.lsr, EV.sto, EV.ret, EV.arg, pNeg, pItems, pgName, pgTup, pgCons, pgNil, pYes, startE, List.map_cons, List.map_nil, List.cons_append, List.nil_append, List.length_cons, List.length_nil, Nat.reduceAdd, Nat.reduceSub, List.replicate_succ, List.replicate_zero, List.getElem?_cons_zero, List.getElem?_cons_succ, List.set_cons_zero, List.set_cons_succ, wipeE, EV.d.injEq, EV.l.injEq, PyData.int.injEq, PyData.bool.injEq, PyData.tuple.injEq, PyData.list.injEq, Option.some.injEq, exists_eq_left, exists_eq_left', true_and, and_true, List.mapM_cons, List.mapM_nil, bind_pure_comp, Option.pure_def, Option.bind_eq_bind, Option.bind_some, Option.map_some, Option.map_eq_map, truthD, if_true, if_false, reduceIte, Bool.false_eq_true, Bool.not_true, Bool.not_false, exists_and_left, exists_eq_left, decide_eq_true_eq, List.set_nil, pIx, pEq, pNe, pMul, pAdd, shaped_int, eqv_int, ix2_0, ix2_1]
  have e0 : PyData.tuple [PyData.int 0, PyData.int 1] = fr 0 := rfl
  have e1 : PyData.tuple [PyData.int 1, PyData.int 1] = fr 1 := rfl
  rw [e0, e1]
  refine ⟨by decide, 0, b, rfl, .zero, ob, 0 - b, a, rfl, by rw [show (0 - b : Rat) = -b by grind]; exact on, oa, hab.ne, by decide, 1, a, rfl, .one, oa, hab.ne, _, rfl, by simp, by decide, _, [-(b / a), 1 / a], rfl, .inr ?_, by simp, fun m hm ht he => ?_⟩
  · rw [show ((0 - b) / a : Rat) = -(b / a) by rw [Rat.div_def, Rat.div_def]; grind]; rfl
  · have hcb := led_cb hp h1 h2 hab hb
    refine ⟨p, _, D, N, L, A, M, 2, L, rfl, hp, (back_PS hab).take m, hl, hcb, fun r0 t0 v0 s0 => ?_⟩
    have v0' := led_val (p := p) fun x => (v0 x).trans (congrArg (ev p) (he x))
    have eD : A * (D * A ^ L) = ledD D A L := Nat.mul_comm ..
    have eN : 1 * (M * (N * (L * M + 1) ^ L)) + M = ledN N M L := by unfold ledN; rw [Nat.one_mul, Nat.mul_comm M]
    refine ⟨[a], r0, A, M, _, _, 1, L, rfl, .one hab.sa, s0, hab.bd, hcb.b, by rw [eD]; exact hb.mono (by omega), by decide, by omega, fun r1 t1 v1 s1 => ?_⟩
    refine ⟨by decide, _, [b], rfl, .inl rfl, by simp, fun m2 hm2 t2 v2 => ?_⟩
    have s2 : PS (ledD D A L) M L ([b].take m2) := ((PS.denL ((PS.one hab.sb).take m2) (E := D * A ^ L) (Nat.mul_pos hp.pos (Nat.pow_pos hab.sa.1))).mono (Nat.le_refl _) h1)
    rw [eD] at s1
    have s1' : PS (ledD D A L) (1 * (M * (N * (L * M + 1) ^ L))) L r1 := s1.mono (Nat.le_refl _) (by unfold lenP; simp)
    refine ⟨r1, _, ledD D A L, _, M, L, rfl, s1', s2, by rw [eN]; exact hb, by omega, fun r t v s => ⟨rfl, hQ r t (fun x => ?_) (by rw [← eN]; exact s)⟩⟩
    rw [show ev r x = ev r1 x + ev ([b].take m2) x from v x, show ev r1 x = ev [a] x * ev r0 x from v1 x, v0', ev_take_le v2, ev_one]
    unfold ledF
    grind
def S__law_centred : FSpec := S_raw_centred
def T__law_centred : PTS := (pSeq (pAsg 1 (pCall S__law_by (pCons (pOp pIx (pVar 0) (pUn pNeg (pC (.int 2)))) (pCons (pCall S__law_mul (pCons (pTup (pCons (pOp pSub (pF1 fLen (pVar 0)) (pC (.int 1))) (pCons (pC (.int 1)) pNil))) (pCons (pOp pIx (pVar 0) (pUn pNeg (pC (.int 1)))) pNil))) pNil)))) (pRet (pTup (pCons (pCall S__law_led_by (pCons (pVar 0) (pCons (pTup (pCons (pC (.int 1)) (pCons (pC (.int 1)) pNil))) (pCons (pVar 1) pNil)))) (pCons (pVar 1) pNil)))))
theorem l__law_centred : ∀ es q, S__law_centred es q → es.length = 1 := l_raw_centred
theorem p__law_centred : ∀ es q, S__law_centred es q → T__law_centred { nx := fun _ => q (.d .none), rt := q } (startE 2 es) := by
  rintro es Q ⟨p, D, N, L, A, M, rfl, hp, hl, h1, h2, ht, hb0, hb1, hab, hb, hQ⟩
  unfold T__law_centred
  have e0 : PyData.tuple [PyData.int 1, PyData.int 1] = fr 1 := rfl
  simp only [pSeq, pNext, pAsg, pAsgT, pAug, pSub, pIf, pRet, pRetV, pRetN, pDrop, pPar, pPar3, pVar, pC, pOp, pUn, pNil, pCons, pTest, pTruth, pAnd, pOr, pNot, pAndV, pOrV, pNotV, pIfE, pTup, pLst, pF1, pF2, fLen, fTuple, fList, fAbs, fInt, fMax2, fMin2, fAll, fAny, pCall, pNever, p2I, p2I0, EV.two, EV.rd, EV.dat, EV.look, EV.seq, EV.lst, EV.wlk, EV.lsr, EV.sto, EV.ret, EV.arg, pNeg, pItems, pgName, pgTup, pgCons, pgNil, pYes, startE, List.map_cons, List.map_nil, List.cons_append, List.nil_append, List.length_cons, List.length_nil, Nat.reduceAdd, Nat.reduceSub, List.replicate_succ, List.replicate_zero, List.getElem?_cons_zero, List.getElem?_cons_succ, List.set_cons_zero, List.set_cons_succ, wipeE, EV.d.injEq, EV.l.injEq, PyData.int.injEq, PyData.bool.injEq, PyData.tuple.injEq, PyData.list.injEq, Option.some.injEq, exists_eq_left, exists_eq_left', true_and, and_true, List.mapM_cons, List.mapM_nil, bind_pure_comp, Option.pure_def, Option.bind_eq_bind, Option.bind_some, Option.map_some, Option.map_eq_map, truthD, if_true, if_false, reduceIte, Bool.false_eq_true, Bool.not_true, Bool.not_false, exists_and_left, exists_eq_left, decide_eq_true_eq, List.set_nil, pIx, pEq, pNe, pMul, pAdd, shaped_int, eqv_int, ix2_0, ix2_1, po, List.length_map, e0]
  have e1 : PyData.tuple [PyData.int ((p.length : Int) - 1), PyData.int 1] = fr (((p.length - 1 : Nat) : Int) : Rat) := by
    rw [rat_int, show ((p.length : Int) - 1) = ((p.length - 1 : Nat) : Int) by omega]
  have hn : ((((p.length - 1 : Nat) : Int) : Rat)) ≠ 0 := by
    intro e
    have : (((p.length - 1 : Nat) : Int)) = 0 := by exact_mod_cast e
    omega
  have sd : Sz 1 13 (((p.length - 1 : Nat) : Int) : Rat) := (Sz.int _).mono (by omega)
  have hlast := last_ne ht (by omega)
  have sl := hp.cf (p.length - 1)
  have sp := sd.mul sl
  rw [Nat.one_mul] at sp
  have hpn : (((p.length - 1 : Nat) : Int) : Rat) * cf p (p.length - 1) ≠ 0 := fun e => (Rat.mul_eq_zero.mp e).elim hn hlast
  have od : Ok (((p.length - 1 : Nat) : Int) : Rat) := sd.ok (by have : (2:Nat) ^ 4 ≤ 2 ^ 4000 := Nat.pow_le_pow_right (by decide) (by decide); omega) (Nat.one_lt_pow (by decide) (by decide))
  have ec : cf p (p.length - 2) / ((((p.length - 1 : Nat) : Int) : Rat) * cf p (p.length - 1)) = cenB p := by unfold cenB; norm_cast
  refine ⟨fr (cf p (p.length - 2)), ?_, by decide, fr (cf p (p.length - 1)), ?_, (((p.length - 1 : Nat) : Int) : Rat), cf p (p.length - 1), ?_, od, hb0.ok sl, _, _, rfl, hb0.ok (hp.cf _), hb1.ok sp, hpn, rfl, ?_⟩
  · have := atI_po p 1 (by omega)
    rw [show p.length - 1 - 1 = p.length - 2 by omega] at this
    exact this
  · exact atI_po p 0 (by omega)
  · rw [e1]
  · simp only [pSeq, pNext, pAsg, pAsgT, pAug, pSub, pIf, pRet, pRetV, pRetN, pDrop, pPar, pPar3, pVar, pC, pOp, pUn, pNil, pCons, pTest, pTruth, pAnd, pOr, pNot, pAndV, pOrV, pNotV, pIfE, pTup, pLst, pF1, pF2, fLen, fTuple, fList, fAbs, fInt, fMax2, fMin2, fAll, fAny, pCall, pNever, p2I, p2I0, EV.two, EV.rd, EV.dat, EV.look, EV.seq, EV.lst, EV.wlk, EV.lsr, EV.sto, EV.ret, EV.arg, pNeg, pItems, pgName, pgTup, pgCons, pgNil, pYes, startE, List.map_cons, List.map_nil, List.cons_append, List.nil_append, List.length_cons, List.length_nil, Nat.reduceAdd, Nat.reduceSub, List.replicate_succ, List.replicate_zero, List.getElem?_cons_zero, List.getElem?_cons_succ, List.set_cons_zero, List.set_cons_succ, wipeE, EV.d.injEq, EV.l.injEq, PyData.int.injEq, PyData.bool.injEq, PyData.tuple.injEq, PyData.list.injEq, Option.some.injEq, exists_eq_left, exists_eq_left', true_and, and_true, List.mapM_cons, List.mapM_nil, bind_pure_comp, Option.pure_def, Option.bind_eq_bind, Option.bind_some, Option.map_some, Option.map_eq_map, truthD, if_true, if_false, reduceIte, Bool.false_eq_true, Bool.not_true, Bool.not_false, exists_and_left, exists_eq_left, decide_eq_true_eq, List.set_nil, pIx, pEq, pNe, pMul, pAdd, shaped_int, eqv_int, ix2_0, ix2_1, e0]
    rw [ec]
    refine ⟨by decide, p, 1, cenB p, D, N, L, A, M, rfl, hp, hl, by omega, by omega, hab, hb, fun r t v s => ?_⟩
    refine ⟨_, rfl, by simp, hQ r t v s _ rfl⟩
end PL
namespace PL
open PySem PySem.Spec PyProof.Rows L2
/-! what can be shown -/
structure Sh (d b : Nat) (x : PyData) : Prop where
  show' : PyData.showable x = true
  dep : PyData.depth x ≤ d
  blk : PyData.bulk x ≤ b
  lv : PyData.leavesShort 1921 x = true
theorem Sh.mono {d b d' b' : Nat} {x : PyData} (h : Sh d b x) (h1 : d ≤ d') (h2 : b ≤ b') : Sh d' b' x := ⟨h.show', Nat.le_trans h.dep h1, Nat.le_trans h.blk h2, h.lv⟩
theorem Sh.int {i : Int} (h : i.natAbs.log2 < 1920) : Sh 0 0 (.int i) :=
  ⟨by simp only [PyData.showable]; exact decide_eq_true h, by simp [PyData.depth], by simp [PyData.bulk], by
    simp only [PyData.leavesShort, PyData.shown]; exact decide_eq_true (PyProof.Rows.int_text_len_1921 h)⟩
theorem Sh.bool (b : Bool) : Sh 0 0 (.bool b) := ⟨by simp [PyData.showable], by simp [PyData.depth], by simp [PyData.bulk], by simp [PyData.leavesShort]⟩
theorem Sh.none : Sh 0 0 .none := ⟨by simp [PyData.showable], by simp [PyData.depth], by simp [PyData.bulk], by simp [PyData.leavesShort]⟩
theorem Sh.all {d b : Nat} : ∀ {xs : List PyData}, (∀ x ∈ xs, Sh d b x) → PyData.showableAll xs = true ∧ PyData.depthAll xs ≤ d ∧ PyData.bulkAll xs ≤ xs.length * (b + 1) ∧ PyData.leavesShortAll 1921 xs = true
  | [], _ => ⟨by simp [PyData.showableAll], by simp [PyData.depthAll], by simp [PyData.bulkAll], by simp [PyData.leavesShortAll]⟩
  | x :: xs, h => by
    obtain ⟨h1, h2, h3, h4⟩ := Sh.all (fun y hy => h y (List.mem_cons_of_mem _ hy))
    have hx := h x (List.mem_cons_self ..)
    refine ⟨by simp only [PyData.showableAll, hx.show', h1, Bool.and_self], by simp only [PyData.depthAll]; exact Nat.max_le.mpr ⟨hx.dep, h2⟩, ?_, by simp only [PyData.leavesShortAll, hx.lv, h4, Bool.and_self]⟩
    simp only [PyData.bulkAll, List.length_cons, Nat.succ_mul]
    have := hx.blk
    omega
theorem Sh.tup {d b n : Nat} {xs : List PyData} (h : ∀ x ∈ xs, Sh d b x) (hn : xs.length ≤ n) : Sh (d + 1) (n * (b + 1)) (.tuple xs) := by
  obtain ⟨h1, h2, h3, h4⟩ := Sh.all h
  exact ⟨by simp only [PyData.showable, h1], by simp only [PyData.depth]; omega, by simp only [PyData.bulk]; exact Nat.le_trans h3 (Nat.mul_le_mul_right _ hn), by simp only [PyData.leavesShort, h4]⟩
theorem Sh.lst {d b n : Nat} {xs : List PyData} (h : ∀ x ∈ xs, Sh d b x) (hn : xs.length ≤ n) : Sh (d + 1) (n * (b + 1)) (.list xs) := by
  obtain ⟨h1, h2, h3, h4⟩ := Sh.all h
  exact ⟨by simp only [PyData.showable, h1], by simp only [PyData.depth]; omega, by simp only [PyData.bulk]; exact Nat.le_trans h3 (Nat.mul_le_mul_right _ hn), by simp only [PyData.leavesShort, h4]⟩
/-- small enough to be shown -/
def Bs (D N : Nat) : Prop := N * D < 2 ^ 1900 ∧ D < 2 ^ 1900
theorem Sh.fr {D N : Nat} {x : Rat} (h : Sz D N x) (b : Bs D N) : Sh 1 2 (fr x) := by
  have l1 : x.num.natAbs.log2 < 1920 := log2_lt (Nat.lt_of_le_of_lt h.num.1 (Nat.lt_of_lt_of_le b.1 (Nat.pow_le_pow_right (by decide) (by decide)))) (by decide)
  have l2 : ((x.den : Int)).natAbs.log2 < 1920 := log2_lt (Nat.lt_of_le_of_lt h.num.2 (Nat.lt_of_lt_of_le b.2 (Nat.pow_le_pow_right (by decide) (by decide)))) (by decide)
  exact Sh.tup (n := 2) (fun y hy => by
    rcases List.mem_cons.mp hy with rfl | hy
    · exact .int l1
    · rw [List.mem_singleton.mp hy]; exact .int l2) (by simp)
theorem Sh.po {D N L : Nat} {p : List Rat} (h : PS D N L p) (b : Bs D N) : Sh 2 (L * 3) (po p) := Sh.tup (fun y hy => by
  obtain ⟨c, hc, rfl⟩ := List.mem_map.mp hy
  exact .fr (h.sz c hc) b) (by rw [List.length_map]; exact h.len)
theorem Sh.fits {d b : Nat} {x : PyData} (h : Sh d b x) (h2 : b ≤ 8000) : x.shown.length ≤ sizeLine := by
  have := PyData.shown_le_bulk 1921 (by decide) x h.lv
  have h3 := h.blk
  have : 16777216 ≤ sizeLine := by decide
  omega
def S__law_is : FSpec := fun es Q => ∃ e f x d b, es = [e, f] ∧ e.look = some x ∧ f.look = some x ∧ Sh d b x ∧ d ≤ 60 ∧ b ≤ 8000 ∧ Q (.d (.bool true))
def T__law_is : PTS := (pRet (pOp pEqS (pF1 fRepr (pVar 0)) (pF1 fRepr (pVar 1))))
theorem l__law_is : ∀ es q, S__law_is es q → es.length = 2 := by rintro es q ⟨a, b, _, _, _, rfl, _⟩; rfl
theorem look_rd (e : EV) : e.rd.look = e.look := by cases e <;> rfl
theorem p__law_is : ∀ es q, S__law_is es q → T__law_is { nx := fun _ => q (.d .none), rt := q } (startE 2 es) := by
  rintro es q ⟨e, f, x, d, b, rfl, he, hf, hs, hd, hb, hq⟩
  show fRepr e.rd fun y => fRepr f.rd fun z => pEqS y z fun u => u.ret = true ∧ q u
  have hl := hs.fits hb
  refine ⟨x, (look_rd e).trans he, hs.show', by have := hs.dep; omega, hl, x, (look_rd f).trans hf, hs.show', by have := hs.dep; omega, hl, _, _, rfl, rfl, rfl, ?_⟩
  rw [decide_eq_true rfl]
  exact hq
end PL
namespace PL
open PySem PySem.Spec PyProof.Rows L2
/-! what leads do, as functions -/
theorem ledF_led {p r : List Rat} {a b c d : Rat} (ha : a ≠ 0) (hc : c ≠ 0) (h : ∀ x, ev r x = ledF p a b x) (x : Rat) : ledF r c d x = ledF p (c * a) (c * b + d) x := by
  unfold ledF
  rw [h]
  unfold ledF
  have e : ((x - d) / c - b) / a = (x - (c * b + d)) / (c * a) := by grind
  rw [e]
  grind
theorem ledF_one {p : List Rat} (x : Rat) : ledF p 1 0 x = ev p x := by
  unfold ledF
  have e : (x - 0) / 1 = x := by grind
  rw [e]; grind
theorem ledF_home {p r : List Rat} {a b : Rat} (ha : a ≠ 0) (h : ∀ x, ev r x = ledF p a b x) (x : Rat) : ledF r (1 / a) ((0 - b) / a) x = ev p x := by
  rw [ledF_led ha (by grind) h]
  have e1 : 1 / a * a = 1 := by grind
  have e2 : 1 / a * b + (0 - b) / a = 0 := by grind
  rw [e1, e2, ledF_one]
theorem led_back {p r : List Rat} {a b : Rat} (ha : a ≠ 0) (h : ∀ x, ev r x = ledF p a b x) (x : Rat) : ev r (b + a * x) = a * ev p x + b := by
  rw [h]
  unfold ledF
  have e : (b + a * x - b) / a = x := by grind
  rw [e]
/-! lists for what is put in -/
theorem cf_cons0 (c : Rat) (p : List Rat) : cf (c :: p) 0 = c := rfl
theorem cf_cons (c : Rat) (p : List Rat) (i : Nat) : cf (c :: p) (i + 1) = cf p i := by unfold cf; rw [List.getElem?_cons_succ]
theorem cf_map (n : Nat) (f : Nat → Rat) (i : Nat) (h : i < n) : cf ((List.range n).map f) i = f i := by unfold cf; rw [List.getElem?_map, List.getElem?_range h]; rfl
theorem cf_none {p : List Rat} {i : Nat} (h : p.length ≤ i) : cf p i = 0 := by unfold cf; rw [List.getElem?_eq_none h]; rfl
/-- c and (u and v x) times a poly -/
def stepL (c u v : Rat) (q : List Rat) : List Rat := (List.range (q.length + 1)).map fun i => (cf [c] i + cf q i * u) + cf (0 :: q) i * v
theorem ev_stepL (c u v : Rat) (q : List Rat) (x : Rat) : ev (stepL c u v q) x = c + (u + v * x) * ev q x := by
  unfold stepL
  rw [ev_map_add, ev_map_add, ev_map_mul _ (cf q), ev_map_mul _ (cf (0 :: q)), ev_cf _ _ (by simp), ev_cf _ _ (by simp), ev_cf _ _ (by simp), ev_one, ev_cons]
  grind
theorem stepL_length (c u v : Rat) (q : List Rat) : (stepL c u v q).length = q.length + 1 := by simp [stepL]
theorem cf_stepL (c u v : Rat) (q : List Rat) (i : Nat) (h : i ≤ q.length) : cf (stepL c u v q) i = (cf [c] i + cf q i * u) + cf (0 :: q) i * v := by
  unfold stepL
  rw [cf_map _ _ _ (by omega)]
def putL (u v : Rat) : List Rat → List Rat
  | [] => []
  | c :: p => stepL c u v (putL u v p)
theorem putL_length (u v : Rat) : ∀ p, (putL u v p).length = p.length
  | [] => rfl
  | c :: p => by rw [putL, stepL_length, putL_length u v p]; rfl
theorem ev_putL (u v : Rat) (x : Rat) : ∀ p, ev (putL u v p) x = ev p (u + v * x)
  | [] => rfl
  | c :: p => by rw [putL, ev_stepL, ev_putL u v x p]; rfl
theorem putL_top (u : Rat) : ∀ (p : List Rat) (n : Nat), p.length = n + 1 → cf (putL u 1 p) n = cf p n
  | [], n, h => by simp at h
  | [c], n, h => by
    have : n = 0 := by simpa using h.symm
    subst this
    rw [putL, cf_stepL _ _ _ _ _ (by simp [putL_length])]
    simp [cf, putL]; grind
  | c :: d :: p, n, h => by
    cases n with
    | zero => simp at h
    | succ n =>
      have ih := putL_top u (d :: p) n (by simpa using h)
      rw [putL, cf_stepL _ _ _ _ _ (by rw [putL_length]; simp at h ⊢; omega), cf_cons c, cf_cons 0, ih, cf_cons c]
      rw [cf_none (p := putL u 1 (d :: p)) (by rw [putL_length]; simp at h ⊢; omega), cf_none (p := []) (by simp)]
      grind
theorem putL_next (u : Rat) : ∀ (p : List Rat) (n : Nat), p.length = n + 2 → cf (putL u 1 p) n = cf p n + ((n + 1 : Nat) : Rat) * u * cf p (n + 1)
  | [], n, h => by simp at h
  | [c], n, h => by simp at h
  | [c, d], n, h => by
    have : n = 0 := by simpa using h.symm
    subst this
    have e := putL_top u [d] 0 rfl
    rw [putL, cf_stepL _ _ _ _ _ (by simp), e]
    simp [cf]; grind
  | c :: d :: f :: p, n, h => by
    cases n with
    | zero => simp at h
    | succ n =>
      have ih := putL_next u (d :: f :: p) n (by simpa using h)
      have tp := putL_top u (d :: f :: p) (n + 1) (by simpa using h)
      rw [putL, cf_stepL _ _ _ _ _ (by rw [putL_length]; simp at h ⊢; omega), cf_cons c, cf_cons 0, ih, tp, cf_cons c, cf_cons c, cf_none (p := []) (by simp)]
      have : ((n + 1 + 1 : Nat) : Rat) = ((n + 1 : Nat) : Rat) + 1 := by norm_cast
      rw [this]
      grind
/-- how long what is led is -/
theorem led_len {p r : List Rat} {a b : Rat} (ha : a ≠ 0) (hp : Tr0 p) (h : ∀ x, ev r x = ledF p a b x) : p.length ≤ max r.length 1 := by
  have e : ∀ x, ev p x = ev ((List.range (max r.length 1)).map fun i => (cf (putL b a r) i + cf [-b] i) * (1 / a)) x := fun x => by
    rw [ev_map_mul _ (fun i => cf (putL b a r) i + cf [-b] i), ev_map_add, ev_cf _ _ (by rw [putL_length]; omega), ev_cf _ _ (by simp; omega), ev_putL, ev_one, led_back ha h]
    grind
  have := tr0_len hp e
  simpa using this
/-- tops of what is led by x and b -/
theorem led1_top {p r : List Rat} {b : Rat} {n : Nat} (hn : p.length = n + 3) (h : ∀ x, ev r x = ledF p 1 b x) : cf r (n + 2) = cf p (n + 2) ∧ cf r (n + 1) = cf p (n + 1) - ((n + 2 : Nat) : Rat) * b * cf p (n + 2) := by
  have e : ∀ x, ev r x = ev ((List.range (n + 3)).map fun i => cf (putL (-b) 1 p) i + cf [b] i) x := fun x => by
    rw [ev_map_add, ev_cf _ _ (by rw [putL_length]; omega), ev_cf _ _ (by simp), ev_putL, ev_one, h]
    unfold ledF
    have e2 : (x - b) / 1 = -b + 1 * x := by grind
    rw [e2]; grind
  have c1 := cf_add e (n + 2)
  have c2 := cf_add e (n + 1)
  rw [cf_map _ _ _ (by omega)] at c1 c2
  have z : ∀ i, cf [b] (i + 1) = 0 := fun i => by rw [cf_cons, cf_none (by simp)]
  rw [z, putL_top _ p (n + 2) hn] at c1
  rw [z, putL_next _ p (n + 1) hn] at c2
  refine ⟨by rw [c1]; grind, ?_⟩
  rw [c2, show n + 1 + 1 = n + 2 by omega]
  grind
theorem cenB_eq {p : List Rat} {n : Nat} (hn : p.length = n + 3) : cenB p = cf p (n + 1) / (((n + 2 : Nat) : Rat) * cf p (n + 2)) := by
  unfold cenB
  rw [hn]; rfl
theorem natR_ne {n : Nat} (h : n ≠ 0) : (n : Rat) ≠ 0 := fun e => h (by exact_mod_cast e)
/-- what is centred has a 0 there, and a b of 0 -/
theorem cen_zero {p r : List Rat} {n : Nat} (hn : p.length = n + 3) (ht : Tr0 p) (h : ∀ x, ev r x = ledF p 1 (cenB p) x) (hr : r.length = n + 3) : cf r (n + 1) = 0 ∧ cenB r = 0 := by
  obtain ⟨h1, h2⟩ := led1_top hn h
  have l := last_ne ht (by omega)
  rw [hn, show n + 3 - 1 = n + 2 by omega] at l
  have nn : ((n + 2 : Nat) : Rat) ≠ 0 := natR_ne (by omega)
  have e : cf r (n + 1) = 0 := by
    rw [h2, cenB_eq hn]
    generalize ((n + 2 : Nat) : Rat) = m at *
    grind
  refine ⟨e, ?_⟩
  rw [cenB_eq hr, e]; grind
theorem cen_led {p r : List Rat} {n : Nat} {b : Rat} (hn : p.length = n + 3) (ht : Tr0 p) (h : ∀ x, ev r x = ledF p 1 b x) (hr : r.length = n + 3) : cenB r = cenB p - b := by
  obtain ⟨h1, h2⟩ := led1_top hn h
  have l := last_ne ht (by omega)
  rw [hn, show n + 3 - 1 = n + 2 by omega] at l
  have nn : ((n + 2 : Nat) : Rat) ≠ 0 := natR_ne (by omega)
  rw [cenB_eq hr, cenB_eq hn, h1, h2]
  generalize ((n + 2 : Nat) : Rat) = m at *
  grind
/-! sizes -/
theorem Sz.inv {D N : Nat} {x : Rat} (h : Sz D N x) (h0 : x ≠ 0) : ∃ k, 0 < k ∧ k ≤ N * D ∧ Sz k D (1 / x) ∧ ∀ y, Sz D N y → Sz k (N * D) (y / x) := by
  obtain ⟨d0, k, e, l⟩ := h
  have dr : (D : Rat) ≠ 0 := natR_ne (by omega)
  have k0 : k ≠ 0 := by
    intro z; subst z
    have : x * D = 0 := by rw [e]; rfl
    exact (Rat.mul_eq_zero.mp this).elim h0 dr
  have ka : ((k.natAbs : Nat) : Rat) = (if 0 < k then (k : Rat) else -(k : Rat)) := by
    split
    · rw [show ((k.natAbs : Nat) : Rat) = ((k.natAbs : Int) : Rat) by norm_cast, show (k.natAbs : Int) = k by omega]
    · rw [show ((k.natAbs : Nat) : Rat) = ((k.natAbs : Int) : Rat) by norm_cast, show (k.natAbs : Int) = -k by omega, Rat.intCast_neg]
  have q : ∀ (y : Rat) (m : Int), y * D = m → y / x * (k.natAbs : Nat) = ((if 0 < k then m else -m : Int) : Rat) := fun y m hm => by
    rw [ka]
    split
    · rw [← hm, ← e, Rat.div_def]; grind
    · rw [Rat.intCast_neg, ← hm, ← e, Rat.div_def]; grind
  refine ⟨k.natAbs, by omega, l, ⟨by omega, (if 0 < k then (D : Int) else -(D : Int)), q 1 D (by rw [Rat.one_mul]; norm_cast), ?_⟩, ?_⟩
  · have : (if 0 < k then (D : Int) else -(D : Int)).natAbs = D := by split <;> omega
    rw [this]
    exact Nat.le_mul_of_pos_right _ (by omega)
  · rintro y ⟨_, m, hm, hl⟩
    refine ⟨by omega, (if 0 < k then m else -m), q y m hm, ?_⟩
    have : (if 0 < k then m else -m).natAbs = m.natAbs := by split <;> omega
    rw [this]
    exact Nat.le_trans hl (Nat.le_mul_of_pos_right _ (by omega))
theorem ab_of {D N : Nat} {a b : Rat} (ha : Sz D N a) (hb : Sz D N b) (h0 : a ≠ 0) (hbd : D * (N * D) * (N * D) < 2 ^ 4000) : ∃ A, A ≤ D * (N * D) ∧ AB A (N * D) a b := by
  obtain ⟨k, k0, kl, s1, s2⟩ := ha.inv h0
  have d0 := ha.1
  have n1 : 1 ≤ N * D := by omega
  have l1 : D * k ≤ D * (N * D) := Nat.mul_le_mul_left _ kl
  have nd : N ≤ N * D := Nat.le_mul_of_pos_right _ d0
  have dd : D ≤ N * D := Nat.le_mul_of_pos_left _ (by
    cases N with
    | zero => simp at n1
    | succ n => omega)
  have bd : Bd (D * k) (N * D) := ⟨by
    have : N * D * (D * k) ≤ N * D * (D * (N * D)) := Nat.mul_le_mul_left _ l1
    rw [Nat.mul_comm (N * D) (D * (N * D))] at this
    omega, by
    have : D * (N * D) ≤ D * (N * D) * (N * D) := Nat.le_mul_of_pos_right _ n1
    omega⟩
  refine ⟨D * k, l1, h0, n1, bd, (ha.den k0).mono nd, (hb.den k0).mono nd, ?_, ?_⟩
  · have := (s2 b hb).den d0
    rw [Nat.mul_comm k D] at this
    exact this
  · have := s1.den d0
    rw [Nat.mul_comm k D] at this
    exact this.mono dd
theorem ab_one {D N : Nat} {b : Rat} (hb : Sz D N b) (h1 : 1 ≤ N) (bd : Bd D N) : AB D N 1 b := by
  have s1 : Sz D N 1 := ⟨hb.1, D, by rw [Rat.one_mul]; norm_cast, by simpa using Nat.le_mul_of_pos_left D h1⟩
  exact ⟨by decide, h1, bd, s1, hb, by rw [show b / 1 = b by grind]; exact hb, by rw [show (1 : Rat) / 1 = 1 by grind]; exact s1⟩
theorem ledD_mono {D D' A A' L L' : Nat} (h1 : D ≤ D') (h2 : A ≤ A') (h3 : L ≤ L') (hA : 0 < A) : ledD D A L ≤ ledD D' A' L' := by
  unfold ledD
  refine Nat.mul_le_mul (Nat.mul_le_mul h1 ?_) h2
  exact Nat.le_trans (pow_le hA h3) (Nat.pow_le_pow_left h2 _)
theorem ledN_mono {N N' M M' L L' : Nat} (h1 : N ≤ N') (h2 : M ≤ M') (h3 : L ≤ L') : ledN N M L ≤ ledN N' M' L' := by
  unfold ledN
  refine Nat.add_le_add (Nat.mul_le_mul (Nat.mul_le_mul h1 ?_) h2) h2
  exact Nat.le_trans (pow_le (by omega) h3) (Nat.pow_le_pow_left (by have := Nat.mul_le_mul h3 h2; omega) _)
end PL
namespace PL
open PySem PySem.Spec PyProof.Rows L2
def S__law_draw : FSpec := fun es Q => ∃ many : Int, es = [.hand, .d (.int many)] ∧ 0 < many ∧ many < 2 ^ 1000 ∧ ∀ n : Nat, (n : Int) < many → Q (.d (.int n))
def S__law_any : FSpec := fun es Q => ∃ e xs, es = [.hand, e] ∧ (e = .r xs ∨ e = .d (.list xs) ∨ e = .d (.tuple xs)) ∧ 0 < xs.length ∧ xs.length ≤ 1000 ∧ ∀ x, x ∈ xs → Q (.d x)
def T__law_any : PTS := (pRet (pOp pIx (pVar 1) (pCall S__law_draw (pCons (pVar 0) (pCons (pF1 fLen (pVar 1)) pNil)))))
theorem l__law_any : ∀ es q, S__law_any es q → es.length = 2 := by rintro es q ⟨a, _, rfl, _⟩; rfl
theorem small_pow {n : Int} (h : n ≤ 1000) : n < 2 ^ 1000 := by
  have : (1001 : Int) ≤ 2 ^ 1000 := by decide +kernel
  omega
theorem p__law_any : ∀ es q, S__law_any es q → T__law_any { nx := fun _ => q (.d .none), rt := q } (startE 2 es) := by
  rintro es q ⟨e, xs, rfl, he, h0, h1, hq⟩
  unfold T__law_any
  rcases he with rfl | rfl | rfl
  all_goals
    simp only [pSeq, pNext, pAsg, pAsgT, pAug, pSub, pIf, pRet, pRetV, pRetN, pDrop, pPar, pPar3, pVar, pC, pOp, pUn, pNil, pCons, pTest, pTruth, pAnd, pOr, pNot, pAndV, pOrV, pNotV, pIfE, pTup, pLst, pF1, pF2, fLen, fTuple, fList, fAbs, fInt, fMax2, fMin2, fAll, fAny, pCall, pNever, p2I, p2I0, EV.two, EV.rd, EV.dat, EV.look, EV.seq, EV.lst, EV.wlk, EV.lsr, EV.sto, EV.ret, EV.arg, pNeg, pItems, pgName, pgTup, pgCons, pgNil, pYes, startE, List.map_cons, List.map_nil, List.cons_append, List.nil_append, List.length_cons, List.length_nil, Nat.reduceAdd, Nat.reduceSub, List.replicate_succ, List.replicate_zero, List.getElem?_cons_zero, List.getElem?_cons_succ, List.set_cons_zero, List.set_cons_succ, wipeE, EV.d.injEq, EV.l.injEq, PyData.int.injEq, PyData.bool.injEq, PyData.tuple.injEq, PyData.list.injEq, Option.some.injEq, exists_eq_left, exists_eq_left', true_and, and_true, List.mapM_cons, List.mapM_nil, bind_pure_comp, Option.pure_def, Option.bind_eq_bind, Option.bind_some, Option.map_some, Option.map_eq_map, truthD, if_true, if_false, reduceIte, Bool.false_eq_true, Bool.not_true, Bool.not_false, exists_and_left, exists_eq_left, decide_eq_true_eq, List.set_nil, pIx, pEq, pNe, pMul, pAdd, shaped_int, eqv_int, ix2_0, ix2_1]
    refine ⟨_, rfl, by omega, small_pow (by omega), fun n hn => ?_⟩
    have h : n < xs.length := by omega
    exact ⟨_, rfl, xs[n], by rw [atI_nat]; exact List.getElem?_eq_getElem h, hq _ (List.getElem_mem h)⟩
def S__law_few : FSpec := fun es Q => es = [.hand] ∧ ∀ x, Sz 6 4 x → Q (.d (fr x))
def T__law_few : PTS := (pRet (pCall S__law_part (pCons (pOp pSub (pCall S__law_draw (pCons (pVar 0) (pCons (pC (.int 9)) pNil))) (pC (.int 4))) (pCons (pCall S__law_any (pCons (pVar 0) (pCons (pLst (pCons (pC (.int 1)) (pCons (pC (.int 1)) (pCons (pC (.int 1)) (pCons (pC (.int 2)) (pCons (pC (.int 3)) pNil)))))) pNil))) pNil))))
theorem l__law_few : ∀ es q, S__law_few es q → es.length = 1 := by rintro es q ⟨rfl, _⟩; rfl
theorem few_sz (n : Nat) (hn : n < 9) (b : Int) (hb : b ∈ [(1 : Int), 1, 1, 2, 3]) : Sz 6 4 (Rat.divInt ((n : Int) - 4) b) := by
  have h2 : b = 1 ∨ b = 2 ∨ b = 3 := by simp at hb; omega
  refine ⟨by decide, ((n : Int) - 4) * (6 / b), ?_, ?_⟩
  · rw [Rat.divInt_eq_div, Rat.intCast_mul]
    rcases h2 with rfl | rfl | rfl
    · rw [show ((6 / 1 : Int) : Rat) = 6 by rfl, show ((1 : Int) : Rat) = 1 by rfl, show ((6 : Nat) : Rat) = 6 by rfl]; grind
    · rw [show ((6 / 2 : Int) : Rat) = 3 by rfl, show ((2 : Int) : Rat) = 2 by rfl, show ((6 : Nat) : Rat) = 6 by rfl]; grind
    · rw [show ((6 / 3 : Int) : Rat) = 2 by rfl, show ((3 : Int) : Rat) = 3 by rfl, show ((6 : Nat) : Rat) = 6 by rfl]; grind
  · rcases h2 with rfl | rfl | rfl <;> omega
theorem p__law_few : ∀ es q, S__law_few es q → T__law_few { nx := fun _ => q (.d .none), rt := q } (startE 1 es) := by
  rintro es q ⟨rfl, hq⟩
  unfold T__law_few
  simp only [pSeq, pNext, pAsg, pAsgT, pAug, pSub, pIf, pRet, pRetV, pRetN, pDrop, pPar, pPar3, pVar, pC, pOp, pUn, pNil, pCons, pTest, pTruth, pAnd, pOr, pNot, pAndV, pOrV, pNotV, pIfE, pTup, pLst, pF1, pF2, fLen, fTuple, fList, fAbs, fInt, fMax2, fMin2, fAll, fAny, pCall, pNever, p2I, p2I0, EV.two, EV.rd, EV.dat, EV.look, EV.seq, EV.lst, EV.wlk, EV.lsr, EV.sto, EV.ret, EV.arg, pNeg, pItems, pgName, pgTup, pgCons, pgNil, pYes, startE, List.map_cons, List.map_nil, List.cons_append, List.nil_append, List.length_cons, List.length_nil, Nat.reduceAdd, Nat.reduceSub, List.replicate_succ, List.replicate_zero, List.getElem?_cons_zero, List.getElem?_cons_succ, List.set_cons_zero, List.set_cons_succ, wipeE, EV.d.injEq, EV.l.injEq, PyData.int.injEq, PyData.bool.injEq, PyData.tuple.injEq, PyData.list.injEq, Option.some.injEq, exists_eq_left, exists_eq_left', true_and, and_true, List.mapM_cons, List.mapM_nil, bind_pure_comp, Option.pure_def, Option.bind_eq_bind, Option.bind_some, Option.map_some, Option.map_eq_map, truthD, if_true, if_false, reduceIte, Bool.false_eq_true, Bool.not_true, Bool.not_false, exists_and_left, exists_eq_left, decide_eq_true_eq, List.set_nil, pIx, pEq, pNe, pMul, pAdd, shaped_int, eqv_int, ix2_0, ix2_1]
  refine ⟨_, rfl, by decide, by decide +kernel, fun n hn => ?_⟩
  simp only [pSeq, pNext, pAsg, pAsgT, pAug, pSub, pIf, pRet, pRetV, pRetN, pDrop, pPar, pPar3, pVar, pC, pOp, pUn, pNil, pCons, pTest, pTruth, pAnd, pOr, pNot, pAndV, pOrV, pNotV, pIfE, pTup, pLst, pF1, pF2, fLen, fTuple, fList, fAbs, fInt, fMax2, fMin2, fAll, fAny, pCall, pNever, p2I, p2I0, EV.two, EV.rd, EV.dat, EV.look, EV.seq, EV.lst, EV.wlk, EV.lsr, EV.sto, EV.ret, EV.arg, pNeg, pItems, pgName, pgTup, pgCons, pgNil, pYes, startE, List.map_cons, List.map_nil, List.cons_append, List.nil_append, List.length_cons, List.length_nil, Nat.reduceAdd, Nat.reduceSub, List.replicate_succ, List.replicate_zero, List.getElem?_cons_zero, List.getElem?_cons_succ, List.set_cons_zero, List.set_cons_succ, wipeE, EV.d.injEq, EV.l.injEq, PyData.int.injEq, PyData.bool.injEq, PyData.tuple.injEq, PyData.list.injEq, Option.some.injEq, exists_eq_left, exists_eq_left', true_and, and_true, List.mapM_cons, List.mapM_nil, bind_pure_comp, Option.pure_def, Option.bind_eq_bind, Option.bind_some, Option.map_some, Option.map_eq_map, truthD, if_true, if_false, reduceIte, Bool.false_eq_true, Bool.not_true, Bool.not_false, exists_and_left, exists_eq_left, decide_eq_true_eq, List.set_nil, pIx, pEq, pNe, pMul, pAdd, shaped_int, eqv_int, ix2_0, ix2_1]
  refine ⟨by decide, _, _, rfl, .inl rfl, by decide, by decide, fun x hx => ?_⟩
  have : ∃ b : Int, x = .int b ∧ b ∈ [(1 : Int), 1, 1, 2, 3] := by
    simp only [List.mem_cons, List.not_mem_nil, or_false] at hx
    rcases hx with rfl | rfl | rfl | rfl | rfl
    · exact ⟨1, rfl, by decide⟩
    · exact ⟨1, rfl, by decide⟩
    · exact ⟨1, rfl, by decide⟩
    · exact ⟨2, rfl, by decide⟩
    · exact ⟨3, rfl, by decide⟩
  obtain ⟨b, rfl, hb⟩ := this
  have h2 : b = 1 ∨ b = 2 ∨ b = 3 := by simp at hb; omega
  refine ⟨_, b, rfl, by omega, ?_, rfl, hq _ (few_sz n (by omega) b hb)⟩
  rcases h2 with rfl | rfl | rfl <;> decide +kernel
def S__law_some_few : FSpec := fun es Q => es = [.hand] ∧ ∀ x, x ≠ 0 → Sz 6 4 x → Q (.d (fr x))
def T__law_some_few : PTS := (pSeq (pAsg 1 (pCall S__law_few (pCons (pVar 0) pNil))) (pRet (pIfE (pTest (pOp pNe (pOp pIx (pVar 1) (pC (.int 0))) (pC (.int 0)))) (pVar 1) (pCall S__law_any (pCons (pVar 0) (pCons (pLst (pCons (pTup (pCons (pC (.int 1)) (pCons (pC (.int 1)) pNil))) (pCons (pTup (pCons (pUn pNeg (pC (.int 1))) (pCons (pC (.int 1)) pNil))) (pCons (pTup (pCons (pC (.int 2)) (pCons (pC (.int 1)) pNil))) (pCons (pTup (pCons (pC (.int 1)) (pCons (pC (.int 2)) pNil))) (pCons (pTup (pCons (pUn pNeg (pC (.int 3))) (pCons (pC (.int 2)) pNil))) pNil)))))) pNil))))))
theorem l__law_some_few : ∀ es q, S__law_some_few es q → es.length = 1 := by rintro es q ⟨rfl, _⟩; rfl
theorem fr_of {x : Rat} {n : Int} {d : Int} (h1 : x.num = n) (h2 : (x.den : Int) = d) : PyData.tuple [.int n, .int d] = fr x := by unfold fr; rw [h1, h2]
def someF : List Rat := [1, -1, 2, 1 / 2, -3 / 2]
theorem someF_ok (x : Rat) (h : x ∈ someF) : x ≠ 0 ∧ Sz 6 4 x := by
  have sz : ∀ (n : Nat) (b : Int), n < 9 → b ∈ [(1 : Int), 1, 1, 2, 3] → x = Rat.divInt ((n : Int) - 4) b → Sz 6 4 x := fun n b h1 h2 e => e ▸ few_sz n h1 b h2
  simp only [someF, List.mem_cons, List.not_mem_nil, or_false] at h
  rcases h with rfl | rfl | rfl | rfl | rfl
  · exact ⟨by decide, sz 5 1 (by decide) (by decide) (by decide +kernel)⟩
  · exact ⟨by decide, sz 3 1 (by decide) (by decide) (by decide +kernel)⟩
  · exact ⟨by decide, sz 6 1 (by decide) (by decide) (by decide +kernel)⟩
  · exact ⟨by decide +kernel, sz 5 2 (by decide) (by decide) (by decide +kernel)⟩
  · exact ⟨by decide +kernel, sz 1 2 (by decide) (by decide) (by decide +kernel)⟩
theorem p__law_some_few : ∀ es q, S__law_some_few es q → T__law_some_few { nx := fun _ => q (.d .none), rt := q } (startE 2 es) := by
  rintro es q ⟨rfl, hq⟩
  unfold T__law_some_few
  simp only [pSeq, pNext, pAsg, pAsgT, pAug, pSub, pIf, pRet, pRetV, pRetN, pDrop, pPar, pPar3, pVar, pC, pOp, pUn, pNil, pCons, pTest, pTruth, pAnd, pOr, pNot, pAndV, pOrV, pNotV, pIfE, pTup, pLst, pF1, pF2, fLen, fTuple, fList, fAbs, fInt, fMax2, fMin2, fAll, fAny, pCall, pNever, p2I, p2I0, EV.two, EV.rd, EV.dat, EV.look, EV.seq, EV.lst, EV.wlk, EV.lsr, EV.sto, EV.ret, EV.arg, pNeg, pItems, pgName, pgTup, pgCons, pgNil, pYes, startE, List.map_cons, List.map_nil, List.cons_append, List.nil_append, List.length_cons, List.length_nil, Nat.reduceAdd, Nat.reduceSub, List.replicate_succ, List.replicate_zero, List.getElem?_cons_zero, List.getElem?_cons_succ, List.set_cons_zero, List.set_cons_succ, wipeE, EV.d.injEq, EV.l.injEq, PyData.int.injEq, PyData.bool.injEq, PyData.tuple.injEq, PyData.list.injEq, Option.some.injEq, exists_eq_left, exists_eq_left', true_and, and_true, List.mapM_cons, List.mapM_nil, bind_pure_comp, Option.pure_def, Option.bind_eq_bind, Option.bind_some, Option.map_some, Option.map_eq_map, truthD, if_true, if_false, reduceIte, Bool.false_eq_true, Bool.not_true, Bool.not_false, exists_and_left, exists_eq_left, decide_eq_true_eq, List.set_nil, pIx, pEq, pNe, pMul, pAdd, shaped_int, eqv_int, ix2_0, ix2_1]
  refine ⟨rfl, fun x hx => ?_⟩
  simp only [pSeq, pNext, pAsg, pAsgT, pAug, pSub, pIf, pRet, pRetV, pRetN, pDrop, pPar, pPar3, pVar, pC, pOp, pUn, pNil, pCons, pTest, pTruth, pAnd, pOr, pNot, pAndV, pOrV, pNotV, pIfE, pTup, pLst, pF1, pF2, fLen, fTuple, fList, fAbs, fInt, fMax2, fMin2, fAll, fAny, pCall, pNever, p2I, p2I0, EV.two, EV.rd, EV.dat, EV.look, EV.seq, EV.lst, EV.wlk, EV.lsr, EV.sto, EV.ret, EV.arg, pNeg, pItems, pgName, pgTup, pgCons, pgNil, pYes, startE, List.map_cons, List.map_nil, List.cons_append, List.nil_append, List.length_cons, List.length_nil, Nat.reduceAdd, Nat.reduceSub, List.replicate_succ, List.replicate_zero, List.getElem?_cons_zero, List.getElem?_cons_succ, List.set_cons_zero, List.set_cons_succ, wipeE, EV.d.injEq, EV.l.injEq, PyData.int.injEq, PyData.bool.injEq, PyData.tuple.injEq, PyData.list.injEq, Option.some.injEq, exists_eq_left, exists_eq_left', true_and, and_true, List.mapM_cons, List.mapM_nil, bind_pure_comp, Option.pure_def, Option.bind_eq_bind, Option.bind_some, Option.map_some, Option.map_eq_map, truthD, if_true, if_false, reduceIte, Bool.false_eq_true, Bool.not_true, Bool.not_false, exists_and_left, exists_eq_left, decide_eq_true_eq, List.set_nil, pIx, pEq, pNe, pMul, pAdd, shaped_int, eqv_int, ix2_0, ix2_1, fr]
  by_cases h : x.num = 0
  · rw [decide_eq_true h]
    simp only [pSeq, pNext, pAsg, pAsgT, pAug, pSub, pIf, pRet, pRetV, pRetN, pDrop, pPar, pPar3, pVar, pC, pOp, pUn, pNil, pCons, pTest, pTruth, pAnd, pOr, pNot, pAndV, pOrV, pNotV, pIfE, pTup, pLst, pF1, pF2, fLen, fTuple, fList, fAbs, fInt, fMax2, fMin2, fAll, fAny, pCall, pNever, p2I, p2I0, EV.two, EV.rd, EV.dat, EV.look, EV.seq, EV.lst, EV.wlk, EV.lsr, EV.sto, EV.ret, EV.arg, pNeg, pItems, pgName, pgTup, pgCons, pgNil, pYes, startE, List.map_cons, List.map_nil, List.cons_append, List.nil_append, List.length_cons, List.length_nil, Nat.reduceAdd, Nat.reduceSub, List.replicate_succ, List.replicate_zero, List.getElem?_cons_zero, List.getElem?_cons_succ, List.set_cons_zero, List.set_cons_succ, wipeE, EV.d.injEq, EV.l.injEq, PyData.int.injEq, PyData.bool.injEq, PyData.tuple.injEq, PyData.list.injEq, Option.some.injEq, exists_eq_left, exists_eq_left', true_and, and_true, List.mapM_cons, List.mapM_nil, bind_pure_comp, Option.pure_def, Option.bind_eq_bind, Option.bind_some, Option.map_some, Option.map_eq_map, truthD, if_true, if_false, reduceIte, Bool.false_eq_true, Bool.not_true, Bool.not_false, exists_and_left, exists_eq_left, decide_eq_true_eq, List.set_nil, pIx, pEq, pNe, pMul, pAdd, shaped_int, eqv_int, ix2_0, ix2_1]
    refine ⟨by decide, by decide, by decide, by decide, by decide, by decide, _, _, rfl, .inl rfl, by decide, by decide, fun y hy => ?_⟩
    have : ∃ z, z ∈ someF ∧ y = fr z := by
      simp only [List.mem_cons, List.not_mem_nil, or_false] at hy
      rcases hy with rfl | rfl | rfl | rfl | rfl
      · exact ⟨1, by decide +kernel, fr_of (by decide +kernel) (by decide +kernel)⟩
      · exact ⟨-1, by decide +kernel, fr_of (by decide +kernel) (by decide +kernel)⟩
      · exact ⟨2, by decide +kernel, fr_of (by decide +kernel) (by decide +kernel)⟩
      · exact ⟨1 / 2, by decide +kernel, fr_of (by decide +kernel) (by decide +kernel)⟩
      · exact ⟨-3 / 2, by decide +kernel, fr_of (by decide +kernel) (by decide +kernel)⟩
    obtain ⟨z, hz, rfl⟩ := this
    obtain ⟨z0, zs⟩ := someF_ok z hz
    exact ⟨rfl, hq z z0 zs⟩
  · rw [decide_eq_false h]
    simp only [pSeq, pNext, pAsg, pAsgT, pAug, pSub, pIf, pRet, pRetV, pRetN, pDrop, pPar, pPar3, pVar, pC, pOp, pUn, pNil, pCons, pTest, pTruth, pAnd, pOr, pNot, pAndV, pOrV, pNotV, pIfE, pTup, pLst, pF1, pF2, fLen, fTuple, fList, fAbs, fInt, fMax2, fMin2, fAll, fAny, pCall, pNever, p2I, p2I0, EV.two, EV.rd, EV.dat, EV.look, EV.seq, EV.lst, EV.wlk, EV.lsr, EV.sto, EV.ret, EV.arg, pNeg, pItems, pgName, pgTup, pgCons, pgNil, pYes, startE, List.map_cons, List.map_nil, List.cons_append, List.nil_append, List.length_cons, List.length_nil, Nat.reduceAdd, Nat.reduceSub, List.replicate_succ, List.replicate_zero, List.getElem?_cons_zero, List.getElem?_cons_succ, List.set_cons_zero, List.set_cons_succ, wipeE, EV.d.injEq, EV.l.injEq, PyData.int.injEq, PyData.bool.injEq, PyData.tuple.injEq, PyData.list.injEq, Option.some.injEq, exists_eq_left, exists_eq_left', true_and, and_true, List.mapM_cons, List.mapM_nil, bind_pure_comp, Option.pure_def, Option.bind_eq_bind, Option.bind_some, Option.map_some, Option.map_eq_map, truthD, if_true, if_false, reduceIte, Bool.false_eq_true, Bool.not_true, Bool.not_false, exists_and_left, exists_eq_left, decide_eq_true_eq, List.set_nil, pIx, pEq, pNe, pMul, pAdd, shaped_int, eqv_int, ix2_0, ix2_1]
    have := hq x (fun z => h (by rw [z]; rfl)) hx
    exact this
def S__law_far : FSpec := fun es Q => ∃ most : Int, es = [.hand, .d (.int most)] ∧ 2 ≤ most ∧ most ≤ 100 ∧ ∀ p, PS 6 4 (most.toNat + 1) p → 3 ≤ p.length → Tr0 p → Q (.d (po p))
def T__law_far : PTS := (pSeq (pAsg 2 (pOp pAdd (pC (.int 2)) (pCall S__law_draw (pCons (pVar 0) (pCons (pOp pSub (pVar 1) (pC (.int 1))) pNil))))) (pRet (pF1 fTuple (pOp pAdd (pLc (pRng1 (pVar 2)) (pgName 3) pYes (pCall S__law_any (pCons (pVar 0) (pCons (pLst (pCons (pTup (pCons (pC (.int 0)) (pCons (pC (.int 1)) pNil))) (pCons (pCall S__law_few (pCons (pVar 0) pNil)) (pCons (pCall S__law_few (pCons (pVar 0) pNil)) pNil)))) pNil))) [3]) (pLst (pCons (pCall S__law_some_few (pCons (pVar 0) pNil)) pNil))))))
theorem l__law_far : ∀ es q, S__law_far es q → es.length = 2 := by rintro es q ⟨_, rfl, _⟩; rfl
theorem p__law_far : ∀ es q, S__law_far es q → T__law_far { nx := fun _ => q (.d .none), rt := q } (startE 4 es) := by
  rintro es q ⟨most, rfl, h1, h2, hq⟩
  unfold T__law_far
  simp only [pSeq, pNext, pAsg, pAsgT, pAug, pSub, pIf, pRet, pRetV, pRetN, pDrop, pPar, pPar3, pVar, pC, pOp, pUn, pNil, pCons, pTest, pTruth, pAnd, pOr, pNot, pAndV, pOrV, pNotV, pIfE, pTup, pLst, pF1, pF2, fLen, fTuple, fList, fAbs, fInt, fMax2, fMin2, fAll, fAny, pCall, pNever, p2I, p2I0, EV.two, EV.rd, EV.dat, EV.look, EV.seq, EV.lst, EV.wlk, EV.lsr, EV.sto, EV.ret, EV.arg, pNeg, pItems, pgName, pgTup, pgCons, pgNil, pYes, startE, List.map_cons, List.map_nil, List.cons_append, List.nil_append, List.length_cons, List.length_nil, Nat.reduceAdd, Nat.reduceSub, List.replicate_succ, List.replicate_zero, List.getElem?_cons_zero, List.getElem?_cons_succ, List.set_cons_zero, List.set_cons_succ, wipeE, EV.d.injEq, EV.l.injEq, PyData.int.injEq, PyData.bool.injEq, PyData.tuple.injEq, PyData.list.injEq, Option.some.injEq, exists_eq_left, exists_eq_left', true_and, and_true, List.mapM_cons, List.mapM_nil, bind_pure_comp, Option.pure_def, Option.bind_eq_bind, Option.bind_some, Option.map_some, Option.map_eq_map, truthD, if_true, if_false, reduceIte, Bool.false_eq_true, Bool.not_true, Bool.not_false, exists_and_left, exists_eq_left, decide_eq_true_eq, List.set_nil, pIx, pEq, pNe, pMul, pAdd, shaped_int, eqv_int, ix2_0, ix2_1, pLc, pRng1]
  refine ⟨_, rfl, by omega, small_pow (by omega), fun n hn => ?_⟩
  have e : (2 + (n : Int)) = ((2 + n : Nat) : Int) := by omega
  simp only [pSeq, pNext, pAsg, pAsgT, pAug, pSub, pIf, pRet, pRetV, pRetN, pDrop, pPar, pPar3, pVar, pC, pOp, pUn, pNil, pCons, pTest, pTruth, pAnd, pOr, pNot, pAndV, pOrV, pNotV, pIfE, pTup, pLst, pF1, pF2, fLen, fTuple, fList, fAbs, fInt, fMax2, fMin2, fAll, fAny, pCall, pNever, p2I, p2I0, EV.two, EV.rd, EV.dat, EV.look, EV.seq, EV.lst, EV.wlk, EV.lsr, EV.sto, EV.ret, EV.arg, pNeg, pItems, pgName, pgTup, pgCons, pgNil, pYes, startE, List.map_cons, List.map_nil, List.cons_append, List.nil_append, List.length_cons, List.length_nil, Nat.reduceAdd, Nat.reduceSub, List.replicate_succ, List.replicate_zero, List.getElem?_cons_zero, List.getElem?_cons_succ, List.set_cons_zero, List.set_cons_succ, wipeE, EV.d.injEq, EV.l.injEq, PyData.int.injEq, PyData.bool.injEq, PyData.tuple.injEq, PyData.list.injEq, Option.some.injEq, exists_eq_left, exists_eq_left', true_and, and_true, List.mapM_cons, List.mapM_nil, bind_pure_comp, Option.pure_def, Option.bind_eq_bind, Option.bind_some, Option.map_some, Option.map_eq_map, truthD, if_true, if_false, reduceIte, Bool.false_eq_true, Bool.not_true, Bool.not_false, exists_and_left, exists_eq_left, decide_eq_true_eq, List.set_nil, pIx, pEq, pNe, pMul, pAdd, shaped_int, eqv_int, ix2_0, ix2_1, e]
  refine ⟨by omega, by omega, ?_, ?_⟩
  · rw [rngD_map, List.length_map, List.length_range]; omega
  · rw [rngD_map, Int.toNat_natCast]
    refine pLcL_inv _ (fun i acc => ∃ p : List Rat, acc = p.map fr ∧ p.length = i ∧ ∀ c ∈ p, Sz 6 4 c) ⟨[], rfl, rfl, by simp⟩ ?_ ?_
    · rintro i x acc hx ⟨p, rfl, hl, hs⟩ R hR
      simp only [pSeq, pNext, pAsg, pAsgT, pAug, pSub, pIf, pRet, pRetV, pRetN, pDrop, pPar, pPar3, pVar, pC, pOp, pUn, pNil, pCons, pTest, pTruth, pAnd, pOr, pNot, pAndV, pOrV, pNotV, pIfE, pTup, pLst, pF1, pF2, fLen, fTuple, fList, fAbs, fInt, fMax2, fMin2, fAll, fAny, pCall, pNever, p2I, p2I0, EV.two, EV.rd, EV.dat, EV.look, EV.seq, EV.lst, EV.wlk, EV.lsr, EV.sto, EV.ret, EV.arg, pNeg, pItems, pgName, pgTup, pgCons, pgNil, pYes, startE, List.map_cons, List.map_nil, List.cons_append, List.nil_append, List.length_cons, List.length_nil, Nat.reduceAdd, Nat.reduceSub, List.replicate_succ, List.replicate_zero, List.getElem?_cons_zero, List.getElem?_cons_succ, List.set_cons_zero, List.set_cons_succ, wipeE, EV.d.injEq, EV.l.injEq, PyData.int.injEq, PyData.bool.injEq, PyData.tuple.injEq, PyData.list.injEq, Option.some.injEq, exists_eq_left, exists_eq_left', true_and, and_true, List.mapM_cons, List.mapM_nil, bind_pure_comp, Option.pure_def, Option.bind_eq_bind, Option.bind_some, Option.map_some, Option.map_eq_map, truthD, if_true, if_false, reduceIte, Bool.false_eq_true, Bool.not_true, Bool.not_false, exists_and_left, exists_eq_left, decide_eq_true_eq, List.set_nil, pIx, pEq, pNe, pMul, pAdd, shaped_int, eqv_int, ix2_0, ix2_1]
      have hx := List.mem_of_getElem? hx
      obtain ⟨j, hj, rfl⟩ := List.mem_map.mp hx
      refine ⟨by decide, rfl, fun u hu => ⟨rfl, fun v hv => ?_⟩⟩
      simp only [pSeq, pNext, pAsg, pAsgT, pAug, pSub, pIf, pRet, pRetV, pRetN, pDrop, pPar, pPar3, pVar, pC, pOp, pUn, pNil, pCons, pTest, pTruth, pAnd, pOr, pNot, pAndV, pOrV, pNotV, pIfE, pTup, pLst, pF1, pF2, fLen, fTuple, fList, fAbs, fInt, fMax2, fMin2, fAll, fAny, pCall, pNever, p2I, p2I0, EV.two, EV.rd, EV.dat, EV.look, EV.seq, EV.lst, EV.wlk, EV.lsr, EV.sto, EV.ret, EV.arg, pNeg, pItems, pgName, pgTup, pgCons, pgNil, pYes, startE, List.map_cons, List.map_nil, List.cons_append, List.nil_append, List.length_cons, List.length_nil, Nat.reduceAdd, Nat.reduceSub, List.replicate_succ, List.replicate_zero, List.getElem?_cons_zero, List.getElem?_cons_succ, List.set_cons_zero, List.set_cons_succ, wipeE, EV.d.injEq, EV.l.injEq, PyData.int.injEq, PyData.bool.injEq, PyData.tuple.injEq, PyData.list.injEq, Option.some.injEq, exists_eq_left, exists_eq_left', true_and, and_true, List.mapM_cons, List.mapM_nil, bind_pure_comp, Option.pure_def, Option.bind_eq_bind, Option.bind_some, Option.map_some, Option.map_eq_map, truthD, if_true, if_false, reduceIte, Bool.false_eq_true, Bool.not_true, Bool.not_false, exists_and_left, exists_eq_left, decide_eq_true_eq, List.set_nil, pIx, pEq, pNe, pMul, pAdd, shaped_int, eqv_int, ix2_0, ix2_1]
      refine ⟨by simp, _, _, rfl, .inl rfl, by simp, by simp, fun y hy => ?_⟩
      have : ∃ c, Sz 6 4 c ∧ y = fr c := by
        simp only [List.mem_cons, List.not_mem_nil, or_false] at hy
        rcases hy with rfl | rfl | rfl
        · exact ⟨0, .zero (by decide), rfl⟩
        · exact ⟨u, hu, rfl⟩
        · exact ⟨v, hv, rfl⟩
      obtain ⟨c, hc, rfl⟩ := this
      refine ⟨_, rfl, hR _ ⟨p ++ [c], by simp, by simp [hl], fun d hd => ?_⟩⟩
      rcases List.mem_append.mp hd with hd | hd
      · exact hs d hd
      · rw [List.mem_singleton.mp hd]; exact hc
    · rintro acc ⟨p, rfl, hl, hs⟩
      simp only [pSeq, pNext, pAsg, pAsgT, pAug, pSub, pIf, pRet, pRetV, pRetN, pDrop, pPar, pPar3, pVar, pC, pOp, pUn, pNil, pCons, pTest, pTruth, pAnd, pOr, pNot, pAndV, pOrV, pNotV, pIfE, pTup, pLst, pF1, pF2, fLen, fTuple, fList, fAbs, fInt, fMax2, fMin2, fAll, fAny, pCall, pNever, p2I, p2I0, EV.two, EV.rd, EV.dat, EV.look, EV.seq, EV.lst, EV.wlk, EV.lsr, EV.sto, EV.ret, EV.arg, pNeg, pItems, pgName, pgTup, pgCons, pgNil, pYes, startE, List.map_cons, List.map_nil, List.cons_append, List.nil_append, List.length_cons, List.length_nil, Nat.reduceAdd, Nat.reduceSub, List.replicate_succ, List.replicate_zero, List.getElem?_cons_zero, List.getElem?_cons_succ, List.set_cons_zero, List.set_cons_succ, wipeE, EV.d.injEq, EV.l.injEq, PyData.int.injEq, PyData.bool.injEq, PyData.tuple.injEq, PyData.list.injEq, Option.some.injEq, exists_eq_left, exists_eq_left', true_and, and_true, List.mapM_cons, List.mapM_nil, bind_pure_comp, Option.pure_def, Option.bind_eq_bind, Option.bind_some, Option.map_some, Option.map_eq_map, truthD, if_true, if_false, reduceIte, Bool.false_eq_true, Bool.not_true, Bool.not_false, exists_and_left, exists_eq_left, decide_eq_true_eq, List.set_nil, pIx, pEq, pNe, pMul, pAdd, shaped_int, eqv_int, ix2_0, ix2_1]
      rw [List.length_map, List.length_range] at hl
      refine ⟨rfl, fun c c0 hc => ?_⟩
      simp only [pSeq, pNext, pAsg, pAsgT, pAug, pSub, pIf, pRet, pRetV, pRetN, pDrop, pPar, pPar3, pVar, pC, pOp, pUn, pNil, pCons, pTest, pTruth, pAnd, pOr, pNot, pAndV, pOrV, pNotV, pIfE, pTup, pLst, pF1, pF2, fLen, fTuple, fList, fAbs, fInt, fMax2, fMin2, fAll, fAny, pCall, pNever, p2I, p2I0, EV.two, EV.rd, EV.dat, EV.look, EV.seq, EV.lst, EV.wlk, EV.lsr, EV.sto, EV.ret, EV.arg, pNeg, pItems, pgName, pgTup, pgCons, pgNil, pYes, startE, List.map_cons, List.map_nil, List.cons_append, List.nil_append, List.length_cons, List.length_nil, Nat.reduceAdd, Nat.reduceSub, List.replicate_succ, List.replicate_zero, List.getElem?_cons_zero, List.getElem?_cons_succ, List.set_cons_zero, List.set_cons_succ, wipeE, EV.d.injEq, EV.l.injEq, PyData.int.injEq, PyData.bool.injEq, PyData.tuple.injEq, PyData.list.injEq, Option.some.injEq, exists_eq_left, exists_eq_left', true_and, and_true, List.mapM_cons, List.mapM_nil, bind_pure_comp, Option.pure_def, Option.bind_eq_bind, Option.bind_some, Option.map_some, Option.map_eq_map, truthD, if_true, if_false, reduceIte, Bool.false_eq_true, Bool.not_true, Bool.not_false, exists_and_left, exists_eq_left, decide_eq_true_eq, List.set_nil, pIx, pEq, pNe, pMul, pAdd, shaped_int, eqv_int, ix2_0, ix2_1]
      refine ⟨by simp, by simp; omega, ?_⟩
      have e2 : p.map fr ++ [fr c] = (p ++ [c]).map fr := by simp
      rw [e2]
      refine hq (p ++ [c]) ⟨by decide, fun d hd => ?_, by simp; omega⟩ (by simp; omega) ?_
      · rcases List.mem_append.mp hd with hd | hd
        · exact hs d hd
        · rw [List.mem_singleton.mp hd]; exact hc
      · intro d hd
        rw [List.getLast?_append] at hd
        simp at hd
        exact hd ▸ c0
end PL
namespace PL
open PySem PySem.Spec PyProof.Rows L2
theorem ledBd {D N A M L D' N' A' M' : Nat} (b : Bd (ledD D' A' 13) (ledN N' M' 13)) (h1 : D ≤ D') (h2 : N ≤ N') (h3 : A ≤ A') (h4 : M ≤ M') (h5 : L ≤ 13) (h0 : 0 < A) : Bd (ledD D A L) (ledN N M L) :=
  b.le (ledD_mono h1 h3 h5 h0) (ledN_mono h2 h4 h5)
theorem Bs.le {D N D' N' : Nat} (b : Bs D' N') (h : D ≤ D') (h2 : N ≤ N') : Bs D N := ⟨Nat.lt_of_le_of_lt (Nat.mul_le_mul h2 h) b.1, Nat.lt_of_le_of_lt h b.2⟩
theorem ledBs {D N A M L D' N' A' M' : Nat} (b : Bs (ledD D' A' 13) (ledN N' M' 13)) (h1 : D ≤ D') (h2 : N ≤ N') (h3 : A ≤ A') (h4 : M ≤ M') (h5 : L ≤ 13) (h0 : 0 < A) : Bs (ledD D A L) (ledN N M L) :=
  b.le (ledD_mono h1 h3 h5 h0) (ledN_mono h2 h4 h5)
instance (D N : Nat) : Decidable (Bd D N) := inferInstanceAs (Decidable (_ ∧ _))
instance (D N : Nat) : Decidable (Bs D N) := inferInstanceAs (Decidable (_ ∧ _))
def kD1 : Nat := ledD 6 144 13
def kN1 : Nat := ledN 4 24 13
theorem kb1 : Bd (ledD 6 144 13) (ledN 4 24 13) := by decide +kernel
theorem kb2 : Bd (ledD kD1 144 13) (ledN kN1 24 13) := by decide +kernel
theorem kb3 : Bd (ledD 6 25920 13) (ledN 4 720 13) := by decide +kernel
theorem kb4 : Bd (ledD kD1 497664 13) (ledN kN1 3456 13) := by decide +kernel
theorem kb5 : Bd (ledD 6 1 13) (ledN 4 1 13) := by decide +kernel
theorem kb6 : Bd (144 * 6) (1 * (24 * 4) + 24) := by decide +kernel
theorem ks1 : Bs kD1 kN1 := by decide +kernel
theorem ks3 : Bs (ledD 6 25920 13) (ledN 4 720 13) := by decide +kernel
theorem ks0 : Bs 6 4 := by decide +kernel
theorem kb0 : Bd 6 4 := by decide +kernel
def S__law_is_led_right : FSpec := fun es Q => ∃ p, es = [.hand, .d (po p)] ∧ PS 6 4 13 p ∧ 3 ≤ p.length ∧ Tr0 p ∧ Q (.d (.bool true))
def T__law_is_led_right : PTS := (pSeq (pAsgT (pgTup 4 (pgCons (pgName 2) (pgCons (pgName 3) (pgCons (pgName 4) (pgCons (pgName 5) pgNil))))) (pTup (pCons (pCall S__law_some_few (pCons (pVar 0) pNil)) (pCons (pCall S__law_few (pCons (pVar 0) pNil)) (pCons (pCall S__law_some_few (pCons (pVar 0) pNil)) (pCons (pCall S__law_few (pCons (pVar 0) pNil)) pNil)))))) (pSeq (pAsg 6 (pCall S__law_led_by (pCons (pVar 1) (pCons (pVar 2) (pCons (pVar 3) pNil))))) (pSeq (pIf (pNot (pTruth (pCall S__law_is (pCons (pCall S_led_poly_by (pCons (pVar 1) (pCons (pVar 2) (pCons (pVar 3) pNil)))) (pCons (pVar 6) pNil))))) (pRet (pC (.bool false))) pNext) (pSeq (pAsg 7 (pCall S__law_sum (pCons (pCall S__law_product (pCons (pTup (pCons (pVar 2) pNil)) (pCons (pVar 1) pNil))) (pCons (pCall S__law_poly (pCons (pLst (pCons (pVar 3) pNil)) pNil)) pNil)))) (pSeq (pIf (pTest (pOp pNe (pCall S__law_behind (pCons (pVar 6) (pCons (pCall S__law_poly (pCons (pLst (pCons (pVar 3) (pCons (pVar 2) pNil))) pNil)) pNil))) (pVar 7))) (pRet (pC (.bool false))) pNext) (pSeq (pAsg 8 (pCall S_led_poly_by (pCons (pVar 6) (pCons (pVar 4) (pCons (pVar 5) pNil))))) (pSeq (pIf (pNot (pTruth (pCall S__law_is (pCons (pVar 8) (pCons (pCall S_led_poly_by (pCons (pVar 1) (pCons (pCall S__law_mul (pCons (pVar 4) (pCons (pVar 2) pNil))) (pCons (pCall S__law_add (pCons (pCall S__law_mul (pCons (pVar 4) (pCons (pVar 3) pNil))) (pCons (pVar 5) pNil))) pNil)))) pNil))))) (pRet (pC (.bool false))) pNext) (pSeq (pAsg 9 (pCall S_led_poly_by (pCons (pVar 6) (pCons (pCall S__law_by (pCons (pTup (pCons (pC (.int 1)) (pCons (pC (.int 1)) pNil))) (pCons (pVar 2) pNil))) (pCons (pCall S__law_by (pCons (pCall S__law_less (pCons (pTup (pCons (pC (.int 0)) (pCons (pC (.int 1)) pNil))) (pCons (pVar 3) pNil))) (pCons (pVar 2) pNil))) pNil))))) (pRet (pCall S__law_is (pCons (pLst (pCons (pVar 9) (pCons (pCall S_led_poly_by (pCons (pVar 1) (pCons (pTup (pCons (pC (.int 1)) (pCons (pC (.int 1)) pNil))) (pCons (pTup (pCons (pC (.int 0)) (pCons (pC (.int 1)) pNil))) pNil)))) pNil))) (pCons (pLst (pCons (pVar 1) (pCons (pVar 1) pNil))) pNil))))))))))))
theorem l__law_is_led_right : ∀ es q, S__law_is_led_right es q → es.length = 2 := by rintro es q ⟨_, rfl, _⟩; rfl
theorem p__law_is_led_right : ∀ es q, S__law_is_led_right es q → T__law_is_led_right { nx := fun _ => q (.d .none), rt := q } (startE 10 es) := by
  rintro es q ⟨p, rfl, hp13, hl3, ht, hq⟩
  unfold T__law_is_led_right
  have hl13 := hp13.len
  have hp : PS 6 4 p.length p := ⟨hp13.pos, hp13.sz, Nat.le_refl _⟩
  have e0 : PyData.tuple [PyData.int 0, PyData.int 1] = fr 0 := rfl
  have e1 : PyData.tuple [PyData.int 1, PyData.int 1] = fr 1 := rfl
  simp only [pSeq, pNext, pAsg, pAsgT, pAug, pSub, pIf, pRet, pRetV, pRetN, pDrop, pPar, pPar3, pVar, pC, pOp, pUn, pNil, pCons, pTest, pTruth, pAnd, pOr, pNot, pAndV, pOrV, pNotV, pIfE, pTup, pLst, pF1, pF2, fLen, fTuple, fList, fAbs, fInt, fMax2, fMin2, fAll, fAny, pCall, pNever, p2I, p2I0, EV.two, EV.rd, EV.dat, EV.look, EV.seq, EV.lst, EV.wlk, EV.lsr, EV.sto, EV.ret, EV.arg, pNeg, pItems, pgName, pgTup, pgCons, pgNil, pYes, startE, List.map_cons, List.map_nil, List.cons_append, List.nil_append, List.length_cons, List.length_nil, Nat.reduceAdd, Nat.reduceSub, List.replicate_succ, List.replicate_zero, List.getElem?_cons_zero, List.getElem?_cons_succ, List.set_cons_zero, List.set_cons_succ, wipeE, EV.d.injEq, EV.l.injEq, PyData.int.injEq, PyData.bool.injEq, PyData.tuple.injEq, PyData.list.injEq, Option.some.injEq, exists_eq_left, exists_eq_left', true_and, and_true, List.mapM_cons, List.mapM_nil, bind_pure_comp, Option.pure_def, Option.bind_eq_bind, Option.bind_some, Option.map_some, Option.map_eq_map, truthD, if_true, if_false, reduceIte, Bool.false_eq_true, Bool.not_true, Bool.not_false, exists_and_left, exists_eq_left, decide_eq_true_eq, List.set_nil, pIx, pEq, pNe, pMul, pAdd, shaped_int, eqv_int, ix2_0, ix2_1, List.cons.injEq, and_assoc, e0, e1]
  refine ⟨rfl, fun a a0 sa => ⟨rfl, fun b sb => ⟨rfl, fun c c0 sc => ⟨rfl, fun d sd => ?_⟩⟩⟩⟩
  simp only [pSeq, pNext, pAsg, pAsgT, pAug, pSub, pIf, pRet, pRetV, pRetN, pDrop, pPar, pPar3, pVar, pC, pOp, pUn, pNil, pCons, pTest, pTruth, pAnd, pOr, pNot, pAndV, pOrV, pNotV, pIfE, pTup, pLst, pF1, pF2, fLen, fTuple, fList, fAbs, fInt, fMax2, fMin2, fAll, fAny, pCall, pNever, p2I, p2I0, EV.two, EV.rd, EV.dat, EV.look, EV.seq, EV.lst, EV.wlk, EV.lsr, EV.sto, EV.ret, EV.arg, pNeg, pItems, pgName, pgTup, pgCons, pgNil, pYes, startE, List.map_cons, List.map_nil, List.cons_append, List.nil_append, List.length_cons, List.length_nil, Nat.reduceAdd, Nat.reduceSub, List.replicate_succ, List.replicate_zero, List.getElem?_cons_zero, List.getElem?_cons_succ, List.set_cons_zero, List.set_cons_succ, wipeE, EV.d.injEq, EV.l.injEq, PyData.int.injEq, PyData.bool.injEq, PyData.tuple.injEq, PyData.list.injEq, Option.some.injEq, exists_eq_left, exists_eq_left', true_and, and_true, List.mapM_cons, List.mapM_nil, bind_pure_comp, Option.pure_def, Option.bind_eq_bind, Option.bind_some, Option.map_some, Option.map_eq_map, truthD, if_true, if_false, reduceIte, Bool.false_eq_true, Bool.not_true, Bool.not_false, exists_and_left, exists_eq_left, decide_eq_true_eq, List.set_nil, pIx, pEq, pNe, pMul, pAdd, shaped_int, eqv_int, ix2_0, ix2_1, List.cons.injEq, and_assoc, e0, e1]
  obtain ⟨A1, lA1, ab1⟩ := ab_of sa sb a0 (by decide +kernel)
  obtain ⟨A2, lA2, ab2⟩ := ab_of sc sd c0 (by decide +kernel)
  have A1p := ab1.sa.1
  have A2p := ab2.sa.1
  refine ⟨by simp, p, a, b, 6, 4, _, A1, _, rfl, hp, rfl, by omega, by omega, ab1, ledBd kb1 (by decide) (by decide) lA1 (by decide) hl13 A1p, fun due t1 v1 s1 => ?_⟩
  simp only [pSeq, pNext, pAsg, pAsgT, pAug, pSub, pIf, pRet, pRetV, pRetN, pDrop, pPar, pPar3, pVar, pC, pOp, pUn, pNil, pCons, pTest, pTruth, pAnd, pOr, pNot, pAndV, pOrV, pNotV, pIfE, pTup, pLst, pF1, pF2, fLen, fTuple, fList, fAbs, fInt, fMax2, fMin2, fAll, fAny, pCall, pNever, p2I, p2I0, EV.two, EV.rd, EV.dat, EV.look, EV.seq, EV.lst, EV.wlk, EV.lsr, EV.sto, EV.ret, EV.arg, pNeg, pItems, pgName, pgTup, pgCons, pgNil, pYes, startE, List.map_cons, List.map_nil, List.cons_append, List.nil_append, List.length_cons, List.length_nil, Nat.reduceAdd, Nat.reduceSub, List.replicate_succ, List.replicate_zero, List.getElem?_cons_zero, List.getElem?_cons_succ, List.set_cons_zero, List.set_cons_succ, wipeE, EV.d.injEq, EV.l.injEq, PyData.int.injEq, PyData.bool.injEq, PyData.tuple.injEq, PyData.list.injEq, Option.some.injEq, exists_eq_left, exists_eq_left', true_and, and_true, List.mapM_cons, List.mapM_nil, bind_pure_comp, Option.pure_def, Option.bind_eq_bind, Option.bind_some, Option.map_some, Option.map_eq_map, truthD, if_true, if_false, reduceIte, Bool.false_eq_true, Bool.not_true, Bool.not_false, exists_and_left, exists_eq_left, decide_eq_true_eq, List.set_nil, pIx, pEq, pNe, pMul, pAdd, shaped_int, eqv_int, ix2_0, ix2_1, List.cons.injEq, and_assoc, e0, e1]
  refine ⟨p, a, b, 6, 4, _, A1, _, rfl, hp, rfl, hl3, hl13, ht, ab1, ledBd kb1 (by decide) (by decide) lA1 (by decide) hl13 A1p, fun due' t1' v1' s1' => ?_⟩
  have ed : due' = due := tr0_uniq t1' t1 fun x => (v1' x).trans (v1 x).symm
  subst ed
  have lD1 : ledD 6 A1 p.length ≤ kD1 := ledD_mono (by decide) lA1 hl13 A1p
  have lN1 : ledN 4 (4 * 6) p.length ≤ kN1 := ledN_mono (by decide) (by decide) hl13
  have ldue : due'.length = p.length := Nat.le_antisymm s1.len (by have := led_len a0 ht v1; omega)
  refine ⟨_, _, po due', _, _, rfl, rfl, rfl, .po s1 (ks1.le lD1 lN1), by decide, by omega, _, rfl, _, rfl, ?_⟩
  simp only [pSeq, pNext, pAsg, pAsgT, pAug, pSub, pIf, pRet, pRetV, pRetN, pDrop, pPar, pPar3, pVar, pC, pOp, pUn, pNil, pCons, pTest, pTruth, pAnd, pOr, pNot, pAndV, pOrV, pNotV, pIfE, pTup, pLst, pF1, pF2, fLen, fTuple, fList, fAbs, fInt, fMax2, fMin2, fAll, fAny, pCall, pNever, p2I, p2I0, EV.two, EV.rd, EV.dat, EV.look, EV.seq, EV.lst, EV.wlk, EV.lsr, EV.sto, EV.ret, EV.arg, pNeg, pItems, pgName, pgTup, pgCons, pgNil, pYes, startE, List.map_cons, List.map_nil, List.cons_append, List.nil_append, List.length_cons, List.length_nil, Nat.reduceAdd, Nat.reduceSub, List.replicate_succ, List.replicate_zero, List.getElem?_cons_zero, List.getElem?_cons_succ, List.set_cons_zero, List.set_cons_succ, wipeE, EV.d.injEq, EV.l.injEq, PyData.int.injEq, PyData.bool.injEq, PyData.tuple.injEq, PyData.list.injEq, Option.some.injEq, exists_eq_left, exists_eq_left', true_and, and_true, List.mapM_cons, List.mapM_nil, bind_pure_comp, Option.pure_def, Option.bind_eq_bind, Option.bind_some, Option.map_some, Option.map_eq_map, truthD, if_true, if_false, reduceIte, Bool.false_eq_true, Bool.not_true, Bool.not_false, exists_and_left, exists_eq_left, decide_eq_true_eq, List.set_nil, pIx, pEq, pNe, pMul, pAdd, shaped_int, eqv_int, ix2_0, ix2_1, List.cons.injEq, and_assoc, e0, e1]
  -- both
  have hb1 : Bd (A1 * 6) (1 * (24 * 4) + 24) := kb6.le (Nat.mul_le_mul_right _ lA1) (Nat.le_refl _)
  refine ⟨by decide, [a], p, A1, 24, 6, 4, 1, _, rfl, .one ab1.sa, hp, ab1.bd, kb0, hb1.mono (by decide), by decide, by omega, fun r1 tr1 vr1 sr1 => ?_⟩
  refine ⟨by decide, _, [b], rfl, .inl rfl, by simp, fun m2 hm2 t2 v2 => ?_⟩
  have sr1' : PS (A1 * 6) (1 * (24 * 4)) 13 r1 := sr1.mono (Nat.le_refl _) (by unfold lenP; simp; omega)
  have sb2 : PS (A1 * 6) 24 13 ([b].take m2) := (((PS.one ab1.sb).take m2).den (by decide)).mono (Nat.le_refl _) (by decide)
  refine ⟨r1, _, A1 * 6, _, 24, 13, rfl, sr1', sb2, hb1, by decide, fun both tb vb sb3 => ?_⟩
  simp only [pSeq, pNext, pAsg, pAsgT, pAug, pSub, pIf, pRet, pRetV, pRetN, pDrop, pPar, pPar3, pVar, pC, pOp, pUn, pNil, pCons, pTest, pTruth, pAnd, pOr, pNot, pAndV, pOrV, pNotV, pIfE, pTup, pLst, pF1, pF2, fLen, fTuple, fList, fAbs, fInt, fMax2, fMin2, fAll, fAny, pCall, pNever, p2I, p2I0, EV.two, EV.rd, EV.dat, EV.look, EV.seq, EV.lst, EV.wlk, EV.lsr, EV.sto, EV.ret, EV.arg, pNeg, pItems, pgName, pgTup, pgCons, pgNil, pYes, startE, List.map_cons, List.map_nil, List.cons_append, List.nil_append, List.length_cons, List.length_nil, Nat.reduceAdd, Nat.reduceSub, List.replicate_succ, List.replicate_zero, List.getElem?_cons_zero, List.getElem?_cons_succ, List.set_cons_zero, List.set_cons_succ, wipeE, EV.d.injEq, EV.l.injEq, PyData.int.injEq, PyData.bool.injEq, PyData.tuple.injEq, PyData.list.injEq, Option.some.injEq, exists_eq_left, exists_eq_left', true_and, and_true, List.mapM_cons, List.mapM_nil, bind_pure_comp, Option.pure_def, Option.bind_eq_bind, Option.bind_some, Option.map_some, Option.map_eq_map, truthD, if_true, if_false, reduceIte, Bool.false_eq_true, Bool.not_true, Bool.not_false, exists_and_left, exists_eq_left, decide_eq_true_eq, List.set_nil, pIx, pEq, pNe, pMul, pAdd, shaped_int, eqv_int, ix2_0, ix2_1, List.cons.injEq, and_assoc, e0, e1]
  refine ⟨by decide, _, [b, a], rfl, .inl rfl, by simp, fun m3 hm3 t3 v3 => ?_⟩
  have sba : PS A1 24 2 ([b, a].take m3) := PS.take ⟨A1p, fun z hz => by
    rcases List.mem_cons.mp hz with rfl | hz
    · exact ab1.sb
    · rw [List.mem_singleton.mp hz]; exact ab1.sa, by simp⟩ m3
  have sd' : PS (ledD 6 A1 p.length) (ledN 4 24 p.length) p.length due' := s1
  have hcb := led_cb (p := due') sd' (by omega) (by omega) ab1 (ledBd kb2 lD1 lN1 lA1 (Nat.le_refl _) hl13 A1p)
  refine ⟨due', _, _, _, p.length, A1, 24, 2, p.length, rfl, sd', sba, ldue, hcb, fun beh tbe vbe sbe => ?_⟩
  have eb : beh = both := tr0_uniq tbe tb fun x => by
    rw [show ev beh x = ev due' (ev ([b, a].take m3) x) from vbe x, show ev both x = ev r1 x + ev ([b].take m2) x from vb x, show ev r1 x = ev [a] x * ev p x from vr1 x, v3, ev_take_le v2, ev_one, ev_cons, ev_one, ← led_back a0 v1 x]
    rw [Rat.mul_comm x a]
  subst eb
  simp only [pSeq, pNext, pAsg, pAsgT, pAug, pSub, pIf, pRet, pRetV, pRetN, pDrop, pPar, pPar3, pVar, pC, pOp, pUn, pNil, pCons, pTest, pTruth, pAnd, pOr, pNot, pAndV, pOrV, pNotV, pIfE, pTup, pLst, pF1, pF2, fLen, fTuple, fList, fAbs, fInt, fMax2, fMin2, fAll, fAny, pCall, pNever, p2I, p2I0, EV.two, EV.rd, EV.dat, EV.look, EV.seq, EV.lst, EV.wlk, EV.lsr, EV.sto, EV.ret, EV.arg, pNeg, pItems, pgName, pgTup, pgCons, pgNil, pYes, startE, List.map_cons, List.map_nil, List.cons_append, List.nil_append, List.length_cons, List.length_nil, Nat.reduceAdd, Nat.reduceSub, List.replicate_succ, List.replicate_zero, List.getElem?_cons_zero, List.getElem?_cons_succ, List.set_cons_zero, List.set_cons_succ, wipeE, EV.d.injEq, EV.l.injEq, PyData.int.injEq, PyData.bool.injEq, PyData.tuple.injEq, PyData.list.injEq, Option.some.injEq, exists_eq_left, exists_eq_left', true_and, and_true, List.mapM_cons, List.mapM_nil, bind_pure_comp, Option.pure_def, Option.bind_eq_bind, Option.bind_some, Option.map_some, Option.map_eq_map, truthD, if_true, if_false, reduceIte, Bool.false_eq_true, Bool.not_true, Bool.not_false, exists_and_left, exists_eq_left, decide_eq_true_eq, List.set_nil, pIx, pEq, pNe, pMul, pAdd, shaped_int, eqv_int, ix2_0, ix2_1, List.cons.injEq, and_assoc, e0, e1]
  refine ⟨shaped_po _, shaped_po _, ?_⟩
  rw [eqv_po, decide_eq_true rfl]
  simp only [pSeq, pNext, pAsg, pAsgT, pAug, pSub, pIf, pRet, pRetV, pRetN, pDrop, pPar, pPar3, pVar, pC, pOp, pUn, pNil, pCons, pTest, pTruth, pAnd, pOr, pNot, pAndV, pOrV, pNotV, pIfE, pTup, pLst, pF1, pF2, fLen, fTuple, fList, fAbs, fInt, fMax2, fMin2, fAll, fAny, pCall, pNever, p2I, p2I0, EV.two, EV.rd, EV.dat, EV.look, EV.seq, EV.lst, EV.wlk, EV.lsr, EV.sto, EV.ret, EV.arg, pNeg, pItems, pgName, pgTup, pgCons, pgNil, pYes, startE, List.map_cons, List.map_nil, List.cons_append, List.nil_append, List.length_cons, List.length_nil, Nat.reduceAdd, Nat.reduceSub, List.replicate_succ, List.replicate_zero, List.getElem?_cons_zero, List.getElem?_cons_succ, List.set_cons_zero, List.set_cons_succ, wipeE, EV.d.injEq, EV.l.injEq, PyData.int.injEq, PyData.bool.injEq, PyData.tuple.injEq, PyData.list.injEq, Option.some.injEq, exists_eq_left, exists_eq_left', true_and, and_true, List.mapM_cons, List.mapM_nil, bind_pure_comp, Option.pure_def, Option.bind_eq_bind, Option.bind_some, Option.map_some, Option.map_eq_map, truthD, if_true, if_false, reduceIte, Bool.false_eq_true, Bool.not_true, Bool.not_false, exists_and_left, exists_eq_left, decide_eq_true_eq, List.set_nil, pIx, pEq, pNe, pMul, pAdd, shaped_int, eqv_int, ix2_0, ix2_1, List.cons.injEq, and_assoc, e0, e1]
  -- twice
  refine ⟨due', c, d, _, _, p.length, A2, 24, rfl, sd', ldue, hl3, hl13, t1, ab2, ledBd kb2 lD1 lN1 lA2 (Nat.le_refl _) hl13 A2p, fun twice tt vt st => ?_⟩
  have oc := kb0.ok sc
  have oa := kb0.ok sa
  have ob := kb0.ok sb
  have od := kb0.ok sd
  have sca := sc.mul sa
  have scb := (sc.mul sb).add (sd.den (E := 6) (by decide))
  simp only [pSeq, pNext, pAsg, pAsgT, pAug, pSub, pIf, pRet, pRetV, pRetN, pDrop, pPar, pPar3, pVar, pC, pOp, pUn, pNil, pCons, pTest, pTruth, pAnd, pOr, pNot, pAndV, pOrV, pNotV, pIfE, pTup, pLst, pF1, pF2, fLen, fTuple, fList, fAbs, fInt, fMax2, fMin2, fAll, fAny, pCall, pNever, p2I, p2I0, EV.two, EV.rd, EV.dat, EV.look, EV.seq, EV.lst, EV.wlk, EV.lsr, EV.sto, EV.ret, EV.arg, pNeg, pItems, pgName, pgTup, pgCons, pgNil, pYes, startE, List.map_cons, List.map_nil, List.cons_append, List.nil_append, List.length_cons, List.length_nil, Nat.reduceAdd, Nat.reduceSub, List.replicate_succ, List.replicate_zero, List.getElem?_cons_zero, List.getElem?_cons_succ, List.set_cons_zero, List.set_cons_succ, wipeE, EV.d.injEq, EV.l.injEq, PyData.int.injEq, PyData.bool.injEq, PyData.tuple.injEq, PyData.list.injEq, Option.some.injEq, exists_eq_left, exists_eq_left', true_and, and_true, List.mapM_cons, List.mapM_nil, bind_pure_comp, Option.pure_def, Option.bind_eq_bind, Option.bind_some, Option.map_some, Option.map_eq_map, truthD, if_true, if_false, reduceIte, Bool.false_eq_true, Bool.not_true, Bool.not_false, exists_and_left, exists_eq_left, decide_eq_true_eq, List.set_nil, pIx, pEq, pNe, pMul, pAdd, shaped_int, eqv_int, ix2_0, ix2_1, List.cons.injEq, and_assoc, e0, e1]
  refine ⟨c, a, rfl, oc, oa, ?_⟩
  refine ⟨c, b, rfl, oc, ob, ?_⟩
  simp only [pSeq, pNext, pAsg, pAsgT, pAug, pSub, pIf, pRet, pRetV, pRetN, pDrop, pPar, pPar3, pVar, pC, pOp, pUn, pNil, pCons, pTest, pTruth, pAnd, pOr, pNot, pAndV, pOrV, pNotV, pIfE, pTup, pLst, pF1, pF2, fLen, fTuple, fList, fAbs, fInt, fMax2, fMin2, fAll, fAny, pCall, pNever, p2I, p2I0, EV.two, EV.rd, EV.dat, EV.look, EV.seq, EV.lst, EV.wlk, EV.lsr, EV.sto, EV.ret, EV.arg, pNeg, pItems, pgName, pgTup, pgCons, pgNil, pYes, startE, List.map_cons, List.map_nil, List.cons_append, List.nil_append, List.length_cons, List.length_nil, Nat.reduceAdd, Nat.reduceSub, List.replicate_succ, List.replicate_zero, List.getElem?_cons_zero, List.getElem?_cons_succ, List.set_cons_zero, List.set_cons_succ, wipeE, EV.d.injEq, EV.l.injEq, PyData.int.injEq, PyData.bool.injEq, PyData.tuple.injEq, PyData.list.injEq, Option.some.injEq, exists_eq_left, exists_eq_left', true_and, and_true, List.mapM_cons, List.mapM_nil, bind_pure_comp, Option.pure_def, Option.bind_eq_bind, Option.bind_some, Option.map_some, Option.map_eq_map, truthD, if_true, if_false, reduceIte, Bool.false_eq_true, Bool.not_true, Bool.not_false, exists_and_left, exists_eq_left, decide_eq_true_eq, List.set_nil, pIx, pEq, pNe, pMul, pAdd, shaped_int, eqv_int, ix2_0, ix2_1, List.cons.injEq, and_assoc, e0, e1]
  have kb7 : Bd (6 * 6) (4 * 4) := by decide +kernel
  have kb8 : Bd (6 * 6) (4 * 4 + 4) := by decide +kernel
  refine ⟨c * b, d, rfl, kb7.ok (sc.mul sb), od, ?_⟩
  simp only [pSeq, pNext, pAsg, pAsgT, pAug, pSub, pIf, pRet, pRetV, pRetN, pDrop, pPar, pPar3, pVar, pC, pOp, pUn, pNil, pCons, pTest, pTruth, pAnd, pOr, pNot, pAndV, pOrV, pNotV, pIfE, pTup, pLst, pF1, pF2, fLen, fTuple, fList, fAbs, fInt, fMax2, fMin2, fAll, fAny, pCall, pNever, p2I, p2I0, EV.two, EV.rd, EV.dat, EV.look, EV.seq, EV.lst, EV.wlk, EV.lsr, EV.sto, EV.ret, EV.arg, pNeg, pItems, pgName, pgTup, pgCons, pgNil, pYes, startE, List.map_cons, List.map_nil, List.cons_append, List.nil_append, List.length_cons, List.length_nil, Nat.reduceAdd, Nat.reduceSub, List.replicate_succ, List.replicate_zero, List.getElem?_cons_zero, List.getElem?_cons_succ, List.set_cons_zero, List.set_cons_succ, wipeE, EV.d.injEq, EV.l.injEq, PyData.int.injEq, PyData.bool.injEq, PyData.tuple.injEq, PyData.list.injEq, Option.some.injEq, exists_eq_left, exists_eq_left', true_and, and_true, List.mapM_cons, List.mapM_nil, bind_pure_comp, Option.pure_def, Option.bind_eq_bind, Option.bind_some, Option.map_some, Option.map_eq_map, truthD, if_true, if_false, reduceIte, Bool.false_eq_true, Bool.not_true, Bool.not_false, exists_and_left, exists_eq_left, decide_eq_true_eq, List.set_nil, pIx, pEq, pNe, pMul, pAdd, shaped_int, eqv_int, ix2_0, ix2_1, List.cons.injEq, and_assoc, e0, e1]
  have ca0 : c * a ≠ 0 := fun e => (Rat.mul_eq_zero.mp e).elim c0 a0
  obtain ⟨A3, lA3, ab3⟩ := ab_of (sca.mono (show 4 * 4 ≤ 4 * 4 + 4 by decide)) scb ca0 (by decide +kernel)
  have A3p := ab3.sa.1
  refine ⟨p, c * a, c * b + d, 6, 4, _, A3, _, rfl, hp, rfl, hl3, hl13, ht, ab3, ledBd kb3 (by decide) (by decide) lA3 (by decide) hl13 A3p, fun r3 t3' v3' s3' => ?_⟩
  have e3 : twice = r3 := tr0_uniq tt t3' fun x => by rw [vt, v3', ledF_led a0 c0 v1]
  subst e3
  refine ⟨_, _, po twice, _, _, rfl, rfl, rfl, .po s3' (ledBs ks3 (by decide) (by decide) lA3 (by decide) hl13 A3p), by decide, by omega, _, rfl, _, rfl, ?_⟩
  simp only [pSeq, pNext, pAsg, pAsgT, pAug, pSub, pIf, pRet, pRetV, pRetN, pDrop, pPar, pPar3, pVar, pC, pOp, pUn, pNil, pCons, pTest, pTruth, pAnd, pOr, pNot, pAndV, pOrV, pNotV, pIfE, pTup, pLst, pF1, pF2, fLen, fTuple, fList, fAbs, fInt, fMax2, fMin2, fAll, fAny, pCall, pNever, p2I, p2I0, EV.two, EV.rd, EV.dat, EV.look, EV.seq, EV.lst, EV.wlk, EV.lsr, EV.sto, EV.ret, EV.arg, pNeg, pItems, pgName, pgTup, pgCons, pgNil, pYes, startE, List.map_cons, List.map_nil, List.cons_append, List.nil_append, List.length_cons, List.length_nil, Nat.reduceAdd, Nat.reduceSub, List.replicate_succ, List.replicate_zero, List.getElem?_cons_zero, List.getElem?_cons_succ, List.set_cons_zero, List.set_cons_succ, wipeE, EV.d.injEq, EV.l.injEq, PyData.int.injEq, PyData.bool.injEq, PyData.tuple.injEq, PyData.list.injEq, Option.some.injEq, exists_eq_left, exists_eq_left', true_and, and_true, List.mapM_cons, List.mapM_nil, bind_pure_comp, Option.pure_def, Option.bind_eq_bind, Option.bind_some, Option.map_some, Option.map_eq_map, truthD, if_true, if_false, reduceIte, Bool.false_eq_true, Bool.not_true, Bool.not_false, exists_and_left, exists_eq_left, decide_eq_true_eq, List.set_nil, pIx, pEq, pNe, pMul, pAdd, shaped_int, eqv_int, ix2_0, ix2_1, List.cons.injEq, and_assoc, e0, e1]
  -- home
  have ai0 : 1 / a ≠ 0 := by grind
  have sai := ab1.si
  have sbn : Sz A1 24 ((0 - b) / a) := by
    have e : (0 - b) / a = -(b / a) := by grind
    rw [e]; exact ab1.sq.neg
  refine ⟨by decide, 1, a, rfl, .one, oa, a0, ?_⟩
  refine ⟨by decide, 0, b, rfl, .zero, ob, ?_⟩
  simp only [pSeq, pNext, pAsg, pAsgT, pAug, pSub, pIf, pRet, pRetV, pRetN, pDrop, pPar, pPar3, pVar, pC, pOp, pUn, pNil, pCons, pTest, pTruth, pAnd, pOr, pNot, pAndV, pOrV, pNotV, pIfE, pTup, pLst, pF1, pF2, fLen, fTuple, fList, fAbs, fInt, fMax2, fMin2, fAll, fAny, pCall, pNever, p2I, p2I0, EV.two, EV.rd, EV.dat, EV.look, EV.seq, EV.lst, EV.wlk, EV.lsr, EV.sto, EV.ret, EV.arg, pNeg, pItems, pgName, pgTup, pgCons, pgNil, pYes, startE, List.map_cons, List.map_nil, List.cons_append, List.nil_append, List.length_cons, List.length_nil, Nat.reduceAdd, Nat.reduceSub, List.replicate_succ, List.replicate_zero, List.getElem?_cons_zero, List.getElem?_cons_succ, List.set_cons_zero, List.set_cons_succ, wipeE, EV.d.injEq, EV.l.injEq, PyData.int.injEq, PyData.bool.injEq, PyData.tuple.injEq, PyData.list.injEq, Option.some.injEq, exists_eq_left, exists_eq_left', true_and, and_true, List.mapM_cons, List.mapM_nil, bind_pure_comp, Option.pure_def, Option.bind_eq_bind, Option.bind_some, Option.map_some, Option.map_eq_map, truthD, if_true, if_false, reduceIte, Bool.false_eq_true, Bool.not_true, Bool.not_false, exists_and_left, exists_eq_left, decide_eq_true_eq, List.set_nil, pIx, pEq, pNe, pMul, pAdd, shaped_int, eqv_int, ix2_0, ix2_1, List.cons.injEq, and_assoc, e0, e1]
  refine ⟨0 - b, a, rfl, by rw [show (0 - b : Rat) = -b by grind]; exact ob.neg, oa, a0, ?_⟩
  simp only [pSeq, pNext, pAsg, pAsgT, pAug, pSub, pIf, pRet, pRetV, pRetN, pDrop, pPar, pPar3, pVar, pC, pOp, pUn, pNil, pCons, pTest, pTruth, pAnd, pOr, pNot, pAndV, pOrV, pNotV, pIfE, pTup, pLst, pF1, pF2, fLen, fTuple, fList, fAbs, fInt, fMax2, fMin2, fAll, fAny, pCall, pNever, p2I, p2I0, EV.two, EV.rd, EV.dat, EV.look, EV.seq, EV.lst, EV.wlk, EV.lsr, EV.sto, EV.ret, EV.arg, pNeg, pItems, pgName, pgTup, pgCons, pgNil, pYes, startE, List.map_cons, List.map_nil, List.cons_append, List.nil_append, List.length_cons, List.length_nil, Nat.reduceAdd, Nat.reduceSub, List.replicate_succ, List.replicate_zero, List.getElem?_cons_zero, List.getElem?_cons_succ, List.set_cons_zero, List.set_cons_succ, wipeE, EV.d.injEq, EV.l.injEq, PyData.int.injEq, PyData.bool.injEq, PyData.tuple.injEq, PyData.list.injEq, Option.some.injEq, exists_eq_left, exists_eq_left', true_and, and_true, List.mapM_cons, List.mapM_nil, bind_pure_comp, Option.pure_def, Option.bind_eq_bind, Option.bind_some, Option.map_some, Option.map_eq_map, truthD, if_true, if_false, reduceIte, Bool.false_eq_true, Bool.not_true, Bool.not_false, exists_and_left, exists_eq_left, decide_eq_true_eq, List.set_nil, pIx, pEq, pNe, pMul, pAdd, shaped_int, eqv_int, ix2_0, ix2_1, List.cons.injEq, and_assoc, e0, e1]
  have lA1' : A1 ≤ 144 := lA1
  have lM4 : 24 * A1 ≤ 3456 := by omega
  have lA4' : A1 * (24 * A1) ≤ 497664 := Nat.le_trans (Nat.mul_le_mul lA1' lM4) (by decide)
  obtain ⟨A4, lA4, ab4⟩ := ab_of sai sbn ai0 (Nat.lt_of_le_of_lt (Nat.mul_le_mul lA4' lM4) (by decide +kernel))
  have A4p := ab4.sa.1
  refine ⟨due', 1 / a, (0 - b) / a, _, _, p.length, A4, _, rfl, sd', ldue, hl3, hl13, t1, ab4, ledBd kb4 lD1 lN1 (Nat.le_trans lA4 lA4') lM4 hl13 A4p, fun home th vh sh => ?_⟩
  have e4 : home = p := tr0_uniq th ht fun x => by rw [vh, ledF_home a0 v1]
  subst e4
  simp only [pSeq, pNext, pAsg, pAsgT, pAug, pSub, pIf, pRet, pRetV, pRetN, pDrop, pPar, pPar3, pVar, pC, pOp, pUn, pNil, pCons, pTest, pTruth, pAnd, pOr, pNot, pAndV, pOrV, pNotV, pIfE, pTup, pLst, pF1, pF2, fLen, fTuple, fList, fAbs, fInt, fMax2, fMin2, fAll, fAny, pCall, pNever, p2I, p2I0, EV.two, EV.rd, EV.dat, EV.look, EV.seq, EV.lst, EV.wlk, EV.lsr, EV.sto, EV.ret, EV.arg, pNeg, pItems, pgName, pgTup, pgCons, pgNil, pYes, startE, List.map_cons, List.map_nil, List.cons_append, List.nil_append, List.length_cons, List.length_nil, Nat.reduceAdd, Nat.reduceSub, List.replicate_succ, List.replicate_zero, List.getElem?_cons_zero, List.getElem?_cons_succ, List.set_cons_zero, List.set_cons_succ, wipeE, EV.d.injEq, EV.l.injEq, PyData.int.injEq, PyData.bool.injEq, PyData.tuple.injEq, PyData.list.injEq, Option.some.injEq, exists_eq_left, exists_eq_left', true_and, and_true, List.mapM_cons, List.mapM_nil, bind_pure_comp, Option.pure_def, Option.bind_eq_bind, Option.bind_some, Option.map_some, Option.map_eq_map, truthD, if_true, if_false, reduceIte, Bool.false_eq_true, Bool.not_true, Bool.not_false, exists_and_left, exists_eq_left, decide_eq_true_eq, List.set_nil, pIx, pEq, pNe, pMul, pAdd, shaped_int, eqv_int, ix2_0, ix2_1, List.cons.injEq, and_assoc, e0, e1]
  have ab5 : AB 1 1 1 0 := ab_one (.zero (by decide)) (by decide) (by decide +kernel)
  refine ⟨by decide, by decide, home, 1, 0, 6, 4, _, 1, 1, rfl, hp, rfl, hl3, hl13, ht, ab5, ledBd kb5 (by decide) (by decide) (by decide) (by decide) hl13 (by decide), fun r5 t5 v5 s5 => ?_⟩
  have e5 : r5 = home := tr0_uniq t5 ht fun x => by rw [v5, ledF_one]
  subst e5
  simp only [pSeq, pNext, pAsg, pAsgT, pAug, pSub, pIf, pRet, pRetV, pRetN, pDrop, pPar, pPar3, pVar, pC, pOp, pUn, pNil, pCons, pTest, pTruth, pAnd, pOr, pNot, pAndV, pOrV, pNotV, pIfE, pTup, pLst, pF1, pF2, fLen, fTuple, fList, fAbs, fInt, fMax2, fMin2, fAll, fAny, pCall, pNever, p2I, p2I0, EV.two, EV.rd, EV.dat, EV.look, EV.seq, EV.lst, EV.wlk, EV.lsr, EV.sto, EV.ret, EV.arg, pNeg, pItems, pgName, pgTup, pgCons, pgNil, pYes, startE, List.map_cons, List.map_nil, List.cons_append, List.nil_append, List.length_cons, List.length_nil, Nat.reduceAdd, Nat.reduceSub, List.replicate_succ, List.replicate_zero, List.getElem?_cons_zero, List.getElem?_cons_succ, List.set_cons_zero, List.set_cons_succ, wipeE, EV.d.injEq, EV.l.injEq, PyData.int.injEq, PyData.bool.injEq, PyData.tuple.injEq, PyData.list.injEq, Option.some.injEq, exists_eq_left, exists_eq_left', true_and, and_true, List.mapM_cons, List.mapM_nil, bind_pure_comp, Option.pure_def, Option.bind_eq_bind, Option.bind_some, Option.map_some, Option.map_eq_map, truthD, if_true, if_false, reduceIte, Bool.false_eq_true, Bool.not_true, Bool.not_false, exists_and_left, exists_eq_left, decide_eq_true_eq, List.set_nil, pIx, pEq, pNe, pMul, pAdd, shaped_int, eqv_int, ix2_0, ix2_1, List.cons.injEq, and_assoc, e0, e1]
  have shl : Sh 3 (2 * 40) (.list [po r5, po r5]) := Sh.lst (n := 2) (fun y hy => by
    have : y = po r5 := by simpa using hy
    rw [this]; exact Sh.po hp13 ks0) (by simp)
  exact ⟨by decide, by decide, _, _, .list [po r5, po r5], 3, 2 * 40, rfl, rfl, rfl, shl, by decide, by decide, rfl, hq⟩
def S__law_is_centred_right : FSpec := fun es Q => ∃ p, es = [.hand, .d (po p)] ∧ PS 6 4 13 p ∧ 3 ≤ p.length ∧ Tr0 p ∧ Q (.d (.bool true))
def T__law_is_centred_right : PTS := (pSeq (pPar 2 3 (pCall S_centred (pCons (pVar 1) pNil)) (pCall S__law_centred (pCons (pVar 1) pNil))) (pSeq (pIf (pOr (pNot (pTruth (pCall S__law_is (pCons (pVar 2) (pCons (pVar 3) pNil))))) (pOr (pTest (pOp pNe (pOp pIx (pOp pIx (pVar 2) (pC (.int 0))) (pUn pNeg (pC (.int 2)))) (pTup (pCons (pC (.int 0)) (pCons (pC (.int 1)) pNil))))) (pTest (pOp pNe (pOp pIx (pOp pIx (pVar 2) (pC (.int 0))) (pUn pNeg (pC (.int 1)))) (pOp pIx (pVar 1) (pUn pNeg (pC (.int 1)))))))) (pRet (pC (.bool false))) pNext) (pSeq (pIf (pNot (pTruth (pCall S__law_is (pCons (pLst (pCons (pCall S_led_poly_by (pCons (pVar 1) (pCons (pTup (pCons (pC (.int 1)) (pCons (pC (.int 1)) pNil))) (pCons (pOp pIx (pVar 2) (pC (.int 1))) pNil)))) (pCons (pCall S_centred (pCons (pOp pIx (pVar 2) (pC (.int 0))) pNil)) pNil))) (pCons (pLst (pCons (pOp pIx (pVar 2) (pC (.int 0))) (pCons (pTup (pCons (pOp pIx (pVar 2) (pC (.int 0))) (pCons (pTup (pCons (pC (.int 0)) (pCons (pC (.int 1)) pNil))) pNil))) pNil))) pNil))))) (pRet (pC (.bool false))) pNext) (pSeq (pAsg 4 (pCall S__law_few (pCons (pVar 0) pNil))) (pSeq (pAsg 5 (pCall S_centred (pCons (pCall S__law_led_by (pCons (pVar 1) (pCons (pTup (pCons (pC (.int 1)) (pCons (pC (.int 1)) pNil))) (pCons (pVar 4) pNil)))) pNil))) (pRet (pCall S__law_is (pCons (pVar 5) (pCons (pTup (pCons (pOp pIx (pVar 2) (pC (.int 0))) (pCons (pCall S__law_less (pCons (pOp pIx (pVar 2) (pC (.int 1))) (pCons (pVar 4) pNil))) pNil))) pNil)))))))))
theorem l__law_is_centred_right : ∀ es q, S__law_is_centred_right es q → es.length = 2 := by rintro es q ⟨_, rfl, _⟩; rfl
def kD6 : Nat := ledD 6 288 13
def kN6 : Nat := ledN 4 24 13
def kD7 : Nat := ledD 6 6 13
def kN7 : Nat := ledN 4 4 13
theorem kc1 : Bd (ledD 6 288 13) (ledN 4 24 13) := by decide +kernel
theorem kc2 : Bd (ledD kD6 1 13) (ledN kN6 1 13) := by decide +kernel
theorem kc2' : Bd kD6 (13 * kN6) := by decide +kernel
theorem kc3 : Bd (ledD 6 6 13) (ledN 4 4 13) := by decide +kernel
theorem kc4 : Bd (ledD kD7 1728 13) (ledN kN7 28 13) := by decide +kernel
theorem kc4' : Bd kD7 (13 * kN7) := by decide +kernel
theorem kd1 : Bs kD6 kN6 := by decide +kernel
theorem kd2 : Bs 1728 28 := by decide +kernel
theorem kd3 : Bs 288 24 := by decide +kernel
/-- sizes of the b of a poly -/
theorem cenB_sz {p : List Rat} {D N n : Nat} (hn : p.length = n + 3) (hl : n + 3 ≤ 13) (ht : Tr0 p) (hp : PS D N (n + 3) p) : ∃ k, 0 < k ∧ k ≤ 12 * (N * D) ∧ Sz k (N * D) (cenB p) := by
  have l := last_ne ht (by omega)
  rw [hn, show n + 3 - 1 = n + 2 by omega] at l
  have nn : ((n + 2 : Nat) : Rat) ≠ 0 := natR_ne (by omega)
  obtain ⟨k, k0, kl, _, s⟩ := (hp.cf (n + 2)).inv l
  have s1 := s _ (hp.cf (n + 1))
  refine ⟨(n + 2) * k, Nat.mul_pos (by omega) k0, Nat.mul_le_mul (by omega) kl, ?_⟩
  rw [cenB_eq hn]
  obtain ⟨k0', m, hm, hml⟩ := s1
  refine ⟨Nat.mul_pos (by omega) k0, m, ?_, Nat.le_trans hml (by rw [Nat.mul_left_comm]; exact Nat.le_mul_of_pos_left _ (by omega))⟩
  rw [← hm, show (((n + 2) * k : Nat) : Rat) = ((n + 2 : Nat) : Rat) * (k : Rat) by norm_cast]
  generalize ((n + 2 : Nat) : Rat) = z at *
  grind
theorem p__law_is_centred_right : ∀ es q, S__law_is_centred_right es q → T__law_is_centred_right { nx := fun _ => q (.d .none), rt := q } (startE 6 es) := by
  rintro es q ⟨p, rfl, hp13, hl3, ht, hq⟩
  unfold T__law_is_centred_right
  have hl13 := hp13.len
  have hp : PS 6 4 p.length p := ⟨hp13.pos, hp13.sz, Nat.le_refl _⟩
  have e0 : PyData.tuple [PyData.int 0, PyData.int 1] = fr 0 := rfl
  have e1 : PyData.tuple [PyData.int 1, PyData.int 1] = fr 1 := rfl
  obtain ⟨n, hn⟩ : ∃ n, p.length = n + 3 := ⟨p.length - 3, by omega⟩
  obtain ⟨A0, A0p, lA0, sb⟩ := cenB_sz hn (by omega) ht (hn ▸ hp)
  have lA0 : A0 ≤ 288 := lA0
  have sb : Sz A0 24 (cenB p) := sb
  have kb52 : Bd 6 (13 * 4) := by decide +kernel
  have ab1 : AB A0 24 1 (cenB p) := ab_one sb (by decide) (kc1.le (Nat.le_trans lA0 (by decide +kernel)) (by decide +kernel))
  have bd1 : Bd (ledD 6 A0 p.length) (ledN 4 24 p.length) := ledBd kc1 (by decide) (by decide) lA0 (by decide) hl13 A0p
  simp only [pSeq, pNext, pAsg, pAsgT, pAug, pSub, pIf, pRet, pRetV, pRetN, pDrop, pPar, pPar3, pVar, pC, pOp, pUn, pNil, pCons, pTest, pTruth, pAnd, pOr, pNot, pAndV, pOrV, pNotV, pIfE, pTup, pLst, pF1, pF2, fLen, fTuple, fList, fAbs, fInt, fMax2, fMin2, fAll, fAny, pCall, pNever, p2I, p2I0, EV.two, EV.rd, EV.dat, EV.look, EV.seq, EV.lst, EV.wlk, EV.lsr, EV.sto, EV.ret, EV.arg, pNeg, pItems, pgName, pgTup, pgCons, pgNil, pYes, startE, List.map_cons, List.map_nil, List.cons_append, List.nil_append, List.length_cons, List.length_nil, Nat.reduceAdd, Nat.reduceSub, List.replicate_succ, List.replicate_zero, List.getElem?_cons_zero, List.getElem?_cons_succ, List.set_cons_zero, List.set_cons_succ, wipeE, EV.d.injEq, EV.l.injEq, PyData.int.injEq, PyData.bool.injEq, PyData.tuple.injEq, PyData.list.injEq, Option.some.injEq, exists_eq_left, exists_eq_left', true_and, and_true, List.mapM_cons, List.mapM_nil, bind_pure_comp, Option.pure_def, Option.bind_eq_bind, Option.bind_some, Option.map_some, Option.map_eq_map, truthD, if_true, if_false, reduceIte, Bool.false_eq_true, Bool.not_true, Bool.not_false, exists_and_left, exists_eq_left, decide_eq_true_eq, List.set_nil, pIx, pEq, pNe, pMul, pAdd, shaped_int, eqv_int, ix2_0, ix2_1, List.cons.injEq, and_assoc, e0, e1]
  refine ⟨p, 6, 4, _, A0, 24, rfl, hp, rfl, hl3, hl13, ht, kb0, kb52, ab1, bd1, fun c tc vc sc r hr => ?_⟩
  cases hr
  simp only [pSeq, pNext, pAsg, pAsgT, pAug, pSub, pIf, pRet, pRetV, pRetN, pDrop, pPar, pPar3, pVar, pC, pOp, pUn, pNil, pCons, pTest, pTruth, pAnd, pOr, pNot, pAndV, pOrV, pNotV, pIfE, pTup, pLst, pF1, pF2, fLen, fTuple, fList, fAbs, fInt, fMax2, fMin2, fAll, fAny, pCall, pNever, p2I, p2I0, EV.two, EV.rd, EV.dat, EV.look, EV.seq, EV.lst, EV.wlk, EV.lsr, EV.sto, EV.ret, EV.arg, pNeg, pItems, pgName, pgTup, pgCons, pgNil, pYes, startE, List.map_cons, List.map_nil, List.cons_append, List.nil_append, List.length_cons, List.length_nil, Nat.reduceAdd, Nat.reduceSub, List.replicate_succ, List.replicate_zero, List.getElem?_cons_zero, List.getElem?_cons_succ, List.set_cons_zero, List.set_cons_succ, wipeE, EV.d.injEq, EV.l.injEq, PyData.int.injEq, PyData.bool.injEq, PyData.tuple.injEq, PyData.list.injEq, Option.some.injEq, exists_eq_left, exists_eq_left', true_and, and_true, List.mapM_cons, List.mapM_nil, bind_pure_comp, Option.pure_def, Option.bind_eq_bind, Option.bind_some, Option.map_some, Option.map_eq_map, truthD, if_true, if_false, reduceIte, Bool.false_eq_true, Bool.not_true, Bool.not_false, exists_and_left, exists_eq_left, decide_eq_true_eq, List.set_nil, pIx, pEq, pNe, pMul, pAdd, shaped_int, eqv_int, ix2_0, ix2_1, List.cons.injEq, and_assoc, e0, e1]
  refine ⟨p, 6, 4, _, A0, 24, rfl, hp, rfl, hl3, hl13, ht, kb0, kb52, ab1, bd1, fun c' tc' vc' sc' r hr => ?_⟩
  cases hr
  have ec : c' = c := tr0_uniq tc' tc fun x => (vc' x).trans (vc x).symm
  subst ec
  have lD : ledD 6 A0 p.length ≤ kD6 := ledD_mono (by decide) lA0 hl13 A0p
  have lN : ledN 4 24 p.length ≤ kN6 := ledN_mono (by decide) (by decide) hl13
  have lc : c'.length = p.length := Nat.le_antisymm sc.len (by have := led_len (by decide) ht vc; omega)
  have lcn : c'.length = n + 3 := lc.trans hn
  obtain ⟨z1, z2⟩ := cen_zero hn ht vc lcn
  obtain ⟨tp, _⟩ := led1_top hn vc
  have shc : Sh 3 (2 * 40) (.tuple [po c', fr (cenB p)]) := Sh.tup (n := 2) (fun y hy => by
    have : y = po c' ∨ y = fr (cenB p) := by simpa using hy
    rcases this with rfl | rfl
    · exact (Sh.po sc (kd1.le lD lN)).mono (by decide) (by omega)
    · exact (Sh.fr sb (kd3.le lA0 (by decide))).mono (by decide) (by decide)) (by simp)
  simp only [pSeq, pNext, pAsg, pAsgT, pAug, pSub, pIf, pRet, pRetV, pRetN, pDrop, pPar, pPar3, pVar, pC, pOp, pUn, pNil, pCons, pTest, pTruth, pAnd, pOr, pNot, pAndV, pOrV, pNotV, pIfE, pTup, pLst, pF1, pF2, fLen, fTuple, fList, fAbs, fInt, fMax2, fMin2, fAll, fAny, pCall, pNever, p2I, p2I0, EV.two, EV.rd, EV.dat, EV.look, EV.seq, EV.lst, EV.wlk, EV.lsr, EV.sto, EV.ret, EV.arg, pNeg, pItems, pgName, pgTup, pgCons, pgNil, pYes, startE, List.map_cons, List.map_nil, List.cons_append, List.nil_append, List.length_cons, List.length_nil, Nat.reduceAdd, Nat.reduceSub, List.replicate_succ, List.replicate_zero, List.getElem?_cons_zero, List.getElem?_cons_succ, List.set_cons_zero, List.set_cons_succ, wipeE, EV.d.injEq, EV.l.injEq, PyData.int.injEq, PyData.bool.injEq, PyData.tuple.injEq, PyData.list.injEq, Option.some.injEq, exists_eq_left, exists_eq_left', true_and, and_true, List.mapM_cons, List.mapM_nil, bind_pure_comp, Option.pure_def, Option.bind_eq_bind, Option.bind_some, Option.map_some, Option.map_eq_map, truthD, if_true, if_false, reduceIte, Bool.false_eq_true, Bool.not_true, Bool.not_false, exists_and_left, exists_eq_left, decide_eq_true_eq, List.set_nil, pIx, pEq, pNe, pMul, pAdd, shaped_int, eqv_int, ix2_0, ix2_1, List.cons.injEq, and_assoc, e0, e1]
  refine ⟨_, _, _, _, _, rfl, rfl, rfl, shc, by decide, by decide, ?_⟩
  have at2 : ∀ {r : List Rat}, r.length = n + 3 → atI (r.map fr) (-2) = some (fr (cf r (n + 1))) := fun {r} h => by
    have := atI_po r 1 (by omega)
    rw [h] at this
    exact this
  have at1 : ∀ {r : List Rat}, r.length = n + 3 → atI (r.map fr) (-1) = some (fr (cf r (n + 2))) := fun {r} h => by
    have := atI_po r 0 (by omega)
    rw [h] at this
    exact this
  refine ⟨_, rfl, _, rfl, ?_⟩
  simp only [pSeq, pNext, pAsg, pAsgT, pAug, pSub, pIf, pRet, pRetV, pRetN, pDrop, pPar, pPar3, pVar, pC, pOp, pUn, pNil, pCons, pTest, pTruth, pAnd, pOr, pNot, pAndV, pOrV, pNotV, pIfE, pTup, pLst, pF1, pF2, fLen, fTuple, fList, fAbs, fInt, fMax2, fMin2, fAll, fAny, pCall, pNever, p2I, p2I0, EV.two, EV.rd, EV.dat, EV.look, EV.seq, EV.lst, EV.wlk, EV.lsr, EV.sto, EV.ret, EV.arg, pNeg, pItems, pgName, pgTup, pgCons, pgNil, pYes, startE, List.map_cons, List.map_nil, List.cons_append, List.nil_append, List.length_cons, List.length_nil, Nat.reduceAdd, Nat.reduceSub, List.replicate_succ, List.replicate_zero, List.getElem?_cons_zero, List.getElem?_cons_succ, List.set_cons_zero, List.set_cons_succ, wipeE, EV.d.injEq, EV.l.injEq, PyData.int.injEq, PyData.bool.injEq, PyData.tuple.injEq, PyData.list.injEq, Option.some.injEq, exists_eq_left, exists_eq_left', true_and, and_true, List.mapM_cons, List.mapM_nil, bind_pure_comp, Option.pure_def, Option.bind_eq_bind, Option.bind_some, Option.map_some, Option.map_eq_map, truthD, if_true, if_false, reduceIte, Bool.false_eq_true, Bool.not_true, Bool.not_false, exists_and_left, exists_eq_left, decide_eq_true_eq, List.set_nil, pIx, pEq, pNe, pMul, pAdd, shaped_int, eqv_int, ix2_0, ix2_1, List.cons.injEq, and_assoc, e0, e1]
  refine ⟨_, rfl, _, at2 lcn, by decide, shaped_fr _, shaped_fr _, ?_⟩
  rw [eqv_fr, decide_eq_true z1]
  simp only [pSeq, pNext, pAsg, pAsgT, pAug, pSub, pIf, pRet, pRetV, pRetN, pDrop, pPar, pPar3, pVar, pC, pOp, pUn, pNil, pCons, pTest, pTruth, pAnd, pOr, pNot, pAndV, pOrV, pNotV, pIfE, pTup, pLst, pF1, pF2, fLen, fTuple, fList, fAbs, fInt, fMax2, fMin2, fAll, fAny, pCall, pNever, p2I, p2I0, EV.two, EV.rd, EV.dat, EV.look, EV.seq, EV.lst, EV.wlk, EV.lsr, EV.sto, EV.ret, EV.arg, pNeg, pItems, pgName, pgTup, pgCons, pgNil, pYes, startE, List.map_cons, List.map_nil, List.cons_append, List.nil_append, List.length_cons, List.length_nil, Nat.reduceAdd, Nat.reduceSub, List.replicate_succ, List.replicate_zero, List.getElem?_cons_zero, List.getElem?_cons_succ, List.set_cons_zero, List.set_cons_succ, wipeE, EV.d.injEq, EV.l.injEq, PyData.int.injEq, PyData.bool.injEq, PyData.tuple.injEq, PyData.list.injEq, Option.some.injEq, exists_eq_left, exists_eq_left', true_and, and_true, List.mapM_cons, List.mapM_nil, bind_pure_comp, Option.pure_def, Option.bind_eq_bind, Option.bind_some, Option.map_some, Option.map_eq_map, truthD, if_true, if_false, reduceIte, Bool.false_eq_true, Bool.not_true, Bool.not_false, exists_and_left, exists_eq_left, decide_eq_true_eq, List.set_nil, pIx, pEq, pNe, pMul, pAdd, shaped_int, eqv_int, ix2_0, ix2_1, List.cons.injEq, and_assoc, e0, e1]
  refine ⟨_, rfl, _, at1 lcn, _, rfl, _, at1 hn, shaped_fr _, shaped_fr _, ?_⟩
  rw [eqv_fr, decide_eq_true tp]
  simp only [pSeq, pNext, pAsg, pAsgT, pAug, pSub, pIf, pRet, pRetV, pRetN, pDrop, pPar, pPar3, pVar, pC, pOp, pUn, pNil, pCons, pTest, pTruth, pAnd, pOr, pNot, pAndV, pOrV, pNotV, pIfE, pTup, pLst, pF1, pF2, fLen, fTuple, fList, fAbs, fInt, fMax2, fMin2, fAll, fAny, pCall, pNever, p2I, p2I0, EV.two, EV.rd, EV.dat, EV.look, EV.seq, EV.lst, EV.wlk, EV.lsr, EV.sto, EV.ret, EV.arg, pNeg, pItems, pgName, pgTup, pgCons, pgNil, pYes, startE, List.map_cons, List.map_nil, List.cons_append, List.nil_append, List.length_cons, List.length_nil, Nat.reduceAdd, Nat.reduceSub, List.replicate_succ, List.replicate_zero, List.getElem?_cons_zero, List.getElem?_cons_succ, List.set_cons_zero, List.set_cons_succ, wipeE, EV.d.injEq, EV.l.injEq, PyData.int.injEq, PyData.bool.injEq, PyData.tuple.injEq, PyData.list.injEq, Option.some.injEq, exists_eq_left, exists_eq_left', true_and, and_true, List.mapM_cons, List.mapM_nil, bind_pure_comp, Option.pure_def, Option.bind_eq_bind, Option.bind_some, Option.map_some, Option.map_eq_map, truthD, if_true, if_false, reduceIte, Bool.false_eq_true, Bool.not_true, Bool.not_false, exists_and_left, exists_eq_left, decide_eq_true_eq, List.set_nil, pIx, pEq, pNe, pMul, pAdd, shaped_int, eqv_int, ix2_0, ix2_1, List.cons.injEq, and_assoc, e0, e1]
  refine ⟨by decide, p, 1, cenB p, 6, 4, _, A0, 24, rfl, hp, rfl, hl3, hl13, ht, ab1, bd1, fun l tl vl sl => ?_⟩
  have el : l = c' := tr0_uniq tl tc fun x => (vl x).trans (vc x).symm
  subst el
  simp only [pSeq, pNext, pAsg, pAsgT, pAug, pSub, pIf, pRet, pRetV, pRetN, pDrop, pPar, pPar3, pVar, pC, pOp, pUn, pNil, pCons, pTest, pTruth, pAnd, pOr, pNot, pAndV, pOrV, pNotV, pIfE, pTup, pLst, pF1, pF2, fLen, fTuple, fList, fAbs, fInt, fMax2, fMin2, fAll, fAny, pCall, pNever, p2I, p2I0, EV.two, EV.rd, EV.dat, EV.look, EV.seq, EV.lst, EV.wlk, EV.lsr, EV.sto, EV.ret, EV.arg, pNeg, pItems, pgName, pgTup, pgCons, pgNil, pYes, startE, List.map_cons, List.map_nil, List.cons_append, List.nil_append, List.length_cons, List.length_nil, Nat.reduceAdd, Nat.reduceSub, List.replicate_succ, List.replicate_zero, List.getElem?_cons_zero, List.getElem?_cons_succ, List.set_cons_zero, List.set_cons_succ, wipeE, EV.d.injEq, EV.l.injEq, PyData.int.injEq, PyData.bool.injEq, PyData.tuple.injEq, PyData.list.injEq, Option.some.injEq, exists_eq_left, exists_eq_left', true_and, and_true, List.mapM_cons, List.mapM_nil, bind_pure_comp, Option.pure_def, Option.bind_eq_bind, Option.bind_some, Option.map_some, Option.map_eq_map, truthD, if_true, if_false, reduceIte, Bool.false_eq_true, Bool.not_true, Bool.not_false, exists_and_left, exists_eq_left, decide_eq_true_eq, List.set_nil, pIx, pEq, pNe, pMul, pAdd, shaped_int, eqv_int, ix2_0, ix2_1, List.cons.injEq, and_assoc, e0, e1]
  have ab2 : AB 1 1 1 (cenB l) := by rw [z2]; exact ab_one (.zero (by decide)) (by decide) (by decide +kernel)
  refine ⟨l, _, _, p.length, 1, 1, rfl, sc, lc, hl3, hl13, tc, kc2'.le lD (Nat.le_trans lN (by decide +kernel)), kc2'.le lD (Nat.mul_le_mul_left _ lN), ab2, ledBd kc2 lD lN (by decide) (by decide) hl13 (by decide), fun l2 t2 v2 s2 r hr => ?_⟩
  cases hr
  have el2 : l2 = l := tr0_uniq t2 tl fun x => by rw [v2, z2, ledF_one]
  subst el2
  simp only [pSeq, pNext, pAsg, pAsgT, pAug, pSub, pIf, pRet, pRetV, pRetN, pDrop, pPar, pPar3, pVar, pC, pOp, pUn, pNil, pCons, pTest, pTruth, pAnd, pOr, pNot, pAndV, pOrV, pNotV, pIfE, pTup, pLst, pF1, pF2, fLen, fTuple, fList, fAbs, fInt, fMax2, fMin2, fAll, fAny, pCall, pNever, p2I, p2I0, EV.two, EV.rd, EV.dat, EV.look, EV.seq, EV.lst, EV.wlk, EV.lsr, EV.sto, EV.ret, EV.arg, pNeg, pItems, pgName, pgTup, pgCons, pgNil, pYes, startE, List.map_cons, List.map_nil, List.cons_append, List.nil_append, List.length_cons, List.length_nil, Nat.reduceAdd, Nat.reduceSub, List.replicate_succ, List.replicate_zero, List.getElem?_cons_zero, List.getElem?_cons_succ, List.set_cons_zero, List.set_cons_succ, wipeE, EV.d.injEq, EV.l.injEq, PyData.int.injEq, PyData.bool.injEq, PyData.tuple.injEq, PyData.list.injEq, Option.some.injEq, exists_eq_left, exists_eq_left', true_and, and_true, List.mapM_cons, List.mapM_nil, bind_pure_comp, Option.pure_def, Option.bind_eq_bind, Option.bind_some, Option.map_some, Option.map_eq_map, truthD, if_true, if_false, reduceIte, Bool.false_eq_true, Bool.not_true, Bool.not_false, exists_and_left, exists_eq_left, decide_eq_true_eq, List.set_nil, pIx, pEq, pNe, pMul, pAdd, shaped_int, eqv_int, ix2_0, ix2_1, List.cons.injEq, and_assoc, e0, e1]
  have shl : Sh 4 (2 * 81) (.list [po l2, .tuple [po l2, fr 0]]) := Sh.lst (n := 2) (fun y hy => by
    have : y = po l2 ∨ y = .tuple [po l2, fr 0] := by simpa using hy
    rcases this with rfl | rfl
    · exact (Sh.po sc (kd1.le lD lN)).mono (by decide) (by omega)
    · exact Sh.tup (n := 2) (b := 39) (fun y hy => by
        have : y = po l2 ∨ y = fr 0 := by simpa using hy
        rcases this with rfl | rfl
        · exact (Sh.po sc (kd1.le lD lN)).mono (by decide) (by omega)
        · exact (Sh.fr (D := 1) (N := 1) (.zero (by decide)) (by decide +kernel)).mono (by decide) (by decide)) (by simp)) (by simp)
  rw [z2]
  refine ⟨by decide, by decide, by decide, by decide, _, _, .list [po l2, .tuple [po l2, fr 0]], 4, 2 * 81, rfl, rfl, rfl, shl, by decide, by decide, _, rfl, _, rfl, ?_⟩
  simp only [pSeq, pNext, pAsg, pAsgT, pAug, pSub, pIf, pRet, pRetV, pRetN, pDrop, pPar, pPar3, pVar, pC, pOp, pUn, pNil, pCons, pTest, pTruth, pAnd, pOr, pNot, pAndV, pOrV, pNotV, pIfE, pTup, pLst, pF1, pF2, fLen, fTuple, fList, fAbs, fInt, fMax2, fMin2, fAll, fAny, pCall, pNever, p2I, p2I0, EV.two, EV.rd, EV.dat, EV.look, EV.seq, EV.lst, EV.wlk, EV.lsr, EV.sto, EV.ret, EV.arg, pNeg, pItems, pgName, pgTup, pgCons, pgNil, pYes, startE, List.map_cons, List.map_nil, List.cons_append, List.nil_append, List.length_cons, List.length_nil, Nat.reduceAdd, Nat.reduceSub, List.replicate_succ, List.replicate_zero, List.getElem?_cons_zero, List.getElem?_cons_succ, List.set_cons_zero, List.set_cons_succ, wipeE, EV.d.injEq, EV.l.injEq, PyData.int.injEq, PyData.bool.injEq, PyData.tuple.injEq, PyData.list.injEq, Option.some.injEq, exists_eq_left, exists_eq_left', true_and, and_true, List.mapM_cons, List.mapM_nil, bind_pure_comp, Option.pure_def, Option.bind_eq_bind, Option.bind_some, Option.map_some, Option.map_eq_map, truthD, if_true, if_false, reduceIte, Bool.false_eq_true, Bool.not_true, Bool.not_false, exists_and_left, exists_eq_left, decide_eq_true_eq, List.set_nil, pIx, pEq, pNe, pMul, pAdd, shaped_int, eqv_int, ix2_0, ix2_1, List.cons.injEq, and_assoc, e0, e1]
  refine ⟨rfl, fun b2 sb2 => ?_⟩
  simp only [pSeq, pNext, pAsg, pAsgT, pAug, pSub, pIf, pRet, pRetV, pRetN, pDrop, pPar, pPar3, pVar, pC, pOp, pUn, pNil, pCons, pTest, pTruth, pAnd, pOr, pNot, pAndV, pOrV, pNotV, pIfE, pTup, pLst, pF1, pF2, fLen, fTuple, fList, fAbs, fInt, fMax2, fMin2, fAll, fAny, pCall, pNever, p2I, p2I0, EV.two, EV.rd, EV.dat, EV.look, EV.seq, EV.lst, EV.wlk, EV.lsr, EV.sto, EV.ret, EV.arg, pNeg, pItems, pgName, pgTup, pgCons, pgNil, pYes, startE, List.map_cons, List.map_nil, List.cons_append, List.nil_append, List.length_cons, List.length_nil, Nat.reduceAdd, Nat.reduceSub, List.replicate_succ, List.replicate_zero, List.getElem?_cons_zero, List.getElem?_cons_succ, List.set_cons_zero, List.set_cons_succ, wipeE, EV.d.injEq, EV.l.injEq, PyData.int.injEq, PyData.bool.injEq, PyData.tuple.injEq, PyData.list.injEq, Option.some.injEq, exists_eq_left, exists_eq_left', true_and, and_true, List.mapM_cons, List.mapM_nil, bind_pure_comp, Option.pure_def, Option.bind_eq_bind, Option.bind_some, Option.map_some, Option.map_eq_map, truthD, if_true, if_false, reduceIte, Bool.false_eq_true, Bool.not_true, Bool.not_false, exists_and_left, exists_eq_left, decide_eq_true_eq, List.set_nil, pIx, pEq, pNe, pMul, pAdd, shaped_int, eqv_int, ix2_0, ix2_1, List.cons.injEq, and_assoc, e0, e1]
  have ab3 : AB 6 4 1 b2 := ab_one sb2 (by decide) kb0
  refine ⟨by decide, p, 1, b2, 6, 4, _, 6, 4, rfl, hp, rfl, by omega, by omega, ab3, ledBd kc3 (by decide) (by decide) (by decide) (by decide) hl13 (by decide), fun p2 tp2 vp2 sp2 => ?_⟩
  have lp2 : p2.length = p.length := Nat.le_antisymm sp2.len (by have := led_len (by decide) ht vp2; omega)
  have cp2 : cenB p2 = cenB p - b2 := cen_led hn ht vp2 (lp2.trans hn)
  have lD2 : ledD 6 6 p.length ≤ kD7 := ledD_mono (by decide) (by decide) hl13 (by decide)
  have lN2 : ledN 4 4 p.length ≤ kN7 := ledN_mono (by decide) (by decide) hl13
  have sbb : Sz (A0 * 6) 28 (cenB p - b2) := by
    have := (sb.den (E := 6) (by decide)).add ((sb2.neg.den A0p).mono (Nat.le_refl _) |> fun h => (Nat.mul_comm 6 A0 ▸ h : Sz (A0 * 6) 4 (-b2)))
    rw [← Rat.sub_eq_add_neg] at this
    exact this
  have lA6 : A0 * 6 ≤ 1728 := by omega
  have ab4 : AB (A0 * 6) 28 1 (cenB p2) := by rw [cp2]; exact ab_one sbb (by decide) ((by decide +kernel : Bd 1728 28).le lA6 (Nat.le_refl _))
  refine ⟨p2, _, _, p.length, A0 * 6, 28, rfl, sp2, lp2, hl3, hl13, tp2, kc4'.le lD2 (Nat.le_trans lN2 (by decide +kernel)), kc4'.le lD2 (Nat.mul_le_mul_left _ lN2), ab4, ledBd kc4 lD2 lN2 lA6 (Nat.le_refl _) hl13 (by omega), fun c3 tc3 vc3 sc3 r hr => ?_⟩
  cases hr
  have ec3 : c3 = l2 := tr0_uniq tc3 tl fun x => by
    rw [vc3, cp2, ledF_led (by decide) (by decide) vp2, vl]
    congr 1 <;> grind
  subst ec3
  simp only [pSeq, pNext, pAsg, pAsgT, pAug, pSub, pIf, pRet, pRetV, pRetN, pDrop, pPar, pPar3, pVar, pC, pOp, pUn, pNil, pCons, pTest, pTruth, pAnd, pOr, pNot, pAndV, pOrV, pNotV, pIfE, pTup, pLst, pF1, pF2, fLen, fTuple, fList, fAbs, fInt, fMax2, fMin2, fAll, fAny, pCall, pNever, p2I, p2I0, EV.two, EV.rd, EV.dat, EV.look, EV.seq, EV.lst, EV.wlk, EV.lsr, EV.sto, EV.ret, EV.arg, pNeg, pItems, pgName, pgTup, pgCons, pgNil, pYes, startE, List.map_cons, List.map_nil, List.cons_append, List.nil_append, List.length_cons, List.length_nil, Nat.reduceAdd, Nat.reduceSub, List.replicate_succ, List.replicate_zero, List.getElem?_cons_zero, List.getElem?_cons_succ, List.set_cons_zero, List.set_cons_succ, wipeE, EV.d.injEq, EV.l.injEq, PyData.int.injEq, PyData.bool.injEq, PyData.tuple.injEq, PyData.list.injEq, Option.some.injEq, exists_eq_left, exists_eq_left', true_and, and_true, List.mapM_cons, List.mapM_nil, bind_pure_comp, Option.pure_def, Option.bind_eq_bind, Option.bind_some, Option.map_some, Option.map_eq_map, truthD, if_true, if_false, reduceIte, Bool.false_eq_true, Bool.not_true, Bool.not_false, exists_and_left, exists_eq_left, decide_eq_true_eq, List.set_nil, pIx, pEq, pNe, pMul, pAdd, shaped_int, eqv_int, ix2_0, ix2_1, List.cons.injEq, and_assoc, e0, e1]
  have ob0 : Ok (cenB p) := ab1.bd.ok sb
  refine ⟨cenB p, b2, rfl, ob0, kb0.ok sb2, ?_⟩
  simp only [pSeq, pNext, pAsg, pAsgT, pAug, pSub, pIf, pRet, pRetV, pRetN, pDrop, pPar, pPar3, pVar, pC, pOp, pUn, pNil, pCons, pTest, pTruth, pAnd, pOr, pNot, pAndV, pOrV, pNotV, pIfE, pTup, pLst, pF1, pF2, fLen, fTuple, fList, fAbs, fInt, fMax2, fMin2, fAll, fAny, pCall, pNever, p2I, p2I0, EV.two, EV.rd, EV.dat, EV.look, EV.seq, EV.lst, EV.wlk, EV.lsr, EV.sto, EV.ret, EV.arg, pNeg, pItems, pgName, pgTup, pgCons, pgNil, pYes, startE, List.map_cons, List.map_nil, List.cons_append, List.nil_append, List.length_cons, List.length_nil, Nat.reduceAdd, Nat.reduceSub, List.replicate_succ, List.replicate_zero, List.getElem?_cons_zero, List.getElem?_cons_succ, List.set_cons_zero, List.set_cons_succ, wipeE, EV.d.injEq, EV.l.injEq, PyData.int.injEq, PyData.bool.injEq, PyData.tuple.injEq, PyData.list.injEq, Option.some.injEq, exists_eq_left, exists_eq_left', true_and, and_true, List.mapM_cons, List.mapM_nil, bind_pure_comp, Option.pure_def, Option.bind_eq_bind, Option.bind_some, Option.map_some, Option.map_eq_map, truthD, if_true, if_false, reduceIte, Bool.false_eq_true, Bool.not_true, Bool.not_false, exists_and_left, exists_eq_left, decide_eq_true_eq, List.set_nil, pIx, pEq, pNe, pMul, pAdd, shaped_int, eqv_int, ix2_0, ix2_1, List.cons.injEq, and_assoc, e0, e1]
  rw [cp2]
  have sh5 : Sh 3 (2 * 40) (.tuple [po c3, fr (cenB p - b2)]) := Sh.tup (n := 2) (fun y hy => by
    have : y = po c3 ∨ y = fr (cenB p - b2) := by simpa using hy
    rcases this with rfl | rfl
    · exact (Sh.po sc (kd1.le lD lN)).mono (by decide) (by omega)
    · exact (Sh.fr sbb (kd2.le lA6 (by decide))).mono (by decide) (by decide)) (by simp)
  exact ⟨by decide, _, _, .tuple [po c3, fr (cenB p - b2)], 3, 2 * 40, rfl, rfl, rfl, sh5, by decide, by decide, rfl, hq⟩
end PL
namespace PL
open PySem PySem.Spec PyProof.Rows L2
def T_law_rest : PTS := (pSeq (pAsgT (pgTup 2 (pgCons (pgName 2) (pgCons (pgName 3) pgNil))) (pTup (pCons (pTup (pCons (pTup (pCons (pC (.int 0)) (pCons (pC (.int 1)) pNil))) (pCons (pTup (pCons (pC (.int 0)) (pCons (pC (.int 1)) pNil))) (pCons (pTup (pCons (pC (.int 1)) (pCons (pC (.int 1)) pNil))) pNil)))) (pCons (pTup (pCons (pTup (pCons (pUn pNeg (pC (.int 2))) (pCons (pC (.int 1)) pNil))) (pCons (pTup (pCons (pC (.int 0)) (pCons (pC (.int 1)) pNil))) (pCons (pTup (pCons (pC (.int 1)) (pCons (pC (.int 1)) pNil))) pNil)))) pNil)))) (pSeq (pAsg 4 (pLst (pCons (pCall S_led_poly_by (pCons (pVar 2) (pCons (pTup (pCons (pC (.int 2)) (pCons (pC (.int 1)) pNil))) (pCons (pTup (pCons (pC (.int 1)) (pCons (pC (.int 1)) pNil))) pNil)))) (pCons (pCall S_centred (pCons (pTup (pCons (pTup (pCons (pC (.int 0)) (pCons (pC (.int 1)) pNil))) (pCons (pTup (pCons (pC (.int 1)) (pCons (pC (.int 1)) pNil))) (pCons (pTup (pCons (pC (.int 1)) (pCons (pC (.int 1)) pNil))) pNil)))) pNil)) (pCons (pCall S_led_poly_by (pCons (pVar 3) (pCons (pTup (pCons (pUn pNeg (pC (.int 1))) (pCons (pC (.int 1)) pNil))) (pCons (pTup (pCons (pC (.int 0)) (pCons (pC (.int 1)) pNil))) pNil)))) pNil))))) (pSeq (pAsg 5 (pLst (pCons (pTup (pCons (pTup (pCons (pC (.int 3)) (pCons (pC (.int 2)) pNil))) (pCons (pTup (pCons (pUn pNeg (pC (.int 1))) (pCons (pC (.int 1)) pNil))) (pCons (pTup (pCons (pC (.int 1)) (pCons (pC (.int 2)) pNil))) pNil)))) (pCons (pTup (pCons (pTup (pCons (pTup (pCons (pC (.int 1)) (pCons (pC (.int 4)) pNil))) (pCons (pTup (pCons (pC (.int 0)) (pCons (pC (.int 1)) pNil))) (pCons (pTup (pCons (pC (.int 1)) (pCons (pC (.int 1)) pNil))) pNil)))) (pCons (pTup (pCons (pC (.int 1)) (pCons (pC (.int 2)) pNil))) pNil))) (pCons (pTup (pCons (pTup (pCons (pC (.int 2)) (pCons (pC (.int 1)) pNil))) (pCons (pTup (pCons (pC (.int 0)) (pCons (pC (.int 1)) pNil))) (pCons (pTup (pCons (pUn pNeg (pC (.int 1))) (pCons (pC (.int 1)) pNil))) pNil)))) pNil))))) (pSeq (pIf (pNot (pTruth (pCall S__law_is (pCons (pVar 4) (pCons (pVar 5) pNil))))) (pRet (pC (.bool false))) pNext) (pSeq (pFor (pRng1 (pC (.int 6))) (pgName 6) (pSeq (pAsg 7 (pCall S__law_far (pCons (pVar 1) (pCons (pC (.int 12)) pNil)))) (pIf (pOr (pNot (pTruth (pCall S__law_is_led_right (pCons (pVar 1) (pCons (pVar 7) pNil))))) (pNot (pTruth (pCall S__law_is_centred_right (pCons (pVar 1) (pCons (pVar 7) pNil)))))) (pRet (pC (.bool false))) pNext))) (pRet (pC (.bool true))))))))
theorem ps_of {D N L : Nat} {p : List Rat} (h0 : 0 < D) (h : ∀ c ∈ p, Sz D N c) (hl : p.length = L) : PS D N L p := ⟨h0, h, by omega⟩
theorem sz_int (n : Int) {D N : Nat} (h : n.natAbs ≤ N) (h0 : 0 < D) : Sz D N n := by
  have := ((Sz.int n).mono h).den h0
  rw [Nat.one_mul] at this
  exact this
theorem law_led {p due : List Rat} {a b : Rat} {Q : EV → Prop} {N A M : Nat} (hp : PS 1 N 3 p) (hl : p.length = 3) (ht : Tr0 p) (td : Tr0 due) (ab : AB A M a b) (bd : Bd (ledD 1 A 3) (ledN N M 3)) (he : ∀ x, ev due x = ledF p a b x) (hQ : Q (.d (po due))) :
    S_led_poly_by [.d (po p), .d (fr a), .d (fr b)] Q :=
  ⟨p, a, b, 1, N, 3, A, M, rfl, hp, hl, by decide, by decide, ht, ab, bd, fun r t v s => by
    have : r = due := tr0_uniq t td fun x => (v x).trans (he x).symm
    rw [this]; exact hQ⟩
theorem p_law_rest (Q : EV → Prop) (hQ : Q (.d (.bool true))) : T_law_rest { nx := fun _ => Q (.d .none), rt := Q } [none, some .hand, none, none, none, none, none, none] := by
  have f00 : PyData.tuple [PyData.int 0, PyData.int 1] = fr 0 := rfl
  have f11 : PyData.tuple [PyData.int 1, PyData.int 1] = fr 1 := rfl
  have f21 : PyData.tuple [PyData.int 2, PyData.int 1] = fr 2 := rfl
  have fm21 : PyData.tuple [PyData.int (-2), PyData.int 1] = fr (-2) := fr_of (by decide +kernel) (by decide +kernel)
  have fm11 : PyData.tuple [PyData.int (-1), PyData.int 1] = fr (-1) := fr_of (by decide +kernel) (by decide +kernel)
  have f32 : PyData.tuple [PyData.int 3, PyData.int 2] = fr (3 / 2) := fr_of (by decide +kernel) (by decide +kernel)
  have f12 : PyData.tuple [PyData.int 1, PyData.int 2] = fr (1 / 2) := fr_of (by decide +kernel) (by decide +kernel)
  have f14 : PyData.tuple [PyData.int 1, PyData.int 4] = fr (1 / 4) := fr_of (by decide +kernel) (by decide +kernel)
  unfold T_law_rest
  simp only [pSeq, pNext, pAsg, pAsgT, pAug, pSub, pIf, pRet, pRetV, pRetN, pDrop, pPar, pPar3, pVar, pC, pOp, pUn, pNil, pCons, pTest, pTruth, pAnd, pOr, pNot, pAndV, pOrV, pNotV, pIfE, pTup, pLst, pF1, pF2, fLen, fTuple, fList, fAbs, fInt, fMax2, fMin2, fAll, fAny, pCall, pNever, p2I, p2I0, EV.two, EV.rd, EV.dat, EV.look, EV.seq, EV.lst, EV.wlk, EV.lsr, EV.sto, EV.ret, EV.arg, pNeg, pItems, pgName, pgTup, pgCons, pgNil, pYes, startE, List.map_cons, List.map_nil, List.cons_append, List.nil_append, List.length_cons, List.length_nil, Nat.reduceAdd, Nat.reduceSub, List.replicate_succ, List.replicate_zero, List.getElem?_cons_zero, List.getElem?_cons_succ, List.set_cons_zero, List.set_cons_succ, wipeE, EV.d.injEq, EV.l.injEq, PyData.int.injEq, PyData.bool.injEq, PyData.tuple.injEq, PyData.list.injEq, Option.some.injEq, exists_eq_left, exists_eq_left', true_and, and_true, List.mapM_cons, List.mapM_nil, bind_pure_comp, Option.pure_def, Option.bind_eq_bind, Option.bind_some, Option.map_some, Option.map_eq_map, truthD, if_true, if_false, reduceIte, Bool.false_eq_true, Bool.not_true, Bool.not_false, exists_and_left, exists_eq_left, decide_eq_true_eq, List.set_nil, pIx, pEq, pNe, pMul, pAdd, shaped_int, eqv_int, ix2_0, ix2_1, List.cons.injEq, and_assoc, f00, f11, f21, fm21, fm11, f32, f12, f14, Nat.reduceLeDiff]
  have tl : ∀ (p : List Rat) (d : Rat), p.getLast? = some d → d ≠ 0 → Tr0 p := fun p d h hd e he => by rw [h] at he; exact Option.some.inj he ▸ hd
  have ab1 : AB 2 2 2 1 := ⟨by decide, by decide, by decide +kernel, ⟨by decide, 4, by decide +kernel, by decide⟩, ⟨by decide, 2, by decide +kernel, by decide⟩, ⟨by decide, 1, by decide +kernel, by decide⟩, ⟨by decide, 1, by decide +kernel, by decide⟩⟩
  have ab2 : AB 1 1 (-1) 0 := ⟨by decide, by decide, by decide +kernel, ⟨by decide, -1, by decide +kernel, by decide⟩, ⟨by decide, 0, by decide +kernel, by decide⟩, ⟨by decide, 0, by decide +kernel, by decide⟩, ⟨by decide, -1, by decide +kernel, by decide⟩⟩
  have sq : ∀ c ∈ [(0 : Rat), 0, 1], Sz 1 2 c := fun c hc => by
    simp only [List.mem_cons, List.not_mem_nil, or_false] at hc
    rcases hc with rfl | rfl | rfl
    · exact .zero (by decide)
    · exact .zero (by decide)
    · exact sz_int 1 (by decide) (by decide)
  have sl : ∀ c ∈ [(-2 : Rat), 0, 1], Sz 1 2 c := fun c hc => by
    simp only [List.mem_cons, List.not_mem_nil, or_false] at hc
    rcases hc with rfl | rfl | rfl
    · exact sz_int (-2) (by decide) (by decide)
    · exact .zero (by decide)
    · exact sz_int 1 (by decide) (by decide)
  have so : ∀ c ∈ [(0 : Rat), 1, 1], Sz 1 2 c := fun c hc => by
    simp only [List.mem_cons, List.not_mem_nil, or_false] at hc
    rcases hc with rfl | rfl | rfl
    · exact .zero (by decide)
    · exact sz_int 1 (by decide) (by decide)
    · exact sz_int 1 (by decide) (by decide)
  have cb : cenB [(0 : Rat), 1, 1] = 1 / 2 := by decide +kernel
  have ab3 : AB 2 1 1 (cenB [(0 : Rat), 1, 1]) := by rw [cb]; exact ab_one ⟨by decide, 1, by decide +kernel, by decide⟩ (by decide) (by decide +kernel)
  have n0 : (1 : Rat) ≠ 0 := by decide
  have bdd : Bd (ledD 1 2 3) (ledN 2 2 3) := by decide +kernel
  refine law_led (p := [0, 0, 1]) (due := [3 / 2, -1, 1 / 2]) (ps_of (by decide) sq rfl) rfl (tl _ 1 rfl n0) (tl _ (1 / 2) rfl (by decide +kernel)) ab1 bdd (fun x => ?_) ?_
  · unfold ledF
    simp only [ev_cons, ev_nil]
    grind
  refine ⟨[0, 1, 1], 1, 2, 3, 2, 1, rfl, ps_of (by decide) so rfl, rfl, by decide, by decide, tl _ 1 rfl n0, by decide +kernel, by decide +kernel, ab3, by decide +kernel, fun r tr vr sr e he => ?_⟩
  cases he
  have er : r = [1 / 4, 0, 1] := tr0_uniq tr (tl _ 1 rfl n0) fun x => by
    rw [vr, cb]
    unfold ledF
    simp only [ev_cons, ev_nil]
    grind
  subst er
  rw [cb]
  refine law_led (p := [-2, 0, 1]) (due := [2, 0, -1]) (ps_of (by decide) sl rfl) rfl (tl _ 1 rfl n0) (tl _ (-1) rfl (by decide +kernel)) ab2 (by decide +kernel) (fun x => ?_) ?_
  · unfold ledF
    simp only [ev_cons, ev_nil]
    grind
  simp only [pSeq, pNext, pAsg, pAsgT, pAug, pSub, pIf, pRet, pRetV, pRetN, pDrop, pPar, pPar3, pVar, pC, pOp, pUn, pNil, pCons, pTest, pTruth, pAnd, pOr, pNot, pAndV, pOrV, pNotV, pIfE, pTup, pLst, pF1, pF2, fLen, fTuple, fList, fAbs, fInt, fMax2, fMin2, fAll, fAny, pCall, pNever, p2I, p2I0, EV.two, EV.rd, EV.dat, EV.look, EV.seq, EV.lst, EV.wlk, EV.lsr, EV.sto, EV.ret, EV.arg, pNeg, pItems, pgName, pgTup, pgCons, pgNil, pYes, startE, List.map_cons, List.map_nil, List.cons_append, List.nil_append, List.length_cons, List.length_nil, Nat.reduceAdd, Nat.reduceSub, List.replicate_succ, List.replicate_zero, List.getElem?_cons_zero, List.getElem?_cons_succ, List.set_cons_zero, List.set_cons_succ, wipeE, EV.d.injEq, EV.l.injEq, PyData.int.injEq, PyData.bool.injEq, PyData.tuple.injEq, PyData.list.injEq, Option.some.injEq, exists_eq_left, exists_eq_left', true_and, and_true, List.mapM_cons, List.mapM_nil, bind_pure_comp, Option.pure_def, Option.bind_eq_bind, Option.bind_some, Option.map_some, Option.map_eq_map, truthD, if_true, if_false, reduceIte, Bool.false_eq_true, Bool.not_true, Bool.not_false, exists_and_left, exists_eq_left, decide_eq_true_eq, List.set_nil, pIx, pEq, pNe, pMul, pAdd, shaped_int, eqv_int, ix2_0, ix2_1, List.cons.injEq, and_assoc, Nat.reduceLeDiff]
  have sr : ∀ {a b c : Rat}, Sz 4 2 a → Sz 4 2 b → Sz 4 2 c → Sh 2 9 (po [a, b, c]) := fun h1 h2 h3 => Sh.po (D := 4) (N := 2) (L := 3) ⟨by decide, fun c hc => by
    simp only [List.mem_cons, List.not_mem_nil, or_false] at hc
    rcases hc with rfl | rfl | rfl
    · exact h1
    · exact h2
    · exact h3, by simp⟩ (by decide +kernel)
  have z4 : ∀ (n : Int) (x : Rat), x * (4 : Nat) = n → n.natAbs ≤ 8 → Sz 4 2 x := fun n x h h2 => ⟨by decide, n, h, h2⟩
  have shd : Sh 4 (3 * 41) (.list [po [3 / 2, -1, 1 / 2], .tuple [po [1 / 4, 0, 1], fr (1 / 2)], po [2, 0, -1]]) := Sh.lst (n := 3) (fun y hy => by
    simp only [List.mem_cons, List.not_mem_nil, or_false] at hy
    rcases hy with rfl | rfl | rfl
    · exact (sr (z4 6 _ (by decide +kernel) (by decide)) (z4 (-4) _ (by decide +kernel) (by decide)) (z4 2 _ (by decide +kernel) (by decide))).mono (by decide) (by decide)
    · exact Sh.tup (n := 2) (b := 9) (fun y hy => by
        simp only [List.mem_cons, List.not_mem_nil, or_false] at hy
        rcases hy with rfl | rfl
        · exact sr (z4 1 _ (by decide +kernel) (by decide)) (z4 0 _ (by decide +kernel) (by decide)) (z4 4 _ (by decide +kernel) (by decide))
        · exact (Sh.fr (z4 2 _ (by decide +kernel) (by decide)) (by decide +kernel)).mono (by decide) (by decide)) (by simp) |>.mono (by decide) (by decide)
    · exact (sr (z4 8 _ (by decide +kernel) (by decide)) (z4 0 _ (by decide +kernel) (by decide)) (z4 (-4) _ (by decide +kernel) (by decide))).mono (by decide) (by decide)) (by simp)
  refine ⟨_, _, .list [po [3 / 2, -1, 1 / 2], .tuple [po [1 / 4, 0, 1], fr (1 / 2)], po [2, 0, -1]], 4, 3 * 41, rfl, rfl, rfl, shd, by decide, by decide, ?_⟩
  refine ⟨_, rfl, _, rfl, ?_⟩
  simp only [pSeq, pNext, pAsg, pAsgT, pAug, pSub, pIf, pRet, pRetV, pRetN, pDrop, pPar, pPar3, pVar, pC, pOp, pUn, pNil, pCons, pTest, pTruth, pAnd, pOr, pNot, pAndV, pOrV, pNotV, pIfE, pTup, pLst, pF1, pF2, fLen, fTuple, fList, fAbs, fInt, fMax2, fMin2, fAll, fAny, pCall, pNever, p2I, p2I0, EV.two, EV.rd, EV.dat, EV.look, EV.seq, EV.lst, EV.wlk, EV.lsr, EV.sto, EV.ret, EV.arg, pNeg, pItems, pgName, pgTup, pgCons, pgNil, pYes, startE, List.map_cons, List.map_nil, List.cons_append, List.nil_append, List.length_cons, List.length_nil, Nat.reduceAdd, Nat.reduceSub, List.replicate_succ, List.replicate_zero, List.getElem?_cons_zero, List.getElem?_cons_succ, List.set_cons_zero, List.set_cons_succ, wipeE, EV.d.injEq, EV.l.injEq, PyData.int.injEq, PyData.bool.injEq, PyData.tuple.injEq, PyData.list.injEq, Option.some.injEq, exists_eq_left, exists_eq_left', true_and, and_true, List.mapM_cons, List.mapM_nil, bind_pure_comp, Option.pure_def, Option.bind_eq_bind, Option.bind_some, Option.map_some, Option.map_eq_map, truthD, if_true, if_false, reduceIte, Bool.false_eq_true, Bool.not_true, Bool.not_false, exists_and_left, exists_eq_left, decide_eq_true_eq, List.set_nil, pIx, pEq, pNe, pMul, pAdd, shaped_int, eqv_int, ix2_0, ix2_1, List.cons.injEq, and_assoc, pFor, pRng1]
  refine ⟨by decide, by decide, pForL_inv _ (fun i ρ => ∃ a b c d e f, ρ = [none, some .hand, a, b, c, d, e, f]) _ ⟨_, _, _, _, _, _, rfl⟩ ?_ ?_⟩
  · rintro i ρ x hx ⟨a, b, c, d, e, f, rfl⟩ R hR
    simp only [pSeq, pNext, pAsg, pAsgT, pAug, pSub, pIf, pRet, pRetV, pRetN, pDrop, pPar, pPar3, pVar, pC, pOp, pUn, pNil, pCons, pTest, pTruth, pAnd, pOr, pNot, pAndV, pOrV, pNotV, pIfE, pTup, pLst, pF1, pF2, fLen, fTuple, fList, fAbs, fInt, fMax2, fMin2, fAll, fAny, pCall, pNever, p2I, p2I0, EV.two, EV.rd, EV.dat, EV.look, EV.seq, EV.lst, EV.wlk, EV.lsr, EV.sto, EV.ret, EV.arg, pNeg, pItems, pgName, pgTup, pgCons, pgNil, pYes, startE, List.map_cons, List.map_nil, List.cons_append, List.nil_append, List.length_cons, List.length_nil, Nat.reduceAdd, Nat.reduceSub, List.replicate_succ, List.replicate_zero, List.getElem?_cons_zero, List.getElem?_cons_succ, List.set_cons_zero, List.set_cons_succ, wipeE, EV.d.injEq, EV.l.injEq, PyData.int.injEq, PyData.bool.injEq, PyData.tuple.injEq, PyData.list.injEq, Option.some.injEq, exists_eq_left, exists_eq_left', true_and, and_true, List.mapM_cons, List.mapM_nil, bind_pure_comp, Option.pure_def, Option.bind_eq_bind, Option.bind_some, Option.map_some, Option.map_eq_map, truthD, if_true, if_false, reduceIte, Bool.false_eq_true, Bool.not_true, Bool.not_false, exists_and_left, exists_eq_left, decide_eq_true_eq, List.set_nil, pIx, pEq, pNe, pMul, pAdd, shaped_int, eqv_int, ix2_0, ix2_1, List.cons.injEq, and_assoc]
    refine ⟨12, rfl, by decide, by decide, fun p hp hl ht => ⟨rfl, ?_⟩⟩
    refine ⟨p, rfl, hp, hl, ht, _, rfl, _, rfl, ?_⟩
    simp only [pSeq, pNext, pAsg, pAsgT, pAug, pSub, pIf, pRet, pRetV, pRetN, pDrop, pPar, pPar3, pVar, pC, pOp, pUn, pNil, pCons, pTest, pTruth, pAnd, pOr, pNot, pAndV, pOrV, pNotV, pIfE, pTup, pLst, pF1, pF2, fLen, fTuple, fList, fAbs, fInt, fMax2, fMin2, fAll, fAny, pCall, pNever, p2I, p2I0, EV.two, EV.rd, EV.dat, EV.look, EV.seq, EV.lst, EV.wlk, EV.lsr, EV.sto, EV.ret, EV.arg, pNeg, pItems, pgName, pgTup, pgCons, pgNil, pYes, startE, List.map_cons, List.map_nil, List.cons_append, List.nil_append, List.length_cons, List.length_nil, Nat.reduceAdd, Nat.reduceSub, List.replicate_succ, List.replicate_zero, List.getElem?_cons_zero, List.getElem?_cons_succ, List.set_cons_zero, List.set_cons_succ, wipeE, EV.d.injEq, EV.l.injEq, PyData.int.injEq, PyData.bool.injEq, PyData.tuple.injEq, PyData.list.injEq, Option.some.injEq, exists_eq_left, exists_eq_left', true_and, and_true, List.mapM_cons, List.mapM_nil, bind_pure_comp, Option.pure_def, Option.bind_eq_bind, Option.bind_some, Option.map_some, Option.map_eq_map, truthD, if_true, if_false, reduceIte, Bool.false_eq_true, Bool.not_true, Bool.not_false, exists_and_left, exists_eq_left, decide_eq_true_eq, List.set_nil, pIx, pEq, pNe, pMul, pAdd, shaped_int, eqv_int, ix2_0, ix2_1, List.cons.injEq, and_assoc]
    refine ⟨p, rfl, hp, hl, ht, _, rfl, _, rfl, ?_⟩
    exact hR _ ⟨_, _, _, _, _, _, rfl⟩
  · rintro ρ ⟨a, b, c, d, e, f, rfl⟩
    exact ⟨rfl, hQ⟩
end PL
namespace PL
open PySem PySem.Spec PyProof.Rows L2
section
variable {X : Cx} {a : Expr} {ta : TE} {p pos : Pos}
theorem pe_int1 (hg : Gl X "int") (hm : X.mg "int" = none) (ha : PE X a ta) (hs : starEach [a] X.env = [(false, eval a X.env)] := by rfl) :
    PE X (.Call (.Name "int" p) [a] [] pos) (tCB (fun xs H Q => (∃ i, xs = [.int i] ∧ Q (.int i) H) ∨ ∃ k, xs = [.bl k] ∧ Q (.int (if k then 1 else 0)) H) (tCons ta tNil)) :=
  pe_callTy call_int1 hg hm (by decide +kernel) (pa_cons ha pa_nil hs) (by decide) (by decide) hs (by rfl)
theorem pe_len1 (hg : Gl X "len") (hm : X.mg "len" = none) (ha : PE X a ta) (hs : starEach [a] X.env = [(false, eval a X.env)] := by rfl) :
    PE X (.Call (.Name "len" p) [a] [] pos) (tCB (fun xs H Q => ∃ p ys, xs = [.ref p] ∧ (SqL X.K H p ys ∨ SqT X.K H p ys) ∧ Q (.int ys.length) H) (tCons ta tNil)) :=
  pe_callB call_len_seq hg hm PySem.boot_len (pa_cons ha pa_nil hs) (by decide) (by decide) hs (by rfl)
end
section
variable {K : PySem.W.Frag} {H : Hp} {h : Addr} {xs : List V} {v : V} {Q : VK}
theorem rix {i : Int} (e : SqL K H h xs) (ha : atI xs i = some v) (q : Q v H) : rIxL K (.ref h) (.int i) H Q := ⟨h, xs, i, v, rfl, rfl, e, ha, q⟩
theorem seq_via {t u : TS} {D : Ends} {σ : L2.St} (I : L2.St → Hp → Prop) (h1 : ∀ R : L2.St → Hp → Prop, (∀ σ' H', I σ' H' → R σ' H') → t { D with nx := R } σ H) (h2 : ∀ σ' H', I σ' H' → u D σ' H') : tSeq t u D σ H := h1 _ fun σ' H' h => h2 σ' H' h
end
/-- draws, told at the places -/
structure DrawSt (H0 : Hp) (h c : Addr) (H : Hp) (i left mix n : Int) : Prop where
  at' : H h = some (.lst [.ref c, .int i, .int left, .int mix, .int n])
  keep : ∀ a o, a ≠ h → H0 a = some o → H a = some o
  i0 : 0 ≤ i
  l0 : 0 ≤ left ∧ left < 10 ^ 40
  m0 : 0 ≤ mix ∧ mix < 2 ^ 31
  n0 : 0 ≤ n
theorem DrawSt.set {H0 H : Hp} {h c : Addr} {i left mix n i' left' mix' n' : Int} (s : DrawSt H0 h c H i left mix n) (i0 : 0 ≤ i') (l0 : 0 ≤ left' ∧ left' < 10 ^ 40) (m0 : 0 ≤ mix' ∧ mix' < 2 ^ 31) (n0 : 0 ≤ n') :
    DrawSt H0 h c (upd H h (.lst [.ref c, .int i', .int left', .int mix', .int n'])) i' left' mix' n' :=
  ⟨upd_same, fun a o n e => by rw [upd_ne n]; exact s.keep a o n e, i0, l0, m0, n0⟩
/-- what a draw promises -/
def F_draw : FSpec := fun es Q => ∃ many : Int, es = [.hand, .d (.int many)] ∧ 0 < many ∧ many < 2 ^ 1000 ∧ ∀ n : Nat, (n : Int) < many → Q (.d (.int n))
abbrev rLen1 (K : PySem.W.Frag) : List V → Hp → VK → Prop := fun xs H Q => ∃ p ys, xs = [.ref p] ∧ (SqL K H p ys ∨ SqT K H p ys) ∧ Q (.int ys.length) H
abbrev rInt1 : List V → Hp → VK → Prop := fun xs H Q => (∃ i, xs = [.int i] ∧ Q (.int i) H) ∨ ∃ k, xs = [.bl k] ∧ Q (.int (if k then 1 else 0)) H
def T_draw1 (K : PySem.W.Frag) : TS := (tIfS (tAnd (tTest (tOp rEq (tOp (rIxL K) (tVar 0) (tC (.int 2))) (tC (.int 0)))) (tTest (tOp (rI0 fun i j => .bl (decide (i < j))) (tOp (rIxL K) (tVar 0) (tC (.int 1))) (tCB (rLen1 K) (tCons (tOp (rIxL K) (tVar 0) (tC (.int 0))) tNil))))) (tSeq (tAsg (tOp (rIxL K) (tOp (rIxL K) (tVar 0) (tC (.int 0))) (tOp (rIxL K) (tVar 0) (tC (.int 1)))) (gName 2)) (tSeq (tAsg (tOp (rI0 fun i j => .int (i + j)) (tOp (rIxL K) (tVar 0) (tC (.int 1))) (tC (.int 1))) (gSub (tVar 0) (tC (.int 1)) rSetL)) (tSeq (tAsg (tOp (rI (fun _ j => j ≠ 0) fun i j => .int (i.fmod j)) (tCB rInt1 (tCons (tOp (rI0 fun i j => .int (i + j)) (tOp (rI0 fun i j => .int (i + j)) (tOp (rI CMul fun i j => .int (i * j)) (tOp (rIxL K) (tVar 0) (tC (.int 3))) (tC (.int 69621))) (tVar 2)) (tC (.int 61))) tNil)) (tC (.int 2147483629))) (gSub (tVar 0) (tC (.int 3)) rSetL)) (tIfS (tTest (tOp (rI0 fun i j => .bl (decide (j ≤ i))) (tVar 2) (tOp (rI CPow fun i j => .int (i ^ j.toNat)) (tC (.int 10)) (tC (.int 18))))) (tAsg (tVar 2) (gSub (tVar 0) (tC (.int 2)) rSetL)) tNext)))) tNext)
def T_draw2 (K : PySem.W.Frag) : TS := (tSeq (tIfS (tTest (tOp (rI0 fun i j => .bl (decide (j < i))) (tOp (rIxL K) (tVar 0) (tC (.int 2))) (tC (.int 0)))) (tSeq (tAsg (tOp (rI (fun _ j => j ≠ 0) fun i j => .int (i.fmod j)) (tCB rInt1 (tCons (tOp (rIxL K) (tVar 0) (tC (.int 2))) tNil)) (tVar 1)) (gName 3)) (tSeq (tAsg (tOp (rI (fun _ j => DivOk j) fun i j => .int (i.fdiv j)) (tOp (rIxL K) (tVar 0) (tC (.int 2))) (tVar 1)) (gSub (tVar 0) (tC (.int 2)) rSetL)) (tRet (tVar 3)))) tNext) (tSeq (tAsg (tOp (rI0 fun i j => .int (i + j)) (tOp (rIxL K) (tVar 0) (tC (.int 4))) (tC (.int 1))) (gSub (tVar 0) (tC (.int 4)) rSetL)) (tSeq (tAsg (tOp (rI (fun _ j => j ≠ 0) fun i j => .int (i.fmod j)) (tCB rInt1 (tCons (tOp (rI CMul fun i j => .int (i * j)) (tCB rInt1 (tCons (tOp (rI0 fun i j => .int (i + j)) (tOp (rIxL K) (tVar 0) (tC (.int 3))) (tOp (rI CMul fun i j => .int (i * j)) (tC (.int 7919)) (tOp (rIxL K) (tVar 0) (tC (.int 4))))) tNil)) (tC (.int 48271))) tNil)) (tC (.int 2147483647))) (gName 4)) (tSeq (tAsg (tOp (rI (fun _ j => j ≠ 0) fun i j => .int (i.fmod j)) (tCB rInt1 (tCons (tOp (rI CMul fun i j => .int (i * j)) (tVar 4) (tOp (rI0 fun i j => .int (i + j)) (tOp (rI (fun _ j => DivOk j) fun i j => .int (i.fdiv j)) (tVar 4) (tC (.int 1009))) (tC (.int 69621)))) tNil)) (tC (.int 2147483647))) (gName 4)) (tSeq (tAsg (tOp (rI (fun _ j => j ≠ 0) fun i j => .int (i.fmod j)) (tCB rInt1 (tCons (tOp (rI CMul fun i j => .int (i * j)) (tVar 4) (tOp (rI0 fun i j => .int (i + j)) (tOp (rI (fun _ j => DivOk j) fun i j => .int (i.fdiv j)) (tVar 4) (tC (.int 2003))) (tC (.int 40692)))) tNil)) (tC (.int 2147483399))) (gName 4)) (tRet (tOp (rI (fun _ j => j ≠ 0) fun i j => .int (i.fmod j)) (tCB rInt1 (tCons (tOp (rI (fun _ j => DivOk j) fun i j => .int (i.fdiv j)) (tVar 4) (tC (.int 16))) tNil)) (tVar 1))))))))
def T_draw (K : PySem.W.Frag) : TS := tSeq (T_draw1 K) (T_draw2 K)
theorem tVar_i {i : Nat} {σ : L2.St} {H : Hp} {Q : VK} {v : V} (h : σ[i]? = some (some v)) (q : Q v H) : tVar i σ H Q := ⟨v, h, q⟩
theorem draw1 {K : PySem.W.Frag} {H0 H : Hp} {h c : Addr} {many : Int} {cells : List Int} {i left mix n : Int} {R : L2.St → Hp → Prop} {E : VK} {bk ct : L2.St → Hp → Prop}
    (s : DrawSt H0 h c H i left mix n) (hc : ∀ H', (∀ a o, a ≠ h → H0 a = some o → H' a = some o) → SqL K H' c (cells.map V.int)) (hcs : Cells cells)
    (hR : ∀ a H' i left mix n, DrawSt H0 h c H' i left mix n → R [some (.ref h), some (.int many), a, none, none] H') :
    T_draw1 K { nx := R, rt := E, bk := bk, ct := ct } [some (.ref h), some (.int many), none, none, none] H := by
  have sq : SqL K H h [.ref c, .int i, .int left, .int mix, .int n] := .inl (.inl s.at')
  unfold T_draw1
  have no := hR none H i left mix n s
  simp only [tIfS, tAnd, tTest, tOp, tVar, tC, tSeq, tAsg, gName, gSub, tNext, tRet, tCB, tCons, tNil, rI0, rI, List.getElem?_cons_zero, List.getElem?_cons_succ, List.set_cons_zero, List.set_cons_succ, Option.some.injEq, exists_and_left, exists_eq_left', V.int.injEq, V.bl.injEq, V.ref.injEq, decide_eq_true_eq, if_true, if_false, reduceIte, Bool.false_eq_true]
  refine rix sq rfl ⟨rfl, ?_⟩
  simp only [tIfS, tAnd, tTest, tOp, tVar, tC, tSeq, tAsg, gName, gSub, tNext, tRet, tCB, tCons, tNil, rI0, rI, List.getElem?_cons_zero, List.getElem?_cons_succ, List.set_cons_zero, List.set_cons_succ, Option.some.injEq, exists_and_left, exists_eq_left', V.int.injEq, V.bl.injEq, V.ref.injEq, decide_eq_true_eq, if_true, if_false, reduceIte, Bool.false_eq_true]
  by_cases h0 : left = 0
  · rw [if_pos h0]
    refine rix sq rfl (rix sq rfl ⟨c, _, rfl, .inl (hc H s.keep), ?_⟩)
    simp only [tIfS, tAnd, tTest, tOp, tVar, tC, tSeq, tAsg, gName, gSub, tNext, tRet, tCB, tCons, tNil, rI0, rI, List.getElem?_cons_zero, List.getElem?_cons_succ, List.set_cons_zero, List.set_cons_succ, Option.some.injEq, exists_and_left, exists_eq_left', V.int.injEq, V.bl.injEq, V.ref.injEq, decide_eq_true_eq, if_true, if_false, reduceIte, Bool.false_eq_true, List.length_map]
    by_cases hi : i < cells.length
    · rw [if_pos hi]
      have i0 := s.i0
      obtain ⟨j, rfl⟩ : ∃ j : Nat, i = j := ⟨i.toNat, by omega⟩
      have hi' : j < cells.length := by omega
      have hcell : atI (cells.map V.int) (j : Int) = some (.int cells[j]) := L2.atI_nat (by rw [List.getElem?_map, List.getElem?_eq_getElem hi']; rfl)
      have hcv := hcs.2 _ (List.getElem_mem hi')
      generalize cells[j] = cell at hcell hcv
      refine rix sq rfl (rix sq rfl (rix (hc H s.keep) hcell (rix sq rfl ?_)))
      simp only [tIfS, tAnd, tTest, tOp, tVar, tC, tSeq, tAsg, gName, gSub, tNext, tRet, tCB, tCons, tNil, rI0, rI, List.getElem?_cons_zero, List.getElem?_cons_succ, List.set_cons_zero, List.set_cons_succ, Option.some.injEq, exists_and_left, exists_eq_left', V.int.injEq, V.bl.injEq, V.ref.injEq, decide_eq_true_eq, if_true, if_false, reduceIte, Bool.false_eq_true]
      have s1 := s.set (show 0 ≤ (j : Int) + 1 by omega) s.l0 s.m0 s.n0
      have sq1 : SqL K _ h _ := .inl (.inl s1.at')
      refine ⟨h, _, 1, 1, rfl, rfl, s.at', rfl, rix sq1 rfl ?_⟩
      simp only [tIfS, tAnd, tTest, tOp, tVar, tC, tSeq, tAsg, gName, gSub, tNext, tRet, tCB, tCons, tNil, rI0, rI, List.getElem?_cons_zero, List.getElem?_cons_succ, List.set_cons_zero, List.set_cons_succ, Option.some.injEq, exists_and_left, exists_eq_left', V.int.injEq, V.bl.injEq, V.ref.injEq, decide_eq_true_eq, if_true, if_false, reduceIte, Bool.false_eq_true]
      refine ⟨.inr (by decide), .inl ⟨_, rfl, ?_⟩⟩
      simp only [tIfS, tAnd, tTest, tOp, tVar, tC, tSeq, tAsg, gName, gSub, tNext, tRet, tCB, tCons, tNil, rI0, rI, List.getElem?_cons_zero, List.getElem?_cons_succ, List.set_cons_zero, List.set_cons_succ, Option.some.injEq, exists_and_left, exists_eq_left', V.int.injEq, V.bl.injEq, V.ref.injEq, decide_eq_true_eq, if_true, if_false, reduceIte, Bool.false_eq_true]
      refine ⟨by decide, h, _, 3, 3, rfl, rfl, s1.at', rfl, ?_⟩
      have hm : 0 ≤ (mix * 69621 + cell + 61).fmod 2147483629 ∧ (mix * 69621 + cell + 61).fmod 2147483629 < 2 ^ 31 := by
        rw [Int.fmod_eq_emod_of_nonneg _ (by decide)]
        exact ⟨Int.emod_nonneg _ (by decide), Int.lt_trans (Int.emod_lt_of_pos _ (by decide)) (by decide)⟩
      have s2 := s1.set s1.i0 s1.l0 hm s1.n0
      refine ⟨⟨by decide, by decide, by decide⟩, ?_⟩
      by_cases hb : (10 : Int) ^ (18 : Int).toNat ≤ cell
      · rw [if_pos hb]
        exact ⟨h, _, 2, 2, rfl, rfl, s2.at', rfl, hR _ _ _ _ _ _ (s2.set s2.i0 hcv s2.m0 s2.n0)⟩
      · rw [if_neg hb]
        exact hR _ _ _ _ _ _ s2
    · rw [if_neg hi]
      exact no
  · rw [if_neg h0]
    exact no
theorem draw2 {K : PySem.W.Frag} {H0 H : Hp} {h c : Addr} {many : Int} {i left mix n : Int} {a : Option V} {Q : VK} {nx bk ct : L2.St → Hp → Prop} (hm0 : 0 < many) (hm1 : many < 2 ^ 1000)
    (s : DrawSt H0 h c H i left mix n) (hR : ∀ (d : Nat) H' i left mix n, (d : Int) < many → DrawSt H0 h c H' i left mix n → Q (.int d) H') :
    T_draw2 K { nx := nx, rt := Q, bk := bk, ct := ct } [some (.ref h), some (.int many), a, none, none] H := by
  have fin : ∀ (x : Int) H' i left mix n, DrawSt H0 h c H' i left mix n → Q (.int (x.fmod many)) H' := fun x H' i left mix n s => by
    rw [Int.fmod_eq_emod_of_nonneg _ (by omega)]
    have h1 := Int.emod_nonneg x (show many ≠ 0 by omega)
    have h2 := Int.emod_lt_of_pos x hm0
    have := hR (x % many).toNat H' i left mix n (by omega) s
    rw [show (((x % many).toNat : Nat) : Int) = x % many by omega] at this
    exact this
  have hd : DivOk many := ⟨by omega, by
    have : many.natAbs < 2 ^ 1000 := by omega
    by_cases z : many.natAbs = 0
    · rw [z]; decide
    · exact Nat.lt_trans ((Nat.log2_lt z).mpr this) (by decide)⟩
  have sq : SqL K H h [.ref c, .int i, .int left, .int mix, .int n] := .inl (.inl s.at')
  have fd : ∀ {x y : Int}, 0 ≤ x → 0 < y → 0 ≤ x.fdiv y ∧ x.fdiv y ≤ x := fun {x y} h1 h2 => by
    rw [Int.fdiv_eq_ediv_of_nonneg _ (by omega)]
    exact ⟨Int.ediv_nonneg h1 (by omega), Int.ediv_le_self _ h1⟩
  have fm : ∀ {x y : Int}, 0 < y → 0 ≤ x.fmod y ∧ x.fmod y < y := fun {x y} h => by
    rw [Int.fmod_eq_emod_of_nonneg _ (by omega)]
    exact ⟨Int.emod_nonneg _ (by omega), Int.emod_lt_of_pos _ h⟩
  unfold T_draw2
  simp only [tIfS, tAnd, tTest, tOp, tVar, tC, tSeq, tAsg, gName, gSub, tNext, tRet, tCB, tCons, tNil, rI0, rI, List.getElem?_cons_zero, List.getElem?_cons_succ, List.set_cons_zero, List.set_cons_succ, Option.some.injEq, exists_and_left, exists_eq_left', V.int.injEq, V.bl.injEq, V.ref.injEq, decide_eq_true_eq, if_true, if_false, reduceIte, Bool.false_eq_true]
  refine rix sq rfl ?_
  simp only [tIfS, tAnd, tTest, tOp, tVar, tC, tSeq, tAsg, gName, gSub, tNext, tRet, tCB, tCons, tNil, rI0, rI, List.getElem?_cons_zero, List.getElem?_cons_succ, List.set_cons_zero, List.set_cons_succ, Option.some.injEq, exists_and_left, exists_eq_left', V.int.injEq, V.bl.injEq, V.ref.injEq, decide_eq_true_eq, if_true, if_false, reduceIte, Bool.false_eq_true]
  by_cases h0 : 0 < left
  · rw [if_pos h0]
    refine rix sq rfl (.inl ⟨_, rfl, ?_⟩)
    simp only [tIfS, tAnd, tTest, tOp, tVar, tC, tSeq, tAsg, gName, gSub, tNext, tRet, tCB, tCons, tNil, rI0, rI, List.getElem?_cons_zero, List.getElem?_cons_succ, List.set_cons_zero, List.set_cons_succ, Option.some.injEq, exists_and_left, exists_eq_left', V.int.injEq, V.bl.injEq, V.ref.injEq, decide_eq_true_eq, if_true, if_false, reduceIte, Bool.false_eq_true]
    refine ⟨by omega, rix sq rfl ?_⟩
    simp only [tIfS, tAnd, tTest, tOp, tVar, tC, tSeq, tAsg, gName, gSub, tNext, tRet, tCB, tCons, tNil, rI0, rI, List.getElem?_cons_zero, List.getElem?_cons_succ, List.set_cons_zero, List.set_cons_succ, Option.some.injEq, exists_and_left, exists_eq_left', V.int.injEq, V.bl.injEq, V.ref.injEq, decide_eq_true_eq, if_true, if_false, reduceIte, Bool.false_eq_true]
    refine ⟨hd, h, _, 2, 2, rfl, rfl, s.at', rfl, ?_⟩
    have l1 := fd s.l0.1 hm0
    exact fin _ _ _ _ _ _ (s.set s.i0 ⟨l1.1, Int.lt_of_le_of_lt l1.2 s.l0.2⟩ s.m0 s.n0)
  · rw [if_neg h0]
    refine rix sq rfl ?_
    simp only [tIfS, tAnd, tTest, tOp, tVar, tC, tSeq, tAsg, gName, gSub, tNext, tRet, tCB, tCons, tNil, rI0, rI, List.getElem?_cons_zero, List.getElem?_cons_succ, List.set_cons_zero, List.set_cons_succ, Option.some.injEq, exists_and_left, exists_eq_left', V.int.injEq, V.bl.injEq, V.ref.injEq, decide_eq_true_eq, if_true, if_false, reduceIte, Bool.false_eq_true]
    have n0 := s.n0
    have s1 := s.set s.i0 s.l0 s.m0 (show 0 ≤ n + 1 by omega)
    have sq1 : SqL K _ h _ := .inl (.inl s1.at')
    refine ⟨h, _, 4, 4, rfl, rfl, s.at', rfl, rix sq1 rfl (rix sq1 rfl ?_)⟩
    simp only [tIfS, tAnd, tTest, tOp, tVar, tC, tSeq, tAsg, gName, gSub, tNext, tRet, tCB, tCons, tNil, rI0, rI, List.getElem?_cons_zero, List.getElem?_cons_succ, List.set_cons_zero, List.set_cons_succ, Option.some.injEq, exists_and_left, exists_eq_left', V.int.injEq, V.bl.injEq, V.ref.injEq, decide_eq_true_eq, if_true, if_false, reduceIte, Bool.false_eq_true]
    refine ⟨.inl (by decide), .inl ⟨_, rfl, ?_⟩⟩
    simp only [tIfS, tAnd, tTest, tOp, tVar, tC, tSeq, tAsg, gName, gSub, tNext, tRet, tCB, tCons, tNil, rI0, rI, List.getElem?_cons_zero, List.getElem?_cons_succ, List.set_cons_zero, List.set_cons_succ, Option.some.injEq, exists_and_left, exists_eq_left', V.int.injEq, V.bl.injEq, V.ref.injEq, decide_eq_true_eq, if_true, if_false, reduceIte, Bool.false_eq_true]
    refine ⟨.inr (by decide), .inl ⟨_, rfl, ?_⟩⟩
    simp only [tIfS, tAnd, tTest, tOp, tVar, tC, tSeq, tAsg, gName, gSub, tNext, tRet, tCB, tCons, tNil, rI0, rI, List.getElem?_cons_zero, List.getElem?_cons_succ, List.set_cons_zero, List.set_cons_succ, Option.some.injEq, exists_and_left, exists_eq_left', V.int.injEq, V.bl.injEq, V.ref.injEq, decide_eq_true_eq, if_true, if_false, reduceIte, Bool.false_eq_true]
    refine ⟨by decide, ?_⟩
    generalize hx : (((mix + 7919 * (n + 1)) * 48271).fmod 2147483647) = x1
    have b1 : 0 ≤ x1 ∧ x1 < 2147483647 := hx ▸ fm (by decide)
    have d1 : ∀ {y : Int}, 0 < y → y < 2 ^ 1000 → DivOk y := fun {y} h1 h2 => ⟨by omega, by
      by_cases z : y.natAbs = 0
      · rw [z]; decide
      · exact Nat.lt_trans ((Nat.log2_lt (k := 1000) z).mpr (by omega)) (by decide)⟩
    refine ⟨d1 (by decide) (by decide +kernel), .inl (by omega), .inl ⟨_, rfl, ?_⟩⟩
    simp only [tIfS, tAnd, tTest, tOp, tVar, tC, tSeq, tAsg, gName, gSub, tNext, tRet, tCB, tCons, tNil, rI0, rI, List.getElem?_cons_zero, List.getElem?_cons_succ, List.set_cons_zero, List.set_cons_succ, Option.some.injEq, exists_and_left, exists_eq_left', V.int.injEq, V.bl.injEq, V.ref.injEq, decide_eq_true_eq, if_true, if_false, reduceIte, Bool.false_eq_true]
    refine ⟨by decide, ?_⟩
    generalize hx2 : ((x1 * (x1.fdiv 1009 + 69621)).fmod 2147483647) = x2
    have b2 : 0 ≤ x2 ∧ x2 < 2147483647 := hx2 ▸ fm (by decide)
    refine ⟨d1 (by decide) (by decide +kernel), .inl (by omega), .inl ⟨_, rfl, ?_⟩⟩
    simp only [tIfS, tAnd, tTest, tOp, tVar, tC, tSeq, tAsg, gName, gSub, tNext, tRet, tCB, tCons, tNil, rI0, rI, List.getElem?_cons_zero, List.getElem?_cons_succ, List.set_cons_zero, List.set_cons_succ, Option.some.injEq, exists_and_left, exists_eq_left', V.int.injEq, V.bl.injEq, V.ref.injEq, decide_eq_true_eq, if_true, if_false, reduceIte, Bool.false_eq_true]
    refine ⟨by decide, d1 (by decide) (by decide +kernel), .inl ⟨_, rfl, ?_⟩⟩
    simp only [tIfS, tAnd, tTest, tOp, tVar, tC, tSeq, tAsg, gName, gSub, tNext, tRet, tCB, tCons, tNil, rI0, rI, List.getElem?_cons_zero, List.getElem?_cons_succ, List.set_cons_zero, List.set_cons_succ, Option.some.injEq, exists_and_left, exists_eq_left', V.int.injEq, V.bl.injEq, V.ref.injEq, decide_eq_true_eq, if_true, if_false, reduceIte, Bool.false_eq_true]
    exact ⟨by omega, fin _ _ _ _ _ _ s1⟩
theorem cells_sq {K : PySem.W.Frag} {B : Addr → Prop} {H0 H : Hp} {h c : Addr} {xs : List V} (l : LB K B H0 c xs) (hB : B h) (k : ∀ a o, a ≠ h → H0 a = some o → H a = some o) : SqL K H c xs := by
  rcases l with ⟨r, nb⟩ | r
  · have ne : c ≠ h := fun z => nb (z ▸ hB)
    rcases r with r | ⟨o, r⟩
    · exact .inl (.inl (k _ _ ne r))
    · exact .inl (.inr ⟨o, k _ _ ne r⟩)
  · exact .inr r
section
variable {P : Program} {w : World} {K : PySem.W.Frag} {mg : Str → Option Value} {base : Heap}
theorem has_draw {st : Stmt} {N ps : List Str} (hN : N.length = 5) (hp : ps.length = 2) (D : DefAt K mg "_law_draw" st ps) (S : FnScope N ps (defScope st))
    (body : ∀ (f : Addr) (cdv : Value) (A : Around) (outer : List PySem.Env) (s : Shared) (H : Hp) (E : XK), Room 0 (A.deeper (envOfC "_law_draw" (defScope st) s.heap.objs.size f cdv)) →
      PSs (cxOf CX0 P w K mg base N "_law_draw" (defScope st) f cdv A outer s H E).nox (defBody st) (T_draw K)) : Has P w K mg base "_law_draw" 1 F_draw := by
  obtain ⟨f, fd, h1, h2, h3⟩ := D.ex
  refine ⟨f, fd, ps, h1, h2.kp, h3, ?_⟩
  refine h2.ok S (fun vs H Q E h => ?_) (fun cdv A outer s H vs Q E hr h => ?_)
  · obtain ⟨hd, B, es, q, b, r, hes, ⟨many, rfl, _⟩, _⟩ := h
    rw [r.length, hp]; rfl
  · obtain ⟨hd, B, es, q, b, r, hes, ⟨many, rfl, hm0, hm1, hq⟩, k⟩ := h
    refine ⟨_, body f cdv A outer s H E hr, ?_⟩
    cases r with
    | cons r1 r2 =>
      cases r2 with
      | cons r2 r3 =>
        cases r3
        obtain ⟨h, rfl, hh⟩ := r1
        rw [r2.int]
        obtain ⟨⟨c, xs, hs, hl, hc⟩, hB⟩ := b.hand h hh
        obtain ⟨i, left, mix, n, e, i0, l0, m0, n0⟩ := hs.ex
        have ds : DrawSt H h c H i left mix n := ⟨e, fun a o _ q => q, i0, l0, m0, n0⟩
        have st0 : L2.start N [.ref h, .int many] = [some (.ref h), some (.int many), none, none, none] := by unfold L2.start; rw [hN]; rfl
        rw [st0]
        refine seq_via (fun σ' H' => ∃ a i left mix n, σ' = [some (.ref h), some (.int many), a, none, none] ∧ DrawSt H h c H' i left mix n) (fun R hR => ?_) fun σ' H' hI => ?_
        · exact draw1 ds (fun H' kp => cells_sq hl hB kp) hc fun a H' i left mix n hs => hR _ _ ⟨a, i, left, mix, n, rfl, hs⟩
        · obtain ⟨a, i, left, mix, n, rfl, hs⟩ := hI
          refine draw2 hm0 hm1 hs fun d H' i left mix n hd hs => ?_
          refine k _ H' (.d (.int d)) ⟨fun a o hne q => hs.keep a o (fun z => hne (by rw [z, hh])) q, fun h' c' l e' hst => ?_⟩ (Da.int _) (hq d hd)
          have : h' = h := Option.some.inj (e'.symm.trans hh)
          subst this
          obtain ⟨i2, l2, m2, n2, e2, _⟩ := hst.ex
          rw [e] at e2
          have ec : c = c' := by
            injection e2 with e2
            injection e2 with e2
            injection e2 with e2 _
            injection e2
          subst ec
          exact ⟨i, left, mix, n, hs.at', hs.i0, hs.l0, hs.m0, hs.n0⟩
end
end PL
namespace PL
open PySem PySem.Spec PyProof.Rows L2
def S__law_hand : FSpec := fun es Q => ∃ ns : List Int, es = [.d (.list (ns.map .int))] ∧ ∀ cells mix, Cells cells → 0 ≤ mix ∧ mix < 2 ^ 31 → Q (.l [.list (cells.map .int), .int 0, .int 0, .int mix, .int 0])
theorem l__law_hand : ∀ es q, S__law_hand es q → es.length = 1 := by rintro es q ⟨_, rfl, _⟩; rfl
def cellOf (x : Int) : Int := ((x.natAbs : Nat) : Int).fmod (10 ^ 40)
theorem cells_ok (ns : List Int) : Cells ((ns.take 60).map cellOf) := by
  refine ⟨by simp; omega, fun x hx => ?_⟩
  obtain ⟨y, _, rfl⟩ := List.mem_map.mp hx
  unfold cellOf
  rw [Int.fmod_eq_emod_of_nonneg _ (by decide)]
  exact ⟨Int.emod_nonneg _ (by decide), Int.emod_lt_of_pos _ (by decide)⟩
theorem cut60 (ns : List Int) : cutD (ns.map PyData.int) none (some 60) = ((ns.take 60).map PyData.int) := by
  unfold cutD
  rw [HT.sIx_none, show (60 : Int) = ((60 : Nat) : Int) from rfl, HT.sIx_nat, List.drop_zero, Nat.sub_zero, List.length_map, List.map_take]
  by_cases h : 60 ≤ ns.length
  · rw [Nat.min_eq_left h]
  · rw [Nat.min_eq_right (by omega), List.take_of_length_le (by simp), List.take_of_length_le (by simp; omega)]
theorem mulOk_small {i j : Int} (h1 : i.natAbs < 2 ^ 64) (h2 : j.natAbs < 2 ^ 64) : MulOk i j := by
  have := log2_lt h1 (by decide); have := log2_lt h2 (by decide)
  unfold MulOk; omega
end PL
namespace PL
open PySem PySem.Spec PyProof.Rows L2
def T__law_hand : PTS := (pSeq (pAsg 1 (pLc (pItems (pSl (pVar 0) pNoPart (pPart (pC (.int 60))))) (pgName 2) pYes (pOp pMod (pF1 fInt (pF1 fAbs (pF1 fInt (pVar 2)))) (pOp pPow (pC (.int 10)) (pC (.int 40)))) [2])) (pFreeze 1 (pRet (pLst (pCons (pVar 1) (pCons (pC (.int 0)) (pCons (pC (.int 0)) (pCons (pOp pAdd (pC (.int 39011)) (pOp pMul (pC (.int 23)) (pF1 fLen (pVar 1)))) (pCons (pC (.int 0)) pNil)))))))))
theorem p__law_hand : ∀ es q, S__law_hand es q → T__law_hand { nx := fun _ => q (.d .none), rt := q } (startE 3 es) := by
  rintro es q ⟨ns, rfl, hq⟩
  unfold T__law_hand
  simp only [pSeq, pNext, pAsg, pAsgT, pAug, pSub, pIf, pRet, pRetV, pRetN, pDrop, pPar, pPar3, pVar, pC, pOp, pUn, pNil, pCons, pTest, pTruth, pAnd, pOr, pNot, pAndV, pOrV, pNotV, pIfE, pTup, pLst, pF1, pF2, fLen, fTuple, fList, fAbs, fInt, fMax2, fMin2, fAll, fAny, pCall, pNever, p2I, p2I0, EV.two, EV.rd, EV.dat, EV.look, EV.seq, EV.lst, EV.wlk, EV.lsr, EV.sto, EV.ret, EV.arg, pNeg, pItems, pgName, pgTup, pgCons, pgNil, pYes, startE, List.map_cons, List.map_nil, List.cons_append, List.nil_append, List.length_cons, List.length_nil, Nat.reduceAdd, Nat.reduceSub, List.replicate_succ, List.replicate_zero, List.getElem?_cons_zero, List.getElem?_cons_succ, List.set_cons_zero, List.set_cons_succ, wipeE, EV.d.injEq, EV.l.injEq, PyData.int.injEq, PyData.bool.injEq, PyData.tuple.injEq, PyData.list.injEq, Option.some.injEq, exists_eq_left, exists_eq_left', true_and, and_true, List.mapM_cons, List.mapM_nil, bind_pure_comp, Option.pure_def, Option.bind_eq_bind, Option.bind_some, Option.map_some, Option.map_eq_map, truthD, if_true, if_false, reduceIte, Bool.false_eq_true, Bool.not_true, Bool.not_false, exists_and_left, exists_eq_left, decide_eq_true_eq, List.set_nil, pIx, pEq, pNe, pMul, pAdd, shaped_int, eqv_int, ix2_0, ix2_1, pLc, pSl, pNoPart, pPart, cut60]
  have hl : (ns.take 60).length ≤ 60 := by simp; omega
  refine ⟨by rw [List.length_map]; omega, pLcL_map _ (fun x => .int (cellOf x)) _ (fun x hx R hR => ?_) mon_name mon_yes ?_⟩
  · simp only [pSeq, pNext, pAsg, pAsgT, pAug, pSub, pIf, pRet, pRetV, pRetN, pDrop, pPar, pPar3, pVar, pC, pOp, pUn, pNil, pCons, pTest, pTruth, pAnd, pOr, pNot, pAndV, pOrV, pNotV, pIfE, pTup, pLst, pF1, pF2, fLen, fTuple, fList, fAbs, fInt, fMax2, fMin2, fAll, fAny, pCall, pNever, p2I, p2I0, EV.two, EV.rd, EV.dat, EV.look, EV.seq, EV.lst, EV.wlk, EV.lsr, EV.sto, EV.ret, EV.arg, pNeg, pItems, pgName, pgTup, pgCons, pgNil, pYes, startE, List.map_cons, List.map_nil, List.cons_append, List.nil_append, List.length_cons, List.length_nil, Nat.reduceAdd, Nat.reduceSub, List.replicate_succ, List.replicate_zero, List.getElem?_cons_zero, List.getElem?_cons_succ, List.set_cons_zero, List.set_cons_succ, wipeE, EV.d.injEq, EV.l.injEq, PyData.int.injEq, PyData.bool.injEq, PyData.tuple.injEq, PyData.list.injEq, Option.some.injEq, exists_eq_left, exists_eq_left', true_and, and_true, List.mapM_cons, List.mapM_nil, bind_pure_comp, Option.pure_def, Option.bind_eq_bind, Option.bind_some, Option.map_some, Option.map_eq_map, truthD, if_true, if_false, reduceIte, Bool.false_eq_true, Bool.not_true, Bool.not_false, exists_and_left, exists_eq_left, decide_eq_true_eq, List.set_nil, pIx, pEq, pNe, pMul, pAdd, shaped_int, eqv_int, ix2_0, ix2_1, abs_eq]
    exact ⟨⟨by decide, by decide, by decide⟩, by decide, hR⟩
  · refine ⟨rfl, _, rfl, ?_⟩
    simp only [pSeq, pNext, pAsg, pAsgT, pAug, pSub, pIf, pRet, pRetV, pRetN, pDrop, pPar, pPar3, pVar, pC, pOp, pUn, pNil, pCons, pTest, pTruth, pAnd, pOr, pNot, pAndV, pOrV, pNotV, pIfE, pTup, pLst, pF1, pF2, fLen, fTuple, fList, fAbs, fInt, fMax2, fMin2, fAll, fAny, pCall, pNever, p2I, p2I0, EV.two, EV.rd, EV.dat, EV.look, EV.seq, EV.lst, EV.wlk, EV.lsr, EV.sto, EV.ret, EV.arg, pNeg, pItems, pgName, pgTup, pgCons, pgNil, pYes, startE, List.map_cons, List.map_nil, List.cons_append, List.nil_append, List.length_cons, List.length_nil, Nat.reduceAdd, Nat.reduceSub, List.replicate_succ, List.replicate_zero, List.getElem?_cons_zero, List.getElem?_cons_succ, List.set_cons_zero, List.set_cons_succ, wipeE, EV.d.injEq, EV.l.injEq, PyData.int.injEq, PyData.bool.injEq, PyData.tuple.injEq, PyData.list.injEq, Option.some.injEq, exists_eq_left, exists_eq_left', true_and, and_true, List.mapM_cons, List.mapM_nil, bind_pure_comp, Option.pure_def, Option.bind_eq_bind, Option.bind_some, Option.map_some, Option.map_eq_map, truthD, if_true, if_false, reduceIte, Bool.false_eq_true, Bool.not_true, Bool.not_false, exists_and_left, exists_eq_left, decide_eq_true_eq, List.set_nil, pIx, pEq, pNe, pMul, pAdd, shaped_int, eqv_int, ix2_0, ix2_1, List.length_map]
    generalize hn : (ns.take 60).length = n at hl ⊢
    refine ⟨mulOk_small (by decide) (by omega), by decide, ?_⟩
    have := hq ((ns.take 60).map cellOf) (39011 + 23 * (n : Int)) (cells_ok ns) (by omega)
    rw [List.map_map] at this
    exact this
end PL
namespace PL
open PySem PySem.Spec PyProof.Rows L2
/-! ### the law's def, and the head -/
/-- what the law promises -/
def spLaw (K : PySem.W.Frag) : Sp := fun vs H Q _ => ∃ (a : Addr) (ns : List Int), vs = [.ref a] ∧ SqL K H a (ns.map V.int) ∧ ns.length ≤ 63 ∧ ∀ H', Q (.bl true) H'
theorem da_ints {K : PySem.W.Frag} {B : Addr → Prop} {H : Hp} : ∀ ns : List Int, DaA K B H (ns.map V.int) (ns.map PyData.int)
  | [] => .nil
  | n :: ns => .cons (.int n) (da_ints ns)
theorem bok_none {K : PySem.W.Frag} {H : Hp} : BOk K none (fun _ => False) H := ⟨fun _ h => h.elim, fun _ e => nomatch e⟩
/-- behind the hand: the state from which the rest of the law walks -/
theorem hand_sr {K : PySem.W.Frag} {H H' : Hp} {v : V} {N : List Str} {a : Addr} {cells : List Int} {mix : Int} (hN : 2 ≤ N.length) (x : Ext none H H') (r : RR K none (fun _ => False) (Uh none) H H' v (.l [.list (cells.map .int), .int 0, .int 0, .int mix, .int 0])) (hc : Cells cells) (hm : 0 ≤ mix ∧ mix < 2 ^ 31) :
    ∃ h, SR K ⟨none, some h, fun _ => False, H, fun b => b = h, fun b => b = h⟩ H' ((L2.start N [.ref a]).set 1 (some v)) ((List.replicate N.length none).set 1 (some .hand)) := by
  obtain ⟨h, vs, rfl, e2, e3, e4⟩ := r
  have hv : ∃ c, vs = [.ref c, .int 0, .int 0, .int mix, .int 0] ∧ LB K (fun b => b = h) H' c (cells.map V.int) := by
    cases e4 with
    | cons d1 d2 =>
      cases d1 with
      | @lst c cs _ l1 l2 =>
        rw [l2.ints] at l1
        refine ⟨c, ?_, l1.kp fun b o n e => ⟨fun z => n (.inr z), e⟩⟩
        cases d2 with
        | cons d1 d2 => cases d1; cases d2 with
          | cons d1 d2 => cases d1; cases d2 with
            | cons d1 d2 => cases d1; cases d2 with
              | cons d1 d2 => cases d1; cases d2; rfl
  obtain ⟨c, rfl, hl⟩ := hv
  have hst : ∀ l, HandSt H' h c l := fun l => ⟨0, 0, mix, 0, e3, Int.le_refl _, ⟨by decide, by decide⟩, hm, Int.le_refl _⟩
  have l0 : (L2.start N [.ref a]).length = N.length := by unfold L2.start; simp; omega
  refine ⟨h, by rw [List.length_set, List.length_set, List.length_replicate, l0], fun b o n e => x.keep b o (fun z => nomatch z) e, ⟨fun b z => ?_, fun h' e => ?_⟩, bok_none, .inr ⟨rfl, h, rfl, e2⟩, fun b z => z, fun b z => z.elim, fun h' e => (Option.some.inj e).symm, fun b z n => absurd (by rw [z]) n, fun j e hj => ?_, fun i j xs ys b hij h1 => ?_, fun h' c' l e => nomatch e⟩
  · subst z; rw [e3]; simp
  · obtain rfl : h = h' := Option.some.inj e
    exact ⟨⟨c, cells, hst _, hl, hc⟩, rfl⟩
  · rcases get_set hj with ⟨e1, e5⟩ | ⟨n1, g1⟩
    · subst e1 e5
      exact ⟨.ref h, List.getElem?_set_self (by rw [l0]; omega), h, rfl, rfl⟩
    · rw [List.getElem?_replicate] at g1
      split at g1 <;> cases g1
  · exfalso
    rcases get_set h1 with ⟨_, e5⟩ | ⟨_, g1⟩
    · cases e5
    · rw [List.getElem?_replicate] at g1
      split at g1 <;> cases g1
section
variable {P : Program} {w : World} {K : PySem.W.Frag} {mg : Str → Option Value} {base : Heap}
theorem law_ok {k : Nat} {st : Stmt} {f : Addr} {fd : FuncData} {N : List Str} {t : PTS} (hN : 2 ≤ N.length) (D : Fun K "law" "law" st f fd) (S : FnScope N ["script"] (defScope st))
    (body : ∀ (cdv : Value) (A : Around) (outer : List PySem.Env) (s : Shared) (H : Hp) (E : XK), A.guards = some [] ∧ Room k (A.deeper (envOfC "law" (defScope st) s.heap.objs.size f cdv)) →
      PSs (cxOf CX0 P w K mg base N "law" (defScope st) f cdv A outer s H E).nox (defBody st) (tSeq (tAsg (liftE K (pCall S__law_hand (pCons (pVar 0) pNil))) (gName 1)) (liftS K t)))
    (pure : ∀ Q : EV → Prop, Q (.d (.bool true)) → t { nx := fun _ => Q (.d .none), rt := Q } ((List.replicate N.length none).set 1 (some .hand))) : FnOkG P w K mg base (k + 1) f fd ["script"] (spLaw K) := by
  refine fn_ofG D S (fun vs H Q E h => ?_) fun cdv A outer s H vs Q E hr h => ?_
  · obtain ⟨a, ns, rfl, _⟩ := h; rfl
  · obtain ⟨a, ns, rfl, hs, hl, hq⟩ := h
    refine ⟨_, body cdv A outer s H E hr, ?_⟩
    have r0 : RRs K none (fun _ => False) (Uh none) H H [.ref a] [.d (.list (ns.map .int))] := .cons (Da.lst (hs.elim (fun h => .inl ⟨h, id⟩) .inr) (da_ints ns)) .nil
    have s0 := sr_start (N := N) bok_none r0 (by intro e he; rw [List.mem_singleton.mp he]; exact ⟨fun _ z => (nomatch z), fun _ z => (nomatch z)⟩)
    refine ⟨_, startE N.length [.d (.list (ns.map .int))], fun e => ∃ cells mix, e = .l [.list (cells.map .int), .int 0, .int 0, .int mix, .int 0] ∧ Cells cells ∧ 0 ≤ mix ∧ mix < 2 ^ 31, s0, ⟨ns, rfl, fun cells mix h1 h2 => ⟨cells, mix, rfl, h1, h2⟩⟩, fun v H' e x r hqe => ?_⟩
    obtain ⟨cells, mix, rfl, hc, hm⟩ := hqe
    obtain ⟨h, sr⟩ := hand_sr (a := a) hN x r hc hm
    refine ⟨_, _, _, sr, pure (fun e => e = .d (.bool true)) rfl, ⟨fun _ _ _ _ _ _ h => (nomatch h), fun _ _ _ _ _ _ h => h.elim, fun _ _ _ _ _ _ h => h.elim, fun v H'' e x r h => ?_⟩⟩
    subst h
    cases r
    exact hq _
/-- the call of the law, where nothing is being shown -/
theorem law_callG {mb : Str → Option Value} {k : Nat} {fa a : Addr} {fd : FuncData} {x : Str} {sp : Sp} {s1 : Shared} {vs : List Value} {ns : List Int}
    (KX : K.In s1.heap) (hns : s1.heap.Ns mainGlobals mg) (hb : s1.heap.Ns builtinsNs mb) (hbb : ∀ y : Str, y ≠ "__name__" → mb y = bootBuiltins y) (hlim : s1.heap.NoLimit) (hg : s1.gens = #[])
    (ha : s1.heap.get? a = some { cls := .type "list", data := .seq vs.toArray }) (hi : IntsAre vs ns) (hl : ns.length ≤ sizeLine) (hr : Room k callerA) (hgd : callerA.guards = some [])
    (F : ∀ base : Heap, K.In base → base.Ns mainGlobals mg → FnOkG P w K mg base k fa fd [x] sp) (hbind : ∀ (s : Shared) (u : Value), BindsTo s fd ⟨[u], []⟩ [(x, u)])
    (hsp : ∀ H : Hp, SqL K H a (ns.map V.int) → sp [.ref a] H (fun v _ => v = .bl true) fun _ _ _ => False) :
    codeAny (model P w) callerA (.call (.ref fa) ⟨[.ref a], []⟩) (fun r s' => r = .ok (.ret (.bool true)) ∧ OldK s1.heap s'.heap ∧ s'.os = s1.os ∧ AllBare s'.gens) s1 := by
  have rv := vals_ints hi
  have key : ∃ H : Hp, SqL K H a (ns.map V.int) ∧ HOk P w H s1.heap ∧ (∀ b u, H b = some u → b = a ∧ K.lookup a = none ∧ ∃ o xs, u = .frz o (.lst xs)) := by
    cases hk : K.lookup a with
    | some o =>
      have e := KX a o hk
      rw [ha] at e
      cases e
      exact ⟨fun _ => none, .inr ⟨_, vs.toArray, _, hk, rfl, rfl, rfl, by rw [List.size_toArray, hi.length]; exact hl, by simpa using rv⟩, fun b u z => (nomatch z), fun b u z => (nomatch z)⟩
    | none =>
      refine ⟨fun b => if b = a then some (.frz { cls := .type "list", data := .seq vs.toArray } (.lst (ns.map V.int))) else none, .inl (.inr ⟨_, if_pos rfl⟩), fun b u z => ?_, fun b u z => ?_⟩
      · by_cases hb : b = a
        · subst hb
          obtain rfl := Option.some.inj ((if_pos rfl).symm.trans z)
          exact ⟨ha, by rw [List.length_map]; exact hl, vs, _, rv, ha⟩
        · exact nomatch (if_neg hb).symm.trans z
      · by_cases hb : b = a
        · exact ⟨hb, rfl, _, _, (Option.some.inj ((if_pos hb).symm.trans z)).symm⟩
        · exact nomatch (if_neg hb).symm.trans z
  obtain ⟨H, hS, hok, hA⟩ := key
  have off : ∀ {b : Addr}, b ≠ a → H b = none := fun {b} n => by
    cases q : H b with
    | none => rfl
    | some u => exact absurd (hA b u q).1 n
  have nsK : ∀ {b : Addr} {m : Str → Option Value}, s1.heap.Ns b m → (hidT s1.heap H).Ns b m := fun {b m} ⟨o, es, ep, e, d, r⟩ => by
    refine ⟨o, es, ep, hidT_get e (off fun z => ?_), d, r⟩
    subst z
    rw [ha] at e
    cases e
    have d' : Data.seq vs.toArray _ = Data.dict es ep := d
    cases d'
  have kIn : K.In (hidT s1.heap H) := fun b o e => hidT_get (KX b o e) (by
    cases q : H b with
    | none => rfl
    | some u =>
      obtain ⟨rfl, hk, _⟩ := hA b u q
      rw [hk] at e; cases e)
  have e0 : Env0 P w K mg (hidT s1.heap H) callerA [] s1 H :=
    ⟨rfl, ⟨kIn, nsK hns, ⟨mb, nsK hb, hbb⟩, let ⟨mc, h1, h2⟩ := hlim; ⟨mc, nsK h1, h2⟩⟩, fun b o e => of_hidT e, Nat.le_of_eq (hidT_size _ _), trivial, fun b hb => absurd (show b ∈ ([] : List Addr) from hb) (by simp), hok, .of_eq hg⟩
  refine codeAny_mono ((F _ kIn (nsK hns)).run callerA [] s1 H ⟨[.ref a], []⟩ [.ref a] [.ref a] _ _ hr hgd e0 (hbind s1 (.ref a)) (.cons rfl .nil) (hsp H hS)) fun r s' h => ?_
  match r, h with
  | .ok (.ret u), ⟨v, H', os, bare, un, hok', r', q⟩ =>
    obtain rfl : v = .bl true := q
    obtain rfl : u = Value.bool true := r'
    refine ⟨rfl, OldK.of_keep fun b o e => ?_, os, bare⟩
    cases q : H b with
    | none => exact un.keep b o e q (by intro z; exact absurd (show b ∈ ([] : List Addr) from z) (by simp)) (by simp)
    | some u =>
      obtain ⟨_, _, ob, xs, rfl⟩ := hA b u q
      obtain ⟨e1, _⟩ := hok b _ q
      obtain ⟨e2, _⟩ := hok' b _ (un.frzs b ob _ q)
      rw [e] at e1; cases e1
      exact e2
end
theorem walk_ofG {l : PySem.W.OpenLaw} {k : Nat} {q : Program} {loose : List Str} {XP : (Str → Option Value) → Heap → Prop} {YP : World → Heap → Prop} {d : DefRec} {K : Params → PySem.W.Frag} {x : Str}
    (hn : l.most = some 63) (hdf : d.params.defaults = []) (hr : Room k callerA) (hgd : callerA.guards = some [])
    (hY : ∀ (w : World) (h : Heap), YP w h → (K w.params).In h)
    (F : ∀ (w : World) (mg : Str → Option Value) (fa : Addr) (h : Heap), (K w.params).In h → h.Ns mainGlobals mg → mg d.name = some (.ref fa) →
      ∃ fd : FuncData, (∀ (s : Shared) (u : Value), BindsTo s fd ⟨[u], []⟩ [(x, u)]) ∧
        ∀ base : Heap, (K w.params).In base → base.Ns mainGlobals mg → FnOkG l.prog w (K w.params) mg base k fa fd [x] (spLaw (K w.params))) :
    PySem.W.WalkO q loose XP YP l.row.toRowW d [] (fun f vs => PySem.call f vs) := by
  refine Att.attach_call hn hdf fun w s₀ s₁ mg mb fa o pm cd doc a vs ns G Y ho hd hcd hmg hobj hints hlen hg => ?_
  have KX := hY w _ Y
  obtain ⟨fd, hb, hF⟩ := F w mg fa _ KX G.T.g hmg
  exact law_callG KX G.T.g G.T.b G.T.builtins G.T.nolimit hg hobj hints (Nat.le_trans hlen (by decide)) hr hgd hF hb fun H hS => ⟨a, ns, rfl, hS, hlen, fun _ => rfl⟩
end PL
namespace My
open PySem PySem.Spec PyProof.Rows L2 PL
def topS (i : Nat) : Stmt := PySem.Challenge.pw_donehalfway_k31_whole_far_polys_led_and.main.body.getD i (.Pass ⟨0, 0, 0, 0⟩)
section
variable {P : Program} {w : World} {K : PySem.W.Frag} {mg : Str → Option Value} {base : Heap}
abbrev s_is_integer : Stmt := topS 1
abbrev N_is_integer : List Str := ["thing"]
theorem sc_is_integer : FnScope N_is_integer ["thing"] (defScope s_is_integer) := ⟨rfl, rfl, rfl, by decide +kernel, rfl, by decide +kernel, by decide +kernel⟩
theorem h_is_integer (D : DefAt K mg "is_integer" s_is_integer ["thing"]) (z_bool : mg "bool" = none) (z_int : mg "int" = none) (z_isinstance : mg "isinstance" = none) : Has P w K mg base "is_integer" 1 S_is_integer :=
  has_of (k := 0) (t := T_is_integer) D sc_is_integer l_is_integer (fun f cdv A outer s H E hr => (qs_one (qs_ret (qe_and (qe_isi kb_int (by rfl) z_isinstance (qe_var (pv 0)) (pe_bltn (by rfl) z_int (by decide +kernel) rfl)) (pe_one (qe_not (qe_isi kb_bool (by rfl) z_isinstance (qe_var (pv 0)) (pe_bltn (by rfl) z_bool (by decide +kernel) rfl)))))))) p_is_integer
abbrev s_is_tuple_of : Stmt := topS 2
abbrev N_is_tuple_of : List Str := ["thing", "many"]
theorem sc_is_tuple_of : FnScope N_is_tuple_of ["thing", "many"] (defScope s_is_tuple_of) := ⟨rfl, rfl, rfl, by decide +kernel, rfl, by decide +kernel, by decide +kernel⟩
theorem h_is_tuple_of (D : DefAt K mg "is_tuple_of" s_is_tuple_of ["thing", "many"]) (z_isinstance : mg "isinstance" = none) (z_len : mg "len" = none) (z_tuple : mg "tuple" = none) : Has P w K mg base "is_tuple_of" 1 S_is_tuple_of :=
  has_of (k := 0) (t := T_is_tuple_of) D sc_is_tuple_of l_is_tuple_of (fun f cdv A outer s H E hr => (qs_one (qs_ret (qe_and (qe_isi kb_tuple (by rfl) z_isinstance (qe_var (pv 0)) (pe_bltn (by rfl) z_tuple (by decide +kernel) rfl)) (pe_one (qe_eq hr.units (q_len (by rfl) z_len (qe_var (pv 0))) (qe_var (pv 1)))))))) p_is_tuple_of
abbrev s_common : Stmt := topS 3
abbrev N_common : List Str := ["one", "other"]
theorem sc_common : FnScope N_common ["one", "other"] (defScope s_common) := ⟨rfl, rfl, rfl, by decide +kernel, rfl, by decide +kernel, by decide +kernel⟩
theorem h_common (D : DefAt K mg "common" s_common ["one", "other"]) (z_abs : mg "abs" = none) : Has P w K mg base "common" 1 S_common :=
  has_of (k := 0) (t := T_common) D sc_common l_common (fun f cdv A outer s H E hr => (qs_cons (qs_par (ps_par rfl sc_common.nd rfl rfl (by decide) rfl rfl (pa_cons (q_abs (by rfl) z_abs (qe_var (pv 0))) (pa_cons (q_abs (by rfl) z_abs (qe_var (pv 1))) pa_nil)) (by rfl))) (qs_cons (qs_while PassesOwn.never (qt_gt (qe_var (pv 1)) qe_int) (qs_one (qs_par (ps_par rfl sc_common.nd rfl rfl (by decide) rfl rfl (pa_cons (qe_var (pv 1)) (pa_cons (qe_mod (qe_var (pv 0)) (qe_var (pv 1))) pa_nil)) (by rfl))))) (qs_one (qs_retV (pv 0)))))) p_common
abbrev s_is_fraction : Stmt := topS 12
abbrev N_is_fraction : List Str := ["thing"]
theorem sc_is_fraction : FnScope N_is_fraction ["thing"] (defScope s_is_fraction) := ⟨rfl, rfl, rfl, by decide +kernel, rfl, by decide +kernel, by decide +kernel⟩
theorem h_is_fraction (D : DefAt K mg "is_fraction" s_is_fraction ["thing"]) (h_common : Has P w K mg base "common" 1 S_common) (h_is_integer : Has P w K mg base "is_integer" 1 S_is_integer) (h_is_tuple_of : Has P w K mg base "is_tuple_of" 1 S_is_tuple_of) : Has P w K mg base "is_fraction" 2 S_is_fraction :=
  has_of (k := 1) (t := T_is_fraction) D sc_is_fraction l_is_fraction (fun f cdv A outer s H E hr => (qs_cons (qs_if (PW.pt (qw_or (qt_not (qt_truth (qe_call h_is_tuple_of (hr.mono (by decide)) (by rfl) (qa_cons (qe_var (pv 0)) (qa_cons qe_int qa_nil))))) (qw_or (qt_not (qt_truth (qe_call h_is_integer (hr.mono (by decide)) (by rfl) (qa_cons (qe_ix (qe_var (pv 0)) qe_int) qa_nil)))) (qw_or (qt_not (qt_truth (qe_call h_is_integer (hr.mono (by decide)) (by rfl) (qa_cons (qe_ix (qe_var (pv 0)) qe_int) qa_nil)))) (pw_or1 (qt_lt (qe_ix (qe_var (pv 0)) qe_int) qe_int)))))) (qs_one (qs_ret qe_bl)) qs_nil) (qs_one (qs_ret (qe_eq hr.units (qe_call h_common (hr.mono (by decide)) (by rfl) (qa_cons (qe_ix (qe_var (pv 0)) qe_int) (qa_cons (qe_ix (qe_var (pv 0)) qe_int) qa_nil))) qe_int))))) p_is_fraction
abbrev s_need_fraction : Stmt := topS 13
abbrev N_need_fraction : List Str := ["thing"]
theorem sc_need_fraction : FnScope N_need_fraction ["thing"] (defScope s_need_fraction) := ⟨rfl, rfl, rfl, by decide +kernel, rfl, by decide +kernel, by decide +kernel⟩
theorem h_need_fraction (D : DefAt K mg "need_fraction" s_need_fraction ["thing"]) (h_is_fraction : Has P w K mg base "is_fraction" 2 S_is_fraction) : Has P w K mg base "need_fraction" 3 S_need_fraction :=
  has_of (k := 2) (t := T_need_fraction) D sc_need_fraction l_need_fraction (fun f cdv A outer s H E hr => (qs_one (qs_if (qt_not (qt_truth (qe_call h_is_fraction (hr.mono (by decide)) (by rfl) (qa_cons (qe_var (pv 0)) qa_nil)))) (qs_one qs_never) qs_nil))) p_need_fraction
abbrev s_raw_part : Stmt := topS 14
abbrev N_raw_part : List Str := ["top", "bottom", "by"]
theorem sc_raw_part : FnScope N_raw_part ["top", "bottom"] (defScope s_raw_part) := ⟨rfl, rfl, rfl, by decide +kernel, rfl, by decide +kernel, by decide +kernel⟩
theorem h_raw_part (D : DefAt K mg "raw_part" s_raw_part ["top", "bottom"]) (h_common : Has P w K mg base "common" 1 S_common) : Has P w K mg base "raw_part" 2 S_raw_part :=
  has_of (k := 1) (t := T_raw_part) D sc_raw_part l_raw_part (fun f cdv A outer s H E hr => (qs_cons (qs_asg (ps_set (i := 2) sc_raw_part.nd rfl (by first | exact Or.inl rfl | exact Or.inr rfl) (qe_call h_common (hr.mono (by decide)) (by rfl) (qa_cons (qe_var (pv 0)) (qa_cons (qe_var (pv 1)) qa_nil))))) (qs_cons (qs_if (qt_lt (qe_var (pv 1)) qe_int) (qs_one (qs_asg (ps_set (i := 2) sc_raw_part.nd rfl (by first | exact Or.inl rfl | exact Or.inr rfl) (qe_neg (qe_var (pv 2)))))) qs_nil) (qs_one (qs_ret (qe_tup (qa_cons (qe_fdiv (qe_var (pv 0)) (qe_var (pv 2))) (qa_cons (qe_fdiv (qe_var (pv 1)) (qe_var (pv 2))) qa_nil)))))))) p_raw_part
abbrev s_raw_sum : Stmt := topS 15
abbrev N_raw_sum : List Str := ["one", "other"]
theorem sc_raw_sum : FnScope N_raw_sum ["one", "other"] (defScope s_raw_sum) := ⟨rfl, rfl, rfl, by decide +kernel, rfl, by decide +kernel, by decide +kernel⟩
theorem h_raw_sum (D : DefAt K mg "raw_sum" s_raw_sum ["one", "other"]) (h_raw_part : Has P w K mg base "raw_part" 2 S_raw_part) : Has P w K mg base "raw_sum" 3 S_raw_sum :=
  has_of (k := 2) (t := T_raw_sum) D sc_raw_sum l_raw_sum (fun f cdv A outer s H E hr => (qs_cons (qs_if (qt_eq hr.units (qe_ix (qe_var (pv 0)) qe_int) qe_int) (qs_one (qs_retV (pv 1))) qs_nil) (qs_cons (qs_if (qt_eq hr.units (qe_ix (qe_var (pv 1)) qe_int) qe_int) (qs_one (qs_retV (pv 0))) qs_nil) (qs_cons (qs_if (PW.pt (qw_and (qt_eq hr.units (qe_ix (qe_var (pv 0)) qe_int) qe_int) (pw_and1 (qt_eq hr.units (qe_ix (qe_var (pv 1)) qe_int) qe_int)))) (qs_one (qs_ret (qe_tup (qa_cons (qe_add (qe_ix (qe_var (pv 0)) qe_int) (qe_ix (qe_var (pv 1)) qe_int)) (qa_cons qe_int qa_nil))))) qs_nil) (qs_one (qs_ret (qe_call h_raw_part (hr.mono (by decide)) (by rfl) (qa_cons (qe_add (qe_mul (qe_ix (qe_var (pv 0)) qe_int) (qe_ix (qe_var (pv 1)) qe_int)) (qe_mul (qe_ix (qe_var (pv 1)) qe_int) (qe_ix (qe_var (pv 0)) qe_int))) (qa_cons (qe_mul (qe_ix (qe_var (pv 0)) qe_int) (qe_ix (qe_var (pv 1)) qe_int)) qa_nil))))))))) p_raw_sum
abbrev s_raw_less : Stmt := topS 16
abbrev N_raw_less : List Str := ["one", "other"]
theorem sc_raw_less : FnScope N_raw_less ["one", "other"] (defScope s_raw_less) := ⟨rfl, rfl, rfl, by decide +kernel, rfl, by decide +kernel, by decide +kernel⟩
theorem h_raw_less (D : DefAt K mg "raw_less" s_raw_less ["one", "other"]) (h_raw_sum : Has P w K mg base "raw_sum" 3 S_raw_sum) : Has P w K mg base "raw_less" 4 S_raw_less :=
  has_of (k := 3) (t := T_raw_less) D sc_raw_less l_raw_less (fun f cdv A outer s H E hr => (qs_one (qs_ret (qe_call h_raw_sum (hr.mono (by decide)) (by rfl) (qa_cons (qe_var (pv 0)) (qa_cons (qe_tup (qa_cons (qe_neg (qe_ix (qe_var (pv 1)) qe_int)) (qa_cons (qe_ix (qe_var (pv 1)) qe_int) qa_nil))) qa_nil)))))) p_raw_less
abbrev s_raw_product : Stmt := topS 17
abbrev N_raw_product : List Str := ["one", "other"]
theorem sc_raw_product : FnScope N_raw_product ["one", "other"] (defScope s_raw_product) := ⟨rfl, rfl, rfl, by decide +kernel, rfl, by decide +kernel, by decide +kernel⟩
theorem h_raw_product (D : DefAt K mg "raw_product" s_raw_product ["one", "other"]) (c_ZERO : Cst K mg "ZERO" d_ZERO) (h_raw_part : Has P w K mg base "raw_part" 2 S_raw_part) : Has P w K mg base "raw_product" 3 S_raw_product :=
  has_of (k := 2) (t := T_raw_product) D sc_raw_product l_raw_product (fun f cdv A outer s H E hr => (qs_cons (qs_if (PW.pt (qw_or (qt_eq hr.units (qe_ix (qe_var (pv 0)) qe_int) qe_int) (pw_or1 (qt_eq hr.units (qe_ix (qe_var (pv 1)) qe_int) qe_int)))) (qs_one (qs_ret (qe_cst c_ZERO (by rfl)))) qs_nil) (qs_cons (qs_if (PW.pt (qw_and (qt_eq hr.units (qe_ix (qe_var (pv 0)) qe_int) qe_int) (pw_and1 (qt_eq hr.units (qe_ix (qe_var (pv 1)) qe_int) qe_int)))) (qs_one (qs_ret (qe_tup (qa_cons (qe_mul (qe_ix (qe_var (pv 0)) qe_int) (qe_ix (qe_var (pv 1)) qe_int)) (qa_cons qe_int qa_nil))))) qs_nil) (qs_one (qs_ret (qe_call h_raw_part (hr.mono (by decide)) (by rfl) (qa_cons (qe_mul (qe_ix (qe_var (pv 0)) qe_int) (qe_ix (qe_var (pv 1)) qe_int)) (qa_cons (qe_mul (qe_ix (qe_var (pv 0)) qe_int) (qe_ix (qe_var (pv 1)) qe_int)) qa_nil)))))))) p_raw_product
abbrev s_raw_quotient : Stmt := topS 18
abbrev N_raw_quotient : List Str := ["one", "other"]
theorem sc_raw_quotient : FnScope N_raw_quotient ["one", "other"] (defScope s_raw_quotient) := ⟨rfl, rfl, rfl, by decide +kernel, rfl, by decide +kernel, by decide +kernel⟩
theorem h_raw_quotient (D : DefAt K mg "raw_quotient" s_raw_quotient ["one", "other"]) (h_raw_part : Has P w K mg base "raw_part" 2 S_raw_part) : Has P w K mg base "raw_quotient" 3 S_raw_quotient :=
  has_of (k := 2) (t := T_raw_quotient) D sc_raw_quotient l_raw_quotient (fun f cdv A outer s H E hr => (qs_one (qs_ret (qe_call h_raw_part (hr.mono (by decide)) (by rfl) (qa_cons (qe_mul (qe_ix (qe_var (pv 0)) qe_int) (qe_ix (qe_var (pv 1)) qe_int)) (qa_cons (qe_mul (qe_ix (qe_var (pv 0)) qe_int) (qe_ix (qe_var (pv 1)) qe_int)) qa_nil)))))) p_raw_quotient
abbrev s_is_poly : Stmt := topS 21
abbrev N_is_poly : List Str := ["thing", "one"]
theorem sc_is_poly : FnScope N_is_poly ["thing"] (defScope s_is_poly) := ⟨rfl, rfl, rfl, by decide +kernel, rfl, by decide +kernel, by decide +kernel⟩
theorem h_is_poly (D : DefAt K mg "is_poly" s_is_poly ["thing"]) (c_MOST_DEGREE : Cst K mg "MOST_DEGREE" d_MOST_DEGREE) (c_ZERO : Cst K mg "ZERO" d_ZERO) (z_all : mg "all" = none) (z_isinstance : mg "isinstance" = none) (z_len : mg "len" = none) (z_tuple : mg "tuple" = none) (h_is_fraction : Has P w K mg base "is_fraction" 2 S_is_fraction) : Has P w K mg base "is_poly" 3 S_is_poly :=
  has_of (k := 2) (t := T_is_poly) D sc_is_poly l_is_poly (fun f cdv A outer s H E hr => (qs_cons (qs_if (PW.pt (qw_or (qt_not (qt_truth (qe_isi kb_tuple (by rfl) z_isinstance (qe_var (pv 0)) (pe_bltn (by rfl) z_tuple (by decide +kernel) rfl)))) (qw_or (qt_gt (q_len (by rfl) z_len (qe_var (pv 0))) (qe_add (qe_cst c_MOST_DEGREE (by rfl)) qe_int)) (pw_or1 (qt_not (qt_truth (q_all (by rfl) z_all (qe_lc (own := [("one", 1)]) rfl sc_is_poly.nd (qi_items (qe_var (pv 0))) (blkOk_by (N := N_is_poly) (sc := defScope s_is_poly) (by decide +kernel)) (fun _ _ _ _ _ => (pg_name (i := 1) sc_is_poly.nd rfl (by first | exact Or.inl rfl | exact Or.inr rfl))) (fun _ _ _ _ _ => qts_nil) (fun _ _ _ _ _ => (qe_call h_is_fraction (hr.mono (by decide)) (by rfl) (qa_cons (qe_var (pv 1)) qa_nil))) (glw_name (by decide)))))))))) (qs_one (qs_ret qe_bl)) qs_nil) (qs_one (qs_ret (qe_or (qe_eq hr.units (qe_var (pv 0)) (qe_tup qa_nil)) (pe_one (qe_ne hr.units (qe_ix (qe_var (pv 0)) (qe_neg qe_int)) (qe_cst c_ZERO (by rfl))))))))) p_is_poly
abbrev s_trimmed : Stmt := topS 22
abbrev N_trimmed : List Str := ["numbers", "many"]
theorem sc_trimmed : FnScope N_trimmed ["numbers"] (defScope s_trimmed) := ⟨rfl, rfl, rfl, by decide +kernel, rfl, by decide +kernel, by decide +kernel⟩
theorem h_trimmed (D : DefAt K mg "trimmed" s_trimmed ["numbers"]) (c_ZERO : Cst K mg "ZERO" d_ZERO) (z_len : mg "len" = none) (z_tuple : mg "tuple" = none) : Has P w K mg base "trimmed" 1 S_trimmed :=
  has_of (k := 0) (t := T_trimmed) D sc_trimmed l_trimmed (fun f cdv A outer s H E hr => (qs_cons (qs_asg (ps_set (i := 1) sc_trimmed.nd rfl (by first | exact Or.inl rfl | exact Or.inr rfl) (q_len (by rfl) z_len (qe_var (pv 0))))) (qs_cons (qs_while PassesOwn.never (PW.pt (qw_and (qt_gt (qe_var (pv 1)) qe_int) (pw_and1 (qt_eq hr.units (qe_ix (qe_var (pv 0)) (qe_sub (qe_var (pv 1)) qe_int)) (qe_cst c_ZERO (by rfl)))))) (qs_one (qs_aug o_sub (ps_aug (i := 1) sc_trimmed.nd rfl (by first | exact Or.inl rfl | exact Or.inr rfl) qe_int iop_sub)))) (qs_one (qs_ret (q_tuple (by rfl) z_tuple (qe_sl (qe_var (pv 0)) qo_none (qo_some (qe_var (pv 1)))))))))) p_trimmed
abbrev s_at_or_zero : Stmt := topS 23
abbrev N_at_or_zero : List Str := ["numbers", "at"]
theorem sc_at_or_zero : FnScope N_at_or_zero ["numbers", "at"] (defScope s_at_or_zero) := ⟨rfl, rfl, rfl, by decide +kernel, rfl, by decide +kernel, by decide +kernel⟩
theorem h_at_or_zero (D : DefAt K mg "at_or_zero" s_at_or_zero ["numbers", "at"]) (c_ZERO : Cst K mg "ZERO" d_ZERO) (z_len : mg "len" = none) : Has P w K mg base "at_or_zero" 1 S_at_or_zero :=
  has_of (k := 0) (t := T_at_or_zero) D sc_at_or_zero l_at_or_zero (fun f cdv A outer s H E hr => (qs_one (qs_ret (qe_if (qt_lt (qe_var (pv 1)) (q_len (by rfl) z_len (qe_var (pv 0)))) (qe_ix (qe_var (pv 0)) (qe_var (pv 1))) (qe_cst c_ZERO (by rfl)))))) p_at_or_zero
abbrev s_raw_poly_sum : Stmt := topS 24
abbrev N_raw_poly_sum : List Str := ["one", "other", "many", "at"]
theorem sc_raw_poly_sum : FnScope N_raw_poly_sum ["one", "other"] (defScope s_raw_poly_sum) := ⟨rfl, rfl, rfl, by decide +kernel, rfl, by decide +kernel, by decide +kernel⟩
theorem h_raw_poly_sum (D : DefAt K mg "raw_poly_sum" s_raw_poly_sum ["one", "other"]) (z_len : mg "len" = none) (z_max : mg "max" = none) (z_range : mg "range" = none) (h_at_or_zero : Has P w K mg base "at_or_zero" 1 S_at_or_zero) (h_raw_sum : Has P w K mg base "raw_sum" 3 S_raw_sum) (h_trimmed : Has P w K mg base "trimmed" 1 S_trimmed) : Has P w K mg base "raw_poly_sum" 4 S_raw_poly_sum :=
  has_of (k := 3) (t := T_raw_poly_sum) D sc_raw_poly_sum l_raw_poly_sum (fun f cdv A outer s H E hr => (qs_cons (qs_asg (ps_set (i := 2) sc_raw_poly_sum.nd rfl (by first | exact Or.inl rfl | exact Or.inr rfl) (q_max2 rfl (by rfl) z_max (q_len (by rfl) z_len (qe_var (pv 0))) (q_len (by rfl) z_len (qe_var (pv 1)))))) (qs_one (qs_ret (qe_call h_trimmed (hr.mono (by decide)) (by rfl) (qa_cons (qe_lc (own := [("at", 3)]) rfl sc_raw_poly_sum.nd (qi_rng1 (by rfl) z_range (qe_var (pv 2))) (blkOk_by (N := N_raw_poly_sum) (sc := defScope s_raw_poly_sum) (by decide +kernel)) (fun _ _ _ _ _ => (pg_name (i := 3) sc_raw_poly_sum.nd rfl (by first | exact Or.inl rfl | exact Or.inr rfl))) (fun _ _ _ _ _ => qts_nil) (fun _ _ _ _ _ => (qe_call h_raw_sum (hr.mono (by decide)) (by rfl) (qa_cons (qe_call h_at_or_zero (hr.mono (by decide)) (by rfl) (qa_cons (qe_var (pv 0)) (qa_cons (qe_var (pv 3)) qa_nil))) (qa_cons (qe_call h_at_or_zero (hr.mono (by decide)) (by rfl) (qa_cons (qe_var (pv 1)) (qa_cons (qe_var (pv 3)) qa_nil))) qa_nil)))) (glw_name (by decide))) qa_nil)))))) p_raw_poly_sum
abbrev s_raw_poly_scaled : Stmt := topS 25
abbrev N_raw_poly_scaled : List Str := ["poly", "fraction", "one"]
theorem sc_raw_poly_scaled : FnScope N_raw_poly_scaled ["poly", "fraction"] (defScope s_raw_poly_scaled) := ⟨rfl, rfl, rfl, by decide +kernel, rfl, by decide +kernel, by decide +kernel⟩
theorem h_raw_poly_scaled (D : DefAt K mg "raw_poly_scaled" s_raw_poly_scaled ["poly", "fraction"]) (h_raw_product : Has P w K mg base "raw_product" 3 S_raw_product) (h_trimmed : Has P w K mg base "trimmed" 1 S_trimmed) : Has P w K mg base "raw_poly_scaled" 4 S_raw_poly_scaled :=
  has_of (k := 3) (t := T_raw_poly_scaled) D sc_raw_poly_scaled l_raw_poly_scaled (fun f cdv A outer s H E hr => (qs_one (qs_ret (qe_call h_trimmed (hr.mono (by decide)) (by rfl) (qa_cons (qe_lc (own := [("one", 2)]) rfl sc_raw_poly_scaled.nd (qi_items (qe_var (pv 0))) (blkOk_by (N := N_raw_poly_scaled) (sc := defScope s_raw_poly_scaled) (by decide +kernel)) (fun _ _ _ _ _ => (pg_name (i := 2) sc_raw_poly_scaled.nd rfl (by first | exact Or.inl rfl | exact Or.inr rfl))) (fun _ _ _ _ _ => qts_nil) (fun _ _ _ _ _ => (qe_call h_raw_product (hr.mono (by decide)) (by rfl) (qa_cons (qe_var (pv 2)) (qa_cons (qe_var (pv 1)) qa_nil)))) (glw_name (by decide))) qa_nil))))) p_raw_poly_scaled
abbrev s_raw_poly_product : Stmt := topS 26
abbrev N_raw_poly_product : List Str := ["one", "other", "found", "at", "left", "place", "right"]
theorem sc_raw_poly_product : FnScope N_raw_poly_product ["one", "other"] (defScope s_raw_poly_product) := ⟨rfl, rfl, rfl, by decide +kernel, rfl, by decide +kernel, by decide +kernel⟩
theorem h_raw_poly_product (D : DefAt K mg "raw_poly_product" s_raw_poly_product ["one", "other"]) (c_ZERO : Cst K mg "ZERO" d_ZERO) (z_enumerate : mg "enumerate" = none) (z_len : mg "len" = none) (h_raw_product : Has P w K mg base "raw_product" 3 S_raw_product) (h_raw_sum : Has P w K mg base "raw_sum" 3 S_raw_sum) (h_trimmed : Has P w K mg base "trimmed" 1 S_trimmed) : Has P w K mg base "raw_poly_product" 4 S_raw_poly_product :=
  has_of (k := 3) (t := T_raw_poly_product) D sc_raw_poly_product l_raw_poly_product (fun f cdv A outer s H E hr => (qs_cons (qs_if (PW.pt (qw_or (qt_not (qt_truth (qe_var (pv 0)))) (pw_or1 (qt_not (qt_truth (qe_var (pv 1))))))) (qs_one (qs_ret (qe_tup qa_nil))) qs_nil) (qs_cons (qs_asg (ps_set (i := 2) sc_raw_poly_product.nd rfl (by first | exact Or.inl rfl | exact Or.inr rfl) (qe_mul (qe_lst (qa_cons (qe_cst c_ZERO (by rfl)) qa_nil)) (qe_sub (qe_add (q_len (by rfl) z_len (qe_var (pv 0))) (q_len (by rfl) z_len (qe_var (pv 1)))) qe_int)))) (qs_cons (qs_for PassesOwn.never rfl (qi_enum (by rfl) z_enumerate (qe_var (pv 0))) (pg_tup rfl (pgs_cons (pg_name (i := 3) sc_raw_poly_product.nd rfl (by first | exact Or.inl rfl | exact Or.inr rfl)) (pgs_cons (pg_name (i := 4) sc_raw_poly_product.nd rfl (by first | exact Or.inl rfl | exact Or.inr rfl)) pgs_nil))) (gl_tup (gls_cons (gl_name 3) (gls_cons (gl_name 4) gls_nil))) (qs_one (qs_if (qt_ne hr.units (qe_var (pv 4)) (qe_cst c_ZERO (by rfl))) (qs_one (qs_for PassesOwn.never rfl (qi_enum (by rfl) z_enumerate (qe_var (pv 1))) (pg_tup rfl (pgs_cons (pg_name (i := 5) sc_raw_poly_product.nd rfl (by first | exact Or.inl rfl | exact Or.inr rfl)) (pgs_cons (pg_name (i := 6) sc_raw_poly_product.nd rfl (by first | exact Or.inl rfl | exact Or.inr rfl)) pgs_nil))) (gl_tup (gls_cons (gl_name 5) (gls_cons (gl_name 6) gls_nil))) (qs_one (qs_setIx (ps_asg (qe_call h_raw_sum (hr.mono (by decide)) (by rfl) (qa_cons (qe_ix (qe_var (pv 2)) (qe_add (qe_var (pv 3)) (qe_var (pv 5)))) (qa_cons (qe_call h_raw_product (hr.mono (by decide)) (by rfl) (qa_cons (qe_var (pv 4)) (qa_cons (qe_var (pv 6)) qa_nil))) qa_nil))) (pg_sub (pv 2) (qe_add (qe_var (pv 3)) (qe_var (pv 5))) set_list)))))) qs_nil))) (qs_one (qs_ret (qe_call h_trimmed (hr.mono (by decide)) (by rfl) (qa_cons (qe_var (pv 2)) qa_nil)))))))) p_raw_poly_product
abbrev s_raw_poly_put : Stmt := topS 27
abbrev N_raw_poly_put : List Str := ["one", "other", "found", "number"]
theorem sc_raw_poly_put : FnScope N_raw_poly_put ["one", "other"] (defScope s_raw_poly_put) := ⟨rfl, rfl, rfl, by decide +kernel, rfl, by decide +kernel, by decide +kernel⟩
theorem h_raw_poly_put (D : DefAt K mg "raw_poly_put" s_raw_poly_put ["one", "other"]) (h_raw_poly_product : Has P w K mg base "raw_poly_product" 4 S_raw_poly_product) (h_raw_poly_sum : Has P w K mg base "raw_poly_sum" 4 S_raw_poly_sum) (h_trimmed : Has P w K mg base "trimmed" 1 S_trimmed) : Has P w K mg base "raw_poly_put" 5 S_raw_poly_put :=
  has_of (k := 4) (t := T_raw_poly_put) D sc_raw_poly_put l_raw_poly_put (fun f cdv A outer s H E hr => (qs_cons (qs_asg (ps_set (i := 2) sc_raw_poly_put.nd rfl (by first | exact Or.inl rfl | exact Or.inr rfl) (qe_tup qa_nil))) (qs_cons (qs_for PassesOwn.never rfl (qi_items (qe_rev (qe_var (pv 0)))) (pg_name (i := 3) sc_raw_poly_put.nd rfl (by first | exact Or.inl rfl | exact Or.inr rfl)) (gl_name 3) (qs_one (qs_asg (ps_set (i := 2) sc_raw_poly_put.nd rfl (by first | exact Or.inl rfl | exact Or.inr rfl) (qe_call h_raw_poly_sum (hr.mono (by decide)) (by rfl) (qa_cons (qe_call h_raw_poly_product (hr.mono (by decide)) (by rfl) (qa_cons (qe_var (pv 2)) (qa_cons (qe_var (pv 1)) qa_nil))) (qa_cons (qe_call h_trimmed (hr.mono (by decide)) (by rfl) (qa_cons (qe_lst (qa_cons (qe_var (pv 3)) qa_nil)) qa_nil)) qa_nil))))))) (qs_one (qs_retV (pv 2)))))) p_raw_poly_put
abbrev s_is_far : Stmt := topS 31
abbrev N_is_far : List Str := ["thing"]
theorem sc_is_far : FnScope N_is_far ["thing"] (defScope s_is_far) := ⟨rfl, rfl, rfl, by decide +kernel, rfl, by decide +kernel, by decide +kernel⟩
theorem h_is_far (D : DefAt K mg "is_far" s_is_far ["thing"]) (c_LEAST_DEGREE : Cst K mg "LEAST_DEGREE" d_LEAST_DEGREE) (c_MOST_FAR : Cst K mg "MOST_FAR" d_MOST_FAR) (z_len : mg "len" = none) (h_is_poly : Has P w K mg base "is_poly" 3 S_is_poly) : Has P w K mg base "is_far" 4 S_is_far :=
  has_of (k := 3) (t := T_is_far) D sc_is_far l_is_far (fun f cdv A outer s H E hr => (qs_one (qs_ret (qe_and (qe_call h_is_poly (hr.mono (by decide)) (by rfl) (qa_cons (qe_var (pv 0)) qa_nil)) (pe_one (qe_chain o_lt o_le op_lt op_le (qe_cst c_LEAST_DEGREE (by rfl)) (q_len (by rfl) z_len (qe_var (pv 0))) (qe_add (qe_cst c_MOST_FAR (by rfl)) qe_int))))))) p_is_far
abbrev s_need_far : Stmt := topS 32
abbrev N_need_far : List Str := ["thing"]
theorem sc_need_far : FnScope N_need_far ["thing"] (defScope s_need_far) := ⟨rfl, rfl, rfl, by decide +kernel, rfl, by decide +kernel, by decide +kernel⟩
theorem h_need_far (D : DefAt K mg "need_far" s_need_far ["thing"]) (h_is_far : Has P w K mg base "is_far" 4 S_is_far) : Has P w K mg base "need_far" 5 S_need_far :=
  has_of (k := 4) (t := T_need_far) D sc_need_far l_need_far (fun f cdv A outer s H E hr => (qs_one (qs_if (qt_not (qt_truth (qe_call h_is_far (hr.mono (by decide)) (by rfl) (qa_cons (qe_var (pv 0)) qa_nil)))) (qs_one qs_never) qs_nil))) p_need_far
abbrev s_raw_led : Stmt := topS 33
abbrev N_raw_led : List Str := ["poly", "a", "b", "back"]
theorem sc_raw_led : FnScope N_raw_led ["poly", "a", "b"] (defScope s_raw_led) := ⟨rfl, rfl, rfl, by decide +kernel, rfl, by decide +kernel, by decide +kernel⟩
theorem h_raw_led (D : DefAt K mg "raw_led" s_raw_led ["poly", "a", "b"]) (c_ONE : Cst K mg "ONE" d_ONE) (c_ZERO : Cst K mg "ZERO" d_ZERO) (h_raw_less : Has P w K mg base "raw_less" 4 S_raw_less) (h_raw_poly_put : Has P w K mg base "raw_poly_put" 5 S_raw_poly_put) (h_raw_poly_scaled : Has P w K mg base "raw_poly_scaled" 4 S_raw_poly_scaled) (h_raw_poly_sum : Has P w K mg base "raw_poly_sum" 4 S_raw_poly_sum) (h_raw_quotient : Has P w K mg base "raw_quotient" 3 S_raw_quotient) (h_trimmed : Has P w K mg base "trimmed" 1 S_trimmed) : Has P w K mg base "raw_led" 6 S_raw_led :=
  has_of (k := 5) (t := T_raw_led) D sc_raw_led l_raw_led (fun f cdv A outer s H E hr => (qs_cons (qs_asg (ps_set (i := 3) sc_raw_led.nd rfl (by first | exact Or.inl rfl | exact Or.inr rfl) (qe_call h_trimmed (hr.mono (by decide)) (by rfl) (qa_cons (qe_lst (qa_cons (qe_call h_raw_less (hr.mono (by decide)) (by rfl) (qa_cons (qe_cst c_ZERO (by rfl)) (qa_cons (qe_call h_raw_quotient (hr.mono (by decide)) (by rfl) (qa_cons (qe_var (pv 2)) (qa_cons (qe_var (pv 1)) qa_nil))) qa_nil))) (qa_cons (qe_call h_raw_quotient (hr.mono (by decide)) (by rfl) (qa_cons (qe_cst c_ONE (by rfl)) (qa_cons (qe_var (pv 1)) qa_nil))) qa_nil))) qa_nil)))) (qs_one (qs_ret (qe_call h_raw_poly_sum (hr.mono (by decide)) (by rfl) (qa_cons (qe_call h_raw_poly_scaled (hr.mono (by decide)) (by rfl) (qa_cons (qe_call h_raw_poly_put (hr.mono (by decide)) (by rfl) (qa_cons (qe_var (pv 0)) (qa_cons (qe_var (pv 3)) qa_nil))) (qa_cons (qe_var (pv 1)) qa_nil))) (qa_cons (qe_call h_trimmed (hr.mono (by decide)) (by rfl) (qa_cons (qe_lst (qa_cons (qe_var (pv 2)) qa_nil)) qa_nil)) qa_nil))))))) p_raw_led
abbrev s_led_poly_by : Stmt := topS 34
abbrev N_led_poly_by : List Str := ["poly", "a", "b"]
theorem sc_led_poly_by : FnScope N_led_poly_by ["poly", "a", "b"] (defScope s_led_poly_by) := ⟨rfl, rfl, rfl, by decide +kernel, rfl, by decide +kernel, by decide +kernel⟩
theorem h_led_poly_by (D : DefAt K mg "led_poly_by" s_led_poly_by ["poly", "a", "b"]) (c_ZERO : Cst K mg "ZERO" d_ZERO) (h_need_far : Has P w K mg base "need_far" 5 S_need_far) (h_need_fraction : Has P w K mg base "need_fraction" 3 S_need_fraction) (h_raw_led : Has P w K mg base "raw_led" 6 S_raw_led) : Has P w K mg base "led_poly_by" 7 S_led_poly_by :=
  has_of (k := 6) (t := T_led_poly_by) D sc_led_poly_by l_led_poly_by (fun f cdv A outer s H E hr => (qs_cons (qs_drop (qe_call h_need_far (hr.mono (by decide)) (by rfl) (qa_cons (qe_var (pv 0)) qa_nil))) (qs_cons (qs_drop (qe_call h_need_fraction (hr.mono (by decide)) (by rfl) (qa_cons (qe_var (pv 1)) qa_nil))) (qs_cons (qs_drop (qe_call h_need_fraction (hr.mono (by decide)) (by rfl) (qa_cons (qe_var (pv 2)) qa_nil))) (qs_cons (qs_if (qt_eq hr.units (qe_var (pv 1)) (qe_cst c_ZERO (by rfl))) (qs_one qs_never) qs_nil) (qs_one (qs_ret (qe_call h_raw_led (hr.mono (by decide)) (by rfl) (qa_cons (qe_var (pv 0)) (qa_cons (qe_var (pv 1)) (qa_cons (qe_var (pv 2)) qa_nil))))))))))) p_led_poly_by
abbrev s_raw_centred : Stmt := topS 35
abbrev N_raw_centred : List Str := ["poly", "b"]
theorem sc_raw_centred : FnScope N_raw_centred ["poly"] (defScope s_raw_centred) := ⟨rfl, rfl, rfl, by decide +kernel, rfl, by decide +kernel, by decide +kernel⟩
theorem h_raw_centred (D : DefAt K mg "raw_centred" s_raw_centred ["poly"]) (c_ONE : Cst K mg "ONE" d_ONE) (z_len : mg "len" = none) (h_raw_led : Has P w K mg base "raw_led" 6 S_raw_led) (h_raw_product : Has P w K mg base "raw_product" 3 S_raw_product) (h_raw_quotient : Has P w K mg base "raw_quotient" 3 S_raw_quotient) : Has P w K mg base "raw_centred" 7 S_raw_centred :=
  has_of (k := 6) (t := T_raw_centred) D sc_raw_centred l_raw_centred (fun f cdv A outer s H E hr => (qs_cons (qs_asg (ps_set (i := 1) sc_raw_centred.nd rfl (by first | exact Or.inl rfl | exact Or.inr rfl) (qe_call h_raw_quotient (hr.mono (by decide)) (by rfl) (qa_cons (qe_ix (qe_var (pv 0)) (qe_neg qe_int)) (qa_cons (qe_call h_raw_product (hr.mono (by decide)) (by rfl) (qa_cons (qe_tup (qa_cons (qe_sub (q_len (by rfl) z_len (qe_var (pv 0))) qe_int) (qa_cons qe_int qa_nil))) (qa_cons (qe_ix (qe_var (pv 0)) (qe_neg qe_int)) qa_nil))) qa_nil))))) (qs_one (qs_ret (qe_tup (qa_cons (qe_call h_raw_led (hr.mono (by decide)) (by rfl) (qa_cons (qe_var (pv 0)) (qa_cons (qe_cst c_ONE (by rfl)) (qa_cons (qe_var (pv 1)) qa_nil)))) (qa_cons (qe_var (pv 1)) qa_nil))))))) p_raw_centred
abbrev s_centred : Stmt := topS 36
abbrev N_centred : List Str := ["poly"]
theorem sc_centred : FnScope N_centred ["poly"] (defScope s_centred) := ⟨rfl, rfl, rfl, by decide +kernel, rfl, by decide +kernel, by decide +kernel⟩
theorem h_centred (D : DefAt K mg "centred" s_centred ["poly"]) (h_need_far : Has P w K mg base "need_far" 5 S_need_far) (h_raw_centred : Has P w K mg base "raw_centred" 7 S_raw_centred) : Has P w K mg base "centred" 8 S_centred :=
  has_of (k := 7) (t := T_centred) D sc_centred l_centred (fun f cdv A outer s H E hr => (qs_cons (qs_drop (qe_call h_need_far (hr.mono (by decide)) (by rfl) (qa_cons (qe_var (pv 0)) qa_nil))) (qs_one (qs_ret (qe_call h_raw_centred (hr.mono (by decide)) (by rfl) (qa_cons (qe_var (pv 0)) qa_nil)))))) p_centred
abbrev s__law_hand : Stmt := topS 38
abbrev N__law_hand : List Str := ["script", "cells", "cell"]
theorem sc__law_hand : FnScope N__law_hand ["script"] (defScope s__law_hand) := ⟨rfl, rfl, rfl, by decide +kernel, rfl, by decide +kernel, by decide +kernel⟩
theorem h__law_hand (D : DefAt K mg "_law_hand" s__law_hand ["script"]) (z_abs : mg "abs" = none) (z_int : mg "int" = none) (z_len : mg "len" = none) : Has P w K mg base "_law_hand" 1 S__law_hand :=
  has_of (k := 0) (t := T__law_hand) D sc__law_hand l__law_hand (fun f cdv A outer s H E hr => (qs_cons (qs_setLc (i := 1) (own := [("cell", 2)]) rfl sc__law_hand.nd rfl rfl (sw_true rfl rfl rfl (by decide +kernel)) (qi_items (qe_sl (qe_var (pv 0)) qo_none (qo_some qe_int))) (blkOk_by (N := N__law_hand) (sc := defScope s__law_hand) (by decide +kernel)) (fun _ _ _ _ _ => (pg_name (i := 2) sc__law_hand.nd rfl (by first | exact Or.inl rfl | exact Or.inr rfl))) (fun _ _ _ _ _ => qts_nil) (fun _ _ _ _ _ => (qe_mod (q_int (by rfl) z_int (q_abs (by rfl) z_abs (q_int (by rfl) z_int (qe_var (pv 2))))) (qe_pow qe_int qe_int))) (glw_name (by decide))) (qs_one (qs_freeze 1 (qs_ret (qe_lst (qa_cons (qe_var (pv 1)) (qa_cons qe_int (qa_cons qe_int (qa_cons (qe_add qe_int (qe_mul qe_int (q_len (by rfl) z_len (qe_var (pv 1))))) (qa_cons qe_int qa_nil))))))))))) p__law_hand
abbrev s__law_draw : Stmt := topS 39
abbrev N__law_draw : List Str := ["hand", "many", "cell", "digit", "number"]
theorem sc__law_draw : FnScope N__law_draw ["hand", "many"] (defScope s__law_draw) := ⟨rfl, rfl, rfl, by decide +kernel, rfl, by decide +kernel, by decide +kernel⟩
theorem h__law_draw (D : DefAt K mg "_law_draw" s__law_draw ["hand", "many"]) (z_int : mg "int" = none) (z_len : mg "len" = none) : Has P w K mg base "_law_draw" 1 S__law_draw :=
  has_draw rfl rfl D sc__law_draw (fun f cdv A outer s H E hr => (pss_cons (ps_if (PW.pt (pw_and (pt_cmpR op_eq (pe_ix ix_list (pv 0) pe_int (by intro _ _; rfl)) pe_int (by first | exact nomark _ | rfl)) (pw_and1 (pt_cmpR op_lt (pe_ix ix_list (pv 0) pe_int (by intro _ _; rfl)) (pe_len1 (by rfl) z_len (pe_ix ix_list (pv 0) pe_int (by intro _ _; rfl))) (by first | exact nomark _ | rfl))))) (pss_cons (ps_set (i := 2) sc__law_draw.nd rfl (by first | exact Or.inl rfl | exact Or.inr rfl) (pe_ix ix_list (pe_ix ix_list (pv 0) pe_int (by intro _ _; rfl)) (pe_ix ix_list (pv 0) pe_int (by intro _ _; rfl)) (by intro _ _; rfl))) (pss_cons (ps_asg (pe_op op_add (pe_ix ix_list (pv 0) pe_int (by intro _ _; rfl)) pe_int) (pg_sub (pv 0) pe_int set_list)) (pss_cons (ps_asg (pe_op op_modN (pe_int1 (by rfl) z_int (pe_op op_add (pe_op op_add (pe_op op_mul (pe_ix ix_list (pv 0) pe_int (by intro _ _; rfl)) pe_int) (pv 2)) pe_int)) pe_int) (pg_sub (pv 0) pe_int set_list)) (pss_one (ps_if (pt_cmpR op_ge (pv 2) (pe_op op_pow pe_int pe_int) (by first | exact nomark _ | rfl)) (pss_one (ps_asg (pv 2) (pg_sub (pv 0) pe_int set_list))) pss_nil))))) pss_nil) (pss_cons (ps_if (pt_cmpR op_gt (pe_ix ix_list (pv 0) pe_int (by intro _ _; rfl)) pe_int (by first | exact nomark _ | rfl)) (pss_cons (ps_set (i := 3) sc__law_draw.nd rfl (by first | exact Or.inl rfl | exact Or.inr rfl) (pe_op op_modN (pe_int1 (by rfl) z_int (pe_ix ix_list (pv 0) pe_int (by intro _ _; rfl))) (pv 1))) (pss_cons (ps_asg (pe_op op_fdivP (pe_ix ix_list (pv 0) pe_int (by intro _ _; rfl)) (pv 1)) (pg_sub (pv 0) pe_int set_list)) (pss_one (ps_ret (pv 3))))) pss_nil) (pss_cons (ps_asg (pe_op op_add (pe_ix ix_list (pv 0) pe_int (by intro _ _; rfl)) pe_int) (pg_sub (pv 0) pe_int set_list)) (pss_cons (ps_set (i := 4) sc__law_draw.nd rfl (by first | exact Or.inl rfl | exact Or.inr rfl) (pe_op op_modN (pe_int1 (by rfl) z_int (pe_op op_mul (pe_int1 (by rfl) z_int (pe_op op_add (pe_ix ix_list (pv 0) pe_int (by intro _ _; rfl)) (pe_op op_mul pe_int (pe_ix ix_list (pv 0) pe_int (by intro _ _; rfl))))) pe_int)) pe_int)) (pss_cons (ps_set (i := 4) sc__law_draw.nd rfl (by first | exact Or.inl rfl | exact Or.inr rfl) (pe_op op_modN (pe_int1 (by rfl) z_int (pe_op op_mul (pv 4) (pe_op op_add (pe_op op_fdivP (pv 4) pe_int) pe_int))) pe_int)) (pss_cons (ps_set (i := 4) sc__law_draw.nd rfl (by first | exact Or.inl rfl | exact Or.inr rfl) (pe_op op_modN (pe_int1 (by rfl) z_int (pe_op op_mul (pv 4) (pe_op op_add (pe_op op_fdivP (pv 4) pe_int) pe_int))) pe_int)) (pss_one (ps_ret (pe_op op_modN (pe_int1 (by rfl) z_int (pe_op op_fdivP (pv 4) pe_int)) (pv 1)))))))))))
abbrev s__law_any : Stmt := topS 40
abbrev N__law_any : List Str := ["hand", "some"]
theorem sc__law_any : FnScope N__law_any ["hand", "some"] (defScope s__law_any) := ⟨rfl, rfl, rfl, by decide +kernel, rfl, by decide +kernel, by decide +kernel⟩
theorem h__law_any (D : DefAt K mg "_law_any" s__law_any ["hand", "some"]) (z_len : mg "len" = none) (h__law_draw : Has P w K mg base "_law_draw" 1 S__law_draw) : Has P w K mg base "_law_any" 2 S__law_any :=
  has_of (k := 1) (t := T__law_any) D sc__law_any l__law_any (fun f cdv A outer s H E hr => (qs_one (qs_ret (qe_ix (qe_var (pv 1)) (qe_call h__law_draw (hr.mono (by decide)) (by rfl) (qa_cons (qe_var (pv 0)) (qa_cons (q_len (by rfl) z_len (qe_var (pv 1))) qa_nil))))))) p__law_any
abbrev s__law_is : Stmt := topS 41
abbrev N__law_is : List Str := ["told", "due"]
theorem sc__law_is : FnScope N__law_is ["told", "due"] (defScope s__law_is) := ⟨rfl, rfl, rfl, by decide +kernel, rfl, by decide +kernel, by decide +kernel⟩
theorem h__law_is (D : DefAt K mg "_law_is" s__law_is ["told", "due"]) (z_repr : mg "repr" = none) : HasG P w K mg base "_law_is" 1 S__law_is :=
  hasG_of (k := 0) (t := T__law_is) D sc__law_is l__law_is (fun f cdv A outer s H E hr => (qs_one (qs_ret (qe_eqS (q_repr hr (by rfl) z_repr (qe_var (pv 0))) (q_repr hr (by rfl) z_repr (qe_var (pv 1))))))) p__law_is
abbrev s__law_part : Stmt := topS 42
abbrev N__law_part : List Str := ["top", "bottom", "one", "other"]
theorem sc__law_part : FnScope N__law_part ["top", "bottom"] (defScope s__law_part) := ⟨rfl, rfl, rfl, by decide +kernel, rfl, by decide +kernel, by decide +kernel⟩
theorem h__law_part (D : DefAt K mg "_law_part" s__law_part ["top", "bottom"]) (z_abs : mg "abs" = none) (z_int : mg "int" = none) : Has P w K mg base "_law_part" 1 S__law_part :=
  has_of (k := 0) (t := T__law_part) D sc__law_part l__law_part (fun f cdv A outer s H E hr => (qs_cons (qs_par (ps_par rfl sc__law_part.nd rfl rfl (by decide) rfl rfl (pa_cons (q_abs (by rfl) z_abs (qe_var (pv 0))) (pa_cons (q_abs (by rfl) z_abs (qe_var (pv 1))) pa_nil)) (by rfl))) (qs_cons (qs_while PassesOwn.never (qt_gt (qe_var (pv 3)) qe_int) (qs_one (qs_par (ps_par rfl sc__law_part.nd rfl rfl (by decide) rfl rfl (pa_cons (qe_var (pv 3)) (pa_cons (qe_mod (q_int (by rfl) z_int (qe_var (pv 2))) (qe_var (pv 3))) pa_nil)) (by rfl))))) (qs_cons (qs_asg (ps_set (i := 2) sc__law_part.nd rfl (by first | exact Or.inl rfl | exact Or.inr rfl) (qe_if (qt_gt (qe_var (pv 1)) qe_int) (qe_var (pv 2)) (qe_sub qe_int (qe_var (pv 2)))))) (qs_one (qs_ret (qe_tup (qa_cons (qe_fdiv (qe_var (pv 0)) (qe_var (pv 2))) (qa_cons (qe_fdiv (qe_var (pv 1)) (qe_var (pv 2))) qa_nil))))))))) p__law_part
abbrev s__law_add : Stmt := topS 43
abbrev N__law_add : List Str := ["one", "other"]
theorem sc__law_add : FnScope N__law_add ["one", "other"] (defScope s__law_add) := ⟨rfl, rfl, rfl, by decide +kernel, rfl, by decide +kernel, by decide +kernel⟩
theorem h__law_add (D : DefAt K mg "_law_add" s__law_add ["one", "other"]) (h__law_part : Has P w K mg base "_law_part" 1 S__law_part) : Has P w K mg base "_law_add" 2 S__law_add :=
  has_of (k := 1) (t := T__law_add) D sc__law_add l__law_add (fun f cdv A outer s H E hr => (qs_one (qs_ret (qe_call h__law_part (hr.mono (by decide)) (by rfl) (qa_cons (qe_add (qe_mul (qe_ix (qe_var (pv 0)) qe_int) (qe_ix (qe_var (pv 1)) qe_int)) (qe_mul (qe_ix (qe_var (pv 1)) qe_int) (qe_ix (qe_var (pv 0)) qe_int))) (qa_cons (qe_mul (qe_ix (qe_var (pv 0)) qe_int) (qe_ix (qe_var (pv 1)) qe_int)) qa_nil)))))) p__law_add
abbrev s__law_less : Stmt := topS 44
abbrev N__law_less : List Str := ["one", "other"]
theorem sc__law_less : FnScope N__law_less ["one", "other"] (defScope s__law_less) := ⟨rfl, rfl, rfl, by decide +kernel, rfl, by decide +kernel, by decide +kernel⟩
theorem h__law_less (D : DefAt K mg "_law_less" s__law_less ["one", "other"]) (h__law_part : Has P w K mg base "_law_part" 1 S__law_part) : Has P w K mg base "_law_less" 2 S__law_less :=
  has_of (k := 1) (t := T__law_less) D sc__law_less l__law_less (fun f cdv A outer s H E hr => (qs_one (qs_ret (qe_call h__law_part (hr.mono (by decide)) (by rfl) (qa_cons (qe_sub (qe_mul (qe_ix (qe_var (pv 0)) qe_int) (qe_ix (qe_var (pv 1)) qe_int)) (qe_mul (qe_ix (qe_var (pv 1)) qe_int) (qe_ix (qe_var (pv 0)) qe_int))) (qa_cons (qe_mul (qe_ix (qe_var (pv 0)) qe_int) (qe_ix (qe_var (pv 1)) qe_int)) qa_nil)))))) p__law_less
abbrev s__law_mul : Stmt := topS 45
abbrev N__law_mul : List Str := ["one", "other"]
theorem sc__law_mul : FnScope N__law_mul ["one", "other"] (defScope s__law_mul) := ⟨rfl, rfl, rfl, by decide +kernel, rfl, by decide +kernel, by decide +kernel⟩
theorem h__law_mul (D : DefAt K mg "_law_mul" s__law_mul ["one", "other"]) (h__law_part : Has P w K mg base "_law_part" 1 S__law_part) : Has P w K mg base "_law_mul" 2 S__law_mul :=
  has_of (k := 1) (t := T__law_mul) D sc__law_mul l__law_mul (fun f cdv A outer s H E hr => (qs_one (qs_ret (qe_call h__law_part (hr.mono (by decide)) (by rfl) (qa_cons (qe_mul (qe_ix (qe_var (pv 0)) qe_int) (qe_ix (qe_var (pv 1)) qe_int)) (qa_cons (qe_mul (qe_ix (qe_var (pv 0)) qe_int) (qe_ix (qe_var (pv 1)) qe_int)) qa_nil)))))) p__law_mul
abbrev s__law_by : Stmt := topS 46
abbrev N__law_by : List Str := ["one", "other"]
theorem sc__law_by : FnScope N__law_by ["one", "other"] (defScope s__law_by) := ⟨rfl, rfl, rfl, by decide +kernel, rfl, by decide +kernel, by decide +kernel⟩
theorem h__law_by (D : DefAt K mg "_law_by" s__law_by ["one", "other"]) (h__law_part : Has P w K mg base "_law_part" 1 S__law_part) : Has P w K mg base "_law_by" 2 S__law_by :=
  has_of (k := 1) (t := T__law_by) D sc__law_by l__law_by (fun f cdv A outer s H E hr => (qs_one (qs_ret (qe_call h__law_part (hr.mono (by decide)) (by rfl) (qa_cons (qe_mul (qe_ix (qe_var (pv 0)) qe_int) (qe_ix (qe_var (pv 1)) qe_int)) (qa_cons (qe_mul (qe_ix (qe_var (pv 0)) qe_int) (qe_ix (qe_var (pv 1)) qe_int)) qa_nil)))))) p__law_by
abbrev s__law_poly : Stmt := topS 47
abbrev N__law_poly : List Str := ["numbers", "many", "at", "one"]
theorem sc__law_poly : FnScope N__law_poly ["numbers"] (defScope s__law_poly) := ⟨rfl, rfl, rfl, by decide +kernel, rfl, by decide +kernel, by decide +kernel⟩
theorem h__law_poly (D : DefAt K mg "_law_poly" s__law_poly ["numbers"]) (z_enumerate : mg "enumerate" = none) (z_max : mg "max" = none) (z_tuple : mg "tuple" = none) : Has P w K mg base "_law_poly" 1 S__law_poly :=
  has_of (k := 0) (t := T__law_poly) D sc__law_poly l__law_poly (fun f cdv A outer s H E hr => (qs_cons (qs_asg (ps_set (i := 1) sc__law_poly.nd rfl (by first | exact Or.inl rfl | exact Or.inr rfl) (q_maxL (by rfl) z_max (qe_add (qe_lst (qa_cons qe_int qa_nil)) (qe_lc (own := [("at", 2), ("one", 3)]) rfl sc__law_poly.nd (qi_enum (by rfl) z_enumerate (qe_var (pv 0))) (blkOk_by (N := N__law_poly) (sc := defScope s__law_poly) (by decide +kernel)) (fun _ _ _ _ _ => (pg_tup rfl (pgs_cons (pg_name (i := 2) sc__law_poly.nd rfl (by first | exact Or.inl rfl | exact Or.inr rfl)) (pgs_cons (pg_name (i := 3) sc__law_poly.nd rfl (by first | exact Or.inl rfl | exact Or.inr rfl)) pgs_nil)))) (fun _ _ _ _ _ => (qts_one (qt_ne hr.units (qe_ix (qe_var (pv 3)) qe_int) qe_int))) (fun _ _ _ _ _ => (qe_add (qe_var (pv 2)) qe_int)) (glw_tup (glws_cons (glw_name (by decide)) (glws_cons (glw_name (by decide)) glws_nil)))))))) (qs_one (qs_ret (q_tuple (by rfl) z_tuple (qe_sl (qe_var (pv 0)) qo_none (qo_some (qe_var (pv 1))))))))) p__law_poly
abbrev s__law_sum : Stmt := topS 48
abbrev N__law_sum : List Str := ["one", "other", "many", "more", "here", "there"]
theorem sc__law_sum : FnScope N__law_sum ["one", "other"] (defScope s__law_sum) := ⟨rfl, rfl, rfl, by decide +kernel, rfl, by decide +kernel, by decide +kernel⟩
theorem h__law_sum (D : DefAt K mg "_law_sum" s__law_sum ["one", "other"]) (z_len : mg "len" = none) (z_list : mg "list" = none) (z_max : mg "max" = none) (z_zip : mg "zip" = none) (h__law_add : Has P w K mg base "_law_add" 2 S__law_add) (h__law_poly : Has P w K mg base "_law_poly" 1 S__law_poly) : Has P w K mg base "_law_sum" 3 S__law_sum :=
  has_of (k := 2) (t := T__law_sum) D sc__law_sum l__law_sum (fun f cdv A outer s H E hr => (qs_cons (qs_asg (ps_set (i := 2) sc__law_sum.nd rfl (by first | exact Or.inl rfl | exact Or.inr rfl) (q_max2 rfl (by rfl) z_max (q_len (by rfl) z_len (qe_var (pv 0))) (q_len (by rfl) z_len (qe_var (pv 1)))))) (qs_cons (qs_asg (ps_set (i := 3) sc__law_sum.nd rfl (by first | exact Or.inl rfl | exact Or.inr rfl) (qe_mul (qe_lst (qa_cons (qe_tup (qa_cons qe_int (qa_cons qe_int qa_nil))) qa_nil)) (qe_var (pv 2))))) (qs_one (qs_ret (qe_call h__law_poly (hr.mono (by decide)) (by rfl) (qa_cons (qe_lc (own := [("here", 4), ("there", 5)]) rfl sc__law_sum.nd (qi_zip (by rfl) z_zip (qe_sl (qe_add (q_list (by rfl) z_list (qe_var (pv 0))) (qe_var (pv 3))) qo_none (qo_some (qe_var (pv 2)))) (qe_sl (qe_add (q_list (by rfl) z_list (qe_var (pv 1))) (qe_var (pv 3))) qo_none (qo_some (qe_var (pv 2))))) (blkOk_by (N := N__law_sum) (sc := defScope s__law_sum) (by decide +kernel)) (fun _ _ _ _ _ => (pg_tup rfl (pgs_cons (pg_name (i := 4) sc__law_sum.nd rfl (by first | exact Or.inl rfl | exact Or.inr rfl)) (pgs_cons (pg_name (i := 5) sc__law_sum.nd rfl (by first | exact Or.inl rfl | exact Or.inr rfl)) pgs_nil)))) (fun _ _ _ _ _ => qts_nil) (fun _ _ _ _ _ => (qe_call h__law_add (hr.mono (by decide)) (by rfl) (qa_cons (qe_var (pv 4)) (qa_cons (qe_var (pv 5)) qa_nil)))) (glw_tup (glws_cons (glw_name (by decide)) (glws_cons (glw_name (by decide)) glws_nil)))) qa_nil))))))) p__law_sum
abbrev s__law_product : Stmt := topS 49
abbrev N__law_product : List Str := ["one", "other", "found", "at", "left", "place", "right"]
theorem sc__law_product : FnScope N__law_product ["one", "other"] (defScope s__law_product) := ⟨rfl, rfl, rfl, by decide +kernel, rfl, by decide +kernel, by decide +kernel⟩
theorem h__law_product (D : DefAt K mg "_law_product" s__law_product ["one", "other"]) (z_enumerate : mg "enumerate" = none) (z_len : mg "len" = none) (z_max : mg "max" = none) (h__law_add : Has P w K mg base "_law_add" 2 S__law_add) (h__law_mul : Has P w K mg base "_law_mul" 2 S__law_mul) (h__law_poly : Has P w K mg base "_law_poly" 1 S__law_poly) : Has P w K mg base "_law_product" 3 S__law_product :=
  has_of (k := 2) (t := T__law_product) D sc__law_product l__law_product (fun f cdv A outer s H E hr => (qs_cons (qs_asg (ps_set (i := 2) sc__law_product.nd rfl (by first | exact Or.inl rfl | exact Or.inr rfl) (qe_mul (qe_lst (qa_cons (qe_tup (qa_cons qe_int (qa_cons qe_int qa_nil))) qa_nil)) (q_max2 rfl (by rfl) z_max qe_int (qe_sub (qe_add (q_len (by rfl) z_len (qe_var (pv 0))) (q_len (by rfl) z_len (qe_var (pv 1)))) qe_int))))) (qs_cons (qs_for PassesOwn.never rfl (qi_enum (by rfl) z_enumerate (qe_var (pv 0))) (pg_tup rfl (pgs_cons (pg_name (i := 3) sc__law_product.nd rfl (by first | exact Or.inl rfl | exact Or.inr rfl)) (pgs_cons (pg_name (i := 4) sc__law_product.nd rfl (by first | exact Or.inl rfl | exact Or.inr rfl)) pgs_nil))) (gl_tup (gls_cons (gl_name 3) (gls_cons (gl_name 4) gls_nil))) (qs_one (qs_for PassesOwn.never rfl (qi_enum (by rfl) z_enumerate (qe_var (pv 1))) (pg_tup rfl (pgs_cons (pg_name (i := 5) sc__law_product.nd rfl (by first | exact Or.inl rfl | exact Or.inr rfl)) (pgs_cons (pg_name (i := 6) sc__law_product.nd rfl (by first | exact Or.inl rfl | exact Or.inr rfl)) pgs_nil))) (gl_tup (gls_cons (gl_name 5) (gls_cons (gl_name 6) gls_nil))) (qs_one (qs_setIx (ps_asg (qe_call h__law_add (hr.mono (by decide)) (by rfl) (qa_cons (qe_ix (qe_var (pv 2)) (qe_add (qe_var (pv 3)) (qe_var (pv 5)))) (qa_cons (qe_call h__law_mul (hr.mono (by decide)) (by rfl) (qa_cons (qe_var (pv 4)) (qa_cons (qe_var (pv 6)) qa_nil))) qa_nil))) (pg_sub (pv 2) (qe_add (qe_var (pv 3)) (qe_var (pv 5))) set_list))))))) (qs_one (qs_ret (qe_call h__law_poly (hr.mono (by decide)) (by rfl) (qa_cons (qe_var (pv 2)) qa_nil))))))) p__law_product
abbrev s__law_few : Stmt := topS 50
abbrev N__law_few : List Str := ["hand"]
theorem sc__law_few : FnScope N__law_few ["hand"] (defScope s__law_few) := ⟨rfl, rfl, rfl, by decide +kernel, rfl, by decide +kernel, by decide +kernel⟩
theorem h__law_few (D : DefAt K mg "_law_few" s__law_few ["hand"]) (h__law_any : Has P w K mg base "_law_any" 2 S__law_any) (h__law_draw : Has P w K mg base "_law_draw" 1 S__law_draw) (h__law_part : Has P w K mg base "_law_part" 1 S__law_part) : Has P w K mg base "_law_few" 3 S__law_few :=
  has_of (k := 2) (t := T__law_few) D sc__law_few l__law_few (fun f cdv A outer s H E hr => (qs_one (qs_ret (qe_call h__law_part (hr.mono (by decide)) (by rfl) (qa_cons (qe_sub (qe_call h__law_draw (hr.mono (by decide)) (by rfl) (qa_cons (qe_var (pv 0)) (qa_cons qe_int qa_nil))) qe_int) (qa_cons (qe_call h__law_any (hr.mono (by decide)) (by rfl) (qa_cons (qe_var (pv 0)) (qa_cons (qe_lst (qa_cons qe_int (qa_cons qe_int (qa_cons qe_int (qa_cons qe_int (qa_cons qe_int qa_nil)))))) qa_nil))) qa_nil)))))) p__law_few
abbrev s__law_some_few : Stmt := topS 51
abbrev N__law_some_few : List Str := ["hand", "found"]
theorem sc__law_some_few : FnScope N__law_some_few ["hand"] (defScope s__law_some_few) := ⟨rfl, rfl, rfl, by decide +kernel, rfl, by decide +kernel, by decide +kernel⟩
theorem h__law_some_few (D : DefAt K mg "_law_some_few" s__law_some_few ["hand"]) (h__law_any : Has P w K mg base "_law_any" 2 S__law_any) (h__law_few : Has P w K mg base "_law_few" 3 S__law_few) : Has P w K mg base "_law_some_few" 4 S__law_some_few :=
  has_of (k := 3) (t := T__law_some_few) D sc__law_some_few l__law_some_few (fun f cdv A outer s H E hr => (qs_cons (qs_asg (ps_set (i := 1) sc__law_some_few.nd rfl (by first | exact Or.inl rfl | exact Or.inr rfl) (qe_call h__law_few (hr.mono (by decide)) (by rfl) (qa_cons (qe_var (pv 0)) qa_nil)))) (qs_one (qs_ret (qe_if (qt_ne hr.units (qe_ix (qe_var (pv 1)) qe_int) qe_int) (qe_var (pv 1)) (qe_call h__law_any (hr.mono (by decide)) (by rfl) (qa_cons (qe_var (pv 0)) (qa_cons (qe_lst (qa_cons (qe_tup (qa_cons qe_int (qa_cons qe_int qa_nil))) (qa_cons (qe_tup (qa_cons (qe_neg qe_int) (qa_cons qe_int qa_nil))) (qa_cons (qe_tup (qa_cons qe_int (qa_cons qe_int qa_nil))) (qa_cons (qe_tup (qa_cons qe_int (qa_cons qe_int qa_nil))) (qa_cons (qe_tup (qa_cons (qe_neg qe_int) (qa_cons qe_int qa_nil))) qa_nil)))))) qa_nil)))))))) p__law_some_few
abbrev s__law_far : Stmt := topS 52
abbrev N__law_far : List Str := ["hand", "most", "many", "at"]
theorem sc__law_far : FnScope N__law_far ["hand", "most"] (defScope s__law_far) := ⟨rfl, rfl, rfl, by decide +kernel, rfl, by decide +kernel, by decide +kernel⟩
theorem h__law_far (D : DefAt K mg "_law_far" s__law_far ["hand", "most"]) (z_range : mg "range" = none) (z_tuple : mg "tuple" = none) (h__law_any : Has P w K mg base "_law_any" 2 S__law_any) (h__law_draw : Has P w K mg base "_law_draw" 1 S__law_draw) (h__law_few : Has P w K mg base "_law_few" 3 S__law_few) (h__law_some_few : Has P w K mg base "_law_some_few" 4 S__law_some_few) : Has P w K mg base "_law_far" 5 S__law_far :=
  has_of (k := 4) (t := T__law_far) D sc__law_far l__law_far (fun f cdv A outer s H E hr => (qs_cons (qs_asg (ps_set (i := 2) sc__law_far.nd rfl (by first | exact Or.inl rfl | exact Or.inr rfl) (qe_add qe_int (qe_call h__law_draw (hr.mono (by decide)) (by rfl) (qa_cons (qe_var (pv 0)) (qa_cons (qe_sub (qe_var (pv 1)) qe_int) qa_nil)))))) (qs_one (qs_ret (q_tuple (by rfl) z_tuple (qe_add (qe_lc (own := [("at", 3)]) rfl sc__law_far.nd (qi_rng1 (by rfl) z_range (qe_var (pv 2))) (blkOk_by (N := N__law_far) (sc := defScope s__law_far) (by decide +kernel)) (fun _ _ _ _ _ => (pg_name (i := 3) sc__law_far.nd rfl (by first | exact Or.inl rfl | exact Or.inr rfl))) (fun _ _ _ _ _ => qts_nil) (fun _ _ _ _ _ => (qe_call h__law_any (hr.mono (by decide)) (by rfl) (qa_cons (qe_var (pv 0)) (qa_cons (qe_lst (qa_cons (qe_tup (qa_cons qe_int (qa_cons qe_int qa_nil))) (qa_cons (qe_call h__law_few (hr.mono (by decide)) (by rfl) (qa_cons (qe_var (pv 0)) qa_nil)) (qa_cons (qe_call h__law_few (hr.mono (by decide)) (by rfl) (qa_cons (qe_var (pv 0)) qa_nil)) qa_nil)))) qa_nil)))) (glw_name (by decide))) (qe_lst (qa_cons (qe_call h__law_some_few (hr.mono (by decide)) (by rfl) (qa_cons (qe_var (pv 0)) qa_nil)) qa_nil)))))))) p__law_far
abbrev s__law_behind : Stmt := topS 53
abbrev N__law_behind : List Str := ["one", "other", "found", "number"]
theorem sc__law_behind : FnScope N__law_behind ["one", "other"] (defScope s__law_behind) := ⟨rfl, rfl, rfl, by decide +kernel, rfl, by decide +kernel, by decide +kernel⟩
theorem h__law_behind (D : DefAt K mg "_law_behind" s__law_behind ["one", "other"]) (h__law_poly : Has P w K mg base "_law_poly" 1 S__law_poly) (h__law_product : Has P w K mg base "_law_product" 3 S__law_product) (h__law_sum : Has P w K mg base "_law_sum" 3 S__law_sum) : Has P w K mg base "_law_behind" 4 S__law_behind :=
  has_of (k := 3) (t := T__law_behind) D sc__law_behind l__law_behind (fun f cdv A outer s H E hr => (qs_cons (qs_asg (ps_set (i := 2) sc__law_behind.nd rfl (by first | exact Or.inl rfl | exact Or.inr rfl) (qe_tup qa_nil))) (qs_cons (qs_for PassesOwn.never rfl (qi_items (qe_rev (qe_var (pv 0)))) (pg_name (i := 3) sc__law_behind.nd rfl (by first | exact Or.inl rfl | exact Or.inr rfl)) (gl_name 3) (qs_one (qs_asg (ps_set (i := 2) sc__law_behind.nd rfl (by first | exact Or.inl rfl | exact Or.inr rfl) (qe_call h__law_sum (hr.mono (by decide)) (by rfl) (qa_cons (qe_call h__law_product (hr.mono (by decide)) (by rfl) (qa_cons (qe_var (pv 2)) (qa_cons (qe_var (pv 1)) qa_nil))) (qa_cons (qe_call h__law_poly (hr.mono (by decide)) (by rfl) (qa_cons (qe_lst (qa_cons (qe_var (pv 3)) qa_nil)) qa_nil)) qa_nil))))))) (qs_one (qs_retV (pv 2)))))) p__law_behind
abbrev s__law_led_by : Stmt := topS 54
abbrev N__law_led_by : List Str := ["poly", "a", "b", "back"]
theorem sc__law_led_by : FnScope N__law_led_by ["poly", "a", "b"] (defScope s__law_led_by) := ⟨rfl, rfl, rfl, by decide +kernel, rfl, by decide +kernel, by decide +kernel⟩
theorem h__law_led_by (D : DefAt K mg "_law_led_by" s__law_led_by ["poly", "a", "b"]) (h__law_behind : Has P w K mg base "_law_behind" 4 S__law_behind) (h__law_by : Has P w K mg base "_law_by" 2 S__law_by) (h__law_less : Has P w K mg base "_law_less" 2 S__law_less) (h__law_poly : Has P w K mg base "_law_poly" 1 S__law_poly) (h__law_product : Has P w K mg base "_law_product" 3 S__law_product) (h__law_sum : Has P w K mg base "_law_sum" 3 S__law_sum) : Has P w K mg base "_law_led_by" 5 S__law_led_by :=
  has_of (k := 4) (t := T__law_led_by) D sc__law_led_by l__law_led_by (fun f cdv A outer s H E hr => (qs_cons (qs_asg (ps_set (i := 3) sc__law_led_by.nd rfl (by first | exact Or.inl rfl | exact Or.inr rfl) (qe_tup (qa_cons (qe_call h__law_by (hr.mono (by decide)) (by rfl) (qa_cons (qe_call h__law_less (hr.mono (by decide)) (by rfl) (qa_cons (qe_tup (qa_cons qe_int (qa_cons qe_int qa_nil))) (qa_cons (qe_var (pv 2)) qa_nil))) (qa_cons (qe_var (pv 1)) qa_nil))) (qa_cons (qe_call h__law_by (hr.mono (by decide)) (by rfl) (qa_cons (qe_tup (qa_cons qe_int (qa_cons qe_int qa_nil))) (qa_cons (qe_var (pv 1)) qa_nil))) qa_nil))))) (qs_one (qs_ret (qe_call h__law_sum (hr.mono (by decide)) (by rfl) (qa_cons (qe_call h__law_product (hr.mono (by decide)) (by rfl) (qa_cons (qe_tup (qa_cons (qe_var (pv 1)) qa_nil)) (qa_cons (qe_call h__law_behind (hr.mono (by decide)) (by rfl) (qa_cons (qe_var (pv 0)) (qa_cons (qe_call h__law_poly (hr.mono (by decide)) (by rfl) (qa_cons (qe_var (pv 3)) qa_nil)) qa_nil))) qa_nil))) (qa_cons (qe_call h__law_poly (hr.mono (by decide)) (by rfl) (qa_cons (qe_lst (qa_cons (qe_var (pv 2)) qa_nil)) qa_nil)) qa_nil))))))) p__law_led_by
abbrev s__law_centred : Stmt := topS 55
abbrev N__law_centred : List Str := ["poly", "b"]
theorem sc__law_centred : FnScope N__law_centred ["poly"] (defScope s__law_centred) := ⟨rfl, rfl, rfl, by decide +kernel, rfl, by decide +kernel, by decide +kernel⟩
theorem h__law_centred (D : DefAt K mg "_law_centred" s__law_centred ["poly"]) (z_len : mg "len" = none) (h__law_by : Has P w K mg base "_law_by" 2 S__law_by) (h__law_led_by : Has P w K mg base "_law_led_by" 5 S__law_led_by) (h__law_mul : Has P w K mg base "_law_mul" 2 S__law_mul) : Has P w K mg base "_law_centred" 6 S__law_centred :=
  has_of (k := 5) (t := T__law_centred) D sc__law_centred l__law_centred (fun f cdv A outer s H E hr => (qs_cons (qs_asg (ps_set (i := 1) sc__law_centred.nd rfl (by first | exact Or.inl rfl | exact Or.inr rfl) (qe_call h__law_by (hr.mono (by decide)) (by rfl) (qa_cons (qe_ix (qe_var (pv 0)) (qe_neg qe_int)) (qa_cons (qe_call h__law_mul (hr.mono (by decide)) (by rfl) (qa_cons (qe_tup (qa_cons (qe_sub (q_len (by rfl) z_len (qe_var (pv 0))) qe_int) (qa_cons qe_int qa_nil))) (qa_cons (qe_ix (qe_var (pv 0)) (qe_neg qe_int)) qa_nil))) qa_nil))))) (qs_one (qs_ret (qe_tup (qa_cons (qe_call h__law_led_by (hr.mono (by decide)) (by rfl) (qa_cons (qe_var (pv 0)) (qa_cons (qe_tup (qa_cons qe_int (qa_cons qe_int qa_nil))) (qa_cons (qe_var (pv 1)) qa_nil)))) (qa_cons (qe_var (pv 1)) qa_nil))))))) p__law_centred
abbrev s__law_is_led_right : Stmt := topS 56
abbrev N__law_is_led_right : List Str := ["hand", "poly", "a", "b", "c", "d", "due", "both", "twice", "home"]
theorem sc__law_is_led_right : FnScope N__law_is_led_right ["hand", "poly"] (defScope s__law_is_led_right) := ⟨rfl, rfl, rfl, by decide +kernel, rfl, by decide +kernel, by decide +kernel⟩
theorem h__law_is_led_right (D : DefAt K mg "_law_is_led_right" s__law_is_led_right ["hand", "poly"]) (h__law_add : Has P w K mg base "_law_add" 2 S__law_add) (h__law_behind : Has P w K mg base "_law_behind" 4 S__law_behind) (h__law_by : Has P w K mg base "_law_by" 2 S__law_by) (h__law_few : Has P w K mg base "_law_few" 3 S__law_few) (h__law_is : HasG P w K mg base "_law_is" 1 S__law_is) (h__law_led_by : Has P w K mg base "_law_led_by" 5 S__law_led_by) (h__law_less : Has P w K mg base "_law_less" 2 S__law_less) (h__law_mul : Has P w K mg base "_law_mul" 2 S__law_mul) (h__law_poly : Has P w K mg base "_law_poly" 1 S__law_poly) (h__law_product : Has P w K mg base "_law_product" 3 S__law_product) (h__law_some_few : Has P w K mg base "_law_some_few" 4 S__law_some_few) (h__law_sum : Has P w K mg base "_law_sum" 3 S__law_sum) (h_led_poly_by : Has P w K mg base "led_poly_by" 7 S_led_poly_by) : HasG P w K mg base "_law_is_led_right" 8 S__law_is_led_right :=
  hasG_of (k := 7) (t := T__law_is_led_right) D sc__law_is_led_right l__law_is_led_right (fun f cdv A outer s H E hr => (qs_cons (qs_asgT (gl_tup (gls_cons (gl_name 2) (gls_cons (gl_name 3) (gls_cons (gl_name 4) (gls_cons (gl_name 5) gls_nil))))) (ps_asg (qe_tup (qa_cons (qe_call h__law_some_few (hr.2.mono (by decide)) (by rfl) (qa_cons (qe_var (pv 0)) qa_nil)) (qa_cons (qe_call h__law_few (hr.2.mono (by decide)) (by rfl) (qa_cons (qe_var (pv 0)) qa_nil)) (qa_cons (qe_call h__law_some_few (hr.2.mono (by decide)) (by rfl) (qa_cons (qe_var (pv 0)) qa_nil)) (qa_cons (qe_call h__law_few (hr.2.mono (by decide)) (by rfl) (qa_cons (qe_var (pv 0)) qa_nil)) qa_nil))))) (pg_tup rfl (pgs_cons (pg_name (i := 2) sc__law_is_led_right.nd rfl (by first | exact Or.inl rfl | exact Or.inr rfl)) (pgs_cons (pg_name (i := 3) sc__law_is_led_right.nd rfl (by first | exact Or.inl rfl | exact Or.inr rfl)) (pgs_cons (pg_name (i := 4) sc__law_is_led_right.nd rfl (by first | exact Or.inl rfl | exact Or.inr rfl)) (pgs_cons (pg_name (i := 5) sc__law_is_led_right.nd rfl (by first | exact Or.inl rfl | exact Or.inr rfl)) pgs_nil))))))) (qs_cons (qs_asg (ps_set (i := 6) sc__law_is_led_right.nd rfl (by first | exact Or.inl rfl | exact Or.inr rfl) (qe_call h__law_led_by (hr.2.mono (by decide)) (by rfl) (qa_cons (qe_var (pv 1)) (qa_cons (qe_var (pv 2)) (qa_cons (qe_var (pv 3)) qa_nil)))))) (qs_cons (qs_if (qt_not (qt_truth (qe_callG hr h__law_is (by decide) (by rfl) (qa_cons (qe_call h_led_poly_by (hr.2.mono (by decide)) (by rfl) (qa_cons (qe_var (pv 1)) (qa_cons (qe_var (pv 2)) (qa_cons (qe_var (pv 3)) qa_nil)))) (qa_cons (qe_var (pv 6)) qa_nil))))) (qs_one (qs_ret qe_bl)) qs_nil) (qs_cons (qs_asg (ps_set (i := 7) sc__law_is_led_right.nd rfl (by first | exact Or.inl rfl | exact Or.inr rfl) (qe_call h__law_sum (hr.2.mono (by decide)) (by rfl) (qa_cons (qe_call h__law_product (hr.2.mono (by decide)) (by rfl) (qa_cons (qe_tup (qa_cons (qe_var (pv 2)) qa_nil)) (qa_cons (qe_var (pv 1)) qa_nil))) (qa_cons (qe_call h__law_poly (hr.2.mono (by decide)) (by rfl) (qa_cons (qe_lst (qa_cons (qe_var (pv 3)) qa_nil)) qa_nil)) qa_nil))))) (qs_cons (qs_if (qt_ne hr.2.units (qe_call h__law_behind (hr.2.mono (by decide)) (by rfl) (qa_cons (qe_var (pv 6)) (qa_cons (qe_call h__law_poly (hr.2.mono (by decide)) (by rfl) (qa_cons (qe_lst (qa_cons (qe_var (pv 3)) (qa_cons (qe_var (pv 2)) qa_nil))) qa_nil)) qa_nil))) (qe_var (pv 7))) (qs_one (qs_ret qe_bl)) qs_nil) (qs_cons (qs_asg (ps_set (i := 8) sc__law_is_led_right.nd rfl (by first | exact Or.inl rfl | exact Or.inr rfl) (qe_call h_led_poly_by (hr.2.mono (by decide)) (by rfl) (qa_cons (qe_var (pv 6)) (qa_cons (qe_var (pv 4)) (qa_cons (qe_var (pv 5)) qa_nil)))))) (qs_cons (qs_if (qt_not (qt_truth (qe_callG hr h__law_is (by decide) (by rfl) (qa_cons (qe_var (pv 8)) (qa_cons (qe_call h_led_poly_by (hr.2.mono (by decide)) (by rfl) (qa_cons (qe_var (pv 1)) (qa_cons (qe_call h__law_mul (hr.2.mono (by decide)) (by rfl) (qa_cons (qe_var (pv 4)) (qa_cons (qe_var (pv 2)) qa_nil))) (qa_cons (qe_call h__law_add (hr.2.mono (by decide)) (by rfl) (qa_cons (qe_call h__law_mul (hr.2.mono (by decide)) (by rfl) (qa_cons (qe_var (pv 4)) (qa_cons (qe_var (pv 3)) qa_nil))) (qa_cons (qe_var (pv 5)) qa_nil))) qa_nil)))) qa_nil))))) (qs_one (qs_ret qe_bl)) qs_nil) (qs_cons (qs_asg (ps_set (i := 9) sc__law_is_led_right.nd rfl (by first | exact Or.inl rfl | exact Or.inr rfl) (qe_call h_led_poly_by (hr.2.mono (by decide)) (by rfl) (qa_cons (qe_var (pv 6)) (qa_cons (qe_call h__law_by (hr.2.mono (by decide)) (by rfl) (qa_cons (qe_tup (qa_cons qe_int (qa_cons qe_int qa_nil))) (qa_cons (qe_var (pv 2)) qa_nil))) (qa_cons (qe_call h__law_by (hr.2.mono (by decide)) (by rfl) (qa_cons (qe_call h__law_less (hr.2.mono (by decide)) (by rfl) (qa_cons (qe_tup (qa_cons qe_int (qa_cons qe_int qa_nil))) (qa_cons (qe_var (pv 3)) qa_nil))) (qa_cons (qe_var (pv 2)) qa_nil))) qa_nil)))))) (qs_one (qs_ret (qe_callG hr h__law_is (by decide) (by rfl) (qa_cons (qe_lst (qa_cons (qe_var (pv 9)) (qa_cons (qe_call h_led_poly_by (hr.2.mono (by decide)) (by rfl) (qa_cons (qe_var (pv 1)) (qa_cons (qe_tup (qa_cons qe_int (qa_cons qe_int qa_nil))) (qa_cons (qe_tup (qa_cons qe_int (qa_cons qe_int qa_nil))) qa_nil)))) qa_nil))) (qa_cons (qe_lst (qa_cons (qe_var (pv 1)) (qa_cons (qe_var (pv 1)) qa_nil))) qa_nil)))))))))))))) p__law_is_led_right
abbrev s__law_is_centred_right : Stmt := topS 57
abbrev N__law_is_centred_right : List Str := ["hand", "poly", "told", "due", "b", "other"]
theorem sc__law_is_centred_right : FnScope N__law_is_centred_right ["hand", "poly"] (defScope s__law_is_centred_right) := ⟨rfl, rfl, rfl, by decide +kernel, rfl, by decide +kernel, by decide +kernel⟩
theorem h__law_is_centred_right (D : DefAt K mg "_law_is_centred_right" s__law_is_centred_right ["hand", "poly"]) (h__law_centred : Has P w K mg base "_law_centred" 6 S__law_centred) (h__law_few : Has P w K mg base "_law_few" 3 S__law_few) (h__law_is : HasG P w K mg base "_law_is" 1 S__law_is) (h__law_led_by : Has P w K mg base "_law_led_by" 5 S__law_led_by) (h__law_less : Has P w K mg base "_law_less" 2 S__law_less) (h_centred : Has P w K mg base "centred" 8 S_centred) (h_led_poly_by : Has P w K mg base "led_poly_by" 7 S_led_poly_by) : HasG P w K mg base "_law_is_centred_right" 9 S__law_is_centred_right :=
  hasG_of (k := 8) (t := T__law_is_centred_right) D sc__law_is_centred_right l__law_is_centred_right (fun f cdv A outer s H E hr => (qs_cons (qs_par (ps_par rfl sc__law_is_centred_right.nd rfl rfl (by decide) rfl rfl (pa_cons (qe_call h_centred (hr.2.mono (by decide)) (by rfl) (qa_cons (qe_var (pv 1)) qa_nil)) (pa_cons (qe_call h__law_centred (hr.2.mono (by decide)) (by rfl) (qa_cons (qe_var (pv 1)) qa_nil)) pa_nil)) (by rfl))) (qs_cons (qs_if (PW.pt (qw_or (qt_not (qt_truth (qe_callG hr h__law_is (by decide) (by rfl) (qa_cons (qe_var (pv 2)) (qa_cons (qe_var (pv 3)) qa_nil))))) (qw_or (qt_ne hr.2.units (qe_ix (qe_ix (qe_var (pv 2)) qe_int) (qe_neg qe_int)) (qe_tup (qa_cons qe_int (qa_cons qe_int qa_nil)))) (pw_or1 (qt_ne hr.2.units (qe_ix (qe_ix (qe_var (pv 2)) qe_int) (qe_neg qe_int)) (qe_ix (qe_var (pv 1)) (qe_neg qe_int))))))) (qs_one (qs_ret qe_bl)) qs_nil) (qs_cons (qs_if (qt_not (qt_truth (qe_callG hr h__law_is (by decide) (by rfl) (qa_cons (qe_lst (qa_cons (qe_call h_led_poly_by (hr.2.mono (by decide)) (by rfl) (qa_cons (qe_var (pv 1)) (qa_cons (qe_tup (qa_cons qe_int (qa_cons qe_int qa_nil))) (qa_cons (qe_ix (qe_var (pv 2)) qe_int) qa_nil)))) (qa_cons (qe_call h_centred (hr.2.mono (by decide)) (by rfl) (qa_cons (qe_ix (qe_var (pv 2)) qe_int) qa_nil)) qa_nil))) (qa_cons (qe_lst (qa_cons (qe_ix (qe_var (pv 2)) qe_int) (qa_cons (qe_tup (qa_cons (qe_ix (qe_var (pv 2)) qe_int) (qa_cons (qe_tup (qa_cons qe_int (qa_cons qe_int qa_nil))) qa_nil))) qa_nil))) qa_nil))))) (qs_one (qs_ret qe_bl)) qs_nil) (qs_cons (qs_asg (ps_set (i := 4) sc__law_is_centred_right.nd rfl (by first | exact Or.inl rfl | exact Or.inr rfl) (qe_call h__law_few (hr.2.mono (by decide)) (by rfl) (qa_cons (qe_var (pv 0)) qa_nil)))) (qs_cons (qs_asg (ps_set (i := 5) sc__law_is_centred_right.nd rfl (by first | exact Or.inl rfl | exact Or.inr rfl) (qe_call h_centred (hr.2.mono (by decide)) (by rfl) (qa_cons (qe_call h__law_led_by (hr.2.mono (by decide)) (by rfl) (qa_cons (qe_var (pv 1)) (qa_cons (qe_tup (qa_cons qe_int (qa_cons qe_int qa_nil))) (qa_cons (qe_var (pv 4)) qa_nil)))) qa_nil)))) (qs_one (qs_ret (qe_callG hr h__law_is (by decide) (by rfl) (qa_cons (qe_var (pv 5)) (qa_cons (qe_tup (qa_cons (qe_ix (qe_var (pv 2)) qe_int) (qa_cons (qe_call h__law_less (hr.2.mono (by decide)) (by rfl) (qa_cons (qe_ix (qe_var (pv 2)) qe_int) (qa_cons (qe_var (pv 4)) qa_nil))) qa_nil))) qa_nil))))))))))) p__law_is_centred_right
abbrev s_law : Stmt := topS 58
abbrev N_law : List Str := ["script", "hand", "square", "less", "told", "due", "turn", "poly"]
theorem sc_law : FnScope N_law ["script"] (defScope s_law) := ⟨rfl, rfl, rfl, by decide +kernel, rfl, by decide +kernel, by decide +kernel⟩
theorem h_law {f : Addr} {fd : FuncData} (D : Fun K "law" "law" s_law f fd) (z_range : mg "range" = none) (h__law_far : Has P w K mg base "_law_far" 5 S__law_far) (h__law_hand : Has P w K mg base "_law_hand" 1 S__law_hand) (h__law_is : HasG P w K mg base "_law_is" 1 S__law_is) (h__law_is_centred_right : HasG P w K mg base "_law_is_centred_right" 9 S__law_is_centred_right) (h__law_is_led_right : HasG P w K mg base "_law_is_led_right" 8 S__law_is_led_right) (h_centred : Has P w K mg base "centred" 8 S_centred) (h_led_poly_by : Has P w K mg base "led_poly_by" 7 S_led_poly_by) : FnOkG P w K mg base 10 f fd ["script"] (spLaw K) :=
  law_ok (k := 9) (t := T_law_rest) (by decide) D sc_law (fun cdv A outer s H E hr => pss_cons (ps_set (i := 1) sc_law.nd rfl (by first | exact Or.inl rfl | exact Or.inr rfl) (qe_call h__law_hand (hr.2.mono (by decide)) (by rfl) (qa_cons (qe_var (pv 0)) qa_nil))) (qs_cons (qs_asgT (gl_tup (gls_cons (gl_name 2) (gls_cons (gl_name 3) gls_nil))) (ps_asg (qe_tup (qa_cons (qe_tup (qa_cons (qe_tup (qa_cons qe_int (qa_cons qe_int qa_nil))) (qa_cons (qe_tup (qa_cons qe_int (qa_cons qe_int qa_nil))) (qa_cons (qe_tup (qa_cons qe_int (qa_cons qe_int qa_nil))) qa_nil)))) (qa_cons (qe_tup (qa_cons (qe_tup (qa_cons (qe_neg qe_int) (qa_cons qe_int qa_nil))) (qa_cons (qe_tup (qa_cons qe_int (qa_cons qe_int qa_nil))) (qa_cons (qe_tup (qa_cons qe_int (qa_cons qe_int qa_nil))) qa_nil)))) qa_nil))) (pg_tup rfl (pgs_cons (pg_name (i := 2) sc_law.nd rfl (by first | exact Or.inl rfl | exact Or.inr rfl)) (pgs_cons (pg_name (i := 3) sc_law.nd rfl (by first | exact Or.inl rfl | exact Or.inr rfl)) pgs_nil))))) (qs_cons (qs_asg (ps_set (i := 4) sc_law.nd rfl (by first | exact Or.inl rfl | exact Or.inr rfl) (qe_lst (qa_cons (qe_call h_led_poly_by (hr.2.mono (by decide)) (by rfl) (qa_cons (qe_var (pv 2)) (qa_cons (qe_tup (qa_cons qe_int (qa_cons qe_int qa_nil))) (qa_cons (qe_tup (qa_cons qe_int (qa_cons qe_int qa_nil))) qa_nil)))) (qa_cons (qe_call h_centred (hr.2.mono (by decide)) (by rfl) (qa_cons (qe_tup (qa_cons (qe_tup (qa_cons qe_int (qa_cons qe_int qa_nil))) (qa_cons (qe_tup (qa_cons qe_int (qa_cons qe_int qa_nil))) (qa_cons (qe_tup (qa_cons qe_int (qa_cons qe_int qa_nil))) qa_nil)))) qa_nil)) (qa_cons (qe_call h_led_poly_by (hr.2.mono (by decide)) (by rfl) (qa_cons (qe_var (pv 3)) (qa_cons (qe_tup (qa_cons (qe_neg qe_int) (qa_cons qe_int qa_nil))) (qa_cons (qe_tup (qa_cons qe_int (qa_cons qe_int qa_nil))) qa_nil)))) qa_nil)))))) (qs_cons (qs_asg (ps_set (i := 5) sc_law.nd rfl (by first | exact Or.inl rfl | exact Or.inr rfl) (qe_lst (qa_cons (qe_tup (qa_cons (qe_tup (qa_cons qe_int (qa_cons qe_int qa_nil))) (qa_cons (qe_tup (qa_cons (qe_neg qe_int) (qa_cons qe_int qa_nil))) (qa_cons (qe_tup (qa_cons qe_int (qa_cons qe_int qa_nil))) qa_nil)))) (qa_cons (qe_tup (qa_cons (qe_tup (qa_cons (qe_tup (qa_cons qe_int (qa_cons qe_int qa_nil))) (qa_cons (qe_tup (qa_cons qe_int (qa_cons qe_int qa_nil))) (qa_cons (qe_tup (qa_cons qe_int (qa_cons qe_int qa_nil))) qa_nil)))) (qa_cons (qe_tup (qa_cons qe_int (qa_cons qe_int qa_nil))) qa_nil))) (qa_cons (qe_tup (qa_cons (qe_tup (qa_cons qe_int (qa_cons qe_int qa_nil))) (qa_cons (qe_tup (qa_cons qe_int (qa_cons qe_int qa_nil))) (qa_cons (qe_tup (qa_cons (qe_neg qe_int) (qa_cons qe_int qa_nil))) qa_nil)))) qa_nil)))))) (qs_cons (qs_if (qt_not (qt_truth (qe_callG hr h__law_is (by decide) (by rfl) (qa_cons (qe_var (pv 4)) (qa_cons (qe_var (pv 5)) qa_nil))))) (qs_one (qs_ret qe_bl)) qs_nil) (qs_cons (qs_for PassesOwn.never rfl (qi_rng1 (by rfl) z_range qe_int) (pg_name (i := 6) sc_law.nd rfl (by first | exact Or.inl rfl | exact Or.inr rfl)) (gl_name 6) (qs_cons (qs_asg (ps_set (i := 7) sc_law.nd rfl (by first | exact Or.inl rfl | exact Or.inr rfl) (qe_call h__law_far (hr.2.mono (by decide)) (by rfl) (qa_cons (qe_var (pv 1)) (qa_cons qe_int qa_nil))))) (qs_one (qs_if (PW.pt (qw_or (qt_not (qt_truth (qe_callG hr h__law_is_led_right (by decide) (by rfl) (qa_cons (qe_var (pv 1)) (qa_cons (qe_var (pv 7)) qa_nil))))) (pw_or1 (qt_not (qt_truth (qe_callG hr h__law_is_centred_right (by decide) (by rfl) (qa_cons (qe_var (pv 1)) (qa_cons (qe_var (pv 7)) qa_nil)))))))) (qs_one (qs_ret qe_bl)) qs_nil)))) (qs_one (qs_ret qe_bl)))))))) (fun Q hQ => p_law_rest Q hQ)
end
section
variable {w : World} {K : PySem.W.Frag} {mg : Str → Option Value} {h : Heap}
theorem def_mk {x : Str} {st : Stmt} {ps : List Str} {f : Addr} {od an : Option Addr} {sl : Array (Option Value)} {oc kV dc pm cd ct : Value} (X : K.In h) (G : h.Ns mainGlobals mg)
    (a : PySem.W.nsIn K mainGlobals x = some (some (.ref f))) (l : K.lookup f = some ⟨oc, od, .func (PySem.W.fnOf x x (defArgs st) (defBody st) (defScope st) .none kV dc pm an cd ct), sl⟩) (c : PySem.W.codeIn K cd x = true) (k : PySem.W.keepIn K (.ref f) = true)
    (hb : ∀ (kV doc pm : Value) (an : Option Addr) (cdv ct : Value) (us : List Value), us.length = ps.length → bindArgs (PySem.W.fnOf x x (defArgs st) (defBody st) (defScope st) .none kV doc pm an cdv ct) ⟨us, []⟩ = pure (ps.zip us)) : DefAt K mg x st ps :=
  ⟨f, _, PySem.W.mg_of X G a, fun_mk l c k, (fun_mk l c k).binds hb⟩
/-- the law's def as it stands behind the top -/
def LawAt (K : PySem.W.Frag) (fa : Addr) (st : Stmt) : Prop := ∃ (kV dc pm cd ct : Value) (an : Option Addr), Fun K "law" "law" st fa (PySem.W.fnOf "law" "law" (defArgs st) (defBody st) (defScope st) .none kV dc pm an cd ct)
theorem law_mk {st : Stmt} {f fa : Addr} {od an : Option Addr} {sl : Array (Option Value)} {oc kV dc pm cd ct : Value} (X : K.In h) (G : h.Ns mainGlobals mg) (hfa : mg "law" = some (.ref fa))
    (a : PySem.W.nsIn K mainGlobals "law" = some (some (.ref f))) (l : K.lookup f = some ⟨oc, od, .func (PySem.W.fnOf "law" "law" (defArgs st) (defBody st) (defScope st) .none kV dc pm an cd ct), sl⟩) (c : PySem.W.codeIn K cd "law" = true) (k : PySem.W.keepIn K (.ref f) = true) : LawAt K fa st := by
  cases hfa.symm.trans (PySem.W.mg_of X G a)
  exact ⟨_, _, _, _, _, _, fun_mk l c k⟩
theorem cst_int {x : Str} {i : Int} {t : Tok} (X : K.In h) (G : h.Ns mainGlobals mg) (a : PySem.W.nsIn K mainGlobals x = some (some (.int i t))) : Cst K mg x (.int i) :=
  ⟨.int i, _, PySem.W.mg_of X G a, ⟨_, rfl⟩, fun _ _ => .int i⟩
theorem cst_tup {x : Str} {f : Addr} {oc : Value} {od : Option Addr} {sl : Array (Option Value)} {us : Array Value} {m : Nat} {ds : List PyData} {vs : List V} (X : K.In h) (G : h.Ns mainGlobals mg) (a : PySem.W.nsIn K mainGlobals x = some (some (.ref f))) (l : K.lookup f = some ⟨oc, od, .seq us m, sl⟩) (c : oc = .type "tuple") (z : us.size ≤ sizeLine) (v : Vals vs us.toList) (da : ∀ B H, DaA K B H vs ds) : Cst K mg x (.tuple ds) :=
  ⟨.ref f, _, PySem.W.mg_of X G a, rfl, fun B H => .tup (.inr ⟨_, us, m, l, c, rfl, z, v⟩) (da B H)⟩
theorem all_mk {fa : Addr} (D_is_integer : DefAt K mg "is_integer" s_is_integer ["thing"]) (D_is_tuple_of : DefAt K mg "is_tuple_of" s_is_tuple_of ["thing", "many"]) (D_common : DefAt K mg "common" s_common ["one", "other"]) (D_is_fraction : DefAt K mg "is_fraction" s_is_fraction ["thing"]) (D_need_fraction : DefAt K mg "need_fraction" s_need_fraction ["thing"]) (D_raw_part : DefAt K mg "raw_part" s_raw_part ["top", "bottom"]) (D_raw_sum : DefAt K mg "raw_sum" s_raw_sum ["one", "other"]) (D_raw_less : DefAt K mg "raw_less" s_raw_less ["one", "other"]) (D_raw_product : DefAt K mg "raw_product" s_raw_product ["one", "other"]) (D_raw_quotient : DefAt K mg "raw_quotient" s_raw_quotient ["one", "other"]) (D_is_poly : DefAt K mg "is_poly" s_is_poly ["thing"]) (D_trimmed : DefAt K mg "trimmed" s_trimmed ["numbers"]) (D_at_or_zero : DefAt K mg "at_or_zero" s_at_or_zero ["numbers", "at"]) (D_raw_poly_sum : DefAt K mg "raw_poly_sum" s_raw_poly_sum ["one", "other"]) (D_raw_poly_scaled : DefAt K mg "raw_poly_scaled" s_raw_poly_scaled ["poly", "fraction"]) (D_raw_poly_product : DefAt K mg "raw_poly_product" s_raw_poly_product ["one", "other"]) (D_raw_poly_put : DefAt K mg "raw_poly_put" s_raw_poly_put ["one", "other"]) (D_is_far : DefAt K mg "is_far" s_is_far ["thing"]) (D_need_far : DefAt K mg "need_far" s_need_far ["thing"]) (D_raw_led : DefAt K mg "raw_led" s_raw_led ["poly", "a", "b"]) (D_led_poly_by : DefAt K mg "led_poly_by" s_led_poly_by ["poly", "a", "b"]) (D_raw_centred : DefAt K mg "raw_centred" s_raw_centred ["poly"]) (D_centred : DefAt K mg "centred" s_centred ["poly"]) (D__law_hand : DefAt K mg "_law_hand" s__law_hand ["script"]) (D__law_draw : DefAt K mg "_law_draw" s__law_draw ["hand", "many"]) (D__law_any : DefAt K mg "_law_any" s__law_any ["hand", "some"]) (D__law_is : DefAt K mg "_law_is" s__law_is ["told", "due"]) (D__law_part : DefAt K mg "_law_part" s__law_part ["top", "bottom"]) (D__law_add : DefAt K mg "_law_add" s__law_add ["one", "other"]) (D__law_less : DefAt K mg "_law_less" s__law_less ["one", "other"]) (D__law_mul : DefAt K mg "_law_mul" s__law_mul ["one", "other"]) (D__law_by : DefAt K mg "_law_by" s__law_by ["one", "other"]) (D__law_poly : DefAt K mg "_law_poly" s__law_poly ["numbers"]) (D__law_sum : DefAt K mg "_law_sum" s__law_sum ["one", "other"]) (D__law_product : DefAt K mg "_law_product" s__law_product ["one", "other"]) (D__law_few : DefAt K mg "_law_few" s__law_few ["hand"]) (D__law_some_few : DefAt K mg "_law_some_few" s__law_some_few ["hand"]) (D__law_far : DefAt K mg "_law_far" s__law_far ["hand", "most"]) (D__law_behind : DefAt K mg "_law_behind" s__law_behind ["one", "other"]) (D__law_led_by : DefAt K mg "_law_led_by" s__law_led_by ["poly", "a", "b"]) (D__law_centred : DefAt K mg "_law_centred" s__law_centred ["poly"]) (D__law_is_led_right : DefAt K mg "_law_is_led_right" s__law_is_led_right ["hand", "poly"]) (D__law_is_centred_right : DefAt K mg "_law_is_centred_right" s__law_is_centred_right ["hand", "poly"]) (C_ZERO : Cst K mg "ZERO" d_ZERO) (C_ONE : Cst K mg "ONE" d_ONE) (C_MOST_DEGREE : Cst K mg "MOST_DEGREE" d_MOST_DEGREE) (C_LEAST_DEGREE : Cst K mg "LEAST_DEGREE" d_LEAST_DEGREE) (C_MOST_FAR : Cst K mg "MOST_FAR" d_MOST_FAR) (z_abs : mg "abs" = none) (z_all : mg "all" = none) (z_bool : mg "bool" = none) (z_enumerate : mg "enumerate" = none) (z_int : mg "int" = none) (z_isinstance : mg "isinstance" = none) (z_len : mg "len" = none) (z_list : mg "list" = none) (z_max : mg "max" = none) (z_range : mg "range" = none) (z_repr : mg "repr" = none) (z_tuple : mg "tuple" = none) (z_zip : mg "zip" = none) (D_law : LawAt K fa s_law) :
    ∃ fd : FuncData, (∀ (s : Shared) (u : Value), BindsTo s fd ⟨[u], []⟩ [("script", u)]) ∧ ∀ base : Heap, K.In base → base.Ns mainGlobals mg → FnOkG PySem.Challenge.rw_donehalfway_k31_whole_far_polys_led_and.prog w K mg base 10 fa fd ["script"] (spLaw K) := by
  obtain ⟨kV, dc, pm, cd, ct, an, D_law⟩ := D_law
  refine ⟨PySem.W.fnOf "law" "law" (defArgs s_law) (defBody s_law) (defScope s_law) .none kV dc pm an cd ct, fun s v => .of_eq rfl, fun base _ _ => ?_⟩
  have h_is_integer : Has PySem.Challenge.rw_donehalfway_k31_whole_far_polys_led_and.prog w K mg base "is_integer" 1 S_is_integer := h_is_integer D_is_integer z_bool z_int z_isinstance
  have h_is_tuple_of : Has PySem.Challenge.rw_donehalfway_k31_whole_far_polys_led_and.prog w K mg base "is_tuple_of" 1 S_is_tuple_of := h_is_tuple_of D_is_tuple_of z_isinstance z_len z_tuple
  have h_common : Has PySem.Challenge.rw_donehalfway_k31_whole_far_polys_led_and.prog w K mg base "common" 1 S_common := h_common D_common z_abs
  have h_trimmed : Has PySem.Challenge.rw_donehalfway_k31_whole_far_polys_led_and.prog w K mg base "trimmed" 1 S_trimmed := h_trimmed D_trimmed C_ZERO z_len z_tuple
  have h_at_or_zero : Has PySem.Challenge.rw_donehalfway_k31_whole_far_polys_led_and.prog w K mg base "at_or_zero" 1 S_at_or_zero := h_at_or_zero D_at_or_zero C_ZERO z_len
  have h__law_hand : Has PySem.Challenge.rw_donehalfway_k31_whole_far_polys_led_and.prog w K mg base "_law_hand" 1 S__law_hand := h__law_hand D__law_hand z_abs z_int z_len
  have h__law_draw : Has PySem.Challenge.rw_donehalfway_k31_whole_far_polys_led_and.prog w K mg base "_law_draw" 1 S__law_draw := h__law_draw D__law_draw z_int z_len
  have h__law_is : HasG PySem.Challenge.rw_donehalfway_k31_whole_far_polys_led_and.prog w K mg base "_law_is" 1 S__law_is := h__law_is D__law_is z_repr
  have h__law_part : Has PySem.Challenge.rw_donehalfway_k31_whole_far_polys_led_and.prog w K mg base "_law_part" 1 S__law_part := h__law_part D__law_part z_abs z_int
  have h__law_poly : Has PySem.Challenge.rw_donehalfway_k31_whole_far_polys_led_and.prog w K mg base "_law_poly" 1 S__law_poly := h__law_poly D__law_poly z_enumerate z_max z_tuple
  have h_is_fraction : Has PySem.Challenge.rw_donehalfway_k31_whole_far_polys_led_and.prog w K mg base "is_fraction" 2 S_is_fraction := h_is_fraction D_is_fraction h_common h_is_integer h_is_tuple_of
  have h_raw_part : Has PySem.Challenge.rw_donehalfway_k31_whole_far_polys_led_and.prog w K mg base "raw_part" 2 S_raw_part := h_raw_part D_raw_part h_common
  have h__law_any : Has PySem.Challenge.rw_donehalfway_k31_whole_far_polys_led_and.prog w K mg base "_law_any" 2 S__law_any := h__law_any D__law_any z_len h__law_draw
  have h__law_add : Has PySem.Challenge.rw_donehalfway_k31_whole_far_polys_led_and.prog w K mg base "_law_add" 2 S__law_add := h__law_add D__law_add h__law_part
  have h__law_less : Has PySem.Challenge.rw_donehalfway_k31_whole_far_polys_led_and.prog w K mg base "_law_less" 2 S__law_less := h__law_less D__law_less h__law_part
  have h__law_mul : Has PySem.Challenge.rw_donehalfway_k31_whole_far_polys_led_and.prog w K mg base "_law_mul" 2 S__law_mul := h__law_mul D__law_mul h__law_part
  have h__law_by : Has PySem.Challenge.rw_donehalfway_k31_whole_far_polys_led_and.prog w K mg base "_law_by" 2 S__law_by := h__law_by D__law_by h__law_part
  have h_need_fraction : Has PySem.Challenge.rw_donehalfway_k31_whole_far_polys_led_and.prog w K mg base "need_fraction" 3 S_need_fraction := h_need_fraction D_need_fraction h_is_fraction
  have h_raw_sum : Has PySem.Challenge.rw_donehalfway_k31_whole_far_polys_led_and.prog w K mg base "raw_sum" 3 S_raw_sum := h_raw_sum D_raw_sum h_raw_part
  have h_raw_product : Has PySem.Challenge.rw_donehalfway_k31_whole_far_polys_led_and.prog w K mg base "raw_product" 3 S_raw_product := h_raw_product D_raw_product C_ZERO h_raw_part
  have h_raw_quotient : Has PySem.Challenge.rw_donehalfway_k31_whole_far_polys_led_and.prog w K mg base "raw_quotient" 3 S_raw_quotient := h_raw_quotient D_raw_quotient h_raw_part
  have h_is_poly : Has PySem.Challenge.rw_donehalfway_k31_whole_far_polys_led_and.prog w K mg base "is_poly" 3 S_is_poly := h_is_poly D_is_poly C_MOST_DEGREE C_ZERO z_all z_isinstance z_len z_tuple h_is_fraction
  have h__law_sum : Has PySem.Challenge.rw_donehalfway_k31_whole_far_polys_led_and.prog w K mg base "_law_sum" 3 S__law_sum := h__law_sum D__law_sum z_len z_list z_max z_zip h__law_add h__law_poly
  have h__law_product : Has PySem.Challenge.rw_donehalfway_k31_whole_far_polys_led_and.prog w K mg base "_law_product" 3 S__law_product := h__law_product D__law_product z_enumerate z_len z_max h__law_add h__law_mul h__law_poly
  have h__law_few : Has PySem.Challenge.rw_donehalfway_k31_whole_far_polys_led_and.prog w K mg base "_law_few" 3 S__law_few := h__law_few D__law_few h__law_any h__law_draw h__law_part
  have h_raw_less : Has PySem.Challenge.rw_donehalfway_k31_whole_far_polys_led_and.prog w K mg base "raw_less" 4 S_raw_less := h_raw_less D_raw_less h_raw_sum
  have h_raw_poly_sum : Has PySem.Challenge.rw_donehalfway_k31_whole_far_polys_led_and.prog w K mg base "raw_poly_sum" 4 S_raw_poly_sum := h_raw_poly_sum D_raw_poly_sum z_len z_max z_range h_at_or_zero h_raw_sum h_trimmed
  have h_raw_poly_scaled : Has PySem.Challenge.rw_donehalfway_k31_whole_far_polys_led_and.prog w K mg base "raw_poly_scaled" 4 S_raw_poly_scaled := h_raw_poly_scaled D_raw_poly_scaled h_raw_product h_trimmed
  have h_raw_poly_product : Has PySem.Challenge.rw_donehalfway_k31_whole_far_polys_led_and.prog w K mg base "raw_poly_product" 4 S_raw_poly_product := h_raw_poly_product D_raw_poly_product C_ZERO z_enumerate z_len h_raw_product h_raw_sum h_trimmed
  have h_is_far : Has PySem.Challenge.rw_donehalfway_k31_whole_far_polys_led_and.prog w K mg base "is_far" 4 S_is_far := h_is_far D_is_far C_LEAST_DEGREE C_MOST_FAR z_len h_is_poly
  have h__law_some_few : Has PySem.Challenge.rw_donehalfway_k31_whole_far_polys_led_and.prog w K mg base "_law_some_few" 4 S__law_some_few := h__law_some_few D__law_some_few h__law_any h__law_few
  have h__law_behind : Has PySem.Challenge.rw_donehalfway_k31_whole_far_polys_led_and.prog w K mg base "_law_behind" 4 S__law_behind := h__law_behind D__law_behind h__law_poly h__law_product h__law_sum
  have h_raw_poly_put : Has PySem.Challenge.rw_donehalfway_k31_whole_far_polys_led_and.prog w K mg base "raw_poly_put" 5 S_raw_poly_put := h_raw_poly_put D_raw_poly_put h_raw_poly_product h_raw_poly_sum h_trimmed
  have h_need_far : Has PySem.Challenge.rw_donehalfway_k31_whole_far_polys_led_and.prog w K mg base "need_far" 5 S_need_far := h_need_far D_need_far h_is_far
  have h__law_far : Has PySem.Challenge.rw_donehalfway_k31_whole_far_polys_led_and.prog w K mg base "_law_far" 5 S__law_far := h__law_far D__law_far z_range z_tuple h__law_any h__law_draw h__law_few h__law_some_few
  have h__law_led_by : Has PySem.Challenge.rw_donehalfway_k31_whole_far_polys_led_and.prog w K mg base "_law_led_by" 5 S__law_led_by := h__law_led_by D__law_led_by h__law_behind h__law_by h__law_less h__law_poly h__law_product h__law_sum
  have h_raw_led : Has PySem.Challenge.rw_donehalfway_k31_whole_far_polys_led_and.prog w K mg base "raw_led" 6 S_raw_led := h_raw_led D_raw_led C_ONE C_ZERO h_raw_less h_raw_poly_put h_raw_poly_scaled h_raw_poly_sum h_raw_quotient h_trimmed
  have h__law_centred : Has PySem.Challenge.rw_donehalfway_k31_whole_far_polys_led_and.prog w K mg base "_law_centred" 6 S__law_centred := h__law_centred D__law_centred z_len h__law_by h__law_led_by h__law_mul
  have h_led_poly_by : Has PySem.Challenge.rw_donehalfway_k31_whole_far_polys_led_and.prog w K mg base "led_poly_by" 7 S_led_poly_by := h_led_poly_by D_led_poly_by C_ZERO h_need_far h_need_fraction h_raw_led
  have h_raw_centred : Has PySem.Challenge.rw_donehalfway_k31_whole_far_polys_led_and.prog w K mg base "raw_centred" 7 S_raw_centred := h_raw_centred D_raw_centred C_ONE z_len h_raw_led h_raw_product h_raw_quotient
  have h_centred : Has PySem.Challenge.rw_donehalfway_k31_whole_far_polys_led_and.prog w K mg base "centred" 8 S_centred := h_centred D_centred h_need_far h_raw_centred
  have h__law_is_led_right : HasG PySem.Challenge.rw_donehalfway_k31_whole_far_polys_led_and.prog w K mg base "_law_is_led_right" 8 S__law_is_led_right := h__law_is_led_right D__law_is_led_right h__law_add h__law_behind h__law_by h__law_few h__law_is h__law_led_by h__law_less h__law_mul h__law_poly h__law_product h__law_some_few h__law_sum h_led_poly_by
  have h__law_is_centred_right : HasG PySem.Challenge.rw_donehalfway_k31_whole_far_polys_led_and.prog w K mg base "_law_is_centred_right" 9 S__law_is_centred_right := h__law_is_centred_right D__law_is_centred_right h__law_centred h__law_few h__law_is h__law_led_by h__law_less h_centred h_led_poly_by
  exact h_law D_law z_range h__law_far h__law_hand h__law_is h__law_is_centred_right h__law_is_led_right h_centred h_led_poly_by
end
end My
open PySem PySem.W PyProof.Rows PL
set_option maxHeartbeats 0 in
theorem PySem.Challenge.cw_donehalfway_k31_whole_far_polys_led_and_holds : PySem.Challenge.rw_donehalfway_k31_whole_far_polys_led_and.Holds := by
  w_on; o_law; k_head; (case hw => w_witness2)
  k_fill
  refine walk_ofG (l := PySem.Challenge.rw_donehalfway_k31_whole_far_polys_led_and) (k := 10) (x := "script") rfl rfl ⟨rfl, by decide, by decide⟩ rfl (fun w h Y => PySem.W.kIn_of Y) ?F
  case F =>
    intro w mg fa h KX G hmg
    refine' My.all_mk ?D_is_integer ?D_is_tuple_of ?D_common ?D_is_fraction ?D_need_fraction ?D_raw_part ?D_raw_sum ?D_raw_less ?D_raw_product ?D_raw_quotient ?D_is_poly ?D_trimmed ?D_at_or_zero ?D_raw_poly_sum ?D_raw_poly_scaled ?D_raw_poly_product ?D_raw_poly_put ?D_is_far ?D_need_far ?D_raw_led ?D_led_poly_by ?D_raw_centred ?D_centred ?D__law_hand ?D__law_draw ?D__law_any ?D__law_is ?D__law_part ?D__law_add ?D__law_less ?D__law_mul ?D__law_by ?D__law_poly ?D__law_sum ?D__law_product ?D__law_few ?D__law_some_few ?D__law_far ?D__law_behind ?D__law_led_by ?D__law_centred ?D__law_is_led_right ?D__law_is_centred_right ?C_ZERO ?C_ONE ?C_MOST_DEGREE ?C_LEAST_DEGREE ?C_MOST_FAR ?z_abs ?z_all ?z_bool ?z_enumerate ?z_int ?z_isinstance ?z_len ?z_list ?z_max ?z_range ?z_repr ?z_tuple ?z_zip ?D_law
    case D_is_integer =>
      refine' My.def_mk KX G ?a ?l ?c ?k (fun _ _ _ _ _ _ us hl => match us, hl with | [_], _ => rfl)
      (case a => k_is); (case l => k_is); (case c => k_is); (case k => k_is)
    case D_is_tuple_of =>
      refine' My.def_mk KX G ?a ?l ?c ?k (fun _ _ _ _ _ _ us hl => match us, hl with | [_, _], _ => rfl)
      (case a => k_is); (case l => k_is); (case c => k_is); (case k => k_is)
    case D_common =>
      refine' My.def_mk KX G ?a ?l ?c ?k (fun _ _ _ _ _ _ us hl => match us, hl with | [_, _], _ => rfl)
      (case a => k_is); (case l => k_is); (case c => k_is); (case k => k_is)
    case D_is_fraction =>
      refine' My.def_mk KX G ?a ?l ?c ?k (fun _ _ _ _ _ _ us hl => match us, hl with | [_], _ => rfl)
      (case a => k_is); (case l => k_is); (case c => k_is); (case k => k_is)
    case D_need_fraction =>
      refine' My.def_mk KX G ?a ?l ?c ?k (fun _ _ _ _ _ _ us hl => match us, hl with | [_], _ => rfl)
      (case a => k_is); (case l => k_is); (case c => k_is); (case k => k_is)
    case D_raw_part =>
      refine' My.def_mk KX G ?a ?l ?c ?k (fun _ _ _ _ _ _ us hl => match us, hl with | [_, _], _ => rfl)
      (case a => k_is); (case l => k_is); (case c => k_is); (case k => k_is)
    case D_raw_sum =>
      refine' My.def_mk KX G ?a ?l ?c ?k (fun _ _ _ _ _ _ us hl => match us, hl with | [_, _], _ => rfl)
      (case a => k_is); (case l => k_is); (case c => k_is); (case k => k_is)
    case D_raw_less =>
      refine' My.def_mk KX G ?a ?l ?c ?k (fun _ _ _ _ _ _ us hl => match us, hl with | [_, _], _ => rfl)
      (case a => k_is); (case l => k_is); (case c => k_is); (case k => k_is)
    case D_raw_product =>
      refine' My.def_mk KX G ?a ?l ?c ?k (fun _ _ _ _ _ _ us hl => match us, hl with | [_, _], _ => rfl)
      (case a => k_is); (case l => k_is); (case c => k_is); (case k => k_is)
    case D_raw_quotient =>
      refine' My.def_mk KX G ?a ?l ?c ?k (fun _ _ _ _ _ _ us hl => match us, hl with | [_, _], _ => rfl)
      (case a => k_is); (case l => k_is); (case c => k_is); (case k => k_is)
    case D_is_poly =>
      refine' My.def_mk KX G ?a ?l ?c ?k (fun _ _ _ _ _ _ us hl => match us, hl with | [_], _ => rfl)
      (case a => k_is); (case l => k_is); (case c => k_is); (case k => k_is)
    case D_trimmed =>
      refine' My.def_mk KX G ?a ?l ?c ?k (fun _ _ _ _ _ _ us hl => match us, hl with | [_], _ => rfl)
      (case a => k_is); (case l => k_is); (case c => k_is); (case k => k_is)
    case D_at_or_zero =>
      refine' My.def_mk KX G ?a ?l ?c ?k (fun _ _ _ _ _ _ us hl => match us, hl with | [_, _], _ => rfl)
      (case a => k_is); (case l => k_is); (case c => k_is); (case k => k_is)
    case D_raw_poly_sum =>
      refine' My.def_mk KX G ?a ?l ?c ?k (fun _ _ _ _ _ _ us hl => match us, hl with | [_, _], _ => rfl)
      (case a => k_is); (case l => k_is); (case c => k_is); (case k => k_is)
    case D_raw_poly_scaled =>
      refine' My.def_mk KX G ?a ?l ?c ?k (fun _ _ _ _ _ _ us hl => match us, hl with | [_, _], _ => rfl)
      (case a => k_is); (case l => k_is); (case c => k_is); (case k => k_is)
    case D_raw_poly_product =>
      refine' My.def_mk KX G ?a ?l ?c ?k (fun _ _ _ _ _ _ us hl => match us, hl with | [_, _], _ => rfl)
      (case a => k_is); (case l => k_is); (case c => k_is); (case k => k_is)
    case D_raw_poly_put =>
      refine' My.def_mk KX G ?a ?l ?c ?k (fun _ _ _ _ _ _ us hl => match us, hl with | [_, _], _ => rfl)
      (case a => k_is); (case l => k_is); (case c => k_is); (case k => k_is)
    case D_is_far =>
      refine' My.def_mk KX G ?a ?l ?c ?k (fun _ _ _ _ _ _ us hl => match us, hl with | [_], _ => rfl)
      (case a => k_is); (case l => k_is); (case c => k_is); (case k => k_is)
    case D_need_far =>
      refine' My.def_mk KX G ?a ?l ?c ?k (fun _ _ _ _ _ _ us hl => match us, hl with | [_], _ => rfl)
      (case a => k_is); (case l => k_is); (case c => k_is); (case k => k_is)
    case D_raw_led =>
      refine' My.def_mk KX G ?a ?l ?c ?k (fun _ _ _ _ _ _ us hl => match us, hl with | [_, _, _], _ => rfl)
      (case a => k_is); (case l => k_is); (case c => k_is); (case k => k_is)
    case D_led_poly_by =>
      refine' My.def_mk KX G ?a ?l ?c ?k (fun _ _ _ _ _ _ us hl => match us, hl with | [_, _, _], _ => rfl)
      (case a => k_is); (case l => k_is); (case c => k_is); (case k => k_is)
    case D_raw_centred =>
      refine' My.def_mk KX G ?a ?l ?c ?k (fun _ _ _ _ _ _ us hl => match us, hl with | [_], _ => rfl)
      (case a => k_is); (case l => k_is); (case c => k_is); (case k => k_is)
    case D_centred =>
      refine' My.def_mk KX G ?a ?l ?c ?k (fun _ _ _ _ _ _ us hl => match us, hl with | [_], _ => rfl)
      (case a => k_is); (case l => k_is); (case c => k_is); (case k => k_is)
    case D__law_hand =>
      refine' My.def_mk KX G ?a ?l ?c ?k (fun _ _ _ _ _ _ us hl => match us, hl with | [_], _ => rfl)
      (case a => k_is); (case l => k_is); (case c => k_is); (case k => k_is)
    case D__law_draw =>
      refine' My.def_mk KX G ?a ?l ?c ?k (fun _ _ _ _ _ _ us hl => match us, hl with | [_, _], _ => rfl)
      (case a => k_is); (case l => k_is); (case c => k_is); (case k => k_is)
    case D__law_any =>
      refine' My.def_mk KX G ?a ?l ?c ?k (fun _ _ _ _ _ _ us hl => match us, hl with | [_, _], _ => rfl)
      (case a => k_is); (case l => k_is); (case c => k_is); (case k => k_is)
    case D__law_is =>
      refine' My.def_mk KX G ?a ?l ?c ?k (fun _ _ _ _ _ _ us hl => match us, hl with | [_, _], _ => rfl)
      (case a => k_is); (case l => k_is); (case c => k_is); (case k => k_is)
    case D__law_part =>
      refine' My.def_mk KX G ?a ?l ?c ?k (fun _ _ _ _ _ _ us hl => match us, hl with | [_, _], _ => rfl)
      (case a => k_is); (case l => k_is); (case c => k_is); (case k => k_is)
    case D__law_add =>
      refine' My.def_mk KX G ?a ?l ?c ?k (fun _ _ _ _ _ _ us hl => match us, hl with | [_, _], _ => rfl)
      (case a => k_is); (case l => k_is); (case c => k_is); (case k => k_is)
    case D__law_less =>
      refine' My.def_mk KX G ?a ?l ?c ?k (fun _ _ _ _ _ _ us hl => match us, hl with | [_, _], _ => rfl)
      (case a => k_is); (case l => k_is); (case c => k_is); (case k => k_is)
    case D__law_mul =>
      refine' My.def_mk KX G ?a ?l ?c ?k (fun _ _ _ _ _ _ us hl => match us, hl with | [_, _], _ => rfl)
      (case a => k_is); (case l => k_is); (case c => k_is); (case k => k_is)
    case D__law_by =>
      refine' My.def_mk KX G ?a ?l ?c ?k (fun _ _ _ _ _ _ us hl => match us, hl with | [_, _], _ => rfl)
      (case a => k_is); (case l => k_is); (case c => k_is); (case k => k_is)
    case D__law_poly =>
      refine' My.def_mk KX G ?a ?l ?c ?k (fun _ _ _ _ _ _ us hl => match us, hl with | [_], _ => rfl)
      (case a => k_is); (case l => k_is); (case c => k_is); (case k => k_is)
    case D__law_sum =>
      refine' My.def_mk KX G ?a ?l ?c ?k (fun _ _ _ _ _ _ us hl => match us, hl with | [_, _], _ => rfl)
      (case a => k_is); (case l => k_is); (case c => k_is); (case k => k_is)
    case D__law_product =>
      refine' My.def_mk KX G ?a ?l ?c ?k (fun _ _ _ _ _ _ us hl => match us, hl with | [_, _], _ => rfl)
      (case a => k_is); (case l => k_is); (case c => k_is); (case k => k_is)
    case D__law_few =>
      refine' My.def_mk KX G ?a ?l ?c ?k (fun _ _ _ _ _ _ us hl => match us, hl with | [_], _ => rfl)
      (case a => k_is); (case l => k_is); (case c => k_is); (case k => k_is)
    case D__law_some_few =>
      refine' My.def_mk KX G ?a ?l ?c ?k (fun _ _ _ _ _ _ us hl => match us, hl with | [_], _ => rfl)
      (case a => k_is); (case l => k_is); (case c => k_is); (case k => k_is)
    case D__law_far =>
      refine' My.def_mk KX G ?a ?l ?c ?k (fun _ _ _ _ _ _ us hl => match us, hl with | [_, _], _ => rfl)
      (case a => k_is); (case l => k_is); (case c => k_is); (case k => k_is)
    case D__law_behind =>
      refine' My.def_mk KX G ?a ?l ?c ?k (fun _ _ _ _ _ _ us hl => match us, hl with | [_, _], _ => rfl)
      (case a => k_is); (case l => k_is); (case c => k_is); (case k => k_is)
    case D__law_led_by =>
      refine' My.def_mk KX G ?a ?l ?c ?k (fun _ _ _ _ _ _ us hl => match us, hl with | [_, _, _], _ => rfl)
      (case a => k_is); (case l => k_is); (case c => k_is); (case k => k_is)
    case D__law_centred =>
      refine' My.def_mk KX G ?a ?l ?c ?k (fun _ _ _ _ _ _ us hl => match us, hl with | [_], _ => rfl)
      (case a => k_is); (case l => k_is); (case c => k_is); (case k => k_is)
    case D__law_is_led_right =>
      refine' My.def_mk KX G ?a ?l ?c ?k (fun _ _ _ _ _ _ us hl => match us, hl with | [_, _], _ => rfl)
      (case a => k_is); (case l => k_is); (case c => k_is); (case k => k_is)
    case D__law_is_centred_right =>
      refine' My.def_mk KX G ?a ?l ?c ?k (fun _ _ _ _ _ _ us hl => match us, hl with | [_, _], _ => rfl)
      (case a => k_is); (case l => k_is); (case c => k_is); (case k => k_is)
    case C_ZERO =>
      refine' My.cst_tup (vs := [.int (0), .int (1)]) KX G ?a ?l ?c ?z ?v (fun _ _ => (.cons (.int (0)) (.cons (.int (1)) .nil)))
      (case a => k_is); (case l => k_is); (case c => rfl); (case z => decide); (case v => exact (.cons ⟨_, rfl⟩ (.cons ⟨_, rfl⟩ .nil)))
    case C_ONE =>
      refine' My.cst_tup (vs := [.int (1), .int (1)]) KX G ?a ?l ?c ?z ?v (fun _ _ => (.cons (.int (1)) (.cons (.int (1)) .nil)))
      (case a => k_is); (case l => k_is); (case c => rfl); (case z => decide); (case v => exact (.cons ⟨_, rfl⟩ (.cons ⟨_, rfl⟩ .nil)))
    case C_MOST_DEGREE =>
      refine' My.cst_int KX G ?a
      (case a => k_is)
    case C_LEAST_DEGREE =>
      refine' My.cst_int KX G ?a
      (case a => k_is)
    case C_MOST_FAR =>
      refine' My.cst_int KX G ?a
      (case a => k_is)
    case z_abs =>
      refine' PySem.W.mg_none_of KX G ?a
      (case a => k_is)
    case z_all =>
      refine' PySem.W.mg_none_of KX G ?a
      (case a => k_is)
    case z_bool =>
      refine' PySem.W.mg_none_of KX G ?a
      (case a => k_is)
    case z_enumerate =>
      refine' PySem.W.mg_none_of KX G ?a
      (case a => k_is)
    case z_int =>
      refine' PySem.W.mg_none_of KX G ?a
      (case a => k_is)
    case z_isinstance =>
      refine' PySem.W.mg_none_of KX G ?a
      (case a => k_is)
    case z_len =>
      refine' PySem.W.mg_none_of KX G ?a
      (case a => k_is)
    case z_list =>
      refine' PySem.W.mg_none_of KX G ?a
      (case a => k_is)
    case z_max =>
      refine' PySem.W.mg_none_of KX G ?a
      (case a => k_is)
    case z_range =>
      refine' PySem.W.mg_none_of KX G ?a
      (case a => k_is)
    case z_repr =>
      refine' PySem.W.mg_none_of KX G ?a
      (case a => k_is)
    case z_tuple =>
      refine' PySem.W.mg_none_of KX G ?a
      (case a => k_is)
    case z_zip =>
      refine' PySem.W.mg_none_of KX G ?a
      (case a => k_is)
    case D_law =>
      refine' My.law_mk KX G hmg ?a ?l ?c ?k
      (case a => k_is); (case l => k_is); (case c => k_is); (case k => k_is)

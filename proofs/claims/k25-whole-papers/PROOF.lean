import PyProof.Rows.All
import Wide.All
import OpenK.AllK
import Wide.FinOn
import HandS.ForMost
import HandS.TupAny
import HandS.Conv
import HandS.Deep
import HandS.Walk
import HandS.DictTup
import HandS.IsInst
import HandS.Strs
import HandS.SetBool
import HandS.TupSets
import PySem.Challenge.RW_wishbound_k25_whole_papers_looked_at
set_option Elab.async false
set_option linter.all false
set_option maxRecDepth 100000
set_option maxHeartbeats 4000000
/-! the frame: data without change, what a reading comes to -/
namespace WB
open PySem PySem.Spec PyProof.Rows L2

abbrev dI (ns : List Int) : List PyData := ns.map PyData.int
abbrev tI (ns : List Int) : PyData := .tuple (dI ns)

/-! data that never changes: no list in it -/
mutual
inductive Tp (K : PySem.W.Frag) (H : Hp) : V → PyData → Prop
  | non : Tp K H .non .none
  | bl (b : Bool) : Tp K H (.bl b) (.bool b)
  | int (i : Int) : Tp K H (.int i) (.int i)
  | str (x : Str) : Tp K H (.str x) (.str x)
  | tup {a : Addr} {xs : List V} {ds : List PyData} : H a = some (.tup xs) → TpAll K H xs ds → Tp K H (.ref a) (.tuple ds)
inductive TpAll (K : PySem.W.Frag) (H : Hp) : List V → List PyData → Prop
  | nil : TpAll K H [] []
  | cons {v : V} {vs : List V} {d : PyData} {ds : List PyData} : Tp K H v d → TpAll K H vs ds → TpAll K H (v :: vs) (d :: ds)
end
/-- such data, or a list of such -/
inductive Ap (K : PySem.W.Frag) (H : Hp) : V → PyData → Prop
  | t {v : V} {d : PyData} : Tp K H v d → Ap K H v d
  | l {a : Addr} {xs : List V} {ds : List PyData} : SqL K H a xs → TpAll K H xs ds → Ap K H (.ref a) (.list ds)
inductive ApAll (K : PySem.W.Frag) (H : Hp) : List V → List PyData → Prop
  | nil : ApAll K H [] []
  | cons {v : V} {vs : List V} {d : PyData} {ds : List PyData} : Ap K H v d → ApAll K H vs ds → ApAll K H (v :: vs) (d :: ds)

/-- tuples stay -/
def Tm (H H' : Hp) : Prop := ∀ a xs, H a = some (.tup xs) → H' a = some (.tup xs)
theorem Tm.refl (H : Hp) : Tm H H := fun _ _ h => h
theorem Tm.trans {H H1 H2 : Hp} (a : Tm H H1) (b : Tm H1 H2) : Tm H H2 := fun c xs h => b c xs (a c xs h)
theorem Tm.of {H H' : Hp} (e : Same H H') : Tm H H' := fun a xs h => e _ _ h
/-- an object is changed that is no tuple -/
theorem Tm.upd {H : Hp} {a : Addr} {o u : HO} (h : H a = some u) (h1 : ∀ xs, u ≠ .tup xs) : Tm H (upd H a o) := fun b xs r => by
  by_cases e : b = a
  · subst e
    rw [h] at r; exact absurd (Option.some.inj r) (h1 xs)
  · rw [upd_ne e]; exact r
theorem Tm.updL {H : Hp} {a : Addr} {o : HO} {ys : List V} (h : H a = some (.lst ys)) : Tm H (L2.upd H a o) := Tm.upd h fun _ z => nomatch z
theorem Tm.updD {H : Hp} {a : Addr} {o : HO} {ys : List (List Key × V)} (h : H a = some (.dT ys)) : Tm H (L2.upd H a o) := Tm.upd h fun _ z => nomatch z
theorem Same.new {H : Hp} {p : Addr} {o : HO} (h : H p = none) : Same H (upd H p o) := fun b x e => by
  rw [upd_ne (ne_of_none e h)]
  exact e
/-- an object that the first heap does not know may change -/
theorem Same.mut {H H' : Hp} {p : Addr} {o : HO} (e : Same H H') (h : H p = none) : Same H (upd H' p o) := fun a u ha => by
  rw [upd_ne (ne_of_none ha h)]
  exact e a u ha

section
variable {K : PySem.W.Frag} {H H' : Hp}
theorem _root_.L2.Same.sqT (e : Same H H') {a : Addr} {xs : List V} (h : SqT K H a xs) : SqT K H' a xs := h.imp (fun z => z.imp (e a _) fun ⟨o, y⟩ => ⟨o, e a _ y⟩) id
mutual
theorem Tp.tm (e : Tm H H') : ∀ {v : V} {d : PyData}, Tp K H v d → Tp K H' v d
  | _, _, .non => .non
  | _, _, .bl b => .bl b
  | _, _, .int i => .int i
  | _, _, .str x => .str x
  | _, _, .tup h a => .tup (e _ _ h) (TpAll.tm e a)
theorem TpAll.tm (e : Tm H H') : ∀ {vs : List V} {ds : List PyData}, TpAll K H vs ds → TpAll K H' vs ds
  | _, _, .nil => .nil
  | _, _, .cons h t => .cons (Tp.tm e h) (TpAll.tm e t)
end
theorem Tp.same (e : Same H H') {v : V} {d : PyData} (h : Tp K H v d) : Tp K H' v d := h.tm (Tm.of e)
theorem TpAll.same (e : Same H H') {v : List V} {d : List PyData} (h : TpAll K H v d) : TpAll K H' v d := h.tm (Tm.of e)
theorem Ap.same (e : Same H H') {v : V} {d : PyData} : Ap K H v d → Ap K H' v d
  | .t h => .t (h.same e)
  | .l h a => .l (e.seq h) (a.same e)
theorem ApAll.same (e : Same H H') : ∀ {v : List V} {d : List PyData}, ApAll K H v d → ApAll K H' v d
  | _, _, .nil => .nil
  | _, _, .cons h t => .cons (h.same e) (ApAll.same e t)

theorem TpAll.len : ∀ {vs : List V} {ds : List PyData}, TpAll K H vs ds → vs.length = ds.length
  | _, _, .nil => rfl
  | _, _, .cons _ t => congrArg (· + 1) (TpAll.len t)
theorem TpAll.get : ∀ {vs : List V} {ds : List PyData} {i : Nat} {x : V}, TpAll K H vs ds → vs[i]? = some x → ∃ d, ds[i]? = some d ∧ Tp K H x d
  | _, _, _, _, .nil, e => by simp at e
  | _, _, 0, _, .cons h _, e => by simp at e; subst e; exact ⟨_, rfl, h⟩
  | _, _, i + 1, x, .cons _ t, e => by
    obtain ⟨d, h1, h2⟩ := TpAll.get (i := i) (x := x) t (by simpa using e)
    exact ⟨d, by simpa using h1, h2⟩
theorem TpAll.getD : ∀ {vs : List V} {ds : List PyData} {i : Nat} {d : PyData}, TpAll K H vs ds → ds[i]? = some d → ∃ x, vs[i]? = some x ∧ Tp K H x d
  | _, _, _, _, .nil, e => by simp at e
  | _, _, 0, _, .cons h _, e => by simp at e; subst e; exact ⟨_, rfl, h⟩
  | _, _, i + 1, x, .cons _ t, e => by
    obtain ⟨d, h1, h2⟩ := TpAll.getD (i := i) (d := x) t (by simpa using e)
    exact ⟨d, by simpa using h1, h2⟩
theorem TpAll.app : ∀ {vs ws : List V} {ds es : List PyData}, TpAll K H vs ds → TpAll K H ws es → TpAll K H (vs ++ ws) (ds ++ es)
  | _, _, _, _, .nil, s => s
  | _, _, _, _, .cons r t, s => .cons r (TpAll.app t s)
theorem TpAll.take : ∀ {vs : List V} {ds : List PyData} (n : Nat), TpAll K H vs ds → TpAll K H (vs.take n) (ds.take n)
  | _, _, 0, _ => .nil
  | _, _, _ + 1, .nil => .nil
  | _, _, n + 1, .cons r t => .cons r (TpAll.take n t)
theorem TpAll.drop : ∀ {vs : List V} {ds : List PyData} (n : Nat), TpAll K H vs ds → TpAll K H (vs.drop n) (ds.drop n)
  | _, _, 0, r => r
  | _, _, _ + 1, .nil => .nil
  | _, _, n + 1, .cons _ t => TpAll.drop n t
theorem TpAll.erase : ∀ {vs : List V} {ds : List PyData} (n : Nat), TpAll K H vs ds → TpAll K H (vs.eraseIdx n) (ds.eraseIdx n)
  | _, _, _, .nil => .nil
  | _, _, 0, .cons _ t => t
  | _, _, n + 1, .cons r t => .cons r (TpAll.erase n t)
/-- ints are told by the data -/
theorem TpAll.ints : ∀ {vs : List V} {ns : List Int}, TpAll K H vs (dI ns) → vs = ns.map V.int
  | _, [], .nil => rfl
  | _, n :: ns, .cons h t => by
    cases h
    rw [TpAll.ints t]; rfl
theorem TpAll.ofInts : ∀ (ns : List Int), TpAll K H (ns.map V.int) (dI ns)
  | [] => .nil
  | n :: ns => .cons (.int n) (TpAll.ofInts ns)
theorem TpAll.strs : ∀ {vs : List V} {ns : List Str}, TpAll K H vs (ns.map PyData.str) → vs = ns.map V.str
  | _, [], .nil => rfl
  | _, n :: ns, .cons h t => by
    cases h
    rw [TpAll.strs t]; rfl
theorem TpAll.ofStrs : ∀ (ns : List Str), TpAll K H (ns.map V.str) (ns.map PyData.str)
  | [] => .nil
  | n :: ns => .cons (.str n) (TpAll.ofStrs ns)
theorem Ap.int_inv {v : V} {i : Int} (h : Ap K H v (.int i)) : v = .int i := by
  cases h with
  | t h => cases h; rfl
theorem Ap.str_inv {v : V} {i : Str} (h : Ap K H v (.str i)) : v = .str i := by
  cases h with
  | t h => cases h; rfl
theorem Ap.bl_inv {v : V} {i : Bool} (h : Ap K H v (.bool i)) : v = .bl i := by
  cases h with
  | t h => cases h; rfl
theorem Ap.non_inv {v : V} (h : Ap K H v .none) : v = .non := by
  cases h with
  | t h => cases h; rfl
theorem Tp.tupT_inv {v : V} {ds : List PyData} (h : Tp K H v (.tuple ds)) : ∃ a xs, v = .ref a ∧ H a = some (.tup xs) ∧ TpAll K H xs ds := by
  cases h with
  | tup a b => exact ⟨_, _, rfl, a, b⟩
theorem Ap.tupT_inv {v : V} {ds : List PyData} (h : Ap K H v (.tuple ds)) : ∃ a xs, v = .ref a ∧ H a = some (.tup xs) ∧ TpAll K H xs ds := by
  cases h with
  | t h => exact h.tupT_inv
theorem Tp.tup_inv {v : V} {ds : List PyData} (h : Tp K H v (.tuple ds)) : ∃ a xs, v = .ref a ∧ SqT K H a xs ∧ TpAll K H xs ds := by
  cases h with
  | tup a b => exact ⟨_, _, rfl, .inl (.inl a), b⟩
theorem Ap.tup_inv {v : V} {ds : List PyData} (h : Ap K H v (.tuple ds)) : ∃ a xs, v = .ref a ∧ SqT K H a xs ∧ TpAll K H xs ds := by
  cases h with
  | t h => exact h.tup_inv
theorem Ap.lst_inv {v : V} {ds : List PyData} (h : Ap K H v (.list ds)) : ∃ a xs, v = .ref a ∧ SqL K H a xs ∧ TpAll K H xs ds := by
  cases h with
  | t h => cases h
  | l a b => exact ⟨_, _, rfl, a, b⟩
theorem Ap.tI_inv {v : V} {ns : List Int} (h : Ap K H v (tI ns)) : ∃ a, v = .ref a ∧ SqT K H a (ns.map V.int) := by
  obtain ⟨a, xs, rfl, h1, h2⟩ := h.tup_inv
  rw [h2.ints] at h1
  exact ⟨a, rfl, h1⟩
theorem Ap.tIT_inv {v : V} {ns : List Int} (h : Ap K H v (tI ns)) : ∃ a, v = .ref a ∧ H a = some (.tup (ns.map V.int)) := by
  obtain ⟨a, xs, rfl, h1, h2⟩ := h.tupT_inv
  rw [h2.ints] at h1
  exact ⟨a, rfl, h1⟩
theorem Ap.lI_inv {v : V} {ns : List Int} (h : Ap K H v (.list (dI ns))) : ∃ a, v = .ref a ∧ SqL K H a (ns.map V.int) := by
  obtain ⟨a, xs, rfl, h1, h2⟩ := h.lst_inv
  rw [h2.ints] at h1
  exact ⟨a, rfl, h1⟩
/-! for the rules of == -/
mutual
theorem Tp.dp : ∀ {v : V} {d : PyData}, Tp K H v d → Dp K H v d
  | _, _, .non => .non
  | _, _, .bl b => .bl b
  | _, _, .int i => .int i
  | _, _, .str x => .str x
  | _, _, .tup h a => .tup (.inl (.inl h)) (TpAll.dp a)
theorem TpAll.dp : ∀ {vs : List V} {ds : List PyData}, TpAll K H vs ds → DpAll K H vs ds
  | _, _, .nil => .nil
  | _, _, .cons h t => .cons (Tp.dp h) (TpAll.dp t)
end
theorem Ap.dp {v : V} {d : PyData} : Ap K H v d → Dp K H v d
  | .t h => h.dp
  | .l h a => .lst h a.dp
/-- no list at the outside -/
def noL : PyData → Bool
  | .list _ => false
  | _ => true
theorem Ap.tp {v : V} {d : PyData} (h : Ap K H v d) (n : noL d = true) : Tp K H v d := by
  cases h with
  | t h => exact h
  | l _ _ => cases n
end

/-! what a reading comes to, whatever is laid meanwhile -/
section
variable (K : PySem.W.Frag)
def Ev (te : TE) (σ : L2.St) (H : Hp) (d : PyData) : Prop := ∀ H1, Same H H1 → ∀ Q : VK, (∀ v H2, Same H1 H2 → Ap K H2 v d → Q v H2) → te σ H1 Q
/-- .. a new list -/
def EvN (te : TE) (σ : L2.St) (H : Hp) (ds : List PyData) : Prop := ∀ H1, Same H H1 → ∀ Q : VK, (∀ p xs H2, H1 p = none → Same H1 H2 → H2 p = some (.lst xs) → TpAll K H2 xs ds → Q (.ref p) H2) → te σ H1 Q
def EvB (tt : TT) (σ : L2.St) (H : Hp) (b : Bool) : Prop := ∀ H1, Same H H1 → ∀ Q : Bool → Hp → Prop, (∀ H2, Same H1 H2 → Q b H2) → tt σ H1 Q
def EvA (ta : TA) (σ : L2.St) (H : Hp) (ds : List PyData) : Prop := ∀ H1, Same H H1 → ∀ Q : List V → Hp → Prop, (∀ vs H2, Same H1 H2 → ApAll K H2 vs ds → Q vs H2) → ta σ H1 Q
/-- a promise that knows data alone: what it is handed, what it asks, what it hands back -/
def spF {α : Type} (dat : α → List PyData) (Pre : α → Prop) (res : α → PyData) : Sp := fun vs H Q _ => ∃ x : α, ApAll K H vs (dat x) ∧ Pre x ∧ ∀ v H', Same H H' → Ap K H' v (res x) → Q v H'
/-- .. a new list -/
def spN {α : Type} (dat : α → List PyData) (Pre : α → Prop) (res : α → List PyData) : Sp := fun vs H Q _ => ∃ x : α, ApAll K H vs (dat x) ∧ Pre x ∧ ∀ p xs H', H p = none → Same H H' → H' p = some (.lst xs) → TpAll K H' xs (res x) → Q (.ref p) H'
end
section
variable {K : PySem.W.Frag} {σ : L2.St} {H H' : Hp} {ta tb tc te : TE} {t u : TT} {d d1 d2 : PyData} {ds es : List PyData}
theorem Ev.mono (e : Same H H') (h : Ev K te σ H d) : Ev K te σ H' d := fun H1 a Q q => h H1 (e.trans a) Q q
theorem EvN.mono (e : Same H H') (h : EvN K te σ H ds) : EvN K te σ H' ds := fun H1 a Q q => h H1 (e.trans a) Q q
theorem EvB.mono {b : Bool} (e : Same H H') (h : EvB t σ H b) : EvB t σ H' b := fun H1 a Q q => h H1 (e.trans a) Q q
theorem EvN.ev (h : EvN K te σ H ds) : Ev K te σ H (.list ds) := fun H1 a Q q => h H1 a Q fun p xs H2 _ e h2 h3 => q _ H2 e (.l (.inl (.inl h2)) h3)
theorem Ev.is (h : Ev K te σ H d1) (e : d1 = d2) : Ev K te σ H d2 := e ▸ h
theorem EvB.is {a b : Bool} (h : EvB t σ H a) (e : a = b) : EvB t σ H b := e ▸ h
theorem ev_var {i : Nat} {v : V} (h : σ[i]? = some (some v)) (hd : Ap K H v d) : Ev K (tVar i) σ H d := fun H1 e _ q => ⟨v, h, q v H1 (Same.refl H1) (hd.same e)⟩
theorem ev_v {i : Nat} {v : V} (hd : Ap K H v d) (h : σ[i]? = some (some v) := by rfl) : Ev K (tVar i) σ H d := ev_var h hd
theorem ev_int {i : Int} : Ev K (tC (.int i)) σ H (.int i) := fun H1 _ _ q => q _ H1 (Same.refl H1) (.t (.int i))
theorem ev_str {i : Str} : Ev K (tC (.str i)) σ H (.str i) := fun H1 _ _ q => q _ H1 (Same.refl H1) (.t (.str i))
theorem ev_bl {i : Bool} : Ev K (tC (.bl i)) σ H (.bool i) := fun H1 _ _ q => q _ H1 (Same.refl H1) (.t (.bl i))
theorem ev_non : Ev K (tC .non) σ H .none := fun H1 _ _ q => q _ H1 (Same.refl H1) (.t .non)
/-- two parts by values -/
theorem ev_op {r : R2} (ha : Ev K ta σ H d1) (hb : Ev K tb σ H d2) (hr : ∀ v u H1, Same H H1 → Ap K H1 v d1 → Ap K H1 u d2 → ∀ Q : VK, (∀ w H2, Same H1 H2 → Ap K H2 w d → Q w H2) → r v u H1 Q) : Ev K (tOp r ta tb) σ H d := fun H1 e Q q =>
  ha H1 e _ fun v H2 e2 hv => hb H2 (e.trans e2) _ fun u H3 e3 hu => hr v u H3 ((e.trans e2).trans e3) (hv.same e3) hu Q fun w H4 e4 hw => q w H4 ((e2.trans e3).trans e4) hw
theorem ev_I0 {g : Int → Int → V} {i j : Int} {G : PyData} (ha : Ev K ta σ H (.int i)) (hb : Ev K tb σ H (.int j)) (hg : ∀ H, Ap K H (g i j) G) : Ev K (tOp (rI0 g) ta tb) σ H G :=
  ev_op ha hb fun v u H1 _ hv hu Q q => ⟨i, j, hv.int_inv, hu.int_inv, q _ H1 (Same.refl H1) (hg H1)⟩
theorem ev_I {C : Int → Int → Prop} {g : Int → Int → V} {i j : Int} {G : PyData} (ha : Ev K ta σ H (.int i)) (hb : Ev K tb σ H (.int j)) (hc : C i j) (hg : ∀ H, Ap K H (g i j) G) : Ev K (tOp (rI C g) ta tb) σ H G :=
  ev_op ha hb fun v u H1 _ hv hu Q q => ⟨i, j, hv.int_inv, hu.int_inv, hc, q _ H1 (Same.refl H1) (hg H1)⟩
theorem ev_add {i j : Int} (ha : Ev K ta σ H (.int i)) (hb : Ev K tb σ H (.int j)) : Ev K (tOp (rI0 fun i j => .int (i + j)) ta tb) σ H (.int (i + j)) := ev_I0 ha hb fun _ => .t (.int _)
theorem ev_sub {i j : Int} (ha : Ev K ta σ H (.int i)) (hb : Ev K tb σ H (.int j)) : Ev K (tOp (rI0 fun i j => .int (i - j)) ta tb) σ H (.int (i - j)) := ev_I0 ha hb fun _ => .t (.int _)
theorem ev_lt {i j : Int} (ha : Ev K ta σ H (.int i)) (hb : Ev K tb σ H (.int j)) : Ev K (tOp (rI0 fun i j => .bl (decide (i < j))) ta tb) σ H (.bool (decide (i < j))) := ev_I0 ha hb fun _ => .t (.bl _)
theorem ev_le {i j : Int} (ha : Ev K ta σ H (.int i)) (hb : Ev K tb σ H (.int j)) : Ev K (tOp (rI0 fun i j => .bl (decide (i ≤ j))) ta tb) σ H (.bool (decide (i ≤ j))) := ev_I0 ha hb fun _ => .t (.bl _)
theorem ev_gt {i j : Int} (ha : Ev K ta σ H (.int i)) (hb : Ev K tb σ H (.int j)) : Ev K (tOp (rI0 fun i j => .bl (decide (j < i))) ta tb) σ H (.bool (decide (j < i))) := ev_I0 ha hb fun _ => .t (.bl _)
theorem ev_ge {i j : Int} (ha : Ev K ta σ H (.int i)) (hb : Ev K tb σ H (.int j)) : Ev K (tOp (rI0 fun i j => .bl (decide (j ≤ i))) ta tb) σ H (.bool (decide (j ≤ i))) := ev_I0 ha hb fun _ => .t (.bl _)
theorem ev_eqI {i j : Int} (ha : Ev K ta σ H (.int i)) (hb : Ev K tb σ H (.int j)) : Ev K (tOp rEq ta tb) σ H (.bool (decide (i = j))) := ev_op ha hb fun v u H1 _ hv hu Q q => by
  obtain rfl := hv.int_inv
  obtain rfl := hu.int_inv
  refine ⟨rfl, q _ H1 (Same.refl H1) ?_⟩
  rw [show decide (V.int i = V.int j) = decide (i = j) by simp]
  exact .t (.bl _)
theorem ev_neI {i j : Int} (ha : Ev K ta σ H (.int i)) (hb : Ev K tb σ H (.int j)) : Ev K (tOp rNe ta tb) σ H (.bool (!decide (i = j))) := ev_op ha hb fun v u H1 _ hv hu Q q => by
  obtain rfl := hv.int_inv
  obtain rfl := hu.int_inv
  refine ⟨rfl, q _ H1 (Same.refl H1) ?_⟩
  rw [show decide (V.int i = V.int j) = decide (i = j) by simp]
  exact .t (.bl _)
theorem ev_eqS {i j : Str} (ha : Ev K ta σ H (.str i)) (hb : Ev K tb σ H (.str j)) : Ev K (tOp rEq ta tb) σ H (.bool (decide (i = j))) := ev_op ha hb fun v u H1 _ hv hu Q q => by
  obtain rfl := hv.str_inv
  obtain rfl := hu.str_inv
  refine ⟨rfl, q _ H1 (Same.refl H1) ?_⟩
  rw [show decide (V.str i = V.str j) = decide (i = j) by simp]
  exact .t (.bl _)
theorem ev_eqB {i j : Bool} (ha : Ev K ta σ H (.bool i)) (hb : Ev K tb σ H (.bool j)) : Ev K (tOp rEq ta tb) σ H (.bool (decide (i = j))) := ev_op ha hb fun v u H1 _ hv hu Q q => by
  obtain rfl := hv.bl_inv
  obtain rfl := hu.bl_inv
  refine ⟨rfl, q _ H1 (Same.refl H1) ?_⟩
  rw [show decide (V.bl i = V.bl j) = decide (i = j) by simp]
  exact .t (.bl _)
theorem ev_eqD (ha : Ev K ta σ H d1) (hb : Ev K tb σ H d2) (h1 : SeqAt.shaped d1 = true) (h2 : SeqAt.shaped d2 = true) : Ev K (tOp (rEqD K) ta tb) σ H (.bool (PyData.eqv d1 d2)) :=
  ev_op ha hb fun v u H1 _ hv hu Q q => ⟨d1, d2, hv.dp, hu.dp, h1, h2, q _ H1 (Same.refl H1) (.t (.bl _))⟩
theorem ev_neD (ha : Ev K ta σ H d1) (hb : Ev K tb σ H d2) (h1 : SeqAt.shaped d1 = true) (h2 : SeqAt.shaped d2 = true) : Ev K (tOp (rNeD K) ta tb) σ H (.bool (!PyData.eqv d1 d2)) :=
  ev_op ha hb fun v u H1 _ hv hu Q q => ⟨d1, d2, hv.dp, hu.dp, h1, h2, q _ H1 (Same.refl H1) (.t (.bl _))⟩
theorem ev_inD (ha : Ev K ta σ H d1) (hb : Ev K tb σ H (.list ds)) (h1 : SeqAt.shaped d1 = true) (h2 : SeqAt.shaped (.list ds) = true) : Ev K (tOp (rInD K) ta tb) σ H (.bool (ds.any fun z => PyData.eqv z d1)) :=
  ev_op ha hb fun v u H1 _ hv hu Q q => ⟨d1, ds, hv.dp, hu.dp, h1, h2, q _ H1 (Same.refl H1) (.t (.bl _))⟩
theorem ev_notInD (ha : Ev K ta σ H d1) (hb : Ev K tb σ H (.list ds)) (h1 : SeqAt.shaped d1 = true) (h2 : SeqAt.shaped (.list ds) = true) : Ev K (tOp (rNotInD K) ta tb) σ H (.bool (!ds.any fun z => PyData.eqv z d1)) :=
  ev_op ha hb fun v u H1 _ hv hu Q q => ⟨d1, ds, hv.dp, hu.dp, h1, h2, q _ H1 (Same.refl H1) (.t (.bl _))⟩
theorem inV_int (i : Int) (ns : List Int) : inV (.int i) (ns.map V.int) = decide (i ∈ ns) := by
  unfold inV
  rw [List.any_map]
  show (ns.any fun y => y == i) = _
  induction ns with
  | nil => simp
  | cons n ns ih => rw [List.any_cons, ih]; simp only [List.mem_cons, eq_comm (a := i) (b := n)]; by_cases h : n = i <;> simp [h]
theorem flat_ints (ns : List Int) : (ns.map V.int).all flatV = true := by
  rw [List.all_map]; exact List.all_eq_true.mpr fun _ _ => rfl
theorem inV_str (i : Str) (ns : List Str) : inV (.str i) (ns.map V.str) = decide (i ∈ ns) := by
  unfold inV
  rw [List.any_map]
  show (ns.any fun y => y == i) = _
  induction ns with
  | nil => simp
  | cons n ns ih => rw [List.any_cons, ih]; simp only [List.mem_cons, eq_comm (a := i) (b := n)]; by_cases h : n = i <;> simp [h]
theorem flat_strs (ns : List Str) : (ns.map V.str).all flatV = true := by
  rw [List.all_map]; exact List.all_eq_true.mpr fun _ _ => rfl
/-- a tuple or a list of ints -/
def sI (l : Bool) (ns : List Int) : PyData := if l then .list (dI ns) else tI ns
theorem Ap.sI_inv {l : Bool} {v : V} {ns : List Int} (h : Ap K H v (sI l ns)) : ∃ a, v = .ref a ∧ (SqL K H a (ns.map V.int) ∨ SqT K H a (ns.map V.int)) := by
  cases l with
  | true => obtain ⟨a, e, h⟩ := Ap.lI_inv (show Ap K H v (.list (dI ns)) from h); exact ⟨a, e, .inl h⟩
  | false => obtain ⟨a, e, h⟩ := Ap.tI_inv (show Ap K H v (tI ns) from h); exact ⟨a, e, .inr h⟩
theorem ev_inS {l : Bool} {i : Int} {ns : List Int} (ha : Ev K ta σ H (.int i)) (hb : Ev K tb σ H (sI l ns)) : Ev K (tOp (rIn K false) ta tb) σ H (.bool (decide (i ∈ ns))) := ev_op ha hb fun v u H1 _ hv hu Q q => by
  obtain rfl := hv.int_inv
  obtain ⟨a, rfl, h⟩ := hu.sI_inv
  refine ⟨a, _, rfl, h, rfl, flat_ints ns, q _ H1 (Same.refl H1) ?_⟩
  rw [if_neg (by decide), inV_int]
  exact .t (.bl _)
theorem ev_niS {l : Bool} {i : Int} {ns : List Int} (ha : Ev K ta σ H (.int i)) (hb : Ev K tb σ H (sI l ns)) : Ev K (tOp (rIn K true) ta tb) σ H (.bool (!decide (i ∈ ns))) := ev_op ha hb fun v u H1 _ hv hu Q q => by
  obtain rfl := hv.int_inv
  obtain ⟨a, rfl, h⟩ := hu.sI_inv
  refine ⟨a, _, rfl, h, rfl, flat_ints ns, q _ H1 (Same.refl H1) ?_⟩
  rw [if_pos rfl, inV_int]
  exact .t (.bl _)
theorem ev_inT {i : Int} {ns : List Int} (ha : Ev K ta σ H (.int i)) (hb : Ev K tb σ H (tI ns)) : Ev K (tOp (rIn K false) ta tb) σ H (.bool (decide (i ∈ ns))) := ev_inS (l := false) ha hb
theorem ev_niT {i : Int} {ns : List Int} (ha : Ev K ta σ H (.int i)) (hb : Ev K tb σ H (tI ns)) : Ev K (tOp (rIn K true) ta tb) σ H (.bool (!decide (i ∈ ns))) := ev_niS (l := false) ha hb
/-! subscripts -/
theorem ev_ixT {j : Nat} (ha : Ev K ta σ H (.tuple ds)) (hb : Ev K tb σ H (.int (j : Int))) (hj : ds[j]? = some d) : Ev K (tOp (rIxT K) ta tb) σ H d := ev_op ha hb fun v u H1 _ hv hu Q q => by
  obtain rfl := hu.int_inv
  obtain ⟨a, xs, rfl, h1, h2⟩ := hv.tup_inv
  obtain ⟨x, e, hx⟩ := h2.getD hj
  exact ⟨a, xs, _, x, rfl, rfl, h1, atI_nat e, q _ H1 (Same.refl H1) (.t hx)⟩
theorem ev_ixL {j : Nat} (ha : Ev K ta σ H (.list ds)) (hb : Ev K tb σ H (.int (j : Int))) (hj : ds[j]? = some d) : Ev K (tOp (rIxL K) ta tb) σ H d := ev_op ha hb fun v u H1 _ hv hu Q q => by
  obtain rfl := hu.int_inv
  obtain ⟨a, xs, rfl, h1, h2⟩ := hv.lst_inv
  obtain ⟨x, e, hx⟩ := h2.getD hj
  exact ⟨a, xs, _, x, rfl, rfl, h1, atI_nat e, q _ H1 (Same.refl H1) (.t hx)⟩
/-! tests -/
theorem eb_test {b : Bool} (h : Ev K te σ H (.bool b)) : EvB (tTest te) σ H b := fun H1 e _ q => h H1 e _ fun v H2 e2 hv => ⟨b, hv.bl_inv, q H2 e2⟩
theorem eb_B {b : Bool} (h : Ev K te σ H (.bool b)) : EvB (tB te) σ H b := fun H1 e _ q => h H1 e _ fun v H2 e2 hv => ⟨b, hv.bl_inv, q H2 e2⟩
theorem eb_yes : EvB tYes σ H true := fun H1 _ _ q => q H1 (Same.refl H1)
theorem eb_and {a b : Bool} (h1 : EvB t σ H a) (h2 : a = true → EvB u σ H b) : EvB (tAnd t u) σ H (a && b) := fun H1 e Q q => h1 H1 e _ fun H2 e2 => by
  cases a with
  | true => exact iteT (h2 rfl H2 (e.trans e2) Q fun H3 e3 => q H3 (e2.trans e3))
  | false => exact iteF (q H2 e2)
theorem eb_or {a b : Bool} (h1 : EvB t σ H a) (h2 : a = false → EvB u σ H b) : EvB (tOr t u) σ H (a || b) := fun H1 e Q q => h1 H1 e _ fun H2 e2 => by
  cases a with
  | true => exact iteT (q H2 e2)
  | false => exact iteF (h2 rfl H2 (e.trans e2) Q fun H3 e3 => q H3 (e2.trans e3))
theorem eb_not {a : Bool} (h1 : EvB t σ H a) : EvB (tNot t) σ H (!a) := fun H1 e _ q => h1 H1 e _ fun H2 e2 => q H2 e2
theorem ev_andV {a b : Bool} (h1 : Ev K ta σ H (.bool a)) (h2 : a = true → Ev K tb σ H (.bool b)) : Ev K (tAndV ta tb) σ H (.bool (a && b)) := fun H1 e Q q => h1 H1 e _ fun v H2 e2 hv => ⟨a, hv.bl_inv, by
  cases a with
  | true => exact iteT (h2 rfl H2 (e.trans e2) Q fun w H3 e3 hw => q w H3 (e2.trans e3) hw)
  | false => exact iteF (q _ H2 e2 (.t (.bl _)))⟩
theorem ev_orV {a b : Bool} (h1 : Ev K ta σ H (.bool a)) (h2 : a = false → Ev K tb σ H (.bool b)) : Ev K (tOrV ta tb) σ H (.bool (a || b)) := fun H1 e Q q => h1 H1 e _ fun v H2 e2 hv => ⟨a, hv.bl_inv, by
  cases a with
  | true => exact iteT (q _ H2 e2 (.t (.bl _)))
  | false => exact iteF (h2 rfl H2 (e.trans e2) Q fun w H3 e3 hw => q w H3 (e2.trans e3) hw)⟩
theorem ev_notV {a : Bool} (h1 : Ev K ta σ H (.bool a)) : Ev K (tNotV ta) σ H (.bool (!a)) := fun H1 e _ q => h1 H1 e _ fun v H2 e2 hv => ⟨a, hv.bl_inv, q _ H2 e2 (.t (.bl _))⟩
theorem ev_if {b : Bool} (h : EvB t σ H b) (h1 : b = true → Ev K ta σ H d) (h2 : b = false → Ev K tb σ H d) : Ev K (tIf t ta tb) σ H d := fun H1 e Q q => h H1 e _ fun H2 e2 => by
  cases b with
  | true => exact iteT (h1 rfl H2 (e.trans e2) Q fun w H3 e3 hw => q w H3 (e2.trans e3) hw)
  | false => exact iteF (h2 rfl H2 (e.trans e2) Q fun w H3 e3 hw => q w H3 (e2.trans e3) hw)
theorem ev_chain {r r' : R2} {a b : Bool} (ha : Ev K ta σ H d) (hb : Ev K tb σ H d1) (hc : Ev K tc σ H d2)
    (h1 : ∀ v u H1, Same H H1 → Ap K H1 v d → Ap K H1 u d1 → ∀ Q : VK, Q (.bl a) H1 → r v u H1 Q) (h2 : a = true → ∀ v u H1, Same H H1 → Ap K H1 v d1 → Ap K H1 u d2 → ∀ Q : VK, Q (.bl b) H1 → r' v u H1 Q) :
    Ev K (tChain r r' ta tb tc) σ H (.bool (a && b)) := fun H1 e Q q =>
  ha H1 e _ fun v H2 e2 hv => hb H2 (e.trans e2) _ fun u H3 e3 hu => h1 v u H3 ((e.trans e2).trans e3) (hv.same e3) hu _ ⟨a, rfl, by
    cases a with
    | true => exact iteT (hc H3 ((e.trans e2).trans e3) _ fun w H4 e4 hw => h2 rfl u w H4 (((e.trans e2).trans e3).trans e4) (hu.same e4) hw _ (q _ H4 ((e2.trans e3).trans e4) (.t (.bl _))))
    | false => exact iteF (q _ H3 (e2.trans e3) (.t (.bl _)))⟩
/-- a chain of two comparisons of ints, told by what they say -/
theorem ev_chainI {g g' : Int → Int → Bool} {i j k : Int} (ha : Ev K ta σ H (.int i)) (hb : Ev K tb σ H (.int j)) (hc : Ev K tc σ H (.int k)) :
    Ev K (tChain (rI0 fun i j => .bl (g i j)) (rI0 fun i j => .bl (g' i j)) ta tb tc) σ H (.bool (g i j && g' j k)) :=
  ev_chain ha hb hc (fun v u H1 _ hv hu Q q => ⟨i, j, hv.int_inv, hu.int_inv, q⟩) fun _ v u H1 _ hv hu Q q => ⟨j, k, hv.int_inv, hu.int_inv, q⟩
/-! arguments, displays -/
theorem ea_nil : EvA K tNil σ H [] := fun H1 _ _ q => q _ H1 (Same.refl H1) .nil
theorem ea_cons {tr : TA} (h : Ev K ta σ H d) (hr : EvA K tr σ H ds) : EvA K (tCons ta tr) σ H (d :: ds) := fun H1 e _ q =>
  h H1 e _ fun v H2 e2 hv => hr H2 (e.trans e2) _ fun vs H3 e3 hvs => q _ H3 (e2.trans e3) (.cons (hv.same e3) hvs)
theorem ApAll.tp {ds : List PyData} : ∀ {vs : List V}, ApAll K H vs ds → ds.all noL = true → TpAll K H vs ds := by
  induction ds with
  | nil => intro vs h _; cases h; exact .nil
  | cons d ds ih =>
    intro vs h n
    rw [List.all_cons, Bool.and_eq_true] at n
    cases h with
    | cons h t => exact .cons (h.tp n.1) (ih t n.2)
theorem ApAll.len : ∀ {vs : List V} {ds : List PyData}, ApAll K H vs ds → vs.length = ds.length
  | _, _, .nil => rfl
  | _, _, .cons _ t => congrArg (· + 1) (ApAll.len t)
theorem ev_tup {t : TA} (h : EvA K t σ H ds) (n : ds.all noL = true) (hl : ds.length ≤ 1000) : Ev K (tTup t) σ H (.tuple ds) := fun H1 e _ q =>
  h H1 e _ fun vs H2 e2 hv => ⟨by rw [hv.len]; exact Nat.le_of_lt (small1000 hl), fun p hp => q _ _ (e2.trans (Same.new hp)) (.t (.tup upd_same ((hv.tp n).same (Same.new hp))))⟩
theorem en_lst {t : TA} (h : EvA K t σ H ds) (n : ds.all noL = true) (hl : ds.length ≤ 1000) : EvN K (tLst t) σ H ds := fun H1 e _ q =>
  h H1 e _ fun vs H2 e2 hv => ⟨by rw [hv.len]; exact Nat.le_of_lt (small1000 hl), fun p hp => q _ vs _ (e2.free hp) (e2.trans (Same.new hp)) upd_same ((hv.tp n).same (Same.new hp))⟩
/-! calls -/
theorem ev_cb {r : List V → Hp → VK → Prop} {t : TA} (h : EvA K t σ H ds) (hr : ∀ vs H1, Same H H1 → ApAll K H1 vs ds → ∀ Q : VK, (∀ w H2, Same H1 H2 → Ap K H2 w d → Q w H2) → r vs H1 Q) : Ev K (tCB r t) σ H d := fun H1 e Q q =>
  h H1 e _ fun vs H2 e2 hv => hr vs H2 (e.trans e2) hv Q fun w H3 e3 hw => q w H3 (e2.trans e3) hw
theorem en_cb {r : List V → Hp → VK → Prop} {t : TA} (h : EvA K t σ H ds) (hr : ∀ vs H1, Same H H1 → ApAll K H1 vs ds → ∀ Q : VK, (∀ p xs H2, H1 p = none → Same H1 H2 → H2 p = some (.lst xs) → TpAll K H2 xs es → Q (.ref p) H2) → r vs H1 Q) : EvN K (tCB r t) σ H es := fun H1 e Q q =>
  h H1 e _ fun vs H2 e2 hv => hr vs H2 (e.trans e2) hv Q fun p xs H3 hp e3 h3 h4 => q p xs H3 (e2.free hp) (e2.trans e3) h3 h4
theorem ev_call {α : Type} {dat : α → List PyData} {Pre : α → Prop} {res : α → PyData} {E : XK} {t : TA} (x : α) (h : EvA K t σ H (dat x)) (hp : Pre x) : Ev K (tCall (spF K dat Pre res) [] E t) σ H (res x) := fun H1 e Q q =>
  h H1 e _ fun vs H2 e2 hv => ⟨x, by rw [List.append_nil]; exact hv, hp, fun v H3 e3 h3 => q v H3 (e2.trans e3) h3⟩
theorem en_call {α : Type} {dat : α → List PyData} {Pre : α → Prop} {res : α → List PyData} {E : XK} {t : TA} (x : α) (h : EvA K t σ H (dat x)) (hp : Pre x) : EvN K (tCall (spN K dat Pre res) [] E t) σ H (res x) := fun H1 e Q q =>
  h H1 e _ fun vs H2 e2 hv => ⟨x, by rw [List.append_nil]; exact hv, hp, fun p xs H3 hp e3 h3 h4 => q p xs H3 (e2.free hp) (e2.trans e3) h3 h4⟩
/-! statements -/
variable {D : Ends} {tu tw : TS}
theorem s_ret (h : Ev K te σ H d) (k : ∀ v H1, Same H H1 → Ap K H1 v d → D.rt v H1) : tRet te D σ H := h H (Same.refl H) _ k
theorem s_retN (h : EvN K te σ H ds) (k : ∀ p xs H1, H p = none → Same H H1 → H1 p = some (.lst xs) → TpAll K H1 xs ds → D.rt (.ref p) H1) : tRet te D σ H := h H (Same.refl H) _ k
theorem s_set {i : Nat} (h : Ev K te σ H d) (k : ∀ v H1, Same H H1 → Ap K H1 v d → D.nx (σ.set i (some v)) H1) : tAsg te (gName i) D σ H := h H (Same.refl H) _ k
theorem s_setN {i : Nat} (h : EvN K te σ H ds) (k : ∀ p xs H1, H p = none → Same H H1 → H1 p = some (.lst xs) → TpAll K H1 xs ds → D.nx (σ.set i (some (.ref p))) H1) : tAsg te (gName i) D σ H := h H (Same.refl H) _ k
theorem s_if {b : Bool} (h : EvB t σ H b) (h1 : b = true → ∀ H1, Same H H1 → tu D σ H1) (h2 : b = false → ∀ H1, Same H H1 → tw D σ H1) : tIfS t tu tw D σ H := h H (Same.refl H) _ fun H1 e => by
  cases b with
  | true => exact iteT (h1 rfl H1 e)
  | false => exact iteF (h2 rfl H1 e)
end
end WB

namespace WB
open PySem PySem.Spec PyProof.Rows L2
/-! the text by places; a def of it; a callee -/
def topS (i : Nat) : Stmt := PySem.Challenge.pw_wishbound_k25_whole_papers_looked_at.main.body.getD i (.Pass ⟨0, 0, 0, 0⟩)
structure Df (K : PySem.W.Frag) (mg : Str → Option Value) (x : Str) (st : Stmt) : Prop where
  ex : ∃ (f : Addr) (fd : FuncData), Fun K x x st f fd ∧ mg x = some (.ref f)
structure Cl (P : Program) (w : World) (K : PySem.W.Frag) (mg : Str → Option Value) (base : Heap) (k : Nat) (x : Str) (sp : Sp) : Prop where
  ex : ∃ (f : Addr) (fd : FuncData) (ps : List Str), FnOk P w K mg base CX0 k f fd ps sp ∧ mg x = some (.ref f) ∧ PySem.W.keepIn K (.ref f) = true ∧ Binds K fd ps []
theorem pe_cl {X : Cx} {k j : Nat} {x : Str} {sp : Sp} {p pos : Pos} {e : Expr} {es : List Expr} {t : TA} (c : Cl X.prog X.w X.K X.mg X.base k x sp) (hr : Room j X.A) (hk : k ≤ j) (hg : Gl X x) (ha : PA X (e :: es) t)
    (hdb : (x == ("__debug__" : Str)) = false := by decide) (he : starEach (e :: es) X.env = (false, eval e X.env) :: starEach es X.env := by rfl) (hpl : (backTo pos (starEach es X.env)).any (·.1) = false := by rfl) :
    PE X (.Call (.Name x p) (e :: es) [] pos) (tCall sp [] E0 t) := by
  obtain ⟨f, fd, ps, F, hm, kp, b⟩ := c.ex
  exact pe_call F (hr.mono hk) hg hm kp b .nil pass0 ha hdb he hpl
section
variable {P : Program} {w : World} {K : PySem.W.Frag} {mg : Str → Option Value} {base : Heap}
/-- a def keeps its promise by its body's term and reading -/
theorem cl_of {x : Str} {st : Stmt} {N ps : List Str} {k : Nat} {sp : Sp} (F : Df K mg x st) (S : FnScope N ps (defScope st))
    (hb : ∀ (kV doc pm : Value) (an : Option Addr) (cdv ct : Value) (us : List Value), us.length = ps.length → bindArgs (PySem.W.fnOf x x (defArgs st) (defBody st) (defScope st) .none kV doc pm an cdv ct) ⟨us, []⟩ = pure (ps.zip us))
    (len : ∀ vs H Q E, sp vs H Q E → vs.length = ps.length)
    (hbody : ∀ (f : Addr) (cdv : Value) (A : Around) (outer : List Env) (s : Shared) (H : Hp) (vs : List V) (Q : VK) (E : XK), Room k (A.deeper (envOfC x (defScope st) s.heap.objs.size f cdv)) → sp vs H Q E →
      ∃ t, PSs (cxOf CX0 P w K mg base N x (defScope st) f cdv A outer s H E).nox (defBody st) t ∧ t { nx := fun _ H' => Q .non H', rt := Q } (start N vs) H) : Cl P w K mg base (k + 1) x sp := by
  obtain ⟨f, fd, F1, hm⟩ := F.ex
  exact ⟨f, fd, ps, F1.ok S len fun cdv A outer s H vs Q E hr h => hbody f cdv A outer s H vs Q E hr h, hm, F1.kp, F1.binds hb⟩
theorem ApAll.one {H : Hp} {vs : List V} {d : PyData} (h : ApAll K H vs [d]) : ∃ v, vs = [v] ∧ Ap K H v d := by
  cases h with
  | cons h t => cases t; exact ⟨_, rfl, h⟩
theorem ApAll.two {H : Hp} {vs : List V} {d e : PyData} (h : ApAll K H vs [d, e]) : ∃ v u, vs = [v, u] ∧ Ap K H v d ∧ Ap K H u e := by
  cases h with
  | cons h t => obtain ⟨u, rfl, h2⟩ := t.one; exact ⟨_, _, rfl, h, h2⟩
theorem ApAll.three {H : Hp} {vs : List V} {d e f : PyData} (h : ApAll K H vs [d, e, f]) : ∃ v u w, vs = [v, u, w] ∧ Ap K H v d ∧ Ap K H u e ∧ Ap K H w f := by
  cases h with
  | cons h t => obtain ⟨u, w, rfl, h2, h3⟩ := t.two; exact ⟨_, _, _, rfl, h, h2, h3⟩
end
/-- the names of the module and its built-ins -/
structure Mg (mg : Str → Option Value) : Prop where
  b_len : mg "len" = none
  b_sorted : mg "sorted" = none
  b_list : mg "list" = none
  b_tuple : mg "tuple" = none
  b_range : mg "range" = none
  b_enumerate : mg "enumerate" = none
  b_sum : mg "sum" = none
  b_max : mg "max" = none
  b_min : mg "min" = none
  b_abs : mg "abs" = none
  b_int : mg "int" = none
  b_bool : mg "bool" = none
  b_isinstance : mg "isinstance" = none
  cMARKS : ∃ t, mg "MARKS" = some (.int 10 t)
  cDEEDS : ∃ t, mg "DEEDS" = some (.int 16 t)
  cCOST : ∃ t, mg "COST" = some (.int 99 t)
  cLETTERS : ∃ t, mg "LETTERS" = some (.int 6 t)
  cSMALL : ∃ t, mg "SMALL" = some (.str "abcdefghijklmnopqrstuvwxyz" t)
theorem pe_gI {X : Cx} {x : Str} {i : Int} {pos : Pos} (hg : Gl X x) (hm : ∃ t, X.mg x = some (.int i t)) (hd : (x == ("__debug__" : Str)) = false := by decide) : PE X (.Name x pos) (tC (.int i)) :=
  ⟨fun pins s σ H Q I h => let ⟨t, e⟩ := hm; (pe_glob hg e (v := .int i) ⟨_, rfl⟩ hd).run pins s σ H Q I h⟩
theorem pe_gS {X : Cx} {x : Str} {i : Str} {pos : Pos} (hg : Gl X x) (hm : ∃ t, X.mg x = some (.str i t)) (hd : (x == ("__debug__" : Str)) = false := by decide) : PE X (.Name x pos) (tC (.str i)) :=
  ⟨fun pins s σ H Q I h => let ⟨t, e⟩ := hm; (pe_glob hg e (v := .str i) ⟨_, rfl⟩ hd).run pins s σ H Q I h⟩
theorem hu65 {A : Around} {k : Nat} (hr : Room k A) : A.units + 65 < cLine := by have := hr.un; omega

/-! comprehensions of data -/
section
variable {K : PySem.W.Frag} {σ : L2.St} {H : Hp} {te tl : TE} {tt : TT}
theorem sizeK {n m : Nat} (h : n < m) (hm : m ≤ 100000) : n < sizeLine := Nat.lt_of_lt_of_le h (Nat.le_trans hm (by decide))
theorem fm_take {α β : Type} (f : α → Option β) {l : List α} {i : Nat} {x : α} (h : l[i]? = some x) : (l.take (i + 1)).filterMap f = (l.take i).filterMap f ++ (f x).toList := by
  rw [List.take_add_one, h, List.filterMap_append]
  cases hf : f x <;> simp [hf]
/-- the turn of a comprehension over what stands still -/
theorem lc_step {α : Type} {emb : α → PyData} {D : Addr} {f : α → Option PyData} {zs : List α} {xs : List V} {H0 : Hp} {vs : List Nat} {σ : L2.St} {i : Nat} {x : V} {H' : Hp} {j : Nat} (hD : H0 D = none) (hl : zs.length ≤ 100000)
    (hx : TpAll K H0 xs (zs.map emb)) (hw : wipe ((wipe σ vs).set j (some x)) vs = wipe σ vs)
    (hs : ∀ z ∈ zs, ∀ x H', Same H0 H' → Tp K H' x (emb z) → EvB tt ((wipe σ vs).set j (some x)) H' (f z).isSome ∧ ∀ r, f z = some r → noL r = true ∧ Ev K te ((wipe σ vs).set j (some x)) H' r)
    (hi : xs[i]? = some x) (hp : ∃ acc, Same H0 H' ∧ H' D = some (.lst acc) ∧ TpAll K H' acc ((zs.take i).filterMap f)) :
    gName j x (wipe σ vs) H' fun σ2 H2 => wipe σ2 vs = wipe σ vs ∧ tt σ2 H2 fun b H3 =>
      if b = true then te σ2 H3 fun y H4 => ∃ acc, H4 D = some (.lst acc) ∧ acc.length < sizeLine ∧ (fun H' => ∃ acc, Same H0 H' ∧ H' D = some (.lst acc) ∧ TpAll K H' acc ((zs.take (i + 1)).filterMap f)) (upd H4 D (.lst (acc ++ [y])))
      else (fun H' => ∃ acc, Same H0 H' ∧ H' D = some (.lst acc) ∧ TpAll K H' acc ((zs.take (i + 1)).filterMap f)) H3 := by
  obtain ⟨acc, sm, eD, ta⟩ := hp
  obtain ⟨d, hd, tx⟩ := hx.get hi
  rw [List.getElem?_map] at hd
  obtain ⟨z, hz, rfl⟩ := Option.map_eq_some_iff.mp hd
  have hm : z ∈ zs := List.mem_of_getElem? hz
  obtain ⟨h1, h2⟩ := hs z hm x H' sm (tx.same sm)
  have hfm := fm_take f hz
  have hil : i < zs.length := (List.getElem?_eq_some_iff.mp hz).1
  refine ⟨hw, h1 H' (Same.refl H') _ fun H3 e3 => ?_⟩
  cases hf : f z with
  | none =>
    refine iteF ⟨acc, sm.trans e3, e3 _ _ eD, ?_⟩
    rw [hfm, hf]
    simpa using ta.same e3
  | some r =>
    refine iteT ((h2 r hf).2 H3 e3 _ fun y H4 e4 hy => ⟨acc, e4 _ _ (e3 _ _ eD), ?_, _, Same.mut ((sm.trans e3).trans e4) hD, upd_same, ?_⟩)
    · rw [ta.len]
      refine Nat.lt_of_le_of_lt (List.length_filterMap_le _ _) ?_
      rw [List.length_take]
      exact sizeK (by omega) hl
    · rw [hfm, hf]
      have m : Tm H4 (upd H4 D (.lst (acc ++ [y]))) := Tm.updL (e4 _ _ (e3 _ _ eD))
      exact ((ta.same e3).same e4 |>.tm m).app (.cons ((hy.tp (h2 r hf).1).tm m) .nil)
theorem en_lcT {α : Type} {emb : α → PyData} {j : Nat} {vs : List Nat} {zs : List α} (f : α → Option PyData) (h : Ev K tl σ H (.tuple (zs.map emb))) (hl : zs.length ≤ 100000) (hw : ∀ x, wipe ((wipe σ vs).set j (some x)) vs = wipe σ vs)
    (hs : ∀ z ∈ zs, ∀ x H', Same H H' → Tp K H' x (emb z) → EvB tt ((wipe σ vs).set j (some x)) H' (f z).isSome ∧ ∀ r, f z = some r → noL r = true ∧ Ev K te ((wipe σ vs).set j (some x)) H' r) :
    EvN K (tLc (iTup K tl) (gName j) tt te vs) σ H (zs.filterMap f) := fun H1 e Q q =>
  h H1 e _ fun v H2 e2 hv => by
    obtain ⟨a, xs, rfl, hq, hx⟩ := hv.tup_inv
    have hxl : xs.length = zs.length := by rw [hx.len, List.length_map]
    refine ⟨a, rfl, ⟨xs, hq⟩, fun D hD => lc_tup (xs := xs) (fun i H' => ∃ acc, Same H2 H' ∧ H' D = some (.lst acc) ∧ TpAll K H' acc ((zs.take i).filterMap f)) ⟨[], Same.new hD, upd_same, .nil⟩ (fun i H' _ ⟨_, sm, _⟩ => sm.sqT hq) (fun i x H' hi hp => ?_) fun H' ⟨acc, sm, eD, ta⟩ => ?_⟩
    · exact lc_step hD hl hx (hw x) (fun d hd x H' sm => hs d hd x H' ((e.trans e2).trans sm)) hi hp
    · rw [hxl, List.take_length] at ta
      exact q D acc H' (e2.free hD) (e2.trans sm) eD ta
theorem en_lcL {α : Type} {emb : α → PyData} {j : Nat} {vs : List Nat} {zs : List α} (f : α → Option PyData) (h : Ev K tl σ H (.list (zs.map emb))) (hl : zs.length ≤ 100000) (hw : ∀ x, wipe ((wipe σ vs).set j (some x)) vs = wipe σ vs)
    (hs : ∀ z ∈ zs, ∀ x H', Same H H' → Tp K H' x (emb z) → EvB tt ((wipe σ vs).set j (some x)) H' (f z).isSome ∧ ∀ r, f z = some r → noL r = true ∧ Ev K te ((wipe σ vs).set j (some x)) H' r) :
    EvN K (tLc (iList K tl) (gName j) tt te vs) σ H (zs.filterMap f) := fun H1 e Q q =>
  h H1 e _ fun v H2 e2 hv => by
    obtain ⟨a, xs, rfl, hq, hx⟩ := hv.lst_inv
    have hxl : xs.length = zs.length := by rw [hx.len, List.length_map]
    refine ⟨a, rfl, ⟨xs, hq⟩, fun D hD => lc_list (xs := xs) (fun i H' => ∃ acc, Same H2 H' ∧ H' D = some (.lst acc) ∧ TpAll K H' acc ((zs.take i).filterMap f)) ⟨[], Same.new hD, upd_same, .nil⟩ (fun i H' _ ⟨_, sm, _⟩ => sm.seq hq) (fun i x H' hi hp => ?_) fun H' ⟨acc, sm, eD, ta⟩ => ?_⟩
    · exact lc_step hD hl hx (hw x) (fun d hd x H' sm => hs d hd x H' ((e.trans e2).trans sm)) hi hp
    · rw [hxl, List.take_length] at ta
      exact q D acc H' (e2.free hD) (e2.trans sm) eD ta
/-- told by a test and a map -/
def fmOf {α : Type} (p : α → Bool) (g : α → PyData) (a : α) : Option PyData := if p a = true then some (g a) else none
theorem fmOf_list {α : Type} (p : α → Bool) (g : α → PyData) : ∀ zs : List α, zs.filterMap (fmOf p g) = (zs.filter p).map g
  | [] => rfl
  | z :: zs => by
    rw [List.filterMap_cons, List.filter_cons, fmOf_list p g zs]
    unfold fmOf
    cases h : p z <;> simp [h]
theorem fmOf_step {α : Type} {p : α → Bool} {g : α → PyData} {z : α} {σ : L2.St} {H' : Hp} (h : EvB tt σ H' (p z) ∧ (p z = true → noL (g z) = true ∧ Ev K te σ H' (g z))) :
    EvB tt σ H' (fmOf p g z).isSome ∧ ∀ r, fmOf p g z = some r → noL r = true ∧ Ev K te σ H' r := by
  unfold fmOf
  cases e : p z with
  | true =>
    rw [e] at h
    refine ⟨by simpa using h.1, fun r hr => ?_⟩
    rw [if_pos rfl] at hr
    cases hr
    exact h.2 rfl
  | false =>
    rw [e] at h
    refine ⟨by simpa using h.1, fun r hr => ?_⟩
    rw [if_neg (by decide)] at hr
    cases hr
theorem en_fT {α : Type} {emb : α → PyData} {j : Nat} {vs : List Nat} {zs : List α} (p : α → Bool) (g : α → PyData) (h : Ev K tl σ H (.tuple (zs.map emb))) (hl : zs.length ≤ 100000) (hw : ∀ x, wipe ((wipe σ vs).set j (some x)) vs = wipe σ vs)
    (hs : ∀ z ∈ zs, ∀ x H', Same H H' → Ap K H' x (emb z) → EvB tt ((wipe σ vs).set j (some x)) H' (p z) ∧ (p z = true → noL (g z) = true ∧ Ev K te ((wipe σ vs).set j (some x)) H' (g z))) :
    EvN K (tLc (iTup K tl) (gName j) tt te vs) σ H ((zs.filter p).map g) := fmOf_list p g zs ▸ en_lcT (fmOf p g) h hl hw fun z hz x H' e ht => fmOf_step (hs z hz x H' e (.t ht))
theorem en_fL {α : Type} {emb : α → PyData} {j : Nat} {vs : List Nat} {zs : List α} (p : α → Bool) (g : α → PyData) (h : Ev K tl σ H (.list (zs.map emb))) (hl : zs.length ≤ 100000) (hw : ∀ x, wipe ((wipe σ vs).set j (some x)) vs = wipe σ vs)
    (hs : ∀ z ∈ zs, ∀ x H', Same H H' → Ap K H' x (emb z) → EvB tt ((wipe σ vs).set j (some x)) H' (p z) ∧ (p z = true → noL (g z) = true ∧ Ev K te ((wipe σ vs).set j (some x)) H' (g z))) :
    EvN K (tLc (iList K tl) (gName j) tt te vs) σ H ((zs.filter p).map g) := fmOf_list p g zs ▸ en_lcL (fmOf p g) h hl hw fun z hz x H' e ht => fmOf_step (hs z hz x H' e (.t ht))
theorem eqv_nil (ds : List PyData) : PyData.eqv (.list ds) (.list []) = ds.isEmpty := by
  cases ds <;> rfl
end

/-! the layer's rules with the written part named: for blocks of comprehensions -/
section
variable (K : PySem.W.Frag) {X : Cx}
theorem k_in (h : X.K = K := by rfl) : OpR X (compareOp .In) (rIn K false) := by subst h; exact op_in_seq
theorem k_notIn (h : X.K = K := by rfl) : OpR X (compareOp .NotIn) (rIn K true) := by subst h; exact op_notIn_seq
theorem k_eqD (hu : X.A.units + 64 < cLine) (h : X.K = K := by rfl) : OpR X (compareOp .Eq) (rEqD K) := by subst h; exact op_eqD hu
theorem k_neD (hu : X.A.units + 64 < cLine) (h : X.K = K := by rfl) : OpR X (compareOp .NotEq) (rNeD K) := by subst h; exact op_neD hu
theorem k_inD (hu : X.A.units + 65 < cLine) (h : X.K = K := by rfl) : OpR X (compareOp .In) (rInD K) := by subst h; exact op_inD hu
theorem k_notInD (hu : X.A.units + 65 < cLine) (h : X.K = K := by rfl) : OpR X (compareOp .NotIn) (rNotInD K) := by subst h; exact op_notInD hu
theorem k_ixL (h : X.K = K := by rfl) : IxR X (rIxL K) := by subst h; exact ix_list
theorem k_ixT (h : X.K = K := by rfl) : IxR X (rIxT K) := by subst h; exact ix_tup
theorem k_slL (h : X.K = K := by rfl) : SlR X (rSlL K) := by subst h; exact sl_list
theorem k_slT (h : X.K = K := by rfl) : SlR X (rSlT K) := by subst h; exact sl_tup
def rLenQ : List V → Hp → VK → Prop := fun xs H Q => ∃ p ys, xs = [.ref p] ∧ (SqL K H p ys ∨ SqT K H p ys) ∧ Q (.int ys.length) H
def rListQ : List V → Hp → VK → Prop := fun xs H Q => ∃ p ys, xs = [.ref p] ∧ (SqL K H p ys ∨ SqT K H p ys) ∧ ∀ l, H l = none → Q (.ref l) (upd H l (.lst ys))
def rTupQ : List V → Hp → VK → Prop := fun xs H Q => ∃ p ys, xs = [.ref p] ∧ ((SqL K H p ys ∧ ∀ l, H l = none → Q (.ref l) (upd H l (.tup ys))) ∨ (SqT K H p ys ∧ Q (.ref p) H))
theorem k_len (h : X.K = K := by rfl) : CallR X (.builtin "len") (rLenQ K) := by subst h; exact call_len_seq
theorem k_listOf (h : X.K = K := by rfl) : CallR X (.type "list") (rListQ K) := by subst h; exact call_list_of
theorem k_tupOf (h : X.K = K := by rfl) : CallR X (.type "tuple") (rTupQ K) := by subst h; exact call_tuple_of
theorem k_sum (hc : X.calm = true) (h : X.K = K := by rfl) : CallR X (.builtin "sum") (rSum K) := by subst h; exact cr_sum hc
theorem k_max (hc : X.calm = true) (h : X.K = K := by rfl) : CallR X (.builtin "max") (rMax K) := by subst h; exact cr_max hc
theorem k_sorted (h : X.K = K := by rfl) : CallR X (.builtin "sorted") (rSorted K) := by subst h; exact cr_sorted
theorem k_catA (h : X.K = K := by rfl) : OpR X (binaryOp .Add) (rCatA K) := by subst h; exact op_catA
theorem k_isi (h : X.K = K := by rfl) : CallR X (.builtin "isinstance") (rIsi K) := by subst h; exact call_isi
theorem k_tup {tg l : Expr} {tl : TE} (hl : PE X l tl) (h : X.K = K := by rfl) : PI X tg l (iTup K tl) := by subst h; exact pi_tup hl
variable {K}
theorem ev_len {t : TA} {σ : L2.St} {H : Hp} {ds : List PyData} {d : PyData} (h : EvA K t σ H [d]) (hd : d = .tuple ds ∨ d = .list ds) : Ev K (tCB (rLenQ K) t) σ H (.int ds.length) :=
  ev_cb h fun vs H1 _ hv Q q => by
    obtain ⟨v, rfl, hw⟩ := hv.one
    rcases hd with rfl | rfl
    · obtain ⟨a, xs, rfl, hq, hx⟩ := hw.tup_inv
      exact ⟨a, xs, rfl, .inr hq, hx.len ▸ q _ H1 (Same.refl H1) (.t (.int _))⟩
    · obtain ⟨a, xs, rfl, hq, hx⟩ := hw.lst_inv
      exact ⟨a, xs, rfl, .inl hq, hx.len ▸ q _ H1 (Same.refl H1) (.t (.int _))⟩
theorem en_list {t : TA} {σ : L2.St} {H : Hp} {ds : List PyData} {d : PyData} (h : EvA K t σ H [d]) (hd : d = .tuple ds ∨ d = .list ds) : EvN K (tCB (rListQ K) t) σ H ds :=
  en_cb h fun vs H1 _ hv Q q => by
    obtain ⟨v, rfl, hw⟩ := hv.one
    rcases hd with rfl | rfl
    · obtain ⟨a, xs, rfl, hq, hx⟩ := hw.tup_inv
      exact ⟨a, xs, rfl, .inr hq, fun l hl => q l xs _ hl (Same.new hl) upd_same (hx.same (Same.new hl))⟩
    · obtain ⟨a, xs, rfl, hq, hx⟩ := hw.lst_inv
      exact ⟨a, xs, rfl, .inl hq, fun l hl => q l xs _ hl (Same.new hl) upd_same (hx.same (Same.new hl))⟩
theorem ev_tupOf {t : TA} {σ : L2.St} {H : Hp} {ds : List PyData} (h : EvA K t σ H [.list ds]) : Ev K (tCB (rTupQ K) t) σ H (.tuple ds) :=
  ev_cb h fun vs H1 _ hv Q q => by
    obtain ⟨v, rfl, hw⟩ := hv.one
    obtain ⟨a, xs, rfl, hq, hx⟩ := hw.lst_inv
    exact ⟨a, xs, rfl, .inl ⟨hq, fun l hl => q _ _ (Same.new hl) (.t (.tup upd_same (hx.same (Same.new hl))))⟩⟩
theorem ev_sum {t : TA} {σ : L2.St} {H : Hp} {ns : List Int} (h : EvA K t σ H [.list (dI ns)]) : Ev K (tCB (rSum K) t) σ H (.int ns.sum) :=
  ev_cb h fun vs H1 _ hv Q q => by
    obtain ⟨v, rfl, hw⟩ := hv.one
    obtain ⟨a, rfl, hq⟩ := hw.lI_inv
    exact ⟨a, ns, rfl, hq, q _ H1 (Same.refl H1) (.t (.int _))⟩
theorem ev_max {t : TA} {σ : L2.St} {H : Hp} {ns : List Int} {m : Int} (h : EvA K t σ H [.list (dI ns)]) (h0 : 0 < ns.length) (hm : ∀ k, k ∈ ns → (∀ y, y ∈ ns → y ≤ k) → k = m) : Ev K (tCB (rMax K) t) σ H (.int m) :=
  ev_cb h fun vs H1 _ hv Q q => by
    obtain ⟨v, rfl, hw⟩ := hv.one
    obtain ⟨a, rfl, hq⟩ := hw.lI_inv
    exact ⟨a, ns, rfl, hq, h0, fun k h1 h2 => hm k h1 h2 ▸ q _ H1 (Same.refl H1) (.t (.int _))⟩
theorem en_sorted {t : TA} {σ : L2.St} {H : Hp} {ns ms : List Int} (h : EvA K t σ H [.list (dI ns)]) (h0 : ns.length < 64) (hm : ∀ ks : List Int, ks.Perm ns → ks.Pairwise (· ≤ ·) → ks = ms) : EvN K (tCB (rSorted K) t) σ H (dI ms) :=
  en_cb h fun vs H1 _ hv Q q => by
    obtain ⟨v, rfl, hw⟩ := hv.one
    obtain ⟨a, rfl, hq⟩ := hw.lI_inv
    exact ⟨a, ns, rfl, hq, h0, fun ks p h1 h2 hp => hm ks h1 h2 ▸ q p _ _ hp (Same.new hp) upd_same (TpAll.ofInts _)⟩
theorem ev_catA {ta tb : TE} {σ : L2.St} {H : Hp} {ds es : List PyData} (ha : Ev K ta σ H (.tuple ds)) (hb : Ev K tb σ H (.tuple es)) (hl : ds.length + es.length ≤ 1000) : Ev K (tOp (rCatA K) ta tb) σ H (.tuple (ds ++ es)) :=
  ev_op ha hb fun v u H1 _ hv hu Q q => by
    obtain ⟨a, xs, rfl, hq, hx⟩ := hv.tupT_inv
    obtain ⟨b, ys, rfl, hr, hy⟩ := hu.tupT_inv
    refine ⟨a, b, xs, ys, rfl, rfl, .inl (.inl hq), .inl (.inl hr), by rw [hx.len, hy.len]; exact Nat.le_of_lt (small1000 hl), fun z => ?_, fun _ z => ?_, fun _ _ p hp => ?_⟩
    · subst z
      cases hx
      exact q _ H1 (Same.refl H1) (.t (.tup hr hy))
    · subst z
      cases hy
      rw [List.append_nil] at q
      exact q _ H1 (Same.refl H1) (.t (.tup hq hx))
    · exact q _ _ (Same.new hp) (.t (.tup upd_same ((hx.same (Same.new hp)).app (hy.same (Same.new hp)))))
/-- two new lists put together -/
theorem en_cat {ta tb : TE} {σ : L2.St} {H : Hp} {ds es : List PyData} (ha : EvN K ta σ H ds) (hb : EvN K tb σ H es) (hl : ds.length + es.length ≤ 1000) : EvN K (tOp rCat ta tb) σ H (ds ++ es) := fun H1 e Q q =>
  ha H1 e _ fun p xs H2 hp e2 h2 hx => hb H2 (e.trans e2) _ fun r ys H3 hr e3 h3 hy =>
    ⟨p, r, xs, ys, rfl, rfl, e3 _ _ h2, h3, by rw [hx.len, hy.len]; exact Nat.le_of_lt (small1000 hl), fun l hl => q l _ _ (e2.free (e3.free hl)) ((e2.trans e3).trans (Same.new hl)) upd_same (((hx.same e3).same (Same.new hl)).app (hy.same (Same.new hl)))⟩
variable (K)
theorem k_list {tg l : Expr} {tl : TE} (hl : PE X l tl) (h : X.K = K := by rfl) : PI X tg l (iList K tl) := by subst h; exact pi_list hl
theorem k_gtup {es : List Expr} {k : Nat} {pos : Pos} {t : TGs} {n : Nat} (hc : X.calm = true) (h : PGs X es t) (hn : (assignEach es X.env).length = n := by rfl) (hst : (assignEach es X.env).findIdx? (·.1) = none := by rfl) (hK : X.K = K := by rfl) :
    PG X (.Tuple es k pos) (gTup K n t) := by subst hK; exact pg_tup hc h hn hst
end
end WB

/-! sets of ints: the comprehension, the union -/
namespace WB
open PySem PySem.Spec PyProof.Rows L2

/-- the object that newSet lays -/
abbrev bareSet (w : World) : Obj := { cls := .type "set", dict := none, data := .set #[] 0 (.fresh 0 0 (!w.params.followText "set-order")) }
abbrev noInt : Int → Bool := fun _ => false
abbrev withInt (S : Int → Bool) (k : Int) : Int → Bool := fun j => S j || decide (j = k)
section
variable {X : Cx} {pins : List (Addr × Obj)} {σ : L2.St} {H : Hp} {s : Shared}
theorem addI_ok {E : Value → Shared → Prop} {D : Addr} {S : Int → Bool} {n : Nat} {k : Int} {t : Tok} {Q : Value → Shared → Prop} (I : Inv X pins σ H s) (hD : H D = some (SetO X.w D S n)) (room : n + 1 < scanBound)
    (h : ∀ s', Inv X pins σ (upd H D (SetO X.w D (withInt S k) (if S k = true then n else n + 1))) s' → Q .none s') : wpAny (model X.prog X.w) X.A (call (.builtin "set.add") [.ref D, .int k t]) Q E s := by
  refine setR_add (setO_get I hD) room fun h' sb r => h _ ?_
  obtain ⟨o, _, _, _, ho, _⟩ := id r
  exact I.write (e := D) (t' := s.toks + 1) (by rw [hD]; trivial) (.inl rfl) (fun b u hb hu => (sb.2 b hb).trans hu) ⟨o, ho⟩ (setO_new r)
/-- a new set is laid and tracked -/
theorem layI_ok {E : Value → Shared → Prop} {Q : Value → Shared → Prop} (I : Inv X pins σ H s)
    (h : ∀ s', s' = { s with heap := s.heap.push (bareSet X.w) } → H s.heap.objs.size = none → Inv X pins σ (upd H s.heap.objs.size (SetO X.w s.heap.objs.size noInt 0)) s' → Q (.ref s.heap.objs.size) s') :
    wpAny (model X.prog X.w) X.A (newSet (.type "set")) Q E s :=
  PpSet.newSet_ok (h _ rfl (I.hok.fresh (Nat.le_refl _)) (I.laid (t' := s.toks) (fun b o e => Heap.get?_push_of_some _ e) (Nat.le_refl _) (setO_new (setR_fresh X.w))))
end

section
variable {X : Cx}
/-- {elt for target in iter if ..}, elt an int -/
def tScI (w : World) (wi : TI) (g : TG) (tt : TT) (te : TE) (vs : List Nat) : TE := fun σ H Q => wi σ H fun J H1 => ∀ D, H1 D = none →
  ∃ W : Nat → Nat → Hp → Prop, (∃ m, W 0 m (upd H1 D (SetO w D noInt 0))) ∧ ∀ i m H, W i m H → (J.stop i H ∧ Q (.ref D) H) ∨
    (J.go i H ∧ ∃ Nx : Hp → Prop, (∀ H', Nx H' → ∃ m', m' < m ∧ W (i + 1) m' H') ∧ ∀ x H', J.yld i H x H' → g x (wipe σ vs) H' fun σ2 H2 => wipe σ2 vs = wipe σ vs ∧ tt σ2 H2 fun b H3 =>
      if b = true then te σ2 H3 fun y H4 => ∃ (k : Int) (S : Int → Bool) (n : Nat), y = .int k ∧ H4 D = some (SetO w D S n) ∧ n + 1 < scanBound ∧ Nx (upd H4 D (SetO w D (withInt S k) (if S k = true then n else n + 1)))
      else Nx H3)
set_option maxHeartbeats 8000000 in
theorem pe_scI {elt tg iter : Expr} {ifs : List Expr} {scope : Scope} {own : List (PySem.Str × Nat)} {pos : Pos} {wi : TI} {g : TG} {tt : TT} {te : TE} (hc : X.calm = true) (hN : X.N.Nodup) (hi : PI X tg iter wi) (ok : BlkOk X.N X.env.scope scope own)
    (hg : ∀ (s : Shared) (H : Hp) (C : Addr) (cl : List (PySem.Str × Addr)) (fp : List Addr), PG (X.blk s H scope (compEnvC scope cl C X.env) fp) tg g)
    (ht : ∀ (s : Shared) (H : Hp) (C : Addr) (cl : List (PySem.Str × Addr)) (fp : List Addr), PTs (X.blk s H scope (compEnvC scope cl C X.env) fp) ifs tt)
    (he : ∀ (s : Shared) (H : Hp) (C : Addr) (cl : List (PySem.Str × Addr)) (fp : List Addr), PE (X.blk s H scope (compEnvC scope cl C X.env) fp) elt te)
    (hs : ∀ x, foldedSetIterable iter X.env x = pure x := by intro _; rfl) : PE X (.SetComp elt [⟨tg, iter, ifs, 0⟩] scope pos) (tScI X.w wi g tt te (own.map (·.2))) := by
  refine ⟨fun pins s σ H Q I h => ?_⟩
  rw [PpSet.eval_SetComp]
  have caps : ∀ y ∈ scope.names, y.2 = .free → ∃ c, X.env.cells.lookup y.1 = some c := fun y hy e => (ok.free y hy e).elim (fun z => I.ok.has _ (.inl z)) fun z => I.ok.has _ (.inr z)
  refine wpAny_comprehension_free (use := none) rfl hs (closure_ok caps) ok.kind (fun y hy e => by rw [ok.uniq y hy, e]) (thn (hi.run pins s σ H _ I h) fun xv s1 hx => thn hx fun itv s2 hy => ?_)
  obtain ⟨it, fp, tn, J, H2, rfl, I2, T, st2, f2, q⟩ := hy
  refine layI_ok I2 fun s3 e3 hDn I3 => newEnv_comp ?_
  have h3 : s3.heap = s2.heap.push (bareSet X.w) := by rw [e3]
  obtain ⟨W, ⟨m0, w0⟩, turn⟩ := q _ hDn
  generalize hD : s2.heap.objs.size = D at hDn I3 w0 turn ⊢
  have young : ∀ b ∈ fp, b < D := fun b hb => let ⟨o, e, _⟩ := T.obj _ _ st2 b hb; hD ▸ Heap.lt_size e
  generalize hG : upd H2 D (SetO X.w D noInt 0) = G at I3 w0 ⊢
  have f3 : ∀ b ∈ fp, FpOk X pins G b ∧ b < s3.heap.objs.size := fun b hb =>
    ⟨⟨by rw [← hG, upd_ne (Nat.ne_of_lt (young b hb))]; exact (f2 b hb).1, (f2 b hb).2⟩, by rw [h3, Heap.size_push, hD]; exact Nat.lt_succ_of_lt (young b hb)⟩
  have st3 : tn 0 s3.heap := T.keep _ _ _ st2 fun b _ o e => by rw [h3]; exact Heap.get?_push_of_some _ e
  have I4 := block_start I3 ok hN f3
  generalize hC : s3.heap.objs.size = C at I4
  generalize hcl : cellsFrom (C + 1) scope.names (cloFrom X.env.cells scope.names []) = cl at I4
  have pg := hg s3 G C cl fp
  have pt := ht s3 G C cl fp
  have pe := he s3 G C cl fp
  show codeAny _ _ (.compStart (.SetComp elt [⟨tg, iter, ifs, 0⟩] scope pos) 0 (.ref it) (.ref D) (compEnvC scope cl C X.env)) (compPost (model X.prog X.w) X.A X.xe none _ (.ref D) C)
    { s3 with heap := pushCells (s3.heap.push { cls := .type "dict", data := .dict #[] }) scope.names }
  generalize hce : compEnvC scope cl C X.env = ce at I4 pg pt pe ⊢
  have cL : ce.locals = C := by subst hce; rfl
  generalize hs4 : ({ s3 with heap := pushCells (s3.heap.push { cls := .type "dict", data := .dict #[] }) scope.names } : Shared) = s4 at I4 ⊢
  have st4 : tn 0 s4.heap := T.keep _ _ _ st3 fun b _ o e => by rw [← hs4]; exact pushCells_keeps _ _ _ _ (Heap.get?_push_of_some _ e)
  have fY : ∀ {σ' : L2.St} {H' : Hp} {s' : Shared}, Inv (X.blk s3 G scope ce fp) [] σ' H' s' → (∀ b ∈ fp, H' b = none) → ∀ b ∈ fp, FpOk (X.blk s3 G scope ce fp) [] H' b := fun {σ' H' s'} I' hn b hb => by
    exact ⟨hn b hb, (I'.ok.exf b hb).1, I'.ok.exfs b hb, .inl hb, fun x c e => (I'.ok.exf b hb).2 x c e, fun p hp => by cases hp⟩
  have loop : codeAny (model X.prog X.w) X.A (.compLoop (.SetComp elt [⟨tg, iter, ifs, 0⟩] scope pos) 0 (.ref it) (.ref D) ce) (compPost (model X.prog X.w) X.A X.xe none (EP X pins σ Q) (.ref D) C) s4 := by
    refine PpSet.compLoopS_any (fun n s' => ∃ i H', Inv (X.blk s3 G scope ce fp) [] (wipe σ (own.map (·.2))) H' s' ∧ tn i s'.heap ∧ (∀ b ∈ fp, H' b = none) ∧ W i n H') ?_ m0 ⟨0, G, I4, st4, fun b hb => (f3 b hb).1.1, w0⟩
    rintro n s5 ⟨i, H5, I5, st5, n5, w5⟩
    rcases turn i n H5 w5 with ⟨stop, done⟩ | ⟨go, Nx, hNx, step⟩
    · refine thnF (T.done (X.blk s3 G scope ce fp) rfl rfl rfl hc i [] s5 _ H5 (fun _ _ => False) I5 (fY I5 n5) st5 stop) fun r s6 ⟨hr, I6⟩ => ?_
      subst hr
      obtain ⟨m, hn, _⟩ := id I6.loc
      have fr := I6.free
      rw [show (X.blk s3 G scope ce fp).env.locals = C from cL] at hn fr
      have I7 : Inv X pins σ H5 s6 := I3.call' (ch := fp) I6.os I6.base I6.hok I6.bare fun b hb => ⟨(f3 b hb).1.2.2.2.1, (f3 b hb).1.2.1, (f3 b hb).1.2.2.2.2.1, (f3 b hb).1.2.2.2.2.2⟩
      obtain ⟨g0, g1, g2, g3, g4, g5⟩ := I3.fpOk (Nat.le_of_eq hC) fr
      exact ⟨m, hn, fun h'' sb => ⟨.ref D, H5, I7.turned (t' := s6.toks) (fun b o hb e => (sb.2 b hb).trans e) g0 g1 g3 g4 g5, rfl, done⟩⟩
    · refine thnF (T.item (X.blk s3 G scope ce fp) rfl rfl rfl hc i [] s5 _ H5 (fun _ _ => False) I5 (fY I5 n5) st5 go) fun r s6 ⟨u, hr, h6⟩ => ?_
      subst hr
      refine thnF h6 fun _ s7 ⟨x, H7, I7, r7, y7, st7, n7⟩ => ?_
      have J7 := I7.pinned (fY I7 n7) (T.obj _ _ st7)
      refine thnF (pg.run _ s7 _ H7 x u _ J7 r7 (step x H7 y7)) fun _ s8 ⟨σ8, H8, I8, hw8, q8⟩ => ?_
      refine thnF (pt.run _ s8 σ8 H8 _ I8 q8) fun b s9 ⟨H9, I9, q9⟩ => ?_
      have fin : ∀ {s' : Shared} {H' : Hp}, Inv (X.blk s3 G scope ce fp) ([] ++ pinsAt fp s7.heap) σ8 H' s' → Nx H' → ∃ m, m < n ∧ ∃ i H', Inv (X.blk s3 G scope ce fp) [] (wipe σ (own.map (·.2))) H' s' ∧ tn i s'.heap ∧ (∀ b ∈ fp, H' b = none) ∧ W i m H' := fun {s' H'} I' nx => by
        obtain ⟨m', hm, w'⟩ := hNx H' nx
        have hold : ∀ b ∈ fp, ∀ o, s7.heap.get? b = some o → s'.heap.get? b = some o ∧ H' b = none := fun b hb o e =>
          have z := I'.pin (b, o) (List.mem_append_right _ (List.mem_append_right _ (mem_pinsAt hb e)))
          ⟨z.1, z.2.1⟩
        refine ⟨m', hm, i + 1, H', (I'.unpinned (pins := [])).weak (by rw [← hw8, wipe_length]) (fun j v e => (wipe_some (by rw [hw8]; exact e)).1), T.keep _ _ _ st7 fun b hb o e => (hold b hb o e).1, fun b hb => ?_, w'⟩
        obtain ⟨o, e, _⟩ := T.obj _ _ st7 b hb
        exact (hold b hb o e).2
      cases b with
      | false => exact fin I9 q9
      | true =>
        have q9' : te σ8 H9 _ := q9
        refine thnF (pe.run _ s9 σ8 H9 _ I9 q9') fun z s10 ⟨yv, H10, I10, r10, k, S, n', ey, hD', hz, nx⟩ => ?_
        subst ey
        obtain ⟨t, rfl⟩ : ∃ t, z = Value.int k t := r10
        exact @addI_ok (X.blk s3 G scope ce fp) _ _ _ _ _ _ _ _ _ _ _ I10 hD' hz fun s11 I11 => fin I11 nx
  exact PpSet.codeAny_compStart_set loop (T.self X.A 0 _ _ _ st4 loop)
end
end WB

/-! the union of two sets of small ints -/
namespace WB
open PySem PySem.Spec PyProof.Rows L2

/-! ### a clean table of small hashes: each sits at home -/
def Small (hs : List Int) : Prop := hs.Nodup ∧ ∀ h ∈ hs, 0 ≤ h ∧ h < 8
theorem bits_small {h : Int} (h0 : 0 ≤ h) (h8 : h < 8) : SetTable.bits h = h.toNat := by
  unfold SetTable.bits
  rw [Int.emod_eq_of_lt h0 (by omega)]
structure Home (m : Nat) (done : List Int) (owner : Array (Option Nat)) : Prop where
  sz : owner.size = m + 1
  at_ : ∀ j k, j ≤ m → (oAt owner j = some k ↔ done[k]? = some (j : Int))
theorem Home.start (m : Nat) : Home m [] (Array.replicate (m + 1) none) := ⟨by simp, fun j k hj => by rw [oAt_init hj]; simp⟩
theorem free_home {m : Nat} {owner : Array (Option Nat)} {i p : Nat} (h : oAt owner i = none) : SetTable.layClean.free m owner (SetTable.turns m) i p = some i := by
  have e : SetTable.turns m = (m + 14) + 1 := rfl
  rw [e]
  unfold SetTable.layClean.free
  have le : i ≤ SetTable.runEnd m i := by unfold SetTable.runEnd; split <;> omega
  obtain ⟨c, hc⟩ : ∃ c, SetTable.runEnd m i + 1 - i = c + 1 := ⟨SetTable.runEnd m i - i, by omega⟩
  rw [hc, List.range_succ_eq_map, List.find?_cons]
  have hi : (owner.getD (i + 0) (some 0)).isNone = true := by
    have : owner.getD i (some 0) = none := h
    rw [Nat.add_zero, this]; rfl
  rw [hi]
  rfl
theorem Home.next {m : Nat} (hm : 7 ≤ m) {done : List Int} {owner : Array (Option Nat)} (W : Home m done owner) {h : Int} (h0 : 0 ≤ h) (h8 : h < 8) (hn : h ∉ done) :
    SetTable.layClean.free m owner (SetTable.turns m) (SetTable.bits h % (m + 1)) (SetTable.bits h) = some h.toNat ∧ Home m (done ++ [h]) (owner.setIfInBounds h.toNat (some done.length)) := by
  have hb := bits_small h0 h8
  have hlt : h.toNat ≤ m := by omega
  have hj : oAt owner h.toNat = none := by
    cases z : oAt owner h.toNat with
    | none => rfl
    | some k =>
      have q := (W.at_ _ _ hlt).1 z
      rw [show ((h.toNat : Nat) : Int) = h by omega] at q
      exact absurd (List.mem_of_getElem? q) hn
  have hs : h.toNat < owner.size := by rw [W.sz]; omega
  refine ⟨?_, by rw [Array.size_setIfInBounds]; exact W.sz, fun j k hjm => ?_⟩
  · rw [hb, Nat.mod_eq_of_lt (by omega)]
    exact free_home hj
  · by_cases c : j = h.toNat
    · subst c
      rw [oAt_set_self _ hs]
      constructor
      · intro e
        cases e
        rw [List.getElem?_append_right (Nat.le_refl _), Nat.sub_self]
        simp; omega
      · intro e
        by_cases hk : k < done.length
        · rw [List.getElem?_append_left hk] at e
          rw [show ((h.toNat : Nat) : Int) = h by omega] at e
          exact absurd (List.mem_of_getElem? e) hn
        · have : k < (done ++ [h]).length := (List.getElem?_eq_some_iff.mp e).1
          rw [List.length_append, List.length_singleton] at this
          rw [show done.length = k by omega]
    · rw [oAt_set_ne _ c, W.at_ _ _ hjm]
      by_cases hk : k < done.length
      · rw [List.getElem?_append_left hk]
      · rw [List.getElem?_eq_none (by omega)]
        constructor
        · intro e; cases e
        · intro e
          have hk2 : k < (done ++ [h]).length := (List.getElem?_eq_some_iff.mp e).1
          rw [List.length_append, List.length_singleton] at hk2
          obtain rfl : k = done.length := by omega
          rw [List.getElem?_append_right (Nat.le_refl _), Nat.sub_self] at e
          simp at e
          omega
theorem home_fold {m : Nat} (hm : 7 ≤ m) : ∀ (rest done : List Int) (owner : Array (Option Nat)), Home m done owner → Small (done ++ rest) →
    ∃ owner', rest.foldl (stepF m) (some (owner, done.length)) = some (owner', (done ++ rest).length) ∧ Home m (done ++ rest) owner'
  | [], done, owner, W, _ => ⟨owner, by rw [List.append_nil] <;> rfl, by rw [List.append_nil]; exact W⟩
  | h :: rest, done, owner, W, S => by
    have hr := S.2 h (by simp)
    have hn : h ∉ done := fun z => by
      have := (List.nodup_append.mp S.1).2.2 h z h (by simp)
      exact this rfl
    obtain ⟨e, W'⟩ := W.next hm hr.1 hr.2 hn
    have ea : done ++ [h] ++ rest = done ++ h :: rest := by rw [List.append_assoc] <;> rfl
    obtain ⟨owner', f, W2⟩ := home_fold hm rest (done ++ [h]) _ W' (by rw [ea]; exact S)
    rw [ea] at f W2
    rw [List.length_append, List.length_singleton] at f
    exact ⟨owner', by rw [List.foldl_cons, stepF_some e]; exact f, W2⟩
theorem layClean_small {m : Nat} (hm : 7 ≤ m) {hs : Array Int} (S : Small hs.toList) : ∃ owner, SetTable.layClean m hs = some owner ∧ Home m hs.toList owner := by
  obtain ⟨owner, f, W⟩ := home_fold hm hs.toList [] _ (Home.start m) (by rw [List.nil_append]; exact S)
  rw [List.nil_append] at f W
  refine ⟨owner, ?_, W⟩
  have f' : hs.toList.foldl (stepF m) (some (Array.replicate (m + 1) none, 0)) = _ := f
  rw [layClean_eq, f'] <;> rfl
theorem laid_small {m : Nat} (hm : 7 ≤ m) {hs : Array Int} (S : Small hs.toList) (fg mv : Nat) (ld pl : Bool) :
    ∃ t order, SetTable.laid m fg mv ld pl hs = some (t, order) ∧ order.toList.Perm (List.range hs.size) ∧ Ris t.place.toList ∧ t.place.size = hs.size ∧ t.mask = m ∧ t.led = ld ∧ t.dummies = #[] := by
  obtain ⟨owner, e, W⟩ := layClean_small hm S
  have hl : SetTable.laid m fg mv ld pl hs = some ({ mask := m, place := ((liveOf m owner).map (·.1)).toArray, dummies := #[], finger := fg, led := ld, moves := mv, plain := pl }, ((liveOf m owner).map (·.2)).toArray) := by
    unfold SetTable.laid
    rw [e] <;> rfl
  have ris := ris_live (fun j => owner.getD j none) (List.range (m + 1)) (by unfold Ris; exact List.pairwise_lt_range)
  have nd : ((liveOf m owner).map (·.1)).Nodup := List.Pairwise.imp (fun h => Nat.ne_of_lt h) ris.1
  have mem : ∀ k, k < hs.size → k ∈ (liveOf m owner).map (·.2) := fun k hk => by
    have hk' : k < hs.toList.length := by rw [Array.length_toList]; exact hk
    have hr := S.2 _ (List.getElem_mem hk')
    refine List.mem_map.mpr ⟨((hs.toList[k]).toNat, k), (mem_live W.sz).2 ⟨by omega, (W.at_ _ _ (by omega)).2 ?_⟩, rfl⟩
    rw [List.getElem?_eq_getElem hk', show (((hs.toList[k]).toNat : Nat) : Int) = hs.toList[k] by omega]
  have hlen : (liveOf m owner).length = hs.size := by
    have a := nat_nodup_len ((liveOf m owner).map (·.1)) (hs.toList.map (·.toNat)) nd fun x hx => by
      obtain ⟨⟨y, k⟩, hq, rfl⟩ := List.mem_map.mp hx
      obtain ⟨b1, b2⟩ := (mem_live W.sz).1 hq
      exact List.mem_map.mpr ⟨_, List.mem_of_getElem? ((W.at_ _ _ b1).1 b2), by simp⟩
    have b := nat_nodup_len (List.range hs.size) ((liveOf m owner).map (·.2)) List.nodup_range fun k hk => mem k (List.mem_range.mp hk)
    have a' : (liveOf m owner).length ≤ hs.size := by simpa using a
    have b' : hs.size ≤ (liveOf m owner).length := by simpa using b
    omega
  refine ⟨_, _, hl, perm_range hs.size _ (by simpa using hlen) fun k hk => by simpa using mem k hk, ris.1, by simpa using hlen, rfl, rfl, rfl⟩
theorem range_read {α : Type} : ∀ l : List α, (List.range l.length).filterMap (l[·]?) = l
  | [] => rfl
  | x :: l => by
    rw [List.length_cons, List.range_succ_eq_map, List.filterMap_cons, List.filterMap_map]
    show x :: (List.range l.length).filterMap (l[·]?) = _
    rw [range_read l]
/-- the elements in another order -/
theorem order_perm {α : Type} (es : Array α) {order : Array Nat} (h : order.toList.Perm (List.range es.size)) : (order.filterMap (es[·]?)).toList.Perm es.toList := by
  rw [Array.toList_filterMap]
  refine (h.filterMap _).trans ?_
  have q : (List.range es.size).filterMap (es[·]?) = (List.range es.toList.length).filterMap (es.toList[·]?) := by simp
  rw [q, range_read]
end WB

namespace WB
open PySem PySem.Spec PyProof.Rows L2
/-- what stands at a set's address -/
def SetF (w : World) (h : Heap) (a : Addr) (es : Array (Int × Value)) (t : SetTable) : Prop :=
  ∃ o ep, h.get? a = some o ∧ o.ExactSet ∧ o.data = .set es ep t ∧ (∀ e ∈ es.toList, GoodE e) ∧ (es.toList.map keyOf).Nodup ∧ es.size < scanBound ∧ t.fits es.size = true ∧ Ris t.place.toList ∧ (w.params.followText "set-order" = true ∨ t.led = true)
def SmallE (es : Array (Int × Value)) : Prop := ∀ e ∈ es.toList, 0 ≤ keyOf e ∧ keyOf e < 8
theorem SetF.of {w : World} {h : Heap} {a : Addr} {S : Int → Bool} {n : Nat} (R : SetR w h a S n) : ∃ es t, SetF w h a es t ∧ (∀ k, S k = true ↔ k ∈ es.toList.map keyOf) ∧ es.size = n := by
  obtain ⟨o, es, ep, t, a1, a2, a3, a4, a5, a6, a7, a8, a9, a10, a11⟩ := R
  exact ⟨es, t, ⟨o, ep, a1, a2, a3, a4, a5, a7, a8, a10, a11⟩, a6, a9⟩
theorem SetF.r {w : World} {h : Heap} {a : Addr} {es : Array (Int × Value)} {t : SetTable} (F : SetF w h a es t) {S : Int → Bool} (hS : ∀ k, S k = true ↔ k ∈ es.toList.map keyOf) : SetR w h a S es.size := by
  obtain ⟨o, ep, a1, a2, a3, a4, a5, a6, a7, a8, a9⟩ := F
  exact ⟨o, es, ep, t, a1, a2, a3, a4, a5, hS, a6, a7, rfl, a8, a9⟩
theorem hash_small {k : Int} (h0 : 0 ≤ k) (h8 : k < 8) : hashInt k = k := by
  have : k = 0 ∨ k = 1 ∨ k = 2 ∨ k = 3 ∨ k = 4 ∨ k = 5 ∨ k = 6 ∨ k = 7 := by omega
  rcases this with h | h | h | h | h | h | h | h <;> subst h <;> decide +kernel
theorem hashes_small {es : Array (Int × Value)} (g : ∀ e ∈ es.toList, GoodE e) (nd : (es.toList.map keyOf).Nodup) (S : SmallE es) : Small (es.map (·.1)).toList := by
  have e : (es.map (·.1)).toList = es.toList.map keyOf := by
    rw [Array.toList_map]
    apply List.map_congr_left
    intro x hx
    obtain ⟨k, tk, h1, h2⟩ := g x hx
    have hk : keyOf x = k := by unfold keyOf; rw [h1]
    have := S x hx
    rw [hk] at this ⊢
    rw [h2, hash_small this.1 this.2]
  rw [e]
  refine ⟨nd, fun h hh => ?_⟩
  obtain ⟨x, hx, rfl⟩ := List.mem_map.mp hh
  exact S x hx
section
variable {P : Program} {w : World} {A : Around} {E : Value → Shared → Prop} {s : Shared} {a b : Addr} {es : Array (Int × Value)} {t : SetTable}
theorem SetF.state {Q : (Array (Int × Value) × Nat × SetTable) → Shared → Prop} (F : SetF w s.heap a es t) (h : ∀ ep, Q (es, ep, t) s) : wpAny (model P w) A (setState a) Q E s := by
  obtain ⟨o, ep, a1, a2, a3, a4, a5, a6, a7, a8, a9⟩ := F
  exact wpAny_setState_of a1 a3 a7 (h ep)
theorem sizeAbove_ge (n : Nat) : 8 ≤ SetTable.sizeAbove n := by
  have key : ∀ f sz, sz ≤ SetTable.sizeAbove.go n f sz := by
    intro f
    induction f with
    | zero => intro sz; exact Nat.le_refl _
    | succ f ih => 
      intro sz
      unfold SetTable.sizeAbove.go
      split
      · exact Nat.le_trans (by omega) (ih (sz * 2))
      · exact Nat.le_refl _
  exact key 64 8
/-- another table, the same elements -/
theorem SetF.store {es' : Array (Int × Value)} {t' : SetTable} {Q : Unit → Shared → Prop} (F : SetF w s.heap a es t) (g : ∀ e ∈ es'.toList, GoodE e) (nd : (es'.toList.map keyOf).Nodup) (sz : es'.size < scanBound) (fit : t'.fits es'.size = true) (ri : Ris t'.place.toList)
    (ld : w.params.followText "set-order" = true ∨ t'.led = true) (h : ∀ h', Heap.SameBut a s.heap h' → SetF w h' a es' t' → Q () { s with heap := h' }) : wpAny (model P w) A (storeSet a es' t') Q E s := by
  obtain ⟨o, ep, a1, a2, a3, a4, a5, a6, a7, a8, a9⟩ := F
  refine wpAny_storeSet_of a1 a3 (h _ (Heap.SameBut.update s.heap a _) ?_) (fits_of_scanBound sz)
  exact ⟨_, ep + 1, store_at a1 a3, a2, rfl, g, nd, sz, fit, ri, ld⟩
theorem fits_of {t : SetTable} {n m : Nat} (h : t.place.size = n) (hd : t.dummies = #[]) (hm : t.mask = m) (hn : n ≤ m) : t.fits n = true := by
  unfold SetTable.fits SetTable.fill
  rw [hd, h, hm]
  simpa using hn
/-- room is made: perhaps another order, perhaps another table -/
theorem room_ok {more : Nat} {Q : Unit → Shared → Prop} (F : SetF w s.heap a es t) (S : SmallE es) (hm : es.size + more ≤ 16)
    (h : ∀ h' es' t', Heap.SameBut a s.heap h' → SetF w h' a es' t' → es'.toList.Perm es.toList → ((es.size = 0 → 7 ≤ t.mask) → es'.size = 0 → 7 ≤ t'.mask) → Q () { s with heap := h' }) :
    wpAny (model P w) A (setRoomFor a more) Q E s := by
  unfold setRoomFor
  refine wpAny_bind (F.state fun ep => ?_)
  dsimp only
  cases hr : t.roomFor more with
  | none => exact wpAny_pure (h s.heap es t (Heap.SameBut.refl _ _) F (List.Perm.refl _) fun z => z)
  | some wanted =>
    dsimp only
    obtain ⟨o, ep0, a1, a2, a3, a4, a5, a6, a7, a8, a9⟩ := id F
    have hw : wanted = (t.place.size + more) * 2 := by
      unfold SetTable.roomFor at hr
      split at hr
      · exact (Option.some.inj hr).symm
      · cases hr
    have hps : t.place.size = es.size := by
      unfold SetTable.fits at a7
      simpa using (Bool.and_eq_true_iff.mp a7).1
    have hsa := sizeAbove_ge wanted
    have hsb : SetTable.sizeAbove wanted ≤ 64 ∧ wanted < SetTable.sizeAbove wanted := by
      rw [hps] at hw
      have : wanted ≤ 32 := by omega
      clear hr hsa hw
      have key : ∀ n, n < 33 → SetTable.sizeAbove n ≤ 64 ∧ n < SetTable.sizeAbove n := by decide +kernel
      exact key wanted (by omega)
    unfold setRelay
    refine wpAny_bind (F.state fun ep => ?_)
    dsimp only
    rw [if_neg (by have : (64 : Nat) ≤ sizeLine := by decide
                   omega)]
    obtain ⟨t', order, e1, e2, e3, e4, e5, e6, e7⟩ := laid_small (m := SetTable.sizeAbove wanted - 1) (by omega) (hashes_small a4 a5 S) t.finger (t.movedTo (SetTable.sizeAbove wanted - 1)) t.led t.plain
    have e1' : t.relaid (es.map (·.1)) wanted = some (t', order) := e1
    rw [e1']
    have pm : (order.filterMap (es[·]?)).toList.Perm es.toList := order_perm es (by simpa using e2)
    have hsz : (order.filterMap (es[·]?)).size = es.size := by rw [← Array.length_toList, pm.length_eq, Array.length_toList]
    have e4' : t'.place.size = es.size := by simpa using e4
    refine wpAny_bind ?_
    refine wpAny_mono (Q := fun r s' => r = (order.filterMap (es[·]?), t') ∧ s' = s) ?_ (fun r s' hr' => ?_) fun _ _ z => z
    · wp_delta
      dsimp only
      rw [hsz]
      simp only [bne_self_eq_false, Bool.false_eq_true, if_false]
      exact wpAny_pure ⟨rfl, rfl⟩
    · obtain ⟨rfl, rfl⟩ := hr'
      dsimp only
      refine F.store (fun e he => a4 e (pm.mem_iff.mp he)) ((pm.map keyOf).nodup_iff.mpr a5) (by rw [hsz]; exact a6) ?_ e3 (a9.imp id fun z => by rw [e6]; exact z) fun h' sb F' => h h' _ t' sb F' pm fun _ _ => by rw [e5]; omega
      rw [hsz]; exact fits_of e4' e7 e5 (by rw [hps] at hw; omega)
/-! walking a set that nobody sees -/
variable {eb : Array (Int × Value)} {tb : SetTable} {epb : Nat} {ob : Obj}
theorem walk_ok {Q : Array (Int × Value) → Shared → Prop} (hb : s.heap.get? b = some ob) (hd : ob.data = .set eb epb tb) (F : SetF w s.heap b eb tb)
    (h : ∀ out d, out.toList.Perm eb.toList → Q out { s with drawn := d }) : wpAny (model P w) A (setWalk b) Q E s := by
  obtain ⟨o, ep, a1, a2, a3, a4, a5, a6, a7, a8, a9⟩ := id F
  obtain rfl : ob = o := Option.some.inj (hb.symm.trans a1)
  unfold setWalk
  refine wpAny_bind (wpAny_setState_of hb hd a7 ?_)
  dsimp only
  refine wpAny_bind (wpAny_byText ?_)
  by_cases ht : w.params.followText "set-order" = true
  · refine wp_if_pos ht ?_
    exact wpAny_bind (wpAny_askSetting (wpAny_pure (h _ s.drawn (pick_perm _ _))))
  · refine wp_if_neg ht ?_
    try refine wpAny_bind (wpAny_pure ?_)
    have hl : tb.led = true := a9.elim (fun z => absurd z ht) id
    by_cases hp : (!tb.plain && decide (eb.size > 1)) = true
    · refine wp_if_pos hp ?_
      exact wpAny_bind (drawOrder_at _ _ _ _ (Nat.le_of_eq (Array.length_toList)) fun ys d pm => wpAny_pure (h _ d (by simpa using pm)))
    · refine wp_if_neg hp ?_
      try refine wpAny_bind (wpAny_pure ?_)
      refine wpAny_bind (wpAny_of_eq (a := ()) ?_ (wpAny_pure (h _ s.drawn (List.Perm.refl _))))
      show (if (!tb.led && decide (eb.size > 1)) = true then unsupported "set:maker-not-led" else pure ()) = pure ()
      rw [hl] <;> rfl
theorem quiet_ok {Q : Bool → Shared → Prop} (F : SetF w s.heap b eb tb) (G : SetF w s.heap a es t) (h : Q true s) : wpAny (model P w) A (setsQuiet [b, a]) Q E s := by
  unfold setsQuiet
  refine wpAny_bind (wpAny_forIn_list _ (fun l r s' => s' = s ∧ r.1 = none ∧ ∀ c ∈ l, ∃ ec tc, SetF w s.heap c ec tc) _ ?_ ?_ [b, a] (none, ()) ⟨rfl, rfl, ?_⟩)
  · rintro c l r s' ⟨rfl, hr, hl⟩
    obtain ⟨ec, tc, Fc⟩ := hl c List.mem_cons_self
    unfold setEntries
    refine wpAny_bind (wpAny_bind (Fc.state fun ep => wpAny_pure ?_))
    obtain ⟨o, ep, a1, a2, a3, a4, a5, a6, a7, a8, a9⟩ := id Fc
    refine wpAny_bind (PySem.MeetsSeq2.wpAny_forIn_array _ (fun l' r' s1 => s1 = s' ∧ r'.1 = none ∧ ∀ e ∈ l', GoodE e) _ ?_ ?_ ec (none, ()) ⟨rfl, rfl, fun e he => a4 e he⟩)
    · rintro ⟨hh, x⟩ l' r' s' ⟨rfl, hr', hl'⟩
      obtain ⟨k, tk, e1, e2⟩ := hl' _ List.mem_cons_self
      have ex : x = .int k tk := e1
      subst ex
      exact wpAny_pure ⟨rfl, rfl, fun e he => hl' e (List.mem_cons_of_mem _ he)⟩
    · rintro ⟨r1, r2⟩ s' ⟨rfl, hr', _⟩
      obtain rfl : r1 = none := hr'
      exact wpAny_pure ⟨rfl, rfl, fun e he => hl e (List.mem_cons_of_mem _ he)⟩
  · rintro ⟨r1, r2⟩ s' ⟨rfl, hr', _⟩
    obtain rfl : r1 = none := hr'
    exact wpAny_pure h
  · intro c hc
    rcases List.mem_cons.mp hc with rfl | hc
    · exact ⟨_, _, F⟩
    · obtain rfl := List.mem_singleton.mp hc
      exact ⟨_, _, G⟩
theorem fits_led {t : SetTable} {n : Nat} {x y : Bool} (h : t.fits n = true) : ({ t with led := x, plain := y } : SetTable).fits n = true := h
theorem unseen_ok {Q : Array (Int × Value) → Shared → Prop} (hb : s.heap.get? b = some ob) (hd : ob.data = .set eb epb tb) (F : SetF w s.heap b eb tb) (G : SetF w s.heap a es t) (hab : a ≠ b)
    (h : ∀ h' d t' out, Heap.SameBut a s.heap h' → SetF w h' a es t' → out.toList.Perm eb.toList → Q out { s with heap := h', drawn := d }) : wpAny (model P w) A (setWalkUnseen b [a] (some a)) Q E s := by
  obtain ⟨o, ep, a1, a2, a3, a4, a5, a6, a7, a8, a9⟩ := id F
  have plain : wpAny (model P w) A (setWalk b) Q E s := walk_ok hb hd F fun out d pm => h s.heap d t out (Heap.SameBut.refl _ _) G pm
  unfold setWalkUnseen
  refine wpAny_bind (F.state fun ep => ?_)
  dsimp only
  refine wpAny_bind (wpAny_byText ?_)
  by_cases hq : (w.params.followText "set-order" || (tb.led && tb.plain) || decide (eb.size ≤ 1)) = true
  · exact wp_if_pos hq plain
  · refine wp_if_neg hq ?_
    try refine wpAny_bind (wpAny_pure ?_)
    refine wpAny_bind (quiet_ok F G ?_)
    refine wp_if_neg (by simp) ?_
    try refine wpAny_bind (wpAny_pure ?_)
    refine wpAny_bind (wpAny_rule ?_)
    refine wpAny_bind (G.state fun ep => ?_)
    dsimp only
    have ht : ¬ w.params.followText "set-order" = true := fun z => hq (by rw [z]; rfl)
    have hl : tb.led = true := a9.elim (fun z => absurd z ht) id
    obtain ⟨o', ep', b1, b2, b3, b4, b5, b6, b7, b8, b9⟩ := id G
    have hl' : t.led = true := b9.elim (fun z => absurd z ht) id
    split
    · refine wpAny_bind (G.store b4 b5 b6 (fits_led b7) b8 (.inr (by show (t.led && tb.led) = true; rw [hl, hl']; rfl)) fun h' sb G' => ?_)
      exact wpAny_pure (h h' s.drawn _ eb sb G' (List.Perm.refl _))
    · first | exact wpAny_pure (h s.heap s.drawn t eb (Heap.SameBut.refl _ _) G (List.Perm.refl _)) | exact wpAny_bind (wpAny_pure (wpAny_pure (h s.heap s.drawn t eb (Heap.SameBut.refl _ _) G (List.Perm.refl _))))
/-- one by one -/
theorem ones_ok {each : Sem Unit} {S0 : Int → Bool} {n0 : Nat} {Q : Unit → Shared → Prop} (hb : s.heap.get? b = some ob) (hd : ob.data = .set eb epb tb) (F : SetF w s.heap b eb tb) (hab : a ≠ b)
    (heach : ∀ s1 (Q' : Unit → Shared → Prop), s1.heap.get? b = some ob → Q' () s1 → wpAny (model P w) A each Q' E s1)
    (out : Array (Int × Value)) (pm : out.toList.Perm eb.toList) (R : SetR w s.heap a S0 n0) (hn : n0 + eb.size < scanBound)
    (h : ∀ h' n', Heap.SameBut a s.heap h' → n' ≤ n0 + eb.size → SetR w h' a (fun k => S0 k || decide (k ∈ eb.toList.map keyOf)) n' → Q () { s with heap := h' }) :
    wpAny (model P w) A (forIn out PUnit.unit fun x r => do
        let _ ← holding [x.2] (setAddHashed a x.2 x.1)
        each
        let st ← setState b
        if (st.2.1 != epb) = true then do
          unsupported "set.changed-during-merge"
          pure (ForInStep.yield PUnit.unit)
        else pure (ForInStep.yield PUnit.unit)) (fun _ s' => wpAny (model P w) A (pure ()) Q E s') E s := by
  obtain ⟨o, ep, a1, a2, a3, a4, a5, a6, a7, a8, a9⟩ := id F
  refine PySem.MeetsSeq2.wpAny_forIn_array _ (fun l _ s' => ∃ h' n' S', s' = { s with heap := h' } ∧ Heap.SameBut a s.heap h' ∧ SetR w h' a S' n' ∧ n' + l.length ≤ n0 + eb.size ∧ (∀ e ∈ l, GoodE e) ∧ ∀ k, (S' k = true ∨ k ∈ l.map keyOf) ↔ (S0 k = true ∨ k ∈ eb.toList.map keyOf)) _ ?_ ?_ out _ ⟨s.heap, n0, S0, rfl, Heap.SameBut.refl _ _, R, ?_, fun e he => a4 e (pm.mem_iff.mp he), fun k => ?_⟩
  · rintro ⟨hh, x⟩ l r s' ⟨h', n', S', rfl, sb, R', hl, g, mem⟩
    obtain ⟨k, tk, e1, e2⟩ := g _ List.mem_cons_self
    have ex : x = .int k tk := e1
    have eh : hh = (intKind P w).hash k := e2
    subst ex
    subst eh
    rw [List.length_cons] at hl
    dsimp only
    refine wpAny_bind (wpAny_holding (setR_add_hashed (s := { s with heap := h' }) R' (by omega) fun h2 sb2 R2 => ?_))
    have hb2 : h2.get? b = some ob := (sb2.2 b (Ne.symm hab)).trans ((sb.2 b (Ne.symm hab)).trans hb)
    refine wpAny_bind (heach _ _ hb2 ?_)
    refine wpAny_bind (wpAny_setState_of hb2 hd a7 ?_)
    dsimp only
    simp only [bne_self_eq_false, Bool.false_eq_true, if_false]
    refine wpAny_pure ⟨h2, _, _, rfl, sb.trans sb2, R2, ?_, fun e he => g e (List.mem_cons_of_mem _ he), fun j => ?_⟩
    · split <;> omega
    · have := mem j
      rw [List.map_cons, List.mem_cons] at this
      rw [← this, Bool.or_eq_true, decide_eq_true_eq]
      constructor
      · rintro ((z | z) | z)
        · exact .inl z
        · exact .inr (.inl z)
        · exact .inr (.inr z)
      · rintro (z | z | z)
        · exact .inl (.inl z)
        · exact .inl (.inr z)
        · exact .inr z
  · rintro _ s' ⟨h', n', S', rfl, sb, R', hl, g, mem⟩
    refine wpAny_pure (h h' n' sb (by simpa using hl) (R'.congr fun k => ?_))
    have := mem k
    simp only [List.map_nil, List.not_mem_nil, or_false] at this
    rw [Bool.eq_iff_iff, Bool.or_eq_true, decide_eq_true_eq]
    exact this.symm
  · rw [pm.length_eq, Array.length_toList]; exact Nat.le_refl _
  · rw [(pm.map keyOf).mem_iff]
end
end WB

namespace WB
open PySem PySem.Spec PyProof.Rows L2
section
variable {P : Program} {w : World} {A : Around} {E : Value → Shared → Prop} {s : Shared} {a b : Addr} {es eb : Array (Int × Value)} {t tb : SetTable}
abbrev memE (es : Array (Int × Value)) (k : Int) : Bool := decide (k ∈ es.toList.map keyOf)
theorem merge_ok {each : Sem Unit} {Q : Unit → Shared → Prop} (F : SetF w s.heap b eb tb) (G : SetF w s.heap a es t) (hab : a ≠ b) (Sb : SmallE eb) (Sa : SmallE es) (hn : es.size + eb.size ≤ 16) (hb7 : eb.size ≤ 7) (h7 : es.size = 0 → 7 ≤ t.mask)
    (heach : ∀ s1 (Q' : Unit → Shared → Prop), s1.heap.get? b = s.heap.get? b → Q' () s1 → wpAny (model P w) A each Q' E s1)
    (h : ∀ h' d e2 t2, Heap.SameBut a s.heap h' → SetF w h' a e2 t2 → (∀ k, k ∈ e2.toList.map keyOf ↔ k ∈ es.toList.map keyOf ∨ k ∈ eb.toList.map keyOf) → e2.size ≤ es.size + eb.size → (e2.size = 0 → 7 ≤ t2.mask) → Q () { s with heap := h', drawn := d }) :
    wpAny (model P w) A (setMerge a b each) Q E s := by
  obtain ⟨ob, epb, b1, b2, b3, b4, b5, b6, b7, b8, b9⟩ := id F
  unfold setMerge
  refine wp_if_neg (by simpa using hab) ?_
  try refine wpAny_bind (wpAny_pure ?_)
  refine wpAny_bind (wpAny_setState_of b1 b3 b7 ?_)
  dsimp only
  by_cases h0 : eb.isEmpty = true
  · refine wp_if_pos h0 (wpAny_pure (h s.heap s.drawn es t (Heap.SameBut.refl _ _) G (fun k => ?_) (Nat.le_add_right _ _) h7))
    have : eb.toList = [] := by simpa [Array.isEmpty_iff] using h0
    rw [this]; simp
  · refine wp_if_neg h0 ?_
    try refine wpAny_bind (wpAny_pure ?_)
    have hpos : 0 < eb.size := by
      rcases Nat.eq_zero_or_pos eb.size with z | z
      · exact absurd (by simpa [Array.isEmpty_iff] using z) h0
      · exact z
    refine wpAny_bind (room_ok G Sa hn fun h1 e1 t1 sb1 G1 pm1 m7 => ?_)
    have hsz1 : e1.size = es.size := by rw [← Array.length_toList, pm1.length_eq, Array.length_toList]
    have hb1 : h1.get? b = some ob := (sb1.2 b (Ne.symm hab)).trans b1
    have F1 : SetF w h1 b eb tb := ⟨ob, epb, hb1, b2, b3, b4, b5, b6, b7, b8, b9⟩
    obtain ⟨o1, ep1, c1, c2, c3, c4, c5, c6, c7, c8, c9⟩ := id G1
    refine wpAny_bind (wpAny_setState_of (s := { s with heap := h1 }) c1 c3 c7 ?_)
    dsimp only
    have hp1 : t1.place.size = e1.size := by
      unfold SetTable.fits at c7
      simpa using (Bool.and_eq_true_iff.mp c7).1
    have mem1 : ∀ k, k ∈ e1.toList.map keyOf ↔ k ∈ es.toList.map keyOf := fun k => (pm1.map keyOf).mem_iff
    cases hr : t1.road tb with
    | oneByOne =>
      dsimp only
      refine wpAny_bind (unseen_ok (s := { s with heap := h1 }) hb1 b3 F1 G1 hab fun h2 d t2 out sb2 G2 pm2 => ?_)
      have hb2 : h2.get? b = some ob := (sb2.2 b (Ne.symm hab)).trans hb1
      have F2 : SetF w h2 b eb tb := ⟨ob, epb, hb2, b2, b3, b4, b5, b6, b7, b8, b9⟩
      have R2 : SetR w h2 a (memE e1) e1.size := G2.r fun k => by unfold memE; exact decide_eq_true_iff
      refine wpAny_bind (ones_ok (s := { s with heap := h2, drawn := d }) hb2 b3 F2 hab (fun s1 Q' e q => heach s1 Q' (e.trans b1.symm) q) out pm2 R2 (by rw [show scanBound = 4096 from rfl]; omega) fun h3 n' sb3 hn' R3 => ?_)
      obtain ⟨e3, t3, G3, mem3, sz3⟩ := SetF.of R3
      refine h h3 d e3 t3 ((sb1.trans sb2).trans sb3) G3 (fun k => ?_) (by omega) fun z => ?_
      · rw [← mem3 k, Bool.or_eq_true, decide_eq_true_eq, decide_eq_true_eq, mem1]
      · have hk : eb.toList ≠ [] := fun q => by
          have : eb.size = 0 := by rw [← Array.length_toList, q]; rfl
          omega
        obtain ⟨x, l, hx⟩ := List.exists_cons_of_ne_nil hk
        have : keyOf x ∈ e3.toList.map keyOf := (mem3 _).1 (by rw [Bool.or_eq_true, decide_eq_true_eq, decide_eq_true_eq]; right; rw [hx]; simp)
        have e30 : e3.toList = [] := List.eq_nil_of_length_eq_zero (by rw [Array.length_toList]; exact z)
        rw [e30] at this
        cases this
    | slotForSlot =>
      dsimp only
      have hf0 : t1.fill = 0 := by
        unfold SetTable.road at hr
        split at hr
        · cases hr
        · rename_i q; simpa using q
      have he0 : e1.size = 0 := by unfold SetTable.fill at hf0; omega
      have hs0 : es.toList = [] := List.eq_nil_of_length_eq_zero (by rw [Array.length_toList]; omega)
      have m7' := m7 h7 he0
      have hmask : t1.mask = tb.mask := by
        unfold SetTable.road at hr
        rw [hf0] at hr
        simp only [bne_self_eq_false, Bool.false_eq_true, if_false] at hr
        split at hr
        · rename_i q; simpa using (Bool.and_eq_true_iff.mp q).1
        · cases hr
      refine G1.store (s := { s with heap := h1 }) b4 b5 b6 b7 b8 ?_ fun h' sb F' => h h' s.drawn eb _ (sb1.trans sb) F' (fun k => ?_) (by omega) fun z => by omega
      · rcases b9 with z | z
        · exact .inl z
        · rcases c9 with y | y
          · exact .inl y
          · exact .inr (by show (t1.led && tb.led) = true; rw [y, z]; rfl)
      · rw [hs0]; simp
    | clean =>
      dsimp only
      have hf0 : t1.fill = 0 := by
        unfold SetTable.road at hr
        split at hr
        · cases hr
        · rename_i q; simpa using q
      have he0 : e1.size = 0 := by unfold SetTable.fill at hf0; omega
      have hs0 : es.toList = [] := List.eq_nil_of_length_eq_zero (by rw [Array.length_toList]; omega)
      have m7' := m7 h7 he0
      obtain ⟨t', order, l1, l2, l3, l4, l5, l6, l7⟩ := laid_small (m := t1.mask) m7' (hashes_small b4 b5 Sb) t1.finger t1.moves (t1.led && tb.led) (t1.plain && tb.plain)
      rw [l1]
      have pm : (order.filterMap (eb[·]?)).toList.Perm eb.toList := order_perm eb (by simpa using l2)
      have hsz : (order.filterMap (eb[·]?)).size = eb.size := by rw [← Array.length_toList, pm.length_eq, Array.length_toList]
      refine wpAny_bind ?_
      refine wpAny_mono (Q := fun r s' => r = (order.filterMap (eb[·]?), t') ∧ s' = { s with heap := h1 }) ?_ (fun r s' hr' => ?_) fun _ _ z => z
      · wp_delta
        dsimp only
        rw [hsz]
        simp only [bne_self_eq_false, Bool.false_eq_true, if_false]
        exact wpAny_pure ⟨rfl, rfl⟩
      · obtain ⟨rfl, rfl⟩ := hr'
        dsimp only
        have hfit : t'.fits (order.filterMap (eb[·]?)).size = true := by
          rw [hsz]
          refine fits_of (by simpa using l4) l7 l5 ?_
          omega
        refine G1.store (s := { s with heap := h1 }) (fun e he => b4 e (pm.mem_iff.mp he)) ((pm.map keyOf).nodup_iff.mpr b5) (by rw [hsz]; exact b6) hfit l3 ?_ fun h' sb F' => h h' s.drawn _ t' (sb1.trans sb) F' (fun k => ?_) (by omega) fun z => by omega
        · rcases b9 with z | z
          · exact .inl z
          · rcases c9 with y | y
            · exact .inl y
            · exact .inr (by rw [l6, y, z]; rfl)
        · rw [hs0, (pm.map keyOf).mem_iff]; simp
end
end WB

namespace WB
open PySem PySem.Spec PyProof.Rows L2
theorem entry_set_or : entryFor table "set.__or__" = some Builtin.«frozenset.__or__» := entryFor_alias (id' := "frozenset.__or__") (by kernel_rfl) rfl (by decide +kernel) (by kernel_rfl)
section
variable {P : Program} {w : World} {A : Around} {E : Value → Shared → Prop} {s : Shared} {a b : Addr} {es eb : Array (Int × Value)} {t tb : SetTable}
theorem SetF.ty (F : SetF w s.heap a es t) : s.TypeIs (.ref a) "set" := by
  obtain ⟨o, ep, a1, a2, _⟩ := F
  exact ⟨o, a1, a2.1⟩
theorem SetF.keep {h h' : Heap} (F : SetF w h a es t) (k : ∀ o, h.get? a = some o → h'.get? a = some o) : SetF w h' a es t := by
  obtain ⟨o, ep, a1, r⟩ := F
  exact ⟨o, ep, k o a1, r⟩
theorem fresh_F {h : Heap} (w : World) : SetF w (h.push (bareSet w)) h.objs.size #[] (.fresh 0 0 (!w.params.followText "set-order")) := by
  refine ⟨_, 0, Heap.get?_push_size _ rfl, ⟨rfl, rfl, rfl⟩, rfl, (fun e he => by simp at he), (by simp), (by decide), (by rfl), List.Pairwise.nil, ?_⟩
  show _ ∨ (!w.params.followText "set-order") = true
  cases w.params.followText "set-order"
  · exact .inr rfl
  · exact .inl rfl
theorem anySet_ok {Q : Bool → Shared → Prop} (hT : s.TypeIs (.ref a) "set") (h : Q true s) : wpAny (model P w) A (Builtin.Frozenset.isAnySet (.ref a)) Q E s := by
  unfold Builtin.Frozenset.isAnySet
  show wpAny _ _ (isInstance (.ref a) (.type "set") >>= _) _ _ _
  exact wpAny_bind (wpAny_isInstance hT sub_set_self (wpAny_pure h))
/-- a | b -/
theorem or_ok {Q : Value → Shared → Prop} (F : SetF w s.heap a es t) (G : SetF w s.heap b eb tb) (hab : a ≠ b) (Sa : SmallE es) (Sb : SmallE eb) (ha : es.size ≤ 7) (hb : eb.size ≤ 7)
    (h : ∀ h' d e2 t2, (∀ c o, s.heap.get? c = some o → h'.get? c = some o) → s.heap.objs.size < h'.objs.size → SetF w h' s.heap.objs.size e2 t2 → (∀ k, k ∈ e2.toList.map keyOf ↔ k ∈ es.toList.map keyOf ∨ k ∈ eb.toList.map keyOf) → e2.size ≤ 14 → Q (.ref s.heap.objs.size) { s with heap := h', drawn := d }) :
    wpAny (model P w) A (binaryOp .BitOr (.ref a) (.ref b)) Q E s := by
  refine wpAny_binaryOp_same (op := .BitOr) F.ty G.ty PySem.F.fills_set_or PySem.F.slot_set_or ?_
  refine wpAny_call_entry PySem.F.slot_set_or F.ty entry_set_or ?_ (PySem.F.args_set_or_2 _ _)
  unfold Builtin.«frozenset.__or__»
  wp_delta
  refine wpAny_bind (m := Builtin.Frozenset.slot1 "__or__" _) (wpAny_pure ?_)
  show wpAny _ _ (do
    let c ← Builtin.Frozenset.isAnySet (.ref a) <&&> Builtin.Frozenset.isAnySet (.ref b)
    _) _ _ _
  refine wpAny_bind ?_
  show wpAny _ _ (Builtin.Frozenset.isAnySet (.ref a) >>= _) _ _ _
  refine wpAny_bind (anySet_ok F.ty ?_)
  show wpAny _ _ (Builtin.Frozenset.isAnySet (.ref b)) _ _ _
  refine anySet_ok G.ty ?_
  simp only [Bool.not_true, Bool.false_eq_true, if_false]
  refine wpAny_bind (m := Builtin.Frozenset.addrOf (.ref a)) (wpAny_pure ?_)
  refine wpAny_bind ?_
  wp_delta
  -- the copy
  have szA : a < s.heap.objs.size := by obtain ⟨o, ep, a1, _⟩ := id F; exact Heap.lt_size a1
  have szB : b < s.heap.objs.size := by obtain ⟨o, ep, a1, _⟩ := id G; exact Heap.lt_size a1
  refine wpAny_bind ?_
  unfold Builtin.Frozenset.copyOf
  refine wpAny_bind ?_
  unfold Builtin.Frozenset.baseOf
  refine wpAny_bind (wpAny_isInstance F.ty sub_set_self (wpAny_pure ?_))
  simp only [if_true]
  refine wpAny_bind (PpSet.newSet_ok ?_)
  have k0 : ∀ c o, s.heap.get? c = some o → (s.heap.push (bareSet w)).get? c = some o := fun c o e => Heap.get?_push_of_some _ e
  have F0 : SetF w (s.heap.push (bareSet w)) a es t := F.keep (k0 a)
  have G0 : SetF w (s.heap.push (bareSet w)) b eb tb := G.keep (k0 b)
  refine wpAny_bind (m := Builtin.Frozenset.addrOf (.ref s.heap.objs.size)) (wpAny_pure ?_)
  refine wpAny_bind (merge_ok (s := { s with heap := s.heap.push (bareSet w) }) F0 (fresh_F w) (Nat.ne_of_gt szA) Sa (fun e he => by simp at he) (by show 0 + es.size ≤ 16; omega) ha (fun _ => Nat.le_refl 7) (fun s1 Q' _ q => wpAny_pure q) fun h1 d1 e1 t1 sb1 R1 m1 z1 y1 => wpAny_pure ?_)
  have hb1 : h1.get? b = (s.heap.push (bareSet w)).get? b := sb1.2 b (Nat.ne_of_lt szB)
  have G1 : SetF w h1 b eb tb := G0.keep fun o e => hb1.trans e
  have S1 : SmallE e1 := fun e he => by
    rcases (m1 (keyOf e)).1 (List.mem_map_of_mem he) with z | z
    · simp at z
    · obtain ⟨x, hx, q⟩ := List.mem_map.mp z
      rw [← q]; exact Sa x hx
  have z1' : e1.size ≤ 7 := by
    have : e1.size ≤ 0 + es.size := z1
    omega
  have hne : ¬ (Value.ref b != Value.ref a) = false := by
    intro q
    have : Value.ref b = Value.ref a := by simpa using q
    injection this with this
    exact hab this.symm
  rw [if_pos (by simpa using hne)]
  refine wpAny_bind (m := Builtin.Frozenset.addrOf (.ref s.heap.objs.size)) (wpAny_pure ?_)
  refine wpAny_bind (wpAny_holding ?_)
  unfold Builtin.Frozenset.updateFrom
  refine wpAny_bind (anySet_ok (s := { s with heap := h1, drawn := d1 }) (SetF.ty (s := { s with heap := h1, drawn := d1 }) G1) ?_)
  refine wp_if_pos rfl ?_
  refine wpAny_bind (m := Builtin.Frozenset.addrOf (.ref b)) (wpAny_pure ?_)
  unfold Builtin.Frozenset.merge
  obtain ⟨ob, epb, b1, b2, b3, b4, b5, b6, b7, b8, b9⟩ := id G1
  refine wpAny_bind (wpAny_setEpoch_of (s := { s with heap := h1, drawn := d1 }) b1 b3 b7 ?_)
  refine merge_ok (s := { s with heap := h1, drawn := d1 }) G1 R1 (Nat.ne_of_gt szB) Sb S1 (by omega) hb y1 (fun s1 Q' e q => ?_) fun h2 d2 e2 t2 sb2 R2 m2 z2 y2 => ?_
  · unfold Builtin.Frozenset.unchanged
    refine wpAny_bind (wpAny_setEpoch_of (e.trans b1) b3 b7 ?_)
    simp only [bne_self_eq_false, Bool.false_eq_true, if_false]
    exact wpAny_pure q
  · refine wpAny_pure (wpAny_pure ⟨_, rfl, (fun z => nomatch z), h h2 d2 e2 t2 (fun c o e => ?_) ?_ R2 (fun k => ?_) (by omega)⟩)
    · have hc : c ≠ s.heap.objs.size := Nat.ne_of_lt (Heap.lt_size e)
      exact (sb2.2 c hc).trans ((sb1.2 c hc).trans (k0 c o e))
    · obtain ⟨o2, ep2, q, _⟩ := R2
      exact Heap.lt_size q
    · rw [m2 k, m1 k]; simp
end
/-- two sets of small ints put together -/
def rOrSet (w : World) : R2 := fun x y H Q => ∃ (a b : Addr) (S T : Int → Bool) (n m : Nat), x = .ref a ∧ y = .ref b ∧ a ≠ b ∧ H a = some (SetO w a S n) ∧ H b = some (SetO w b T m) ∧ n ≤ 7 ∧ m ≤ 7 ∧ (∀ k, S k = true → 0 ≤ k ∧ k < 8) ∧ (∀ k, T k = true → 0 ≤ k ∧ k < 8) ∧
  ∀ p u, u ≤ 14 → H p = none → Q (.ref p) (upd H p (SetO w p (fun k => S k || T k) u))
theorem op_orSet {X : Cx} : OpR X (binaryOp .BitOr) (rOrSet X.w) := by
  intro pins s σ H x y v u Q I rx ry h
  obtain ⟨a, b, S, T, n, m, rfl, rfl, hab, ha, hb, hn, hm, hS, hT, q⟩ := h
  cases rx
  cases ry
  obtain ⟨es, t, F, mF, zF⟩ := SetF.of (setO_get I ha)
  obtain ⟨eb, tb, G, mG, zG⟩ := SetF.of (setO_get I hb)
  refine or_ok F G hab (fun e he => hS _ ((mF _).2 (List.mem_map_of_mem he))) (fun e he => hT _ ((mG _).2 (List.mem_map_of_mem he))) (by omega) (by omega) fun h' d e2 t2 k lt R mem z => ?_
  have hp : H s.heap.objs.size = none := I.hok.fresh (Nat.le_refl _)
  have R' : SetR X.w h' s.heap.objs.size (fun k => S k || T k) e2.size := R.r fun k => by
    rw [mem k, Bool.or_eq_true, mF, mG]
  have new : ObjOk X.prog X.w (upd H s.heap.objs.size (SetO X.w s.heap.objs.size (fun k => S k || T k) e2.size)) h' s.heap.objs.size (SetO X.w s.heap.objs.size (fun k => S k || T k) e2.size) := setO_new R'
  have hok : HOk X.prog X.w (upd H s.heap.objs.size (SetO X.w s.heap.objs.size (fun k => S k || T k) e2.size)) h' := I.hok.laid k (Nat.le_refl _) new
  have un : Un (frs X.stack) [] H (upd H s.heap.objs.size (SetO X.w s.heap.objs.size (fun k => S k || T k) e2.size)) s.heap h' := Un.laid k (Nat.le_refl _) hp
  refine ⟨.ref s.heap.objs.size, _, I.call' (s' := { s with heap := h', drawn := d }) (ch := []) rfl un hok I.bare (fun b z => nomatch z), rfl, q _ _ z hp⟩
end WB

/-! enumerate over a tuple -/
namespace WB
open PySem PySem.Spec PyProof.Rows L2
open AutoSeq1 (wpAny_loadPart')
open MeetsSeq
theorem meets_enumT (l : Addr) (items : Array Value) (n : Nat) (dct : Option Addr) (sl : Array (Option Value)) :
    Meets (Builtin.«enumerate.__new__» ⟨[.type "enumerate", .ref l], []⟩) (fun _ R s => s.heap.get? l = some { cls := .type "tuple", dict := dct, data := .seq items n, slots := sl } ∧
      R (.ok (.ret (.ref (s.heap.push { cls := .type "tuple_iterator", data := .fields #[.ref l, .int 0 0] }).objs.size)))
        { s with heap := (s.heap.push { cls := .type "tuple_iterator", data := .fields #[.ref l, .int 0 0] }).push { cls := .type "enumerate", data := .fields #[.none, .bool false, .ref s.heap.objs.size, rawInt 0, .none, .none] } }) :=
  .of_wp fun prog w A R s h => by
    obtain ⟨hp, g, d, tk, os⟩ := s
    obtain ⟨hl, h⟩ := h
    have hsub := sub_enumerate
    have hT : Heap.IsTuple (Shared.heap ⟨hp, g, d, tk, os⟩) l items := ⟨_, hl, rfl, n, rfl⟩
    wp_walk using wpAny_loadPart' hl
    refine wpAny_stack_any fun st => wpAny_pure ?_
    split
    · rename_i c _ _ _ _ _
      cases (c == Value.type "enumerate") <;> (wp_walk using wpAny_loadPart' hl, wpAny_pyIter_tuple hT) <;> exact ⟨_, rfl, h⟩
    · wp_walk using wpAny_loadPart' hl, wpAny_pyIter_tuple hT
      exact ⟨_, rfl, h⟩
section
variable {prog : Program} {w : World} {A : Around} {E : Value → Shared → Prop} {s : Shared}
theorem call_enumT {l : Addr} {items : Array Value} {Q : Value → Shared → Prop} (hT : s.heap.IsTuple l items)
    (h : ∀ h', IsEnum h' (s.heap.objs.size + 1) s.heap.objs.size 0 .none → h'.IsTupleIter s.heap.objs.size l 0 → (∀ b o, s.heap.get? b = some o → h'.get? b = some o) → Q (.ref (s.heap.objs.size + 1)) { s with heap := h' }) :
    wpAny (model prog w) A (call (.type "enumerate") [.ref l]) Q E s := by
  obtain ⟨⟨c, dct, dt, sl⟩, hl, hc, n, hd⟩ := hT
  obtain rfl : c = .type "tuple" := hc
  obtain rfl : dt = .seq items n := hd
  have hz : (s.heap.push { cls := .type "tuple_iterator", data := .fields #[.ref l, .int 0 0] }).objs.size = s.heap.objs.size + 1 := Heap.size_push ..
  have he := Heap.get?_push_size (s.heap.push { cls := .type "tuple_iterator", data := .fields #[.ref l, .int 0 0] }) (o := { cls := .type "enumerate", data := .fields #[.none, .bool false, .ref s.heap.objs.size, rawInt 0, .none, .none] }) rfl
  rw [hz] at he
  refine callType_new PySem.F.called_enumerate (by decide) (PySem.F.typeCall_enumerate_1 _) (PySem.F.newCall_enumerate_1 _) (fun obj => PySem.F.args_object_init_2 obj _) PySem.F.entry_enumerate_new (meets_enumT l items n dct sl) ⟨hl, ?_⟩
  show _ ∧ _
  rw [hz]
  exact ⟨⟨_, he, rfl⟩, h _ he ⟨_, Heap.get?_push_of_some _ (Heap.get?_push_size _ rfl), rfl, rfl⟩ fun b o x => Heap.get?_push_of_some _ (Heap.get?_push_of_some _ x)⟩
theorem nextT_item {it t : Addr} {i : Nat} {items : Array Value} {x : Value} {Q : Value → Shared → Prop} (hit : s.heap.IsTupleIter it t i) (ht : s.heap.IsTuple t items) (hx : items[i]? = some x)
    (hQ : ∀ h', h'.IsTupleIter it t (i + 1) → Heap.SameBut it s.heap h' → Q x { s with heap := h' }) : wpAny (model prog w) A (Builtin.SmallTypes.nextOf (.ref it)) Q E s := by
  obtain ⟨o, ho, hc, hd⟩ := id hit
  obtain ⟨ol, hol, _, nl, hdl⟩ := ht
  unfold Builtin.SmallTypes.nextOf
  refine wpAny_bind (wpAny_callSpecial?_slot (name := Str.ofString "__next__") hit.typeIs PySem.F.slot_tuple_iterator_next (wpAny_call_entry PySem.F.slot_tuple_iterator_next hit.typeIs PySem.F.entry_tuple_iterator_next ?_ (PySem.F.args_tuple_iterator_next_1 _)))
  show wpAny _ _ (field (.ref it) 0 >>= _) _ _ s
  refine wpAny_bind (wpAny_field ho hd (x := .ref t) rfl (wp_if_neg (c := (Value.ref t == Value.none) = true) Bool.false_ne_true ?_))
  show wpAny _ _ (field (.ref it) 1 >>= _) _ _ s
  refine wpAny_bind (wpAny_field ho hd (x := .int i 0) rfl (wpAny_bind (m := seqItems? (.ref t)) (wpAny_seqItems hol hdl ?_)))
  simp only [Int.toNat_natCast, hx]
  refine wpAny_bind (wpAny_setField ho hd (by simp) (wpAny_pure ⟨x, rfl, wpAny_pure (hQ _ ⟨_, Heap.get?_update_self _ ho (Obj.isFreed_of_fields (Obj.data_mapFields hd _)), (Obj.cls_mapFields ..).trans hc, ?_⟩ (Heap.SameBut.update ..))⟩))
  rw [Obj.data_mapFields hd]
  simp [rawInt]
theorem nextT_end {it t : Addr} {i : Nat} {items : Array Value} {Q : Value → Shared → Prop} (hh : A.handled = none) (hit : s.heap.IsTupleIter it t i) (ht : s.heap.IsTuple t items) (hx : items[i]? = none)
    (hE : ∀ h' e, Heap.ExtBut it s.heap h' → (∃ o, h'.get? e = some o ∧ o.cls = .type "StopIteration") → E (.ref e) { s with heap := h' }) : wpAny (model prog w) A (Builtin.SmallTypes.nextOf (.ref it)) Q E s := by
  obtain ⟨o, ho, hc, hd⟩ := id hit
  obtain ⟨ol, hol, _, nl, hdl⟩ := ht
  unfold Builtin.SmallTypes.nextOf
  refine wpAny_bind (wpAny_callSpecial?_slot (name := Str.ofString "__next__") hit.typeIs PySem.F.slot_tuple_iterator_next (wpAny_call_entry PySem.F.slot_tuple_iterator_next hit.typeIs PySem.F.entry_tuple_iterator_next ?_ (PySem.F.args_tuple_iterator_next_1 _)))
  show wpAny _ _ (field (.ref it) 0 >>= _) _ _ s
  refine wpAny_bind (wpAny_field ho hd (x := .ref t) rfl (wp_if_neg (c := (Value.ref t == Value.none) = true) Bool.false_ne_true ?_))
  show wpAny _ _ (field (.ref it) 1 >>= _) _ _ s
  refine wpAny_bind (wpAny_field ho hd (x := .int i 0) rfl (wpAny_bind (m := seqItems? (.ref t)) (wpAny_seqItems hol hdl ?_)))
  simp only [Int.toNat_natCast, hx]
  refine wpAny_bind (wpAny_rule (wpAny_bind (wpAny_setField ho hd (by simp) ?_)))
  show wpAny _ _ (newExc (.type "StopIteration") [] >>= _) _ _ _
  refine wpAny_bind ?_
  simp only [newExc, newTuple]
  refine wpAny_bind (wpAny_newObj_type ?_ (by size_fits))
  refine wpAny_bind (m := firstArgMember _ _) (wpAny_of_eq (a := Value.none) (by first | rfl | (simp only [firstArgMember]; rfl)) (wpAny_newObj_type ?_ (by size_fits)))
  simp only [raiseNew]
  refine wpAny_bind (wpAny_handled ?_)
  first | rw [show A.in1.handled = none from hh] | rw [hh]
  exact wpAny_bind (wpAny_pure (wpAny_throw (hE _ _ (((Heap.SameBut.update ..).extBut.push _).push _) ⟨_, Heap.get?_push_size _ rfl, rfl⟩)))
end
theorem drawsT {prog : Program} {w : World} {A : Around} (hh : A.handled = none) (it l : Addr) (hne : l ≠ it) (items : Array Value) :
    Draws prog w A it [it, l] items.size (fun i v => items[i]? = some v) (fun i h => h.IsTupleIter it l i ∧ h.IsTuple l items) where
  live := fun _ _ st => let ⟨o, ho, _⟩ := st.1; ⟨o, ho⟩
  frame := fun _ _ _ st hk => ⟨st.1.at fun o e => hk it (by simp) o e, let ⟨o, e, r⟩ := st.2; ⟨o, hk l (by simp) o e, r⟩⟩
  item := fun i s Q E hi st hQ => nextT_item st.1 st.2 (x := items[i]) (by simp [hi]) fun h' hit' hs' => hQ _ h' s.toks (by simp [hi]) ⟨hit', st.2.extBut hs'.extBut hne⟩ hs'
  done := fun s Q E st hE => nextT_end hh st.1 st.2 (by simp) hE
/-- the tuple at a, each item in a new pair with its number -/
def IetT (K : PySem.W.Frag) (a : Addr) : It :=
  ⟨fun i H => ∃ (xs : List V) (x : V), SqT K H a xs ∧ xs[i]? = some x, fun i H v H' => ∃ T x, v = .ref T ∧ H T = none ∧ H' = upd H T (.tup [.int (i : Nat), x]) ∧ ∀ xs, SqT K H a xs → xs[i]? = some x,
    fun i H => ∃ xs : List V, SqT K H a xs ∧ xs.length ≤ i⟩
theorem turn_enumT {P : Program} {w : World} {K : PySem.W.Frag} {elts : List Expr} {kk : Nat} {tpos : Pos} (a e it : Addr) (hae : a ≠ e) (hai : a ≠ it) (hei : e ≠ it) :
    Turn P w K (.Tuple elts kk tpos) (IetT K a) [e, it] e (fun i h => (∃ old, IsEnum h e it ((i : Nat) : Int) old) ∧ h.IsTupleIter it a i) where
  mem := by simp
  obj := fun i h st b hb => by
    obtain ⟨⟨old, he⟩, ⟨o, ho, hc, hd⟩⟩ := st
    have e' : b = e ∨ b = it := by simpa using hb
    rcases e' with rfl | rfl
    · exact ⟨_, he, fun v q => nomatch q⟩
    · exact ⟨o, ho, fun v q => by rw [hd] at q; cases q⟩
  keep := fun i h h' st k => let ⟨⟨old, he⟩, hi⟩ := st; ⟨⟨old, k e (by simp) _ he⟩, hi.at fun o q => k it (by simp) o q⟩
  item := by
    intro X hP hw hK hc i pins s σ H E I hf st hg
    subst hP hw hK
    obtain ⟨⟨old, he⟩, hit⟩ := st
    obtain ⟨xs, x, hq, hx⟩ := hg
    obtain ⟨its, rv, p, hz⟩ := I.tuple hq
    obtain ⟨u, hu, ru⟩ := rv.get hx
    have hel : e < s.heap.objs.size := Heap.lt_size he
    have hil : it < s.heap.objs.size := by obtain ⟨_, q, _⟩ := hit; exact Heap.lt_size q
    have hlt : i < its.toArray.size := by simpa using (List.getElem?_eq_some_iff.mp hu).1
    have hef : e ∉ [it, a] := by simp [hei, Ne.symm hae]
    refine wpAny_pyNext_enum_itemD (drawsT (A := X.A.in1) (show X.A.in1.handled = none from I.ok.hd hc) it a hai its.toArray) he ⟨hit, p⟩ hlt hei hef fun x' h' tk hx' ho hst hT hsz hk => ?_
    obtain rfl : x' = u := by
      have : its[i]? = some x' := by simpa using hx'
      exact Option.some.inj (this.symm.trans hu)
    refine ⟨_, rfl, wpAny_letOwnedTupleGo_enum (s := { s with heap := h', toks := tk + 1 }) ho fun h'' he' sb => ?_⟩
    have hT2 : h''.get? s.heap.objs.size = some { cls := .type "tuple", data := .seq #[.int i tk, x'] } := (sb.2 _ (Nat.ne_of_gt hel)).trans hT
    have new : ObjOk X.prog X.w (upd H s.heap.objs.size (.tup [.int (i : Nat), x])) h'' s.heap.objs.size (.tup [.int (i : Nat), x]) :=
      ⟨by show 2 ≤ sizeLine; decide, [.int i tk, x'], .cons ⟨_, rfl⟩ (.cons ru .nil), ⟨_, hT2, rfl, _, rfl⟩⟩
    have I1 : Inv X pins σ (upd H s.heap.objs.size (.tup [.int (i : Nat), x])) { s with heap := h'', toks := tk + 1 } :=
      I.turnedNew (ch := [e, it]) (fun b ob hb q => (sb.2 b (fun z => hb (by simp [z]))).trans (hk b ob (fun z => hb (by simp [z])) (fun z => hb (by simp [z])) q)) hf (Nat.le_refl _) new
    refine ⟨.ref s.heap.objs.size, _, I1, rfl, ⟨_, x, rfl, I.hok.fresh (Nat.le_refl _), rfl, fun ys hy => by rw [I.tuple_inj hy hq]; exact hx⟩, ⟨⟨x', ?_⟩, hst.1.at fun o q => (sb.2 it (Ne.symm hei)).trans q⟩, fun b hb => ?_⟩
    · rw [show ((i + 1 : Nat) : Int) = (i : Int) + 1 by omega]
      exact he'
    · have hb' : b < s.heap.objs.size := by
        have e' : b = e ∨ b = it := by simpa using hb
        rcases e' with z | z <;> (rw [z]; assumption)
      rw [upd_ne (Nat.ne_of_lt hb')]
      exact (hf b hb).1
  done := by
    intro X hP hw hK hc i pins s σ H E I hf st hg
    subst hP hw hK
    obtain ⟨⟨old, he⟩, hit⟩ := st
    obtain ⟨xs, hq, hx⟩ := hg
    obtain ⟨its, rv, p, hz⟩ := I.tuple hq
    obtain ⟨f0, f1, f2, f3, f4, f5⟩ := hf it (by simp)
    have hl := rv.length
    have hT : s.TypeIs (.ref e) "enumerate" := ⟨_, he, rfl⟩
    unfold pyNext
    refine wpAny_bind (wpAny_attempt (wpAny_callSpecial?_slot (name := Str.ofString "__next__") hT PySem.F.slot_enumerate_next (wpAny_call_entry PySem.F.slot_enumerate_next hT PySem.F.entry_enumerate_next ?_ (PySem.F.args_enumerate_next_1 _))))
    show wpAny _ _ (field (.ref e) 2 >>= _) _ _ _
    refine wpAny_bind (wpAny_field he rfl (x := .ref it) rfl ?_)
    refine wpAny_bind (nextT_end (show X.A.in1.handled = none from I.ok.hd hc) hit p (by simp; omega) fun h' x eb hx' => ?_)
    obtain ⟨o, ho, hc'⟩ := hx'
    refine wpAny_bind (wpAny_isInstance (T := "StopIteration") (b := true) ⟨o, ho, hc'⟩ isSubtype_stop ?_)
    exact wpAny_pure ⟨rfl, I.turned (t' := s.toks) (fun b o hb q => eb b o hb q) f0 f1 f3 f4 f5⟩
  self := fun A i s Q E st h => let ⟨⟨_, he⟩, _⟩ := st; wpAny_pyIter_enum he h
def iEnT (K : PySem.W.Frag) (ta : TA) : TI := fun σ H R => ta σ H fun vs H1 => ∃ a xs, vs = [.ref a] ∧ SqT K H1 a xs ∧ R (IetT K a) H1
theorem pi_enumT {X : Cx} {e : Expr} {ta : TA} {p pos tpos : Pos} {elts : List Expr} {kk : Nat} (hg : Gl X "enumerate") (hm : X.mg "enumerate" = none) (ha : PA X [e] ta) (hs : starEach [e] X.env = [(false, eval e X.env)] := by rfl) :
    PI X (.Tuple elts kk tpos) (.Call (.Name "enumerate" p) [e] [] pos) (iEnT X.K ta) := by
  refine ⟨fun pins s σ H R I h => Call_ (ld_blt I hg hm boot_enumerate (PyProof.Rows.callWith_type1 (thn (ha.run pos pins s σ H _ I h) fun us s1 ⟨vs, H1, I1, r1, q1⟩ => ?_) hs rfl))⟩
  obtain ⟨a, xs, rfl, hq, q⟩ := q1
  cases r1 with
  | cons r rr =>
    cases rr
    cases r
    obtain ⟨its, rv, p', hz⟩ := I1.tuple hq
    have hlt : a < s1.heap.objs.size := by obtain ⟨o, e, _⟩ := id p'; exact Heap.lt_size e
    refine call_enumT p' fun h' he hit hk => wpAny_pyIter_enum he ?_
    refine ⟨s1.heap.objs.size + 1, [s1.heap.objs.size + 1, s1.heap.objs.size], _, _, H1, rfl, I1.kept (t' := s1.toks) hk, turn_enumT a (s1.heap.objs.size + 1) s1.heap.objs.size (Nat.ne_of_lt (Nat.lt_succ_of_lt hlt)) (Nat.ne_of_lt hlt) (Nat.succ_ne_self _), ⟨⟨.none, he⟩, hit⟩, fun b hb => ?_, q⟩
    have hle : s1.heap.objs.size ≤ b := by
      have e' : b = s1.heap.objs.size + 1 ∨ b = s1.heap.objs.size := by simpa using hb
      rcases e' with z | z
      · rw [z]; exact Nat.le_succ _
      · rw [z]; exact Nat.le_refl _
    exact I1.fpOk hle (I1.hok.fresh hle)
theorem walk_enumT {K : PySem.W.Frag} {a : Addr} {xs : List V} : Walk (IetT K a) xs.length (fun H => SqT K H a xs) (YPair (fun i => some (.int (i : Nat))) (fun i => xs[i]?)) where
  goes := fun i H hi h => ⟨xs, xs[i], h, List.getElem?_eq_getElem hi⟩
  stops := fun H h => ⟨xs, h, Nat.le_refl _⟩
  yields := fun i H x H' hi h y => let ⟨T, z, e1, e2, e3, e4⟩ := y; ⟨T, _, z, e1, e2, e3, rfl, e4 xs h⟩
end WB

/-! {tuple: value}; text * int -/
namespace WB
open PySem PySem.Spec PyProof.Rows L2
def tDisp1T (tk tv : TE) : TE := fun σ H Q => ∀ p, H p = none → tk σ (upd H p (.dT [])) fun x H1 => tv σ H1 fun y H2 => ∃ (b : Addr) (k : List Key), x = .ref b ∧ H2 p = some (.dT []) ∧ H2 b = some (.tup (k.map kV)) ∧ Q (.ref p) (upd H2 p (.dT (putK [] k y)))
theorem pe_disp1T {X : Cx} {ke ve : Expr} {tk tv : TE} {pos : Pos} (hu : X.A.units + 1 < cLine) (hk : PE X ke tk) (hv : PE X ve tv) : PE X (.Dict [some ke] [ve] pos) (tDisp1T tk tv) := by
  refine ⟨fun pins s σ H Q I h => ?_⟩
  have hn := I.hok.fresh (Nat.le_refl s.heap.objs.size)
  have I1 := I.laid (a := s.heap.objs.size) (o := .dT []) (h' := s.heap.push { cls := .type "dict", data := .dict #[] }) (t' := s.toks) (fun _ _ q => Heap.get?_push_of_some _ q) (Nat.le_refl _) (dt_empty s.heap I.big)
  rw [arm_eval_Dict, zip_pairTrees [some ke] [ve] X.env pos rfl rfl, dictDisplay_pairs _ (by simp [pairTrees]) (by simp [pairTrees])]
  refine wpAny_bind (wpAny_standAt (wpAny_bind ?_))
  unfold subDict
  refine wpAny_bind (wpAny_alloc (wpAny_bind (wpAny_holding ?_)))
  rw [if_pos (by simp [pairTrees])]
  refine wpAny_bind (pairTrees_cons_walk (thn (hk.run pins _ σ _ _ I1 (h _ hn)) fun u s1 ⟨x, H1, I2, rx, q1⟩ => thn (hv.run pins s1 σ H1 _ I2 q1) fun r s2 ⟨y, H2, I3, ry, b, k, ex, hp, hb, q⟩ => pairTrees_nil_walk ?_))
  subst ex
  obtain rfl : u = Value.ref b := rx
  refine wpAny_holding ?_
  rw [List.forIn_cons]
  obtain ⟨z, hd, xs, rel, dd⟩ := dt_of I3.hok hp
  cases rel
  refine wpAny_bind (wpAny_bind (wpAny_bind (wpAny_dictSet_heap (hsz := Nat.zero_le _) (show X.A.units < cLine from Nat.lt_of_succ_lt hu) (key_of I3.hok hb) dd fun h' dd' hs => wpAny_pure ?_)))
  show wpAny _ _ (forIn [] PUnit.unit _) _ _ _
  rw [List.forIn_nil]
  refine wpAny_pure (wpAny_pure (wpAny_pure (wpAny_pure ⟨.ref s.heap.objs.size, _, ?_, rfl, q⟩)))
  obtain ⟨o, es, ep, hq, h2, h3, h4, _, h5⟩ := dd'
  refine d_write I3 (by rw [hp]; exact True.intro) hs ⟨o, hq⟩ ⟨?_, hd, _, (KT.put (H := H2) (kvs := []) (xs := []) .nil k hb ry).keeps fun c ys ec => ?_, o, es, ep, hq, h2, h3, h4, h5⟩
  · rw [putK_new _ rfl]; show 1 ≤ sizeLine; decide
  · rw [upd_ne (ne_of ec hp (fun z => nomatch z))]
    exact ec
/-- one sign, five or six times -/
def rMulS : R2 := fun x y H Q => ∃ (c : Nat) (n : Int), x = .str ⟨#[c]⟩ ∧ y = .int n ∧ (n = 5 ∨ n = 6) ∧ Q (.str ⟨(List.replicate n.toNat c).toArray⟩) H
theorem op_mulS {X : Cx} : OpR X (binaryOp .Mult) rMulS := by
  intro pins s σ H x y v u Q I rx ry h
  obtain ⟨c, n, rfl, rfl, h5, q⟩ := h
  obtain ⟨t, rfl⟩ := rx
  obtain ⟨t', rfl⟩ := ry
  rcases h5 with rfl | rfl
  · refine P.mul_str (by decide) (fun _ _ => by show ¬ ((1 : Int) > (2 ^ 63 - 1) / 5); decide) (fun _ _ => by show Builtin.Str.tooLong (1 * 5) = false; decide) ?_
    rw [if_neg (by decide), if_neg (by show ¬ ((5 : Int) == 1 || (1 : Nat) == 0) = true; decide)]
    exact ⟨by show 5 ≤ sizeLine; decide, .str _, H, I.tok _, ⟨_, rfl⟩, q⟩
  · refine P.mul_str (by decide) (fun _ _ => by show ¬ ((1 : Int) > (2 ^ 63 - 1) / 6); decide) (fun _ _ => by show Builtin.Str.tooLong (1 * 6) = false; decide) ?_
    rw [if_neg (by decide), if_neg (by show ¬ ((6 : Int) == 1 || (1 : Nat) == 0) = true; decide)]
    exact ⟨by show 6 ≤ sizeLine; decide, .str _, H, I.tok _, ⟨_, rfl⟩, q⟩
end WB

/-! the data of the law, as plain lists -/
namespace WB
open PySem PySem.Spec PyProof.Rows L2

/-- rising marks below n -/
def Ms (n : Nat) (l : List Int) : Prop := l.Pairwise (· < ·) ∧ ∀ m ∈ l, 0 ≤ m ∧ m < n
def mk (n : Nat) (p : Int → Bool) : List Int := ((List.range n).map Int.ofNat).filter p
theorem up_ms (n : Nat) : Ms n ((List.range n).map Int.ofNat) := by
  refine ⟨?_, fun m hm => ?_⟩
  · rw [List.pairwise_map]
    exact List.Pairwise.imp (fun h => Int.ofNat_lt.mpr h) List.pairwise_lt_range
  · obtain ⟨k, hk, rfl⟩ := List.mem_map.mp hm
    have := List.mem_range.mp hk
    simp only [Int.ofNat_eq_natCast]
    omega
theorem mk_ms (n : Nat) (p : Int → Bool) : Ms n (mk n p) := ⟨(up_ms n).1.filter p, fun m hm => (up_ms n).2 m (List.mem_filter.mp hm).1⟩
theorem mem_mk {n : Nat} {p : Int → Bool} {m : Int} : m ∈ mk n p ↔ (0 ≤ m ∧ m < n) ∧ p m = true := by
  unfold mk
  rw [List.mem_filter]
  constructor
  · rintro ⟨h, q⟩; exact ⟨(up_ms n).2 m h, q⟩
  · rintro ⟨h, q⟩
    refine ⟨List.mem_map.mpr ⟨m.toNat, List.mem_range.mpr (by omega), ?_⟩, q⟩
    simp only [Int.ofNat_eq_natCast]; omega
theorem lt_ext : ∀ {a b : List Int}, a.Pairwise (· < ·) → b.Pairwise (· < ·) → (∀ m, m ∈ a ↔ m ∈ b) → a = b
  | [], [], _, _, _ => rfl
  | [], y :: b, _, _, h => absurd ((h y).2 List.mem_cons_self) (by simp)
  | x :: a, [], _, _, h => absurd ((h x).1 List.mem_cons_self) (by simp)
  | x :: a, y :: b, pa, pb, h => by
    obtain ⟨a1, a2⟩ := List.pairwise_cons.mp pa
    obtain ⟨b1, b2⟩ := List.pairwise_cons.mp pb
    have e : x = y := by
      rcases List.mem_cons.mp ((h x).1 List.mem_cons_self) with z | z
      · exact z
      · rcases List.mem_cons.mp ((h y).2 List.mem_cons_self) with u | u
        · exact u.symm
        · have := a1 y u; have := b1 x z; omega
    subst e
    rw [lt_ext a2 b2 fun m => ?_]
    constructor
    · intro hm
      rcases List.mem_cons.mp ((h m).1 (List.mem_cons_of_mem _ hm)) with z | z
      · have := a1 m hm; omega
      · exact z
    · intro hm
      rcases List.mem_cons.mp ((h m).2 (List.mem_cons_of_mem _ hm)) with z | z
      · have := b1 m hm; omega
      · exact z
theorem Ms.ext {n k : Nat} {a b : List Int} (ha : Ms n a) (hb : Ms k b) (h : ∀ m, m ∈ a ↔ m ∈ b) : a = b := lt_ext ha.1 hb.1 h
theorem Ms.nodup {n : Nat} {a : List Int} (h : Ms n a) : a.Nodup := h.1.imp fun x => by omega
theorem Ms.mono {n k : Nat} {a : List Int} (h : Ms n a) (e : n ≤ k) : Ms k a := ⟨h.1, fun m hm => by have := h.2 m hm; omega⟩
theorem nodup_len : ∀ {l : List Int} {n : Nat}, l.Nodup → (∀ m ∈ l, 0 ≤ m ∧ m < n) → l.length ≤ n := by
  intro l n hn h
  have := nat_nodup_len (l.map Int.toNat) (List.range n) ?_ fun x hx => ?_
  · simpa using this
  · induction l with
    | nil => simp
    | cons a l ih =>
      rw [List.map_cons, List.nodup_cons]
      obtain ⟨h1, h2⟩ := List.nodup_cons.mp hn
      refine ⟨fun z => h1 ?_, ih h2 fun m hm => h m (List.mem_cons_of_mem _ hm)⟩
      obtain ⟨b, hb, e⟩ := List.mem_map.mp z
      have := h a List.mem_cons_self
      have := h b (List.mem_cons_of_mem _ hb)
      rw [show a = b by omega]; exact hb
  · obtain ⟨m, hm, rfl⟩ := List.mem_map.mp hx
    have := h m hm
    exact List.mem_range.mpr (by omega)
theorem Ms.len {n : Nat} {a : List Int} (h : Ms n a) : a.length ≤ n := nodup_len h.nodup h.2
theorem Ms.nil (n : Nat) : Ms n [] := ⟨.nil, fun m hm => by simp at hm⟩
theorem Ms.of_mk {n : Nat} {a : List Int} (h : Ms n a) : a = mk n fun m => decide (m ∈ a) :=
  h.ext (mk_ms n _) fun m => by
    rw [mem_mk, decide_eq_true_eq]
    exact ⟨fun z => ⟨h.2 m z, z⟩, fun z => z.2⟩

def smallSigns : List Nat := [97, 98, 99, 100, 101, 102, 103, 104, 105, 106, 107, 108, 109, 110, 111, 112, 113, 114, 115, 116, 117, 118, 119, 120, 121, 122]
theorem small_is : ("abcdefghijklmnopqrstuvwxyz" : Str).cps.toList = smallSigns := by decide +kernel
def NameOk (s : Str) : Prop := 1 ≤ s.length ∧ s.length ≤ 6 ∧ ∀ c ∈ s.cps.toList, c ∈ smallSigns
structure Deed where
  name : Str
  needs : List Int
  sets : List Int
  strikes : List Int
  cost : Int
def Deed.dat (d : Deed) : PyData := .tuple [.str d.name, tI d.needs, tI d.sets, tI d.strikes, .int d.cost]
structure Deed.Ok (n : Nat) (d : Deed) : Prop where
  name : NameOk d.name
  needs : Ms n d.needs
  sets : Ms n d.sets
  strikes : Ms n d.strikes
  apart : ∀ m ∈ d.sets, m ∉ d.strikes
  cost : 0 ≤ d.cost ∧ d.cost ≤ 99
structure Yard where
  marks : List Str
  deeds : List Deed
  start : List Int
  wish : List Int
def Yard.dat (y : Yard) : PyData := .tuple [.tuple (y.marks.map .str), .tuple (y.deeds.map Deed.dat), tI y.start, tI y.wish]
structure Yard.Ok (y : Yard) : Prop where
  m1 : 1 ≤ y.marks.length
  m5 : y.marks.length ≤ 5
  names : ∀ s ∈ y.marks, NameOk s
  nd : y.marks.Nodup
  d10 : y.deeds.length ≤ 10
  deeds : ∀ d ∈ y.deeds, d.Ok y.marks.length
  dnd : (y.deeds.map (·.name)).Nodup
  start : Ms y.marks.length y.start
  wish : Ms y.marks.length y.wish
theorem Deed.Ok.five {n : Nat} {d : Deed} (h : d.Ok n) (e : n ≤ 5) : d.Ok 5 := ⟨h.name, h.needs.mono e, h.sets.mono e, h.strikes.mono e, h.apart, h.cost⟩
/-- marks in any order -/
def RowOk (r : List Int) : Prop := r.Nodup ∧ ∀ m ∈ r, 0 ≤ m ∧ m < 5
theorem RowOk.len {r : List Int} (h : RowOk r) : r.length ≤ 5 := nodup_len h.1 h.2
theorem Ms.row {n : Nat} {r : List Int} (h : Ms n r) (e : n ≤ 5) : RowOk r := ⟨h.nodup, (h.mono e).2⟩

/-! what is asked of states, deeds, rows -/
def hasB (s ms : List Int) : Bool := ms.all fun m => decide (m ∈ s)
def afterM (s : List Int) (d : Deed) : List Int := mk 5 fun m => (decide (m ∈ s) || decide (m ∈ d.sets)) && !decide (m ∈ d.strikes)
def bringsB (d : Deed) (r : List Int) : Bool := (r.any fun m => decide (m ∈ d.sets)) && !(r.any fun m => decide (m ∈ d.strikes))
def neededM (d : Deed) (r : List Int) : List Int := mk 5 fun m => (decide (m ∈ r) && !decide (m ∈ d.sets)) || decide (m ∈ d.needs)
def oneB (rows : List (List Int)) (s : List Int) : Bool := rows.any fun r => hasB s r
def neverB (y : Yard) (rows : List (List Int)) : Bool :=
  !oneB rows y.start && (oneB rows y.wish && rows.all fun r => y.deeds.all fun d => !bringsB d r || oneB rows (neededM d r))
def closedB (y : Yard) (ss : List (List Int)) : Bool :=
  decide (y.start ∈ ss) && ss.all fun s => !hasB s y.wish && y.deeds.all fun d => !(hasB s d.needs) || decide (afterM s d ∈ ss)

/-! == of data -/
def Sh (k : Nat) (d : PyData) : Prop := d.canLay0 = true ∧ d.depth ≤ k
theorem Sh.mono {k j : Nat} {d : PyData} (h : Sh k d) (e : k ≤ j) : Sh j d := ⟨h.1, Nat.le_trans h.2 e⟩
theorem sh_all {k : Nat} : ∀ {ds : List PyData}, (∀ d ∈ ds, Sh k d) → PyData.canLayAll0 ds = true ∧ PyData.depthAll ds ≤ k
  | [], _ => ⟨rfl, Nat.zero_le _⟩
  | d :: ds, h => by
    obtain ⟨h1, h2⟩ := sh_all fun x hx => h x (List.mem_cons_of_mem _ hx)
    have hd := h d List.mem_cons_self
    refine ⟨by simp [PyData.canLayAll0, hd.1, h1], ?_⟩
    show max d.depth (PyData.depthAll ds) ≤ k
    exact Nat.max_le.mpr ⟨hd.2, h2⟩
theorem sh_tup {k : Nat} {ds : List PyData} (h : ∀ d ∈ ds, Sh k d) : Sh (k + 1) (.tuple ds) := by
  obtain ⟨h1, h2⟩ := sh_all h
  exact ⟨by simpa [PyData.canLay0] using h1, by show PyData.depthAll ds + 1 ≤ k + 1; omega⟩
theorem sh_list {k : Nat} {ds : List PyData} (h : ∀ d ∈ ds, Sh k d) : Sh (k + 1) (.list ds) := by
  obtain ⟨h1, h2⟩ := sh_all h
  exact ⟨by simpa [PyData.canLay0] using h1, by show PyData.depthAll ds + 1 ≤ k + 1; omega⟩
theorem sh_int (i : Int) : Sh 0 (.int i) := ⟨rfl, Nat.le_refl _⟩
theorem sh_str {i : Str} (h : NameOk i) : Sh 0 (.str i) := ⟨by
  show PyData.strOk i = true
  unfold PyData.strOk
  rw [← Array.all_toList, List.all_eq_true]
  intro c hc
  have key : ∀ c ∈ smallSigns, c < 0x110000 := by decide
  exact decide_eq_true (key c (h.2.2 c hc)), Nat.le_refl _⟩
theorem sh_tI (ns : List Int) : Sh 1 (tI ns) := sh_tup fun d hd => by obtain ⟨i, _, rfl⟩ := List.mem_map.mp hd; exact sh_int i
theorem sh_lI (ns : List Int) : Sh 1 (.list (dI ns)) := sh_list fun d hd => by obtain ⟨i, _, rfl⟩ := List.mem_map.mp hd; exact sh_int i
theorem sh_rows (rs : List (List Int)) : Sh 2 (.list (rs.map tI)) := sh_list fun d hd => by obtain ⟨i, _, rfl⟩ := List.mem_map.mp hd; exact sh_tI i
theorem sh_deed {d : Deed} (h : NameOk d.name) : Sh 2 d.dat := sh_tup fun x hx => by
  simp only [List.mem_cons, List.not_mem_nil, or_false] at hx
  rcases hx with rfl | rfl | rfl | rfl | rfl
  · exact (sh_str h).mono (by omega)
  · exact sh_tI _
  · exact sh_tI _
  · exact sh_tI _
  · exact (sh_int _).mono (by omega)
theorem Sh.ok {k : Nat} {d : PyData} (h : Sh k d) (e : k ≤ 64 := by decide) : SeqAt.shaped d = true := by
  unfold SeqAt.shaped
  rw [h.1]
  simpa using Nat.le_trans h.2 e
theorem eqvAll_ints : ∀ a b : List Int, PyData.eqvAll (dI a) (dI b) = decide (a = b)
  | [], [] => by simp [PyData.eqvAll]
  | [], _ :: _ => by simp [PyData.eqvAll]
  | _ :: _, [] => by simp [PyData.eqvAll]
  | x :: a, y :: b => by
    show (PyData.eqv (.int x) (.int y) && PyData.eqvAll (dI a) (dI b)) = _
    rw [eqvAll_ints a b]
    have : PyData.eqv (.int x) (.int y) = (x == y) := by unfold PyData.eqv; rfl
    rw [this]
    by_cases h : x = y <;> by_cases k : a = b <;> simp [h, k]
theorem eqv_tI (a b : List Int) : PyData.eqv (tI a) (tI b) = decide (a = b) := by
  rw [show PyData.eqv (tI a) (tI b) = PyData.eqvAll (dI a) (dI b) by unfold PyData.eqv; rfl]
  exact eqvAll_ints a b
theorem eqv_lI (a b : List Int) : PyData.eqv (.list (dI a)) (.list (dI b)) = decide (a = b) := by
  rw [show PyData.eqv (.list (dI a)) (.list (dI b)) = PyData.eqvAll (dI a) (dI b) by unfold PyData.eqv; rfl]
  exact eqvAll_ints a b
theorem eqvAll_rows : ∀ a b : List (List Int), PyData.eqvAll (a.map tI) (b.map tI) = decide (a = b)
  | [], [] => by simp [PyData.eqvAll]
  | [], _ :: _ => by simp [PyData.eqvAll]
  | _ :: _, [] => by simp [PyData.eqvAll]
  | x :: a, y :: b => by
    show (PyData.eqv (tI x) (tI y) && PyData.eqvAll (a.map tI) (b.map tI)) = _
    rw [eqvAll_rows a b, eqv_tI]
    by_cases h : x = y <;> by_cases k : a = b <;> simp [h, k]
theorem eqv_rows (a b : List (List Int)) : PyData.eqv (.list (a.map tI)) (.list (b.map tI)) = decide (a = b) := by
  rw [show PyData.eqv (.list (a.map tI)) (.list (b.map tI)) = PyData.eqvAll (a.map tI) (b.map tI) by unfold PyData.eqv; rfl]
  exact eqvAll_rows a b
theorem any_eqv (rows : List (List Int)) (s : List Int) : ((rows.map tI).any fun z => PyData.eqv z (tI s)) = decide (s ∈ rows) := by
  rw [List.any_map]
  induction rows with
  | nil => simp
  | cons r rows ih =>
    rw [List.any_cons, ih]
    show (PyData.eqv (tI r) (tI s) || _) = _
    rw [eqv_tI]
    by_cases h : r = s
    · simp [h]
    · simp [h, Ne.symm h]
/-- nothing is left over -/
theorem filter_nil {α : Type} (p : α → Bool) (l : List α) (g : α → PyData) : ((l.filter fun m => !p m).map g).isEmpty = l.all p := by
  induction l with
  | nil => rfl
  | cons x l ih =>
    rw [List.filter_cons, List.all_cons]
    cases h : p x
    · simp
    · simpa [h] using ih
theorem filter_some {α : Type} (p : α → Bool) (l : List α) (g : α → PyData) : (!((l.filter p).map g).isEmpty) = l.any p := by
  induction l with
  | nil => rfl
  | cons x l ih =>
    rw [List.filter_cons, List.any_cons]
    cases h : p x
    · simpa [h] using ih
    · simp
theorem notin_take {α : Type} {l : List α} (nd : l.Nodup) {i : Nat} {x : α} (h : l[i]? = some x) : x ∉ l.take i := fun z => by
  obtain ⟨j, hj, e⟩ := List.mem_iff_getElem.mp z
  rw [List.length_take] at hj
  rw [List.getElem_take] at e
  obtain ⟨hi, e2⟩ := List.getElem?_eq_some_iff.mp h
  have := (List.getElem_inj nd).mp (e.trans e2.symm)
  omega
end WB

/-! readings of sets, slices, texts, unpacking, loops -/
namespace WB
open PySem PySem.Spec PyProof.Rows L2
def EvS (w : World) (te : TE) (σ : L2.St) (H : Hp) (S : Int → Bool) (n : Nat) : Prop := ∀ H1, Same H H1 → ∀ Q : VK, (∀ p m H2, H1 p = none → Same H1 H2 → H2 p = some (SetO w p S m) → m ≤ n → Q (.ref p) H2) → te σ H1 Q
section
variable {w : World} {K : PySem.W.Frag} {σ : L2.St} {H : Hp} {ta tb tl te : TE} {tt : TT}
theorem es_scT {j : Nat} {vs : List Nat} {zs : List Int} (p : Int → Bool) (h : Ev K tl σ H (tI zs)) (hl : zs.length ≤ 60) (hw : ∀ x, wipe ((wipe σ vs).set j (some x)) vs = wipe σ vs)
    (hs : ∀ z ∈ zs, ∀ H', Same H H' → EvB tt ((wipe σ vs).set j (some (.int z))) H' (p z) ∧ Ev K te ((wipe σ vs).set j (some (.int z))) H' (.int z)) :
    EvS w (tScI w (iTup K tl) (gName j) tt te vs) σ H (fun k => decide (k ∈ zs.filter p)) zs.length := fun H1 e Q q =>
  h H1 e _ fun v H2 e2 hv => by
    obtain ⟨a, rfl, hq⟩ := hv.tI_inv
    refine ⟨a, rfl, ⟨_, hq⟩, fun D hD => ?_⟩
    refine ⟨fun i m H' => m = zs.length - i ∧ i ≤ zs.length ∧ ∃ n, n ≤ i ∧ Same H2 H' ∧ H' D = some (SetO w D (fun k => decide (k ∈ (zs.take i).filter p)) n), ⟨zs.length, by simp, Nat.zero_le _, 0, Nat.le_refl _, Same.new hD, ?_⟩, ?_⟩
    · rw [upd_same]; simp
    · rintro i m H' ⟨rfl, hi, n, hn, sm, eD⟩
      by_cases hlt : i < zs.length
      · refine .inr ⟨⟨_, .int zs[i], sm.sqT hq, by simp [hlt]⟩, _, fun H'' p' => ⟨zs.length - (i + 1), by omega, rfl, hlt, p'⟩, fun x H3 y => ?_⟩
        obtain ⟨rfl, y⟩ := y
        have hx : x = .int zs[i] := by
          have := y _ (sm.sqT hq)
          rw [List.getElem?_map, List.getElem?_eq_getElem hlt] at this
          exact (Option.some.inj this).symm
        subst hx
        obtain ⟨h1, h2⟩ := hs zs[i] (List.getElem_mem hlt) H3 ((e.trans e2).trans sm)
        have ht : zs.take (i + 1) = zs.take i ++ [zs[i]] := by rw [List.take_add_one, List.getElem?_eq_getElem hlt]; rfl
        refine ⟨hw _, h1 H3 (Same.refl H3) _ fun H4 e4 => ?_⟩
        cases hp : p zs[i] with
        | false =>
          refine iteF ⟨n, by omega, sm.trans e4, ?_⟩
          rw [ht, List.filter_append, List.filter_cons, hp, e4 _ _ eD]
          simp
        | true =>
          refine iteT (h2 H4 e4 _ fun y H5 e5 hy => ?_)
          obtain rfl := hy.int_inv
          refine ⟨zs[i], _, n, rfl, e5 _ _ (e4 _ _ eD), by rw [show scanBound = 4096 from rfl]; omega, (if decide (zs[i] ∈ (zs.take i).filter p) = true then n else n + 1), ?_, Same.mut ((sm.trans e4).trans e5) hD, ?_⟩
          · split <;> omega
          · rw [upd_same, ht, List.filter_append, List.filter_cons, hp]
            congr 2
            funext k
            simp only [withInt, List.filter_nil, if_true, List.mem_append, List.mem_singleton, Bool.decide_or]
      · have ei : i = zs.length := by omega
        subst ei
        refine .inl ⟨⟨_, sm.sqT hq, by simp⟩, ?_⟩
        rw [List.take_length] at eD
        exact q D n H' (e2.free hD) (e2.trans sm) eD hn
theorem EvS.is {S T : Int → Bool} {n : Nat} (h : EvS w te σ H S n) (e : ∀ k, S k = T k) : EvS w te σ H T n := (funext e : S = T) ▸ h
theorem es_or {S T : Int → Bool} {n m : Nat} (ha : EvS w ta σ H S n) (hb : EvS w tb σ H T m) (hn : n ≤ 7) (hm : m ≤ 7) (hS : ∀ k, S k = true → 0 ≤ k ∧ k < 8) (hT : ∀ k, T k = true → 0 ≤ k ∧ k < 8) :
    EvS w (tOp (rOrSet w) ta tb) σ H (fun k => S k || T k) 14 := fun H1 e Q q =>
  ha H1 e _ fun p i H2 hp e2 h2 hi => hb H2 (e.trans e2) _ fun r j H3 hr e3 h3 hj =>
    ⟨p, r, S, T, i, j, rfl, rfl, ne_of_none h2 hr, e3 _ _ h2, h3, by omega, by omega, hS, hT, fun u k hk hu => q u k _ (e2.free (e3.free hu)) ((e2.trans e3).trans (Same.new hu)) upd_same hk⟩
theorem en_sortS {S : Int → Bool} {n : Nat} {ms : List Int} (h : EvS w ta σ H S n) (hn : n < 64) (hms : ms.Pairwise (· < ·)) (hS : ∀ k, k ∈ ms ↔ S k = true) : EvN K (tCB (rSortedSet w) (tCons ta tNil)) σ H (dI ms) := fun H1 e Q q =>
  h H1 e _ fun p m H2 hp e2 h2 hm => ⟨p, S, m, rfl, h2, by omega, fun ns l h3 h4 h5 hl => by
    have : ns = ms := lt_ext h3 hms fun k => (h4 k).trans (hS k).symm
    subst this
    exact q l _ _ (e2.free hl) (e2.trans (Same.new hl)) upd_same (TpAll.ofInts _)⟩
/-- tuple(a new list) -/
theorem ev_tupN {ds : List PyData} (h : EvN K ta σ H ds) : Ev K (tCB (rTupQ K) (tCons ta tNil)) σ H (.tuple ds) := ev_tupOf (ea_cons h.ev ea_nil)
/-- signs of a text -/
theorem en_lcS {j : Nat} {vs : List Nat} {z : Str} (p : Nat → Bool) (g : Nat → PyData) (h : Ev K tl σ H (.str z)) (hl : z.cps.size ≤ 100000) (hw : ∀ x, wipe ((wipe σ vs).set j (some x)) vs = wipe σ vs)
    (hs : ∀ c ∈ z.cps.toList, ∀ H', Same H H' → EvB tt ((wipe σ vs).set j (some (.str ⟨#[c]⟩))) H' (p c) ∧ (p c = true → noL (g c) = true ∧ Ev K te ((wipe σ vs).set j (some (.str ⟨#[c]⟩))) H' (g c))) :
    EvN K (tLc (iStr tl) (gName j) tt te vs) σ H ((z.cps.toList.filter p).map g) := fun H1 e Q q =>
  h H1 e _ fun v H2 e2 hv => by
    obtain rfl := hv.str_inv
    refine ⟨z, rfl, fun D hD => ?_⟩
    have size : z.cps.size = z.cps.toList.length := (Array.length_toList).symm
    refine lc_it (walk_str (z := z)) (fun i H' => ∃ acc, Same H2 H' ∧ H' D = some (.lst acc) ∧ TpAll K H' acc ((z.cps.toList.take i).filterMap (fmOf p g))) ⟨[], Same.new hD, upd_same, .nil⟩ (fun _ _ _ _ => trivial) (fun i x H' H3 hi hp y => ?_) fun H' ⟨acc, sm, eD, ta⟩ => ?_
    · obtain ⟨rfl, c, hc, rfl⟩ := y
      have hc' : z.cps.toList[i]? = some c := by simpa using hc
      obtain ⟨h1, h2⟩ := fmOf_step (K := K) (hs c (List.mem_of_getElem? hc') H3 ((e.trans e2).trans hp.choose_spec.1))
      obtain ⟨acc, sm, eD, ta⟩ := hp
      have hfm := fm_take (fmOf p g) hc'
      refine ⟨hw _, h1 H3 (Same.refl H3) _ fun H4 e4 => ?_⟩
      cases hf : fmOf p g c with
      | none =>
        refine iteF ⟨acc, sm.trans e4, e4 _ _ eD, ?_⟩
        rw [hfm, hf]
        simpa using ta.same e4
      | some r =>
        refine iteT ((h2 r hf).2 H4 e4 _ fun y H5 e5 hy => ⟨acc, e5 _ _ (e4 _ _ eD), ?_, _, Same.mut ((sm.trans e4).trans e5) hD, upd_same, ?_⟩)
        · rw [ta.len]
          refine Nat.lt_of_le_of_lt (List.length_filterMap_le _ _) ?_
          rw [List.length_take]
          exact sizeK (by omega) hl
        · rw [hfm, hf]
          have m : Tm H5 (upd H5 D (.lst (acc ++ [y]))) := Tm.updL (e5 _ _ (e4 _ _ eD))
          exact ((ta.same e4).same e5 |>.tm m).app (.cons ((hy.tp (h2 r hf).1).tm m) .nil)
    · rw [size, List.take_length, fmOf_list] at ta
      exact q D acc H' (e2.free hD) (e2.trans sm) eD ta
/-- slices from the beginning -/
theorem sIx_none' (n d : Nat) : HT.sIx n d none = d := HT.sIx_none n d
theorem ev_slT {ds : List PyData} {j : Nat} (h : Ev K ta σ H (.tuple ds)) (hh : Ev K tb σ H (.int (j : Int))) (hj : j < ds.length) : Ev K (tSl (rSlT K) ta tNoPart (tPart tb)) σ H (.tuple (ds.take j)) := fun H1 e Q q =>
  h H1 e _ fun v H2 e2 hv => hh H2 (e.trans e2) _ fun u H3 e3 hu => ⟨(j : Int), hu.int_inv, by
    obtain ⟨a, xs, rfl, hq, hx⟩ := hv.tup_inv
    have hl := hx.len
    have i1 : HT.sIx xs.length xs.length (some (j : Int)) = j := by rw [HT.sIx_nat]; omega
    refine ⟨a, xs, rfl, e3.sqT hq, ?_, fun p hp => q _ _ ((e2.trans e3).trans (Same.new hp)) (.t (.tup upd_same ?_))⟩
    · rw [i1]; omega
    · have : cutV xs none (some (j : Int)) = xs.take j := by
        unfold cutV
        rw [i1, HT.sIx_none]
        simp
      rw [this]
      exact ((hx.same e3).take j).same (Same.new hp)⟩
theorem TpAll.cons_inv {vs : List V} {d : PyData} {ds : List PyData} (h : TpAll K H vs (d :: ds)) : ∃ v r, vs = v :: r ∧ Tp K H v d ∧ TpAll K H r ds := by
  cases h with
  | cons a b => exact ⟨_, _, rfl, a, b⟩
theorem TpAll.nil_inv {vs : List V} (h : TpAll K H vs []) : vs = [] := by cases h; rfl
/-- a, b, .. = a tuple of data -/
theorem s_tup {D : Ends} {n : Nat} {t : TGs} {ds : List PyData} (h : Ev K te σ H (.tuple ds)) (hn : ds.length = n) (k : ∀ xs H1, Same H H1 → TpAll K H1 xs ds → t xs σ H1 D.nx) : tAsg te (gTup K n t) D σ H := h H (Same.refl H) _ fun v H1 e hv => by
  obtain ⟨a, xs, rfl, hq, hx⟩ := hv.tup_inv
  exact ⟨a, xs, rfl, hq, hx.len.trans hn, k xs H1 e hx⟩
/-! a statement, then the rest of the block -/
section
variable {D : Ends} {u tu tw : TS} {tt : TT} {d : PyData} {ds : List PyData}
theorem q_set {i : Nat} (h : Ev K te σ H d) (k : ∀ v H1, Same H H1 → Ap K H1 v d → u D (σ.set i (some v)) H1) : tSeq (tAsg te (gName i)) u D σ H := h H (Same.refl H) _ k
theorem q_setN {i : Nat} (h : EvN K te σ H ds) (k : ∀ p xs H1, H p = none → Same H H1 → H1 p = some (.lst xs) → TpAll K H1 xs ds → u D (σ.set i (some (.ref p))) H1) : tSeq (tAsg te (gName i)) u D σ H := h H (Same.refl H) _ k
theorem q_tup {n : Nat} {t : TGs} (h : Ev K te σ H (.tuple ds)) (hn : ds.length = n) (k : ∀ xs H1, Same H H1 → TpAll K H1 xs ds → t xs σ H1 (u D)) : tSeq (tAsg te (gTup K n t)) u D σ H := s_tup h hn k
theorem q_if {b : Bool} (h : EvB tt σ H b) (h1 : b = true → ∀ H1, Same H H1 → tu { D with nx := u D } σ H1) (h2 : b = false → ∀ H1, Same H H1 → tw { D with nx := u D } σ H1) : tSeq (tIfS tt tu tw) u D σ H := s_if h h1 h2
/-- no else -/
theorem q_if0 {b : Bool} (h : EvB tt σ H b) (h1 : b = true → ∀ H1, Same H H1 → tu { D with nx := u D } σ H1) (h2 : b = false → ∀ H1, Same H H1 → u D σ H1) : tSeq (tIfS tt tu tNext) u D σ H := s_if h h1 h2
/-- an if whose way is never gone -/
theorem q_no (h : EvB tt σ H false) (h2 : ∀ H1, Same H H1 → u D σ H1) : tSeq (tIfS tt tu tNext) u D σ H := s_if h (fun z => nomatch z) fun _ H1 e => h2 H1 e
end
/-! numbers by their values -/
theorem ev_max2 {i j : Int} {t : TA} (h : EvA K t σ H [.int i, .int j]) : Ev K (tCB (fun xs H Q => ∃ i j, xs = [.int i, .int j] ∧ Q (.int (if j > i then j else i)) H) t) σ H (.int (max i j)) :=
  ev_cb h fun vs H1 _ hv Q q => by
    obtain ⟨v, u, rfl, h1, h2⟩ := hv.two
    obtain rfl := h1.int_inv
    obtain rfl := h2.int_inv
    refine ⟨i, j, rfl, ?_⟩
    rw [show (if j > i then j else i) = max i j by split <;> omega]
    exact q _ H1 (Same.refl H1) (.t (.int _))
theorem ev_min2 {i j : Int} {t : TA} (h : EvA K t σ H [.int i, .int j]) : Ev K (tCB (fun xs H Q => ∃ i j, xs = [.int i, .int j] ∧ Q (.int (if j < i then j else i)) H) t) σ H (.int (min i j)) :=
  ev_cb h fun vs H1 _ hv Q q => by
    obtain ⟨v, u, rfl, h1, h2⟩ := hv.two
    obtain rfl := h1.int_inv
    obtain rfl := h2.int_inv
    refine ⟨i, j, rfl, ?_⟩
    rw [show (if j < i then j else i) = min i j by split <;> omega]
    exact q _ H1 (Same.refl H1) (.t (.int _))
theorem ev_lenS {z : Str} {t : TA} (h : EvA K t σ H [.str z]) (hz : z.length ≤ 1000) : Ev K (tCB (fun xs H Q => ∃ z, xs = [.str z] ∧ z.length ≤ sizeLine ∧ Q (.int z.length) H) t) σ H (.int z.length) :=
  ev_cb h fun vs H1 _ hv Q q => by
    obtain ⟨v, rfl, h1⟩ := hv.one
    obtain rfl := h1.str_inv
    exact ⟨z, rfl, Nat.le_of_lt (small1000 hz), q _ H1 (Same.refl H1) (.t (.int _))⟩
def isN : PyData → Bool
  | .none => true
  | _ => false
theorem Ap.isN_eq {d : PyData} {v : V} (h : Ap K H v d) : decide (v = V.non) = isN d := by
  cases h with
  | t h => cases h <;> simp [isN]
  | l _ _ => simp [isN]
theorem ev_isN {d : PyData} (ha : Ev K ta σ H d) : Ev K (tOp (fun x y H Q => y = .non ∧ Q (.bl (decide (x = .non))) H) ta (tC .non)) σ H (.bool (isN d)) := ev_op ha ev_non fun v u H1 _ hv hu Q q =>
  ⟨hu.non_inv, by rw [hv.isN_eq]; exact q _ H1 (Same.refl H1) (.t (.bl _))⟩
theorem ev_notN {d : PyData} (ha : Ev K ta σ H d) : Ev K (tOp (fun x y H Q => y = .non ∧ Q (.bl (!decide (x = .non))) H) ta (tC .non)) σ H (.bool (!isN d)) := ev_op ha ev_non fun v u H1 _ hv hu Q q =>
  ⟨hu.non_inv, by rw [hv.isN_eq]; exact q _ H1 (Same.refl H1) (.t (.bl _))⟩
/-! loops over data that stands still -/
section
variable {D : Ends} {u tb2 : TS} {g : TG} {ds : List PyData} {d : PyData}
theorem q_forT (h : Ev K tl σ H (.tuple ds)) (Pv : Hp → Nat → L2.St → Hp → Prop) (h0 : ∀ H1, Same H H1 → Pv H1 0 σ H1) (hP : ∀ H1 i σ' H', Pv H1 i σ' H' → Same H1 H')
    (hs : ∀ H1 i d v σ' H', Same H H1 → ds[i]? = some d → Pv H1 i σ' H' → Tp K H' v d → g v σ' H' fun σ2 H2 => tb2 { D with nx := Pv H1 (i + 1), ct := Pv H1 (i + 1), bk := u D } σ2 H2) (hd : ∀ H1 σ' H', Same H H1 → Pv H1 ds.length σ' H' → u D σ' H') :
    tSeq (tFor (iTup K tl) g tb2) u D σ H :=
  h H (Same.refl H) _ fun v H1 e hv => by
    obtain ⟨a, xs, rfl, hq, hx⟩ := hv.tup_inv
    exact ⟨a, rfl, ⟨xs, hq⟩, for_tup (K := K) (a := a) (xs := xs) (g := g) (tb := tb2) (D := { D with nx := u D }) (Pv H1) (h0 H1 e) (fun i σ' H' _ p => (hP _ _ _ _ p).sqT hq)
      (fun i x σ' H' hi p => by
        obtain ⟨d, h1, h2⟩ := hx.get hi
        exact hs H1 i d x σ' H' e h1 p (h2.same (hP _ _ _ _ p))) fun σ' H' p => hd H1 σ' H' e (by rw [← hx.len]; exact p)⟩
theorem q_forL (h : Ev K tl σ H (.list ds)) (Pv : Hp → Nat → L2.St → Hp → Prop) (h0 : ∀ H1, Same H H1 → Pv H1 0 σ H1) (hP : ∀ H1 i σ' H', Pv H1 i σ' H' → Same H1 H')
    (hs : ∀ H1 i d v σ' H', Same H H1 → ds[i]? = some d → Pv H1 i σ' H' → Tp K H' v d → g v σ' H' fun σ2 H2 => tb2 { D with nx := Pv H1 (i + 1), ct := Pv H1 (i + 1), bk := u D } σ2 H2) (hd : ∀ H1 σ' H', Same H H1 → Pv H1 ds.length σ' H' → u D σ' H') :
    tSeq (tFor (iList K tl) g tb2) u D σ H :=
  h H (Same.refl H) _ fun v H1 e hv => by
    obtain ⟨a, xs, rfl, hq, hx⟩ := hv.lst_inv
    exact ⟨a, rfl, ⟨xs, hq⟩, for_list (K := K) (a := a) (xs := xs) (g := g) (tb := tb2) (D := { D with nx := u D }) (Pv H1) (h0 H1 e) (fun i σ' H' _ p => (hP _ _ _ _ p).seq hq)
      (fun i x σ' H' hi p => by
        obtain ⟨d, h1, h2⟩ := hx.get hi
        exact hs H1 i d x σ' H' e h1 p (h2.same (hP _ _ _ _ p))) fun σ' H' p => hd H1 σ' H' e (by rw [← hx.len]; exact p)⟩
/-- the last statement of a block -/
theorem z_seq {t : TS} (h : tSeq t tNext D σ H) : t D σ H := h
/-- over enumerate(a tuple) -/
theorem q_forET {ta : TA} (h : EvA K ta σ H [.tuple ds]) (Pv : Hp → Nat → L2.St → Hp → Prop) (h0 : ∀ H1, Same H H1 → Pv H1 0 σ H1) (hP : ∀ H1 i σ' H', Pv H1 i σ' H' → Same H1 H')
    (hs : ∀ H1 i d v T σ' H' H'', Same H H1 → ds[i]? = some d → Pv H1 i σ' H' → Same H' H'' → Tp K H'' v d → H'' T = some (.tup [.int i, v]) → g (.ref T) σ' H'' fun σ2 H2 => tb2 { D with nx := Pv H1 (i + 1), ct := Pv H1 (i + 1), bk := u D } σ2 H2)
    (hd : ∀ H1 σ' H', Same H H1 → Pv H1 ds.length σ' H' → u D σ' H') : tSeq (tFor (iEnT K ta) g tb2) u D σ H :=
  h H (Same.refl H) _ fun vs H1 e hv => by
    obtain ⟨v, rfl, hw⟩ := hv.one
    obtain ⟨a, xs, rfl, hq, hx⟩ := hw.tup_inv
    exact ⟨a, xs, rfl, hq, for_it (walk_enumT (K := K) (a := a) (xs := xs)) (g := g) (tb := tb2) (D := { D with nx := u D }) (Pv H1) (h0 H1 e) (fun i σ' H' _ p => (hP _ _ _ _ p).sqT hq)
      (fun i x σ' H' H'' hi p y => by
        obtain ⟨T, x1, x2, rfl, nT, rfl, f1, f2⟩ := y
        obtain rfl : V.int i = x1 := Option.some.inj f1
        obtain ⟨d, h1, h2⟩ := hx.get f2
        exact hs H1 i d x2 T σ' H' _ e h1 p (Same.new nT) ((h2.same (hP _ _ _ _ p)).same (Same.new nT)) upd_same) fun σ' H' p => hd H1 σ' H' e (by rw [← hx.len]; exact p)⟩
theorem q_aug {i : Nat} {a b : Int} (hx : σ[i]? = some (some (.int a))) (h : Ev K te σ H (.int b)) (k : ∀ H1, Same H H1 → u D (σ.set i (some (.int (a + b)))) H1) : tSeq (tAug i te (ipI fun i j => i + j)) u D σ H :=
  ⟨.int a, hx, h H (Same.refl H) _ fun v H1 e hv => ⟨a, b, rfl, hv.int_inv, k H1 e⟩⟩
theorem q_drop (h : Ev K te σ H d) (k : ∀ H1, Same H H1 → u D σ H1) : tSeq (tDrop te) u D σ H := h H (Same.refl H) _ fun _ H1 e _ => k H1 e
end
/-- a weight of a mark -/
def wAt (ws : List Int) (m : Int) : Int := ws.getD m.toNat 0
theorem ev_ixW {ws : List Int} {m : Int} (ha : Ev K ta σ H (.list (dI ws))) (hb : Ev K tb σ H (.int m)) (h0 : 0 ≤ m) (hl : m < ws.length) : Ev K (tOp (rIxL K) ta tb) σ H (.int (wAt ws m)) := by
  have hm : m = ((m.toNat : Nat) : Int) := by omega
  refine ev_ixL (j := m.toNat) ha (hm ▸ hb) ?_
  rw [List.getElem?_map, List.getElem?_eq_getElem (show m.toNat < ws.length by omega)]
  unfold wAt
  rw [List.getD_eq_getElem?_getD, List.getElem?_eq_getElem (show m.toNat < ws.length by omega)]
  rfl
/-- over enumerate(a list of ints) -/
theorem en_lcE {i j : Nat} {vs : List Nat} {ns : List Int} {t : TA} (f : Nat → Int → Int) (h : EvA K t σ H [.list (dI ns)]) (hl : ns.length ≤ 1000) (hw : ∀ x y, wipe (((wipe σ vs).set i (some x)).set j (some y)) vs = wipe σ vs)
    (hs : ∀ k n H', Same H H' → ns[k]? = some n → Ev K te (((wipe σ vs).set i (some (.int (k : Nat)))).set j (some (.int n))) H' (.int (f k n))) :
    EvN K (tLc (iEnum K t) (gTup K 2 (gCons (gName i) (gCons (gName j) gNil))) tYes te vs) σ H (dI (ns.mapIdx f)) := fun H1 e Q q =>
  h H1 e _ fun us H2 e2 hv => by
    obtain ⟨v, rfl, hw'⟩ := hv.one
    obtain ⟨a, rfl, hq⟩ := hw'.lI_inv
    refine ⟨a, _, rfl, hq, fun D hD => lc_it (walk_enum (K := K) (a := a) (xs := ns.map V.int)) (fun k H' => Same H2 H' ∧ H' D = some (.lst (((ns.take k).mapIdx f).map V.int))) ⟨Same.new hD, upd_same⟩ (fun k H' _ p => p.1.seq hq) (fun k x H' H3 hk p y => ?_) fun H' p => ?_⟩
    · obtain ⟨sm, eD⟩ := p
      obtain ⟨T, x1, x2, rfl, nT, rfl, f1, f2⟩ := y
      obtain rfl : V.int k = x1 := Option.some.inj f1
      rw [List.length_map] at hk
      have f3 : (ns.map V.int)[k]? = some x2 := f2
      rw [List.getElem?_map, List.getElem?_eq_getElem hk] at f3
      obtain rfl : V.int ns[k] = x2 := Option.some.inj f3
      have e3 := Same.new (o := .tup [.int k, .int ns[k]]) nT
      refine ⟨T, _, rfl, .inl (.inl upd_same), rfl, _, _, rfl, _, _, rfl, rfl, hw _ _, ?_⟩
      refine eb_yes _ (Same.refl _) _ fun H9 e9 => iteT (hs k ns[k] H9 ((e.trans e2).trans ((sm.trans e3).trans e9)) (List.getElem?_eq_getElem hk) _ (Same.refl _) _ fun v H4 e4 hv4 => ?_)
      obtain rfl := hv4.int_inv
      refine ⟨_, e4 _ _ (e9 _ _ (e3 _ _ eD)), ?_, Same.mut (((sm.trans e3).trans e9).trans e4) hD, ?_⟩
      · rw [List.length_map, List.length_mapIdx, List.length_take]
        exact small1000 (by omega)
      · rw [upd_same, List.take_add_one, List.getElem?_eq_getElem hk]
        simp only [Option.toList_some]
        rw [List.mapIdx_concat, List.map_append, List.length_take, Nat.min_eq_left (Nat.le_of_lt hk)]
        rfl
    · obtain ⟨sm, eD⟩ := p
      rw [List.length_map, List.take_length] at eD
      exact q D _ H' (e2.free hD) (e2.trans sm) eD (TpAll.ofInts _)
end
end WB

/-! the program's defs: yards -/
namespace WB
open PySem PySem.Spec PyProof.Rows L2
section
variable {P : Program} {w : World} {K : PySem.W.Frag} {mg : Str → Option Value} {base : Heap}
theorem filter_tt {α : Type} (l : List α) : l.filter (fun _ => true) = l := List.filter_eq_self.mpr fun _ _ => rfl
abbrev s_is_name : Stmt := topS 9
abbrev N_is_name : List Str := ["name", "sign"]
theorem sc_is_name : FnScope N_is_name ["name"] (defScope s_is_name) := ⟨rfl, rfl, rfl, by decide +kernel, rfl, by decide +kernel, by decide +kernel⟩
def spName (K : PySem.W.Frag) : Sp := spF K (α := Str) (fun s => [.str s]) NameOk (fun _ => .bool true)
theorem ok_is_name (F : Df K mg "is_name" s_is_name) (M : Mg mg) : Cl P w K mg base 1 "is_name" (spName K) := by
  refine cl_of F sc_is_name (fun _ _ _ _ _ _ us hl => match us, hl with | [_], _ => rfl) (fun vs H Q E h => ?_) (fun f cdv A outer s H vs Q E hr h => ?_)
  · obtain ⟨x, h, _⟩ := h
    exact h.len
  · have nd := sc_is_name.nd
    obtain ⟨z, h, ok, q⟩ := h
    obtain ⟨v, rfl, h1⟩ := h.one
    have hz : z.cps.size ≤ 6 := ok.2.1
    refine ⟨_, (pss_one (ps_ret (pe_and (pe_chain op_le op_le pe_int (pe_callB call_len_str (by rfl) M.b_len (by decide +kernel) (pa_cons (pv 0) pa_nil)) (pe_gI rfl M.cLETTERS)) (pe_one (pe_cmpR (k_eqD K hr.units) (pe_lc (own := [("sign", 1)]) (g := gName 1) (by rfl) nd (pi_str (pv 0)) (blkOk_by (N := N_is_name) (sc := defScope s_is_name) (by decide +kernel)) (fun _ _ _ _ _ => pg_name (i := 1) nd rfl (by first | exact Or.inl rfl | exact Or.inr rfl)) (fun _ _ _ _ _ => pts_one (pt_cmpR op_notIn_sign (pv 1) (pe_gS rfl M.cSMALL) (by rfl))) (fun _ _ _ _ _ => (pv 1))) (pe_lst pa_nil) (nomark _)))))), ?_⟩
    refine s_ret (K := K) ((ev_andV (ev_chainI ev_int (ev_lenS (ea_cons (ev_v h1) ea_nil) (Nat.le_trans hz (by decide))) ev_int) fun _ => ev_eqD (EvN.ev (en_lcS (fun c => !decide (c ∈ smallSigns)) (fun c => .str ⟨#[c]⟩) (ev_v h1) (by omega) (fun x => rfl) fun c hc H' e => ⟨eb_test (K := K) (ev_op (ev_v (.t (.str _))) ev_str fun v u H1 _ hv hu Q q => ?_), fun _ => ⟨rfl, ev_v (.t (.str _))⟩⟩)) (EvN.ev (en_lst ea_nil rfl (by decide))) ?_ rfl).is ?_) fun v H1 e hv => q v H1 e hv
    · obtain rfl := hv.str_inv
      obtain rfl := hu.str_inv
      refine ⟨c, _, rfl, rfl, ?_⟩
      rw [small_is]
      exact q _ _ (Same.refl _) (.t (.bl _))
    · exact (sh_list (k := 0) fun d hd => by
        obtain ⟨c, hc, rfl⟩ := List.mem_map.mp hd
        have := ok.2.2 c (List.mem_filter.mp hc).1
        have := (List.mem_filter.mp hc).2
        simp_all).ok
    · rw [eqv_nil, filter_nil]
      have h1 := ok.1
      have h2 := ok.2.1
      have h3 : (z.cps.toList.all fun c => decide (c ∈ smallSigns)) = true := List.all_eq_true.mpr fun c hc => decide_eq_true (ok.2.2 c hc)
      rw [h3, decide_eq_true (show (1 : Int) ≤ (z.length : Nat) by omega), decide_eq_true (show ((z.length : Nat) : Int) ≤ 6 by omega)]
      rfl

abbrev s_are_marks : Stmt := topS 10
abbrev N_are_marks : List Str := ["some", "many", "mark"]
theorem sc_are_marks : FnScope N_are_marks ["some", "many"] (defScope s_are_marks) := ⟨rfl, rfl, rfl, by decide +kernel, rfl, by decide +kernel, by decide +kernel⟩
def spMarks (K : PySem.W.Frag) : Sp := spF K (α := List Int × Nat) (fun x => [tI x.1, .int x.2]) (fun x => Ms x.2 x.1 ∧ x.2 ≤ 5) (fun _ => .bool true)
theorem ok_are_marks (F : Df K mg "are_marks" s_are_marks) (M : Mg mg) : Cl P w K mg base 1 "are_marks" (spMarks K) := by
  refine cl_of F sc_are_marks (fun _ _ _ _ _ _ us hl => match us, hl with | [_, _], _ => rfl) (fun vs H Q E h => ?_) (fun f cdv A outer s H vs Q E hr h => ?_)
  · obtain ⟨x, h, _⟩ := h
    exact h.len
  · have nd := sc_are_marks.nd
    obtain ⟨⟨ms, n⟩, h, ⟨ok, n5⟩, q⟩ := h
    obtain ⟨v, u, rfl, h1, h2⟩ := h.two
    have hl : ms.length ≤ 5 := Nat.le_trans ok.len n5
    refine ⟨_, (pss_one (ps_ret (pe_and (pe_cmpR (k_eqD K hr.units) (pe_callTy (k_listOf K) (by rfl) M.b_list (by decide +kernel) (pa_cons (pv 0) pa_nil)) (pe_callB (cr_sortedSet rfl) (by rfl) M.b_sorted (by decide +kernel) (pa_cons (pe_scI (own := [("mark", 2)]) (g := gName 2) (by rfl) nd (k_tup K (pv 0)) (blkOk_by (N := N_are_marks) (sc := defScope s_are_marks) (by decide +kernel)) (fun _ _ _ _ _ => pg_name (i := 2) nd rfl (by first | exact Or.inl rfl | exact Or.inr rfl)) (fun _ _ _ _ _ => pts_nil) (fun _ _ _ _ _ => (pv 2))) pa_nil)) (nomark _)) (pe_one (pe_cmpR (k_eqD K hr.units) (pe_lc (own := [("mark", 2)]) (g := gName 2) (by rfl) nd (k_tup K (pv 0)) (blkOk_by (N := N_are_marks) (sc := defScope s_are_marks) (by decide +kernel)) (fun _ _ _ _ _ => pg_name (i := 2) nd rfl (by first | exact Or.inl rfl | exact Or.inr rfl)) (fun _ _ _ _ _ => pts_one (pt_not (pt_chain op_le op_lt pe_int (pv 2) (pv 1)))) (fun _ _ _ _ _ => (pv 2))) (pe_lst pa_nil) (nomark _)))))), ?_⟩
    refine s_ret (K := K) ((ev_andV (ev_eqD (en_list (ea_cons (ev_v h1) ea_nil) (.inl rfl)).ev (en_sortS (n := ms.length) (ms := ms) (es_scT (fun _ => true) (ev_v h1) (by omega) (fun x => rfl) fun z hz H' e => ⟨eb_yes, ev_v (.t (.int _))⟩) (by omega) ok.1 fun k => by simp).ev (sh_lI ms).ok (sh_lI ms).ok) fun _ =>
      ev_eqD (EvN.ev (en_fT (fun m => !(decide (0 ≤ m) && decide (m < (n : Int)))) PyData.int (ev_v h1) (show ms.length ≤ 100000 by omega) (fun x => rfl) fun m hm x H' e hx => ⟨eb_not (eb_test (ev_chainI ev_int (ev_v hx) (ev_v (h2.same e)))), fun _ => ⟨rfl, ev_v hx⟩⟩)) (EvN.ev (en_lst ea_nil rfl (by decide))) (sh_lI _).ok rfl).is ?_) fun v H1 e hv => q v H1 e hv
    rw [eqv_lI, eqv_nil, filter_nil, decide_eq_true rfl, List.all_eq_true.mpr fun m hm => ?_]
    · rfl
    · have := ok.2 m hm
      rw [decide_eq_true this.1, decide_eq_true this.2]
      rfl

abbrev s_is_deed : Stmt := topS 11
abbrev N_is_deed : List Str := ["deed", "ahead", "many", "name", "needs", "sets", "strikes", "cost", "other", "mark"]
theorem sc_is_deed : FnScope N_is_deed ["deed", "ahead", "many"] (defScope s_is_deed) := ⟨rfl, rfl, rfl, by decide +kernel, rfl, by decide +kernel, by decide +kernel⟩
theorem ev_inStr {σ : L2.St} {H : Hp} {ta tb : TE} {i : Str} {ns : List Str} (ha : Ev K ta σ H (.str i)) (hb : Ev K tb σ H (.list (ns.map .str))) : Ev K (tOp (rIn K false) ta tb) σ H (.bool (decide (i ∈ ns))) := ev_op ha hb fun v u H1 _ hv hu Q q => by
  obtain rfl := hv.str_inv
  obtain ⟨a, xs, rfl, h, hx⟩ := hu.lst_inv
  rw [hx.strs] at h
  refine ⟨a, _, rfl, .inl h, rfl, flat_strs ns, q _ H1 (Same.refl H1) ?_⟩
  rw [if_neg (by decide), inV_str]
  exact .t (.bl _)
theorem ev_inStrT {σ : L2.St} {H : Hp} {ta tb : TE} {i : Str} {ns : List Str} (ha : Ev K ta σ H (.str i)) (hb : Ev K tb σ H (.tuple (ns.map .str))) : Ev K (tOp (rIn K false) ta tb) σ H (.bool (decide (i ∈ ns))) := ev_op ha hb fun v u H1 _ hv hu Q q => by
  obtain rfl := hv.str_inv
  obtain ⟨a, xs, rfl, h, hx⟩ := hu.tup_inv
  rw [hx.strs] at h
  refine ⟨a, _, rfl, .inr h, rfl, flat_strs ns, q _ H1 (Same.refl H1) ?_⟩
  rw [if_neg (by decide), inV_str]
  exact .t (.bl _)
def spDeed (K : PySem.W.Frag) : Sp := spF K (α := Deed × List Deed × Nat) (fun x => [x.1.dat, .tuple (x.2.1.map Deed.dat), .int x.2.2]) (fun x => x.1.Ok x.2.2 ∧ x.1.name ∉ x.2.1.map (·.name) ∧ x.2.2 ≤ 5 ∧ x.2.1.length ≤ 1000) (fun _ => .bool true)
theorem ok_is_deed (F : Df K mg "is_deed" s_is_deed) (M : Mg mg) (C_is_name : Cl P w K mg base 1 "is_name" (spName K)) (C_are_marks : Cl P w K mg base 1 "are_marks" (spMarks K)) : Cl P w K mg base 2 "is_deed" (spDeed K) := by
  refine cl_of F sc_is_deed (fun _ _ _ _ _ _ us hl => match us, hl with | [_, _, _], _ => rfl) (fun vs H Q E h => ?_) (fun f cdv A outer s H vs Q E hr h => ?_)
  · obtain ⟨x, h, _⟩ := h
    exact h.len
  · have nd := sc_is_deed.nd
    obtain ⟨⟨d, ah, n⟩, h, ⟨ok, hna, n5, hal⟩, q⟩ := h
    obtain ⟨v1, v2, v3, rfl, h1, h2, h3⟩ := h.three
    dsimp only at h1 h2 h3 ok hna n5 hal
    refine ⟨_, (pss_cons (ps_asg (pv 0) (k_gtup K (n := 5) rfl (pgs_cons (pg_name (i := 3) nd rfl (by first | exact Or.inl rfl | exact Or.inr rfl)) (pgs_cons (pg_name (i := 4) nd rfl (by first | exact Or.inl rfl | exact Or.inr rfl)) (pgs_cons (pg_name (i := 5) nd rfl (by first | exact Or.inl rfl | exact Or.inr rfl)) (pgs_cons (pg_name (i := 6) nd rfl (by first | exact Or.inl rfl | exact Or.inr rfl)) (pgs_cons (pg_name (i := 7) nd rfl (by first | exact Or.inl rfl | exact Or.inr rfl)) pgs_nil)))))))
      (pss_cons (ps_if (PW.pt (pw_or (pt_not (pt_val (pe_cl C_is_name hr (by decide) (by rfl) (pa_cons (pv 3) pa_nil)))) (pw_or (pt_cmpR (k_in K) (pv 3) (pe_lc (own := [("other", 8)]) (g := gName 8) (by rfl) nd (k_tup K (pv 1)) (blkOk_by (N := N_is_deed) (sc := defScope s_is_deed) (by decide +kernel)) (fun _ _ _ _ _ => pg_name (i := 8) nd rfl (by first | exact Or.inl rfl | exact Or.inr rfl)) (fun _ _ _ _ _ => pts_nil) (fun _ _ _ _ _ => (pe_ix (k_ixT K) (pv 8) pe_int (fun _ _ => rfl)))) (by rfl)) (pw_or1 (pt_not (pt_chain op_le op_le pe_int (pv 7) (pe_gI rfl M.cCOST)))))))
        (pss_one (ps_ret pe_bl))
        pss_nil)
      (pss_cons (ps_if (PW.pt (pw_or (pt_not (pt_val (pe_cl C_are_marks hr (by decide) (by rfl) (pa_cons (pv 4) (pa_cons (pv 2) pa_nil))))) (pw_or (pt_not (pt_val (pe_cl C_are_marks hr (by decide) (by rfl) (pa_cons (pv 5) (pa_cons (pv 2) pa_nil))))) (pw_or1 (pt_not (pt_val (pe_cl C_are_marks hr (by decide) (by rfl) (pa_cons (pv 6) (pa_cons (pv 2) pa_nil)))))))))
        (pss_one (ps_ret pe_bl))
        pss_nil)
      (pss_one (ps_ret (pe_cmpR (k_eqD K hr.units) (pe_lc (own := [("mark", 9)]) (g := gName 9) (by rfl) nd (k_tup K (pv 5)) (blkOk_by (N := N_is_deed) (sc := defScope s_is_deed) (by decide +kernel)) (fun _ _ _ _ _ => pg_name (i := 9) nd rfl (by first | exact Or.inl rfl | exact Or.inr rfl)) (fun _ _ _ _ _ => pts_one (pt_cmpR (k_in K) (pv 9) (pv 6) (by rfl))) (fun _ _ _ _ _ => (pv 9))) (pe_lst pa_nil) (nomark _))))))), ?_⟩
    refine q_tup (K := K) (ev_v h1) rfl fun xs H1 e1 hx => ?_
    obtain ⟨x1, r, rfl, t1, hx⟩ := hx.cons_inv
    obtain ⟨x2, r, rfl, t2, hx⟩ := hx.cons_inv
    obtain ⟨x3, r, rfl, t3, hx⟩ := hx.cons_inv
    obtain ⟨x4, r, rfl, t4, hx⟩ := hx.cons_inv
    obtain ⟨x5, r, rfl, t5, hx⟩ := hx.cons_inv
    obtain rfl := hx.nil_inv
    refine ⟨x1, _, rfl, x2, _, rfl, x3, _, rfl, x4, _, rfl, x5, _, rfl, rfl, ?_⟩
    refine q_no (EvB.is (eb_or (eb_not (eb_B (K := K) (b := true) ?_)) fun _ => eb_or (eb_test (K := K) (b := decide (d.name ∈ ah.map (·.name))) ?_) fun _ => eb_not (eb_test (K := K) (b := decide (0 ≤ d.cost) && decide (d.cost ≤ 99)) ?_)) ?_) fun H2 e2 => ?_
    · exact ev_call d.name (ea_cons (ev_v (.t t1)) ea_nil) ok.name
    · refine ev_inStr (i := d.name) (ns := ah.map (·.name)) ?_ ?_
      · exact ev_v (.t t1)
      exact (Ev.is (EvN.ev (en_fT (fun _ => true) (fun x => PyData.str x.name) (ev_v (h2.same e1)) (by omega) (fun x => rfl) fun x hx v H' e hv => ⟨eb_yes, fun _ => ⟨rfl, ev_ixT (j := 0) (ev_v hv) ev_int rfl⟩⟩)) (by rw [filter_tt, List.map_map]; rfl))
    · exact ev_chainI ev_int (ev_v (.t t5)) ev_int
    · have c1 : decide (d.name ∈ ah.map (·.name)) = false := decide_eq_false hna
      rw [c1, decide_eq_true ok.cost.1, decide_eq_true ok.cost.2]
      rfl
    refine q_no (EvB.is (eb_or (eb_not (eb_B (K := K) (b := true) ?_)) fun _ => eb_or (eb_not (eb_B (K := K) (b := true) ?_)) fun _ => eb_not (eb_B (K := K) (b := true) ?_)) rfl) fun H3 e3 => ?_
    · exact ev_call (d.needs, n) (ea_cons (ev_v (.t (t2.same e2))) (ea_cons (ev_v ((h3.same e1).same e2)) ea_nil)) ⟨ok.needs, n5⟩
    · exact ev_call (d.sets, n) (ea_cons (ev_v (.t (t3.same e2))) (ea_cons (ev_v ((h3.same e1).same e2)) ea_nil)) ⟨ok.sets, n5⟩
    · exact ev_call (d.strikes, n) (ea_cons (ev_v (.t (t4.same e2))) (ea_cons (ev_v ((h3.same e1).same e2)) ea_nil)) ⟨ok.strikes, n5⟩
    have e := (e1.trans e2).trans e3
    refine s_ret (K := K) ((ev_eqD (EvN.ev (en_fT (fun m => decide (m ∈ d.strikes)) PyData.int (ev_v (.t ((t3.same e2).same e3))) (by have := ok.sets.len; omega) (fun x => rfl) fun m hm x H' e4 hx =>
      ⟨eb_test (ev_inT (ev_v hx) (ev_v (.t (((t4.same e2).same e3).same e4)))), fun _ => ⟨rfl, ev_v hx⟩⟩)) (EvN.ev (en_lst ea_nil rfl (by decide))) (sh_lI _).ok rfl).is ?_) fun v H1 e4 hv => q v H1 (e.trans e4) hv
    rw [eqv_nil, List.filter_eq_nil_iff.mpr fun m hm => ?_]
    · rfl
    · simpa using ok.apart m hm

abbrev s_need_yard : Stmt := topS 12
abbrev N_need_yard : List Str := ["yard", "marks", "deeds", "begin", "wish", "at", "name", "deed", "word", "some"]
theorem sc_need_yard : FnScope N_need_yard ["yard"] (defScope s_need_yard) := ⟨rfl, rfl, rfl, by decide +kernel, rfl, by decide +kernel, by decide +kernel⟩
def spNeed (K : PySem.W.Frag) : Sp := spF K (α := Yard) (fun y => [y.dat]) Yard.Ok (fun _ => .none)
theorem ok_need_yard (F : Df K mg "need_yard" s_need_yard) (M : Mg mg) (C_is_name : Cl P w K mg base 1 "is_name" (spName K)) (C_are_marks : Cl P w K mg base 1 "are_marks" (spMarks K)) (C_is_deed : Cl P w K mg base 2 "is_deed" (spDeed K)) :
    Cl P w K mg base 3 "need_yard" (spNeed K) := by
  refine cl_of F sc_need_yard (fun _ _ _ _ _ _ us hl => match us, hl with | [_], _ => rfl) (fun vs H Q E h => ?_) (fun f cdv A outer s H vs Q E hr h => ?_)
  · obtain ⟨x, h, _⟩ := h
    exact h.len
  · have nd := sc_need_yard.nd
    obtain ⟨y, h, ok, q⟩ := h
    obtain ⟨v0, rfl, h0⟩ := h.one
    have hm1 := ok.m1
    have hm5 := ok.m5
    have hd10 := ok.d10
    refine ⟨_, (pss_cons (ps_asg (pv 0) (k_gtup K (n := 4) rfl (pgs_cons (pg_name (i := 1) nd rfl (by first | exact Or.inl rfl | exact Or.inr rfl)) (pgs_cons (pg_name (i := 2) nd rfl (by first | exact Or.inl rfl | exact Or.inr rfl)) (pgs_cons (pg_name (i := 3) nd rfl (by first | exact Or.inl rfl | exact Or.inr rfl)) (pgs_cons (pg_name (i := 4) nd rfl (by first | exact Or.inl rfl | exact Or.inr rfl)) pgs_nil))))))
      (pss_cons (ps_if (pt_not (pt_chain op_le op_le pe_int (pe_callB (k_len K) (by rfl) M.b_len (by decide +kernel) (pa_cons (pv 1) pa_nil)) (pe_gI rfl M.cMARKS)))
        (pss_one ps_never)
        pss_nil)
      (pss_cons (ps_for PassesOwn.never rfl (pi_enumT (by rfl) M.b_enumerate (pa_cons (pv 1) pa_nil)) (k_gtup K (n := 2) rfl (pgs_cons (pg_name (i := 5) nd rfl (by first | exact Or.inl rfl | exact Or.inr rfl)) (pgs_cons (pg_name (i := 6) nd rfl (by first | exact Or.inl rfl | exact Or.inr rfl)) pgs_nil)))
        (pss_one (ps_if (PW.pt (pw_or (pt_not (pt_val (pe_cl C_is_name hr (by decide) (by rfl) (pa_cons (pv 6) pa_nil)))) (pw_or1 (pt_cmpR (k_in K) (pv 6) (pe_slice (k_slT K) (pv 1) po_none (po_some (pv 5))) (by rfl)))))
          (pss_one ps_never)
          pss_nil)))
      (pss_cons (ps_if (pt_cmpR op_gt (pe_callB (k_len K) (by rfl) M.b_len (by decide +kernel) (pa_cons (pv 2) pa_nil)) (pe_gI rfl M.cDEEDS) (nomark _))
        (pss_one ps_never)
        pss_nil)
      (pss_cons (ps_for PassesOwn.never rfl (pi_enumT (by rfl) M.b_enumerate (pa_cons (pv 2) pa_nil)) (k_gtup K (n := 2) rfl (pgs_cons (pg_name (i := 5) nd rfl (by first | exact Or.inl rfl | exact Or.inr rfl)) (pgs_cons (pg_name (i := 7) nd rfl (by first | exact Or.inl rfl | exact Or.inr rfl)) pgs_nil)))
        (pss_one (ps_if (pt_not (pt_val (pe_cl C_is_deed hr (by decide) (by rfl) (pa_cons (pv 7) (pa_cons (pe_slice (k_slT K) (pv 2) po_none (po_some (pv 5))) (pa_cons (pe_callB (k_len K) (by rfl) M.b_len (by decide +kernel) (pa_cons (pv 1) pa_nil)) pa_nil))))))
          (pss_one ps_never)
          pss_nil)))
      (pss_one (ps_for PassesOwn.never rfl (k_list K (pe_lst (pa_cons (pe_tup (pa_cons pe_str (pa_cons (pv 3) pa_nil))) (pa_cons (pe_tup (pa_cons pe_str (pa_cons (pv 4) pa_nil))) pa_nil)))) (k_gtup K (n := 2) rfl (pgs_cons (pg_name (i := 8) nd rfl (by first | exact Or.inl rfl | exact Or.inr rfl)) (pgs_cons (pg_name (i := 9) nd rfl (by first | exact Or.inl rfl | exact Or.inr rfl)) pgs_nil)))
        (pss_one (ps_if (pt_not (pt_val (pe_cl C_are_marks hr (by decide) (by rfl) (pa_cons (pv 9) (pa_cons (pe_callB (k_len K) (by rfl) M.b_len (by decide +kernel) (pa_cons (pv 1) pa_nil)) pa_nil)))))
          (pss_one ps_never)
          pss_nil))))))))), ?_⟩
    refine q_tup (K := K) (ev_v h0) rfl fun xs H1 e1 hx => ?_
    obtain ⟨x1, r, rfl, t1, hx⟩ := hx.cons_inv
    obtain ⟨x2, r, rfl, t2, hx⟩ := hx.cons_inv
    obtain ⟨x3, r, rfl, t3, hx⟩ := hx.cons_inv
    obtain ⟨x4, r, rfl, t4, hx⟩ := hx.cons_inv
    obtain rfl := hx.nil_inv
    refine ⟨x1, _, rfl, x2, _, rfl, x3, _, rfl, x4, _, rfl, rfl, ?_⟩
    refine q_no (EvB.is (eb_not (eb_test (K := K) (ev_chainI ev_int (ev_len (ea_cons (ev_v (.t t1)) ea_nil) (.inl rfl)) ev_int))) ?_) fun H2 e2 => ?_
    · rw [List.length_map, decide_eq_true (show (1 : Int) ≤ (y.marks.length : Nat) by omega), decide_eq_true (show ((y.marks.length : Nat) : Int) ≤ 10 by omega)]
      rfl
    refine q_forET (K := K) (ea_cons (ev_v (.t (t1.same e2))) ea_nil) (fun H3 i σ' H' => Same H3 H' ∧ ∃ a b, σ' = [some v0, some x1, some x2, some x3, some x4, a, b, none, none, none]) (fun H3 _ => ⟨Same.refl H3, none, none, rfl⟩) (fun _ _ _ _ p => p.1) (fun H3 i d v T σ' H' H'' e3 hi p e4 tv hT => ?_) fun H3 σ' H' e3 p => ?_
    · obtain ⟨e5, a, b, rfl⟩ := p
      obtain ⟨nm, hn, rfl⟩ := List.mem_map.mp (List.mem_of_getElem? hi)
      rw [List.getElem?_map] at hi
      obtain ⟨nm', hn', en⟩ := Option.map_eq_some_iff.mp hi
      cases en
      have ee := (e2.trans e3).trans (e5.trans e4)
      have hil : i < y.marks.length := (List.getElem?_eq_some_iff.mp hn').1
      refine ⟨T, _, rfl, .inl (.inl hT), rfl, _, _, rfl, v, _, rfl, rfl, ?_⟩
      refine z_seq (q_no (EvB.is (eb_or (eb_not (eb_B (K := K) (b := true) ?_)) fun _ => eb_test (K := K) (b := decide (nm ∈ y.marks.take i)) ?_) ?_) fun H5 e6 => ⟨(e5.trans e4).trans e6, _, _, rfl⟩)
      · exact ev_call nm (ea_cons (ev_v (.t tv)) ea_nil) (ok.names nm hn)
      · exact ev_inStrT (i := nm) (ns := y.marks.take i) (ev_v (.t tv)) (Ev.is (ev_slT (j := i) (ev_v (.t (t1.same ee))) (ev_v (.t (.int _))) (by rw [List.length_map]; exact hil)) (by rw [List.map_take]))
      · rw [decide_eq_false]
        · rfl
        · exact notin_take ok.nd hn'
    · obtain ⟨e4, a, b, rfl⟩ := p
      have ee := (e2.trans e3).trans e4
      refine q_no (EvB.is (eb_test (K := K) (ev_gt (ev_len (ea_cons (ev_v (.t (t2.same ee))) ea_nil) (.inl rfl)) ev_int)) ?_) fun H4 e5 => ?_
      · rw [List.length_map]
        exact decide_eq_false (by omega)
      have ee2 := ee.trans e5
      refine q_forET (K := K) (ea_cons (ev_v (.t (t2.same ee2))) ea_nil) (fun H5 i σ' H' => Same H5 H' ∧ ∃ a b c, σ' = [some v0, some x1, some x2, some x3, some x4, a, b, c, none, none]) (fun H5 _ => ⟨Same.refl H5, a, b, none, rfl⟩) (fun _ _ _ _ p => p.1) (fun H5 i d v T σ' H' H'' e6 hi p e7 tv hT => ?_) fun H5 σ' H' e6 p => ?_
      · obtain ⟨e8, a, b, c, rfl⟩ := p
        rw [List.getElem?_map] at hi
        obtain ⟨dd, hn', en⟩ := Option.map_eq_some_iff.mp hi
        cases en
        have hn := List.mem_of_getElem? hn'
        have e9 := (ee2.trans e6).trans (e8.trans e7)
        have hil : i < y.deeds.length := (List.getElem?_eq_some_iff.mp hn').1
        refine ⟨T, _, rfl, .inl (.inl hT), rfl, _, _, rfl, v, _, rfl, rfl, ?_⟩
        refine z_seq (q_no (EvB.is (eb_not (eb_B (K := K) (b := true) ?_)) rfl) fun H6 e10 => ⟨(e8.trans e7).trans e10, _, _, _, rfl⟩)
        refine ev_call (dd, y.deeds.take i, y.marks.length) (ea_cons (ev_v (.t tv)) (ea_cons (Ev.is (ev_slT (j := i) (ev_v (.t (t2.same e9))) (ev_v (.t (.int _))) (by rw [List.length_map]; exact hil)) (by rw [List.map_take])) (ea_cons (Ev.is (ev_len (ea_cons (ev_v (.t (t1.same e9))) ea_nil) (.inl rfl)) (by rw [List.length_map])) ea_nil))) ⟨ok.deeds dd hn, fun z => ?_, hm5, by dsimp only; rw [List.length_take]; omega⟩
        dsimp only at z
        rw [List.map_take] at z
        exact notin_take ok.dnd (by rw [List.getElem?_map, hn']; rfl) z
      · obtain ⟨e7, a, b, c, rfl⟩ := p
        have e8 := (ee2.trans e6).trans e7
        refine z_seq (q_forL (K := K) (EvN.ev (en_lst (ea_cons (ev_tup (ea_cons ev_str (ea_cons (ev_v (.t (t3.same e8))) ea_nil)) rfl (by simp)) (ea_cons (ev_tup (ea_cons ev_str (ea_cons (ev_v (.t (t4.same e8))) ea_nil)) rfl (by simp)) ea_nil)) rfl (by simp)))
          (fun H6 i σ' H' => Same H6 H' ∧ ∃ a b c d e, σ' = [some v0, some x1, some x2, some x3, some x4, a, b, c, d, e]) (fun H6 _ => ⟨Same.refl H6, a, b, c, none, none, rfl⟩) (fun _ _ _ _ p => p.1) (fun H6 i d v σ' H' e9 hi p tv => ?_) fun H6 σ' H' e9 p => q _ _ ((e1.trans e8).trans (e9.trans p.1)) (.t .non))
        obtain ⟨e10, a, b, c, d', e', rfl⟩ := p
        have e11 := (e8.trans e9).trans e10
        have key : ∃ (sg : Str) (ms : List Int), d = .tuple [.str sg, tI ms] ∧ Ms y.marks.length ms := by
          match i, hi with
          | 0, hi => cases hi; exact ⟨_, _, rfl, ok.start⟩
          | 1, hi => cases hi; exact ⟨_, _, rfl, ok.wish⟩
          | i + 2, hi => cases hi
        obtain ⟨sg, ms, rfl, hms⟩ := key
        obtain ⟨T, xs, rfl, hT, hx⟩ := tv.tup_inv
        obtain ⟨y1, r, rfl, u1, hx⟩ := hx.cons_inv
        obtain ⟨y2, r, rfl, u2, hx⟩ := hx.cons_inv
        obtain rfl := hx.nil_inv
        refine ⟨T, _, rfl, hT, rfl, y1, _, rfl, y2, _, rfl, rfl, ?_⟩
        refine z_seq (q_no (EvB.is (eb_not (eb_B (K := K) (b := true) ?_)) rfl) fun H7 e12 => ⟨e10.trans e12, _, _, _, _, _, rfl⟩)
        exact ev_call (ms, y.marks.length) (ea_cons (ev_v (.t u2)) (ea_cons (Ev.is (ev_len (ea_cons (ev_v (.t (t1.same e11))) ea_nil) (.inl rfl)) (by rw [List.length_map])) ea_nil)) ⟨hms, hm5⟩
end
end WB

/-! the program's defs: states, rows -/
namespace WB
open PySem PySem.Spec PyProof.Rows L2
section
variable {P : Program} {w : World} {K : PySem.W.Frag} {mg : Str → Option Value} {base : Heap}
abbrev s_has : Stmt := topS 13
abbrev N_has : List Str := ["state", "some", "mark"]
theorem sc_has : FnScope N_has ["state", "some"] (defScope s_has) := ⟨rfl, rfl, rfl, by decide +kernel, rfl, by decide +kernel, by decide +kernel⟩
def spHas (K : PySem.W.Frag) : Sp := spF K (α := Bool × List Int × List Int) (fun x => [sI x.1 x.2.1, tI x.2.2]) (fun x => x.2.2.length ≤ 1000) (fun x => .bool (hasB x.2.1 x.2.2))
theorem ok_has (F : Df K mg "has" s_has) (M : Mg mg) : Cl P w K mg base 1 "has" (spHas K) := by
  refine cl_of F sc_has (fun _ _ _ _ _ _ us hl => match us, hl with | [_, _], _ => rfl) (fun vs H Q E h => ?_) (fun f cdv A outer s H vs Q E hr h => ?_)
  · obtain ⟨x, h, _⟩ := h
    exact h.len
  · have nd := sc_has.nd
    obtain ⟨⟨l, st, ms⟩, h, hl, q⟩ := h
    obtain ⟨v1, v2, rfl, h1, h2⟩ := h.two
    dsimp only at h1 h2 hl
    refine ⟨_, (pss_one (ps_ret (pe_cmpR (k_eqD K hr.units) (pe_lc (own := [("mark", 2)]) (g := gName 2) (by rfl) nd (k_tup K (pv 1)) (blkOk_by (N := N_has) (sc := defScope s_has) (by decide +kernel)) (fun _ _ _ _ _ => pg_name (i := 2) nd rfl (by first | exact Or.inl rfl | exact Or.inr rfl)) (fun _ _ _ _ _ => pts_one (pt_cmpR (k_notIn K) (pv 2) (pv 0) (by rfl))) (fun _ _ _ _ _ => (pv 2))) (pe_lst pa_nil) (nomark _)))), ?_⟩
    refine s_ret (K := K) (Ev.is (ev_eqD (EvN.ev (en_fT (fun m => !decide (m ∈ st)) PyData.int (ev_v h2) (Nat.le_trans hl (by decide)) (fun x => rfl) fun m hm x H' e hx =>
      ⟨eb_test (ev_niS (ev_v hx) (ev_v (h1.same e))), fun _ => ⟨rfl, ev_v hx⟩⟩)) (EvN.ev (en_lst ea_nil rfl (by simp))) (sh_lI _).ok rfl) ?_) fun v H1 e hv => q v H1 e hv
    rw [eqv_nil, filter_nil]
    rfl

abbrev s_behind : Stmt := topS 14
abbrev N_behind : List Str := ["state", "deed", "mark"]
theorem sc_behind : FnScope N_behind ["state", "deed"] (defScope s_behind) := ⟨rfl, rfl, rfl, by decide +kernel, rfl, by decide +kernel, by decide +kernel⟩
def spBehind (K : PySem.W.Frag) : Sp := spF K (α := List Int × Deed) (fun x => [tI x.1, x.2.dat]) (fun x => Ms 5 x.1 ∧ x.2.Ok 5) (fun x => tI (afterM x.1 x.2))
theorem ok_behind (F : Df K mg "behind" s_behind) (M : Mg mg) : Cl P w K mg base 1 "behind" (spBehind K) := by
  refine cl_of F sc_behind (fun _ _ _ _ _ _ us hl => match us, hl with | [_, _], _ => rfl) (fun vs H Q E h => ?_) (fun f cdv A outer s H vs Q E hr h => ?_)
  · obtain ⟨x, h, _⟩ := h
    exact h.len
  · have nd := sc_behind.nd
    obtain ⟨⟨st, d⟩, h, ⟨hst, hd⟩, q⟩ := h
    obtain ⟨v1, v2, rfl, h1, h2⟩ := h.two
    dsimp only at h1 h2 hst hd
    have l1 := hst.len
    have l2 := hd.sets.len
    refine ⟨_, (pss_one (ps_ret (pe_callTy (k_tupOf K) (by rfl) M.b_tuple (by decide +kernel) (pa_cons (pe_callB (cr_sortedSet rfl) (by rfl) M.b_sorted (by decide +kernel) (pa_cons (pe_scI (own := [("mark", 2)]) (g := gName 2) (by rfl) nd (k_tup K (pe_op (k_catA K) (pv 0) (pe_ix (k_ixT K) (pv 1) pe_int (fun _ _ => rfl)))) (blkOk_by (N := N_behind) (sc := defScope s_behind) (by decide +kernel)) (fun _ _ _ _ _ => pg_name (i := 2) nd rfl (by first | exact Or.inl rfl | exact Or.inr rfl)) (fun _ _ _ _ _ => pts_one (pt_cmpR (k_notIn K) (pv 2) (pe_ix (k_ixT K) (pv 1) pe_int (fun _ _ => rfl)) (by rfl))) (fun _ _ _ _ _ => (pv 2))) pa_nil)) pa_nil)))), ?_⟩
    refine s_ret (K := K) (ev_tupN (ds := dI (afterM st d)) (en_sortS (n := (st ++ d.sets).length) (ms := afterM st d) (es_scT (zs := st ++ d.sets) (fun m => !decide (m ∈ d.strikes)) ?_ (by rw [List.length_append]; omega) (fun x => rfl) fun z hz H' e => ⟨eb_test (ev_niT (ev_v (.t (.int _))) (ev_ixT (j := 3) (ev_v (h2.same e)) ev_int rfl)), ev_v (.t (.int _))⟩) (by rw [List.length_append]; omega) (mk_ms 5 _).1 fun k => ?_)) fun v H1 e hv => q v H1 e hv
    · exact Ev.is (ev_catA (ev_v h1) (ev_ixT (j := 2) (ev_v h2) ev_int rfl) (by rw [List.length_map, List.length_map]; omega)) (by rw [← List.map_append])
    · unfold afterM
      rw [mem_mk, decide_eq_true_eq, List.mem_filter, List.mem_append, Bool.and_eq_true, Bool.or_eq_true, decide_eq_true_eq, decide_eq_true_eq]
      constructor
      · rintro ⟨_, z⟩; exact z
      · rintro ⟨z, u⟩
        exact ⟨z.elim (fun y => hst.2 k y) (fun y => hd.sets.2 k y), z, u⟩

abbrev s_brought : Stmt := topS 15
abbrev N_brought : List Str := ["deed", "some", "mark"]
theorem sc_brought : FnScope N_brought ["deed", "some"] (defScope s_brought) := ⟨rfl, rfl, rfl, by decide +kernel, rfl, by decide +kernel, by decide +kernel⟩
def spBrought (K : PySem.W.Frag) : Sp := spF K (α := Deed × List Int) (fun x => [x.1.dat, tI x.2]) (fun x => x.1.Ok 5 ∧ RowOk x.2) (fun x => if bringsB x.1 x.2 = true then tI (neededM x.1 x.2) else .none)
theorem ok_brought (F : Df K mg "brought" s_brought) (M : Mg mg) : Cl P w K mg base 1 "brought" (spBrought K) := by
  refine cl_of F sc_brought (fun _ _ _ _ _ _ us hl => match us, hl with | [_, _], _ => rfl) (fun vs H Q E h => ?_) (fun f cdv A outer s H vs Q E hr h => ?_)
  · obtain ⟨x, h, _⟩ := h
    exact h.len
  · have nd := sc_brought.nd
    obtain ⟨⟨d, r⟩, h, ⟨hd, hr'⟩, q⟩ := h
    obtain ⟨v1, v2, rfl, h1, h2⟩ := h.two
    dsimp only at h1 h2 hd hr' q
    have l1 := hr'.len
    have l2 := hd.needs.len
    refine ⟨_, (pss_cons (ps_if (PW.pt (pw_or (pt_cmpR (k_eqD K hr.units) (pe_lc (own := [("mark", 2)]) (g := gName 2) (by rfl) nd (k_tup K (pv 1)) (blkOk_by (N := N_brought) (sc := defScope s_brought) (by decide +kernel)) (fun _ _ _ _ _ => pg_name (i := 2) nd rfl (by first | exact Or.inl rfl | exact Or.inr rfl)) (fun _ _ _ _ _ => pts_one (pt_cmpR (k_in K) (pv 2) (pe_ix (k_ixT K) (pv 0) pe_int (fun _ _ => rfl)) (by rfl))) (fun _ _ _ _ _ => (pv 2))) (pe_lst pa_nil) (nomark _)) (pw_or1 (pt_cmpR (k_neD K hr.units) (pe_lc (own := [("mark", 2)]) (g := gName 2) (by rfl) nd (k_tup K (pv 1)) (blkOk_by (N := N_brought) (sc := defScope s_brought) (by decide +kernel)) (fun _ _ _ _ _ => pg_name (i := 2) nd rfl (by first | exact Or.inl rfl | exact Or.inr rfl)) (fun _ _ _ _ _ => pts_one (pt_cmpR (k_in K) (pv 2) (pe_ix (k_ixT K) (pv 0) pe_int (fun _ _ => rfl)) (by rfl))) (fun _ _ _ _ _ => (pv 2))) (pe_lst pa_nil) (nomark _)))))
        (pss_one (ps_ret pe_non))
        pss_nil)
      (pss_one (ps_ret (pe_callTy (k_tupOf K) (by rfl) M.b_tuple (by decide +kernel) (pa_cons (pe_callB (cr_sortedSet rfl) (by rfl) M.b_sorted (by decide +kernel) (pa_cons (pe_op op_orSet (pe_scI (own := [("mark", 2)]) (g := gName 2) (by rfl) nd (k_tup K (pv 1)) (blkOk_by (N := N_brought) (sc := defScope s_brought) (by decide +kernel)) (fun _ _ _ _ _ => pg_name (i := 2) nd rfl (by first | exact Or.inl rfl | exact Or.inr rfl)) (fun _ _ _ _ _ => pts_one (pt_cmpR (k_notIn K) (pv 2) (pe_ix (k_ixT K) (pv 0) pe_int (fun _ _ => rfl)) (by rfl))) (fun _ _ _ _ _ => (pv 2))) (pe_scI (own := [("mark", 2)]) (g := gName 2) (by rfl) nd (k_tup K (pe_ix (k_ixT K) (pv 0) pe_int (fun _ _ => rfl))) (blkOk_by (N := N_brought) (sc := defScope s_brought) (by decide +kernel)) (fun _ _ _ _ _ => pg_name (i := 2) nd rfl (by first | exact Or.inl rfl | exact Or.inr rfl)) (fun _ _ _ _ _ => pts_nil) (fun _ _ _ _ _ => (pv 2)))) pa_nil)) pa_nil))))), ?_⟩
    refine q_if0 (b := !bringsB d r) (EvB.is (eb_or (a := !(r.any fun m => decide (m ∈ d.sets))) (b := r.any fun m => decide (m ∈ d.strikes)) (eb_test (K := K) ?_) fun _ => eb_test (K := K) ?_) ?_) (fun hb H1 e1 => ?_) fun hb H1 e1 => ?_
    · exact Ev.is (ev_eqD (EvN.ev (en_fT (fun m => decide (m ∈ d.sets)) PyData.int (ev_v h2) (by omega) (fun x => rfl) fun m hm x H' e hx =>
        ⟨eb_test (ev_inT (ev_v hx) (ev_ixT (j := 2) (ev_v (h1.same e)) ev_int rfl)), fun _ => ⟨rfl, ev_v hx⟩⟩)) (EvN.ev (en_lst ea_nil rfl (by simp))) (sh_lI _).ok rfl) (by rw [eqv_nil, ← filter_some (g := PyData.int), Bool.not_not])
    · exact Ev.is (ev_neD (EvN.ev (en_fT (fun m => decide (m ∈ d.strikes)) PyData.int (ev_v h2) (by omega) (fun x => rfl) fun m hm x H' e hx =>
        ⟨eb_test (ev_inT (ev_v hx) (ev_ixT (j := 3) (ev_v (h1.same e)) ev_int rfl)), fun _ => ⟨rfl, ev_v hx⟩⟩)) (EvN.ev (en_lst ea_nil rfl (by simp))) (sh_lI _).ok rfl) (by rw [eqv_nil, ← filter_some (g := PyData.int)])
    · unfold bringsB
      cases (r.any fun m => decide (m ∈ d.sets)) <;> cases (r.any fun m => decide (m ∈ d.strikes)) <;> rfl
    · have hb' : bringsB d r = false := by simpa using hb
      rw [hb', if_neg (by decide)] at q
      exact s_ret (K := K) ev_non fun v H2 e2 hv => q v H2 (e1.trans e2) hv
    · have hb' : bringsB d r = true := by simpa using hb
      rw [hb', if_pos rfl] at q
      refine s_ret (K := K) (ev_tupN (ds := dI (neededM d r)) (en_sortS (n := 14) (ms := neededM d r) (es_or (S := fun k => decide (k ∈ r.filter fun m => !decide (m ∈ d.sets))) (T := fun k => decide (k ∈ d.needs.filter fun _ => true)) (n := r.length) (m := d.needs.length) ?_ ?_ (by omega) (by omega) ?_ ?_) (by omega) (mk_ms 5 _).1 fun k => ?_)) fun v H2 e2 hv => q v H2 (e1.trans e2) hv
      · exact es_scT (fun m => !decide (m ∈ d.sets)) (ev_v (h2.same e1)) (by omega) (fun x => rfl) fun z hz H' e => ⟨eb_test (ev_niT (ev_v (.t (.int _))) (ev_ixT (j := 2) (ev_v ((h1.same e1).same e)) ev_int rfl)), ev_v (.t (.int _))⟩
      · exact es_scT (fun _ => true) (ev_ixT (j := 1) (ev_v (h1.same e1)) ev_int rfl) (by omega) (fun x => rfl) fun z hz H' e => ⟨eb_yes, ev_v (.t (.int _))⟩
      · intro k hk
        have := hr'.2 k (List.mem_filter.mp (of_decide_eq_true hk)).1
        omega
      · intro k hk
        have := hd.needs.2 k (List.mem_filter.mp (of_decide_eq_true hk)).1
        omega
      · unfold neededM
        rw [mem_mk, filter_tt, Bool.or_eq_true, Bool.or_eq_true, Bool.and_eq_true, decide_eq_true_eq, decide_eq_true_eq, decide_eq_true_eq, List.mem_filter]
        constructor
        · rintro ⟨_, z⟩; exact z
        · intro z
          exact ⟨z.elim (fun y => hr'.2 k y.1) (fun y => hd.needs.2 k y), z⟩

abbrev s_fall_of : Stmt := topS 17
abbrev N_fall_of : List Str := ["deed", "weights", "fall", "mark"]
theorem sc_fall_of : FnScope N_fall_of ["deed", "weights"] (defScope s_fall_of) := ⟨rfl, rfl, rfl, by decide +kernel, rfl, by decide +kernel, by decide +kernel⟩
def fallS (d : Deed) (ws : List Int) (m : Int) : Int := if m ∈ d.needs then wAt ws m else max 0 (wAt ws m)
def fallG (d : Deed) (ws : List Int) (m : Int) : Int := if m ∉ d.needs then max 0 (0 - wAt ws m) else 0
def fallI (d : Deed) (ws : List Int) : Int := (d.strikes.map (fallS d ws)).sum + (d.sets.map (fallG d ws)).sum
def spFall (K : PySem.W.Frag) : Sp := spF K (α := Deed × List Int) (fun x => [x.1.dat, .list (dI x.2)]) (fun x => x.1.Ok x.2.length) (fun x => .int (fallI x.1 x.2))
theorem sum_next {l : List Int} {f : Int → Int} {i : Nat} {m : Int} (h : l[i]? = some m) : ((l.take (i + 1)).map f).sum = ((l.take i).map f).sum + f m := by
  rw [List.take_add_one, h, List.map_append, List.sum_append]
  simp
theorem ok_fall_of (F : Df K mg "fall_of" s_fall_of) (M : Mg mg) : Cl P w K mg base 1 "fall_of" (spFall K) := by
  refine cl_of F sc_fall_of (fun _ _ _ _ _ _ us hl => match us, hl with | [_, _], _ => rfl) (fun vs H Q E h => ?_) (fun f cdv A outer s H vs Q E hr h => ?_)
  · obtain ⟨x, h, _⟩ := h
    exact h.len
  · have nd := sc_fall_of.nd
    obtain ⟨⟨d, ws⟩, h, hd, q⟩ := h
    obtain ⟨v1, v2, rfl, h1, h2⟩ := h.two
    dsimp only at h1 h2 hd
    refine ⟨_, (pss_cons (ps_set (i := 2) nd rfl (by first | exact Or.inl rfl | exact Or.inr rfl) pe_int)
      (pss_cons (ps_for PassesOwn.never rfl (k_tup K (pe_ix (k_ixT K) (pv 0) pe_int (fun _ _ => rfl))) (pg_name (i := 3) nd rfl (by first | exact Or.inl rfl | exact Or.inr rfl))
        (pss_one (ps_aug (i := 2) nd rfl (by first | exact Or.inl rfl | exact Or.inr rfl) (pe_ifExp (pt_cmpR (k_in K) (pv 3) (pe_ix (k_ixT K) (pv 0) pe_int (fun _ _ => rfl)) (by rfl)) (pe_ix (k_ixL K) (pv 1) (pv 3) (fun _ _ => rfl)) (pe_callB (call_max2 rfl) (by rfl) M.b_max (by decide +kernel) (pa_cons pe_int (pa_cons (pe_ix (k_ixL K) (pv 1) (pv 3) (fun _ _ => rfl)) pa_nil)))) ip_add)))
      (pss_cons (ps_for PassesOwn.never rfl (k_tup K (pe_ix (k_ixT K) (pv 0) pe_int (fun _ _ => rfl))) (pg_name (i := 3) nd rfl (by first | exact Or.inl rfl | exact Or.inr rfl))
        (pss_one (ps_if (pt_cmpR (k_notIn K) (pv 3) (pe_ix (k_ixT K) (pv 0) pe_int (fun _ _ => rfl)) (by rfl))
          (pss_one (ps_aug (i := 2) nd rfl (by first | exact Or.inl rfl | exact Or.inr rfl) (pe_callB (call_max2 rfl) (by rfl) M.b_max (by decide +kernel) (pa_cons pe_int (pa_cons (pe_op op_sub pe_int (pe_ix (k_ixL K) (pv 1) (pv 3) (fun _ _ => rfl))) pa_nil))) ip_add))
          pss_nil)))
      (pss_one (ps_ret (pv 2)))))), ?_⟩
    refine q_set (K := K) ev_int fun v H1 e1 hv => ?_
    obtain rfl := hv.int_inv
    refine q_forT (K := K) (ev_ixT (j := 3) (ev_v (h1.same e1)) ev_int rfl) (fun H2 i σ' H' => Same H2 H' ∧ ∃ a, σ' = [some v1, some v2, some (.int (0 + ((d.strikes.take i).map (fallS d ws)).sum)), a]) (fun H2 _ => ⟨Same.refl H2, none, rfl⟩) (fun _ _ _ _ p => p.1) (fun H2 i z v σ' H' e2 hi p tv => ?_) fun H2 σ' H' e2 p => ?_
    · obtain ⟨e3, a, rfl⟩ := p
      rw [List.getElem?_map] at hi
      obtain ⟨m, hm, rfl⟩ := Option.map_eq_some_iff.mp hi
      obtain rfl := (Ap.t tv).int_inv
      have hr := hd.strikes.2 m (List.mem_of_getElem? hm)
      have e := (e1.trans e2).trans e3
      refine z_seq (q_aug (K := K) (b := fallS d ws m) rfl (ev_if (b := decide (m ∈ d.needs)) (eb_test (ev_inT (ev_v (.t (.int _))) (ev_ixT (j := 1) (ev_v (h1.same e)) ev_int rfl))) (fun hb => ?_) fun hb => ?_) fun H3 e4 => ?_)
      · exact Ev.is (ev_ixW (ev_v (h2.same e)) (ev_v (.t (.int _))) hr.1 hr.2) (by unfold fallS; rw [if_pos (of_decide_eq_true hb)])
      · exact Ev.is (ev_max2 (ea_cons ev_int (ea_cons (ev_ixW (ev_v (h2.same e)) (ev_v (.t (.int _))) hr.1 hr.2) ea_nil))) (by unfold fallS; rw [if_neg (of_decide_eq_false hb)])
      · refine ⟨e3.trans e4, some (.int m), ?_⟩
        rw [sum_next hm, ← Int.add_assoc]; rfl
    · obtain ⟨e3, a, rfl⟩ := p
      have e := (e1.trans e2).trans e3
      rw [List.length_map, List.take_length]
      refine q_forT (K := K) (ev_ixT (j := 2) (ev_v (h1.same e)) ev_int rfl) (fun H2 i σ' H' => Same H2 H' ∧ ∃ a, σ' = [some v1, some v2, some (.int (0 + (d.strikes.map (fallS d ws)).sum + ((d.sets.take i).map (fallG d ws)).sum)), a]) (fun H2 _ => ⟨Same.refl H2, a, ?_⟩) (fun _ _ _ _ p => p.1) (fun H4 i z v σ' H5 e4 hi p tv => ?_) fun H4 σ' H5 e4 p => ?_
      · simp
      · obtain ⟨e5, a, rfl⟩ := p
        rw [List.getElem?_map] at hi
        obtain ⟨m, hm, rfl⟩ := Option.map_eq_some_iff.mp hi
        obtain rfl := (Ap.t tv).int_inv
        have hr := hd.sets.2 m (List.mem_of_getElem? hm)
        have e' := (e.trans e4).trans e5
        refine z_seq (q_if0 (b := !decide (m ∈ d.needs)) (eb_test (K := K) (ev_niT (ev_v (.t (.int _))) (ev_ixT (j := 1) (ev_v (h1.same e')) ev_int rfl))) (fun hb H6 e6 => ?_) fun hb H6 e6 => ?_)
        · refine z_seq (q_aug (K := K) (b := fallG d ws m) rfl (Ev.is (ev_max2 (ea_cons ev_int (ea_cons (ev_sub ev_int (ev_ixW (ev_v ((h2.same e').same e6)) (ev_v (.t (.int _))) hr.1 hr.2)) ea_nil))) ?_) fun H7 e7 => ?_)
          · unfold fallG
            rw [if_pos (by simpa using hb)]
          · refine ⟨(e5.trans e6).trans e7, some (.int m), ?_⟩
            rw [sum_next hm, ← Int.add_assoc]; rfl
        · have : fallG d ws m = 0 := by unfold fallG; rw [if_neg (by simpa using hb)]
          refine ⟨e5.trans e6, some (.int m), ?_⟩
          rw [sum_next hm, this, Int.add_zero]
          rfl
      · obtain ⟨e5, a, rfl⟩ := p
        refine s_ret (K := K) (ev_v (.t (.int _))) fun v H6 e6 hv => q v H6 ((e.trans e4).trans (e5.trans e6)) (?_ : Ap K H6 v _)
        rw [List.length_map, List.take_length, Int.zero_add] at hv
        exact hv

abbrev s_top_of : Stmt := topS 18
abbrev N_top_of : List Str := ["yard", "weights", "mark", "weight"]
theorem sc_top_of : FnScope N_top_of ["yard", "weights"] (defScope s_top_of) := ⟨rfl, rfl, rfl, by decide +kernel, rfl, by decide +kernel, by decide +kernel⟩
def topI (y : Yard) (ws : List Int) : Int := (ws.mapIdx fun i x => if (i : Int) ∈ y.wish then x else max 0 x).sum
def spTop (K : PySem.W.Frag) : Sp := spF K (α := Yard × List Int) (fun x => [x.1.dat, .list (dI x.2)]) (fun x => x.1.Ok ∧ x.2.length ≤ 1000) (fun x => .int (topI x.1 x.2))
theorem ok_top_of (F : Df K mg "top_of" s_top_of) (M : Mg mg) (C_need_yard : Cl P w K mg base 3 "need_yard" (spNeed K)) : Cl P w K mg base 4 "top_of" (spTop K) := by
  refine cl_of F sc_top_of (fun _ _ _ _ _ _ us hl => match us, hl with | [_, _], _ => rfl) (fun vs H Q E h => ?_) (fun f cdv A outer s H vs Q E hr h => ?_)
  · obtain ⟨x, h, _⟩ := h
    exact h.len
  · have nd := sc_top_of.nd
    obtain ⟨⟨y, ws⟩, h, ⟨ok, hl⟩, q⟩ := h
    obtain ⟨v1, v2, rfl, h1, h2⟩ := h.two
    dsimp only at h1 h2 ok hl
    refine ⟨_, (pss_cons (ps_expr (pe_cl C_need_yard hr (by decide) (by rfl) (pa_cons (pv 0) pa_nil)))
      (pss_one (ps_ret (pe_callB (k_sum K rfl) (by rfl) M.b_sum (by decide +kernel) (pa_cons (pe_lc (own := [("mark", 2), ("weight", 3)]) (by rfl) nd (pi_enum (by rfl) M.b_enumerate (pa_cons (pv 1) pa_nil)) (blkOk_by (N := N_top_of) (sc := defScope s_top_of) (by decide +kernel)) (fun _ _ _ _ _ => k_gtup K (n := 2) rfl (pgs_cons (pg_name (i := 2) nd rfl (by first | exact Or.inl rfl | exact Or.inr rfl)) (pgs_cons (pg_name (i := 3) nd rfl (by first | exact Or.inl rfl | exact Or.inr rfl)) pgs_nil))) (fun _ _ _ _ _ => pts_nil) (fun _ _ _ _ _ => (pe_ifExp (pt_cmpR (k_in K) (pv 2) (pe_ix (k_ixT K) (pv 0) pe_int (fun _ _ => rfl)) (by rfl)) (pv 3) (pe_callB (call_max2 rfl) (by rfl) M.b_max (by decide +kernel) (pa_cons pe_int (pa_cons (pv 3) pa_nil)))))) pa_nil))))), ?_⟩
    refine q_drop (K := K) (ev_call y (ea_cons (ev_v h1) ea_nil) ok) fun H1 e1 => ?_
    refine s_ret (K := K) (ev_sum (ns := ws.mapIdx fun i x => if (i : Int) ∈ y.wish then x else max 0 x) (ea_cons (EvN.ev (en_lcE (fun i x => if (i : Int) ∈ y.wish then x else max 0 x) (ea_cons (ev_v (h2.same e1)) ea_nil) hl (fun _ _ => rfl) fun k n H' e hk => ?_)) ea_nil)) fun v H2 e2 hv => q v H2 (e1.trans e2) hv
    refine ev_if (b := decide ((k : Int) ∈ y.wish)) (eb_test (ev_inT (ev_v (.t (.int _))) (ev_ixT (j := 3) (ev_v ((h1.same e1).same e)) ev_int rfl))) (fun hb => ?_) fun hb => ?_
    · rw [if_pos (of_decide_eq_true hb)]
      exact ev_v (.t (.int _))
    · rw [if_neg (of_decide_eq_false hb)]
      exact ev_max2 (ea_cons ev_int (ea_cons (ev_v (.t (.int _))) ea_nil))
end
end WB

/-! the program's defs: papers -/
namespace WB
open PySem PySem.Spec PyProof.Rows L2
section
variable {P : Program} {w : World} {K : PySem.W.Frag} {mg : Str → Option Value} {base : Heap}
theorem not_f {b : Bool} (h : (!b) = false) : b = true := by cases b <;> simp_all
theorem not_t {b : Bool} (h : (!b) = true) : b = false := by cases b <;> simp_all
def RowsOk (rows : List (List Int)) : Prop := rows.length ≤ 1000 ∧ ∀ r ∈ rows, RowOk r
abbrev s_holds_one : Stmt := topS 20
abbrev N_holds_one : List Str := ["rows", "some", "row"]
theorem sc_holds_one : FnScope N_holds_one ["rows", "some"] (defScope s_holds_one) := ⟨rfl, rfl, rfl, by decide +kernel, rfl, by decide +kernel, by decide +kernel⟩
def spOne (K : PySem.W.Frag) : Sp := spF K (α := List (List Int) × List Int) (fun x => [.list (x.1.map tI), tI x.2]) (fun x => RowsOk x.1) (fun x => .bool (oneB x.1 x.2))
theorem ok_holds_one (F : Df K mg "holds_one" s_holds_one) (M : Mg mg) (C_has : Cl P w K mg base 1 "has" (spHas K)) : Cl P w K mg base 2 "holds_one" (spOne K) := by
  refine cl_of F sc_holds_one (fun _ _ _ _ _ _ us hl => match us, hl with | [_, _], _ => rfl) (fun vs H Q E h => ?_) (fun f cdv A outer s H vs Q E hr h => ?_)
  · obtain ⟨x, h, _⟩ := h
    exact h.len
  · have nd := sc_holds_one.nd
    obtain ⟨⟨rows, st⟩, h, hrs, q⟩ := h
    obtain ⟨v1, v2, rfl, h1, h2⟩ := h.two
    dsimp only at h1 h2 hrs
    refine ⟨_, (pss_one (ps_ret (pe_cmpR (k_neD K hr.units) (pe_lc (own := [("row", 2)]) (g := gName 2) (by rfl) nd (k_list K (pv 0)) (blkOk_by (N := N_holds_one) (sc := defScope s_holds_one) (by decide +kernel)) (fun _ _ _ _ _ => pg_name (i := 2) nd rfl (by first | exact Or.inl rfl | exact Or.inr rfl)) (fun _ _ _ _ _ => pts_one (pt_val (pe_cl C_has hr (by decide) (by rfl) (pa_cons (pv 1) (pa_cons (pv 2) pa_nil))))) (fun _ _ _ _ _ => (pv 2))) (pe_lst pa_nil) (nomark _)))), ?_⟩
    refine s_ret (K := K) (Ev.is (ev_neD (EvN.ev (en_fL (fun r => hasB st r) tI (ev_v h1) (by have := hrs.1; omega) (fun x => rfl) fun r hr' x H' e hx =>
      ⟨eb_B (K := K) (ev_call (false, st, r) (ea_cons (ev_v (h2.same e)) (ea_cons (ev_v hx) ea_nil)) (by have := (hrs.2 r hr').len; dsimp only; omega)), fun _ => ⟨rfl, ev_v hx⟩⟩)) (EvN.ev (en_lst ea_nil rfl (by simp))) (sh_rows _).ok rfl) ?_) fun v H1 e hv => q v H1 e hv
    rw [eqv_nil, filter_some]
    rfl

abbrev s_is_never : Stmt := topS 21
abbrev N_is_never : List Str := ["yard", "rows", "row", "deed", "needed"]
theorem sc_is_never : FnScope N_is_never ["yard", "rows"] (defScope s_is_never) := ⟨rfl, rfl, rfl, by decide +kernel, rfl, by decide +kernel, by decide +kernel⟩
def spNever (K : PySem.W.Frag) : Sp := spF K (α := Yard × List (List Int)) (fun x => [x.1.dat, .list (x.2.map tI)]) (fun x => x.1.Ok ∧ RowsOk x.2) (fun x => .bool (neverB x.1 x.2))
theorem ok_is_never (F : Df K mg "is_never" s_is_never) (M : Mg mg) (C_holds_one : Cl P w K mg base 2 "holds_one" (spOne K)) (C_brought : Cl P w K mg base 1 "brought" (spBrought K)) : Cl P w K mg base 3 "is_never" (spNever K) := by
  refine cl_of F sc_is_never (fun _ _ _ _ _ _ us hl => match us, hl with | [_, _], _ => rfl) (fun vs H Q E h => ?_) (fun f cdv A outer s H vs Q E hr h => ?_)
  · obtain ⟨x, h, _⟩ := h
    exact h.len
  · have nd := sc_is_never.nd
    obtain ⟨⟨y, rows⟩, h, ⟨ok, hrs⟩, q⟩ := h
    obtain ⟨v1, v2, rfl, h1, h2⟩ := h.two
    dsimp only at h1 h2 hrs ok
    refine ⟨_, (pss_cons (ps_if (PW.pt (pw_or (pt_val (pe_cl C_holds_one hr (by decide) (by rfl) (pa_cons (pv 1) (pa_cons (pe_ix (k_ixT K) (pv 0) pe_int (fun _ _ => rfl)) pa_nil)))) (pw_or1 (pt_not (pt_val (pe_cl C_holds_one hr (by decide) (by rfl) (pa_cons (pv 1) (pa_cons (pe_ix (k_ixT K) (pv 0) pe_int (fun _ _ => rfl)) pa_nil))))))))
        (pss_one (ps_ret pe_bl))
        pss_nil)
      (pss_cons (ps_for PassesOwn.never rfl (k_list K (pv 1)) (pg_name (i := 2) nd rfl (by first | exact Or.inl rfl | exact Or.inr rfl))
        (pss_one (ps_for PassesOwn.never rfl (k_tup K (pe_ix (k_ixT K) (pv 0) pe_int (fun _ _ => rfl))) (pg_name (i := 3) nd rfl (by first | exact Or.inl rfl | exact Or.inr rfl))
          (pss_cons (ps_set (i := 4) nd rfl (by first | exact Or.inl rfl | exact Or.inr rfl) (pe_cl C_brought hr (by decide) (by rfl) (pa_cons (pv 3) (pa_cons (pv 2) pa_nil))))
          (pss_one (ps_if (PW.pt (pw_and (pt_cmpR op_notN (pv 4) pe_non (nomark _)) (pw_and1 (pt_not (pt_val (pe_cl C_holds_one hr (by decide) (by rfl) (pa_cons (pv 1) (pa_cons (pv 4) pa_nil))))))))
            (pss_one (ps_ret pe_bl))
            pss_nil))))))
      (pss_one (ps_ret pe_bl)))), ?_⟩
    refine q_if0 (EvB.is (b := !(!oneB rows y.start && oneB rows y.wish)) (eb_or (a := oneB rows y.start) (b := !oneB rows y.wish) (eb_B (K := K) ?_) fun _ => eb_not (eb_B (K := K) ?_)) ?_) (fun hb H1 e1 => ?_) fun hb H1 e1 => ?_
    · exact ev_call (rows, y.start) (ea_cons (ev_v h2) (ea_cons (ev_ixT (j := 2) (ev_v h1) ev_int rfl) ea_nil)) hrs
    · exact ev_call (rows, y.wish) (ea_cons (ev_v h2) (ea_cons (ev_ixT (j := 3) (ev_v h1) ev_int rfl) ea_nil)) hrs
    · cases oneB rows y.start <;> cases oneB rows y.wish <;> rfl
    · refine s_ret (K := K) ev_bl fun v H2 e2 hv => q v H2 (e1.trans e2) (?_ : Ap K H2 v _)
      have : neverB y rows = false := by
        unfold neverB
        cases h1 : oneB rows y.start <;> cases h2 : oneB rows y.wish <;> simp_all
      dsimp only
      rw [this]
      exact hv
    · have hb' : (!oneB rows y.start && oneB rows y.wish) = true := by simpa using hb
      have hN : neverB y rows = rows.all fun r => y.deeds.all fun d => !bringsB d r || oneB rows (neededM d r) := by
        unfold neverB
        rw [← Bool.and_assoc, hb', Bool.true_and]
      refine q_forL (K := K) (ev_v (h2.same e1)) (fun H2 i σ' H' => Same H2 H' ∧ (∃ a b c, σ' = [some v1, some v2, a, b, c]) ∧ ∀ r ∈ rows.take i, (y.deeds.all fun d => !bringsB d r || oneB rows (neededM d r)) = true) (fun H2 _ => ⟨Same.refl H2, ⟨none, none, none, rfl⟩, fun r hr => by simp at hr⟩) (fun _ _ _ _ p => p.1) (fun H2 i z v σ' H3 e2 hi p tv => ?_) fun H2 σ' H3 e2 p => ?_
      · obtain ⟨e3, ⟨a, b, c, rfl⟩, hp⟩ := p
        rw [List.getElem?_map] at hi
        obtain ⟨r, hr', rfl⟩ := Option.map_eq_some_iff.mp hi
        have hrm := List.mem_of_getElem? hr'
        have hro := hrs.2 r hrm
        have e := (e1.trans e2).trans e3
        refine z_seq (q_forT (K := K) (ev_ixT (j := 1) (ev_v (h1.same e)) ev_int rfl) (fun H4 j σ' H' => Same H3 H4 ∧ Same H4 H' ∧ (∃ b c, σ' = [some v1, some v2, some v, b, c]) ∧ ∀ d ∈ y.deeds.take j, (!bringsB d r || oneB rows (neededM d r)) = true) (fun H4 e4 => ⟨e4, Same.refl H4, ⟨b, c, rfl⟩, fun r hr => by simp at hr⟩) (fun _ _ _ _ p => p.2.1) (fun H4 j z u σ' H5 e4 hj p tu => ?_) fun H4 σ' H5 e4 p => ?_)
        · obtain ⟨e5, e6, ⟨b, c, rfl⟩, hpd⟩ := p
          rw [List.getElem?_map] at hj
          obtain ⟨d, hd', rfl⟩ := Option.map_eq_some_iff.mp hj
          have hdm := List.mem_of_getElem? hd'
          have hdo := (ok.deeds d hdm).five ok.m5
          have e' := e.trans (e4.trans e6)
          refine q_set (K := K) (ev_call (d, r) (ea_cons (ev_v (.t tu)) (ea_cons (ev_v (.t (tv.same (e4.trans e6)))) ea_nil)) ⟨hdo, hro⟩) fun x H6 e7 hx => ?_
          dsimp only at hx
          refine z_seq (q_if0 (EvB.is (b := !(!bringsB d r || oneB rows (neededM d r))) (eb_and (a := bringsB d r) (b := !oneB rows (neededM d r)) (eb_test (K := K) ?_) fun hbr => eb_not (eb_B (K := K) ?_)) ?_) (fun hc H7 e8 => ?_) fun hc H7 e8 => ?_)
          · refine Ev.is (ev_notN (ev_v hx)) ?_
            cases hbr : bringsB d r <;> simp [isN]
          · rw [hbr, if_pos rfl] at hx
            exact ev_call (rows, neededM d r) (ea_cons (ev_v (h2.same (e'.trans e7))) (ea_cons (ev_v hx) ea_nil)) hrs
          · cases bringsB d r <;> cases oneB rows (neededM d r) <;> rfl
          · refine s_ret (K := K) ev_bl fun v H8 e9 hv => q v H8 (e'.trans (e7.trans (e8.trans e9))) (?_ : Ap K H8 v _)
            dsimp only
            rw [hN]
            have : (rows.all fun r => y.deeds.all fun d => !bringsB d r || oneB rows (neededM d r)) = false := by
              rw [List.all_eq_false]
              refine ⟨r, hrm, ?_⟩
              rw [Bool.not_eq_true, List.all_eq_false]
              exact ⟨d, hdm, by simpa using hc⟩
            rw [this]
            exact hv
          · refine ⟨e5, e6.trans (e7.trans e8), ⟨some u, some x, rfl⟩, fun d' hd'' => ?_⟩
            rw [List.take_add_one, hd', List.mem_append] at hd''
            rcases hd'' with z | z
            · exact hpd d' z
            · obtain rfl : d' = d := by simpa using z
              exact not_f hc
        · obtain ⟨e5, e6, ⟨b, c, rfl⟩, hpd⟩ := p
          rw [List.length_map, List.take_length] at hpd
          refine ⟨e3.trans (e5.trans e6), ⟨some v, b, c, rfl⟩, fun r' hr'' => ?_⟩
          rw [List.take_add_one, hr', List.mem_append] at hr''
          rcases hr'' with z | z
          · exact hp r' z
          · obtain rfl : r' = r := by simpa using z
            exact List.all_eq_true.mpr hpd
      · obtain ⟨e3, ⟨a, b, c, rfl⟩, hp⟩ := p
        rw [List.length_map, List.take_length] at hp
        refine s_ret (K := K) ev_bl fun v H8 e9 hv => q v H8 ((e1.trans e2).trans (e3.trans e9)) (?_ : Ap K H8 v _)
        dsimp only
        rw [hN, List.all_eq_true.mpr hp]
        exact hv

abbrev s_is_closed : Stmt := topS 22
abbrev N_is_closed : List Str := ["yard", "some", "state", "deed"]
theorem sc_is_closed : FnScope N_is_closed ["yard", "some"] (defScope s_is_closed) := ⟨rfl, rfl, rfl, by decide +kernel, rfl, by decide +kernel, by decide +kernel⟩
def SetsOk (ss : List (List Int)) : Prop := ss.length ≤ 1000 ∧ ∀ s ∈ ss, Ms 5 s
def spClosed (K : PySem.W.Frag) : Sp := spF K (α := Yard × List (List Int)) (fun x => [x.1.dat, .list (x.2.map tI)]) (fun x => x.1.Ok ∧ SetsOk x.2) (fun x => .bool (closedB x.1 x.2))
theorem ok_is_closed (F : Df K mg "is_closed" s_is_closed) (M : Mg mg) (C_has : Cl P w K mg base 1 "has" (spHas K)) (C_behind : Cl P w K mg base 1 "behind" (spBehind K)) : Cl P w K mg base 2 "is_closed" (spClosed K) := by
  refine cl_of F sc_is_closed (fun _ _ _ _ _ _ us hl => match us, hl with | [_, _], _ => rfl) (fun vs H Q E h => ?_) (fun f cdv A outer s H vs Q E hr h => ?_)
  · obtain ⟨x, h, _⟩ := h
    exact h.len
  · have nd := sc_is_closed.nd
    obtain ⟨⟨y, ss⟩, h, ⟨ok, hss⟩, q⟩ := h
    obtain ⟨v1, v2, rfl, h1, h2⟩ := h.two
    dsimp only at h1 h2 hss ok
    have h5 := ok.m5
    have hwl := ok.wish.len
    refine ⟨_, (pss_cons (ps_if (pt_cmpR (k_notInD K (hu65 hr)) (pe_ix (k_ixT K) (pv 0) pe_int (fun _ _ => rfl)) (pv 1) (by rfl))
        (pss_one (ps_ret pe_bl))
        pss_nil)
      (pss_cons (ps_for PassesOwn.never rfl (k_list K (pv 1)) (pg_name (i := 2) nd rfl (by first | exact Or.inl rfl | exact Or.inr rfl))
        (pss_cons (ps_if (pt_val (pe_cl C_has hr (by decide) (by rfl) (pa_cons (pv 2) (pa_cons (pe_ix (k_ixT K) (pv 0) pe_int (fun _ _ => rfl)) pa_nil))))
          (pss_one (ps_ret pe_bl))
          pss_nil)
        (pss_one (ps_for PassesOwn.never rfl (k_tup K (pe_ix (k_ixT K) (pv 0) pe_int (fun _ _ => rfl))) (pg_name (i := 3) nd rfl (by first | exact Or.inl rfl | exact Or.inr rfl))
          (pss_one (ps_if (PW.pt (pw_and (pt_val (pe_cl C_has hr (by decide) (by rfl) (pa_cons (pv 2) (pa_cons (pe_ix (k_ixT K) (pv 3) pe_int (fun _ _ => rfl)) pa_nil)))) (pw_and1 (pt_cmpR (k_notInD K (hu65 hr)) (pe_cl C_behind hr (by decide) (by rfl) (pa_cons (pv 2) (pa_cons (pv 3) pa_nil))) (pv 1) (by rfl)))))
            (pss_one (ps_ret pe_bl))
            pss_nil))))))
      (pss_one (ps_ret pe_bl)))), ?_⟩
    refine q_if0 (b := !decide (y.start ∈ ss)) (eb_test (K := K) (Ev.is (ev_notInD (ev_ixT (j := 2) (d := tI y.start) (ev_v h1) ev_int rfl) (ev_v h2) (sh_tI _).ok (sh_rows ss).ok) (by rw [any_eqv]))) (fun hb H1 e1 => ?_) fun hb H1 e1 => ?_
    · refine s_ret (K := K) ev_bl fun v H2 e2 hv => q v H2 (e1.trans e2) (?_ : Ap K H2 v _)
      have : closedB y ss = false := by
        unfold closedB
        rw [show decide (y.start ∈ ss) = false by simpa using hb]; rfl
      dsimp only
      rw [this]
      exact hv
    · have hN : closedB y ss = ss.all fun s => !hasB s y.wish && y.deeds.all fun d => !(hasB s d.needs) || decide (afterM s d ∈ ss) := by
        unfold closedB
        rw [not_f hb, Bool.true_and]
      have bad : ∀ s ∈ ss, (!hasB s y.wish && y.deeds.all fun d => !(hasB s d.needs) || decide (afterM s d ∈ ss)) = false → closedB y ss = false := fun s hs e => by
        rw [hN, List.all_eq_false]
        exact ⟨s, hs, by rw [e]; decide⟩
      refine q_forL (K := K) (ev_v (h2.same e1)) (fun H2 i σ' H' => Same H2 H' ∧ (∃ a b, σ' = [some v1, some v2, a, b]) ∧ ∀ s ∈ ss.take i, (!hasB s y.wish && y.deeds.all fun d => !(hasB s d.needs) || decide (afterM s d ∈ ss)) = true) (fun H2 _ => ⟨Same.refl H2, ⟨none, none, rfl⟩, fun r hr => by simp at hr⟩) (fun _ _ _ _ p => p.1) (fun H2 i z v σ' H3 e2 hi p tv => ?_) fun H2 σ' H3 e2 p => ?_
      · obtain ⟨e3, ⟨a, b, rfl⟩, hp⟩ := p
        rw [List.getElem?_map] at hi
        obtain ⟨st, hs', rfl⟩ := Option.map_eq_some_iff.mp hi
        have hsm := List.mem_of_getElem? hs'
        have hso := hss.2 st hsm
        have e := (e1.trans e2).trans e3
        refine q_if0 (b := hasB st y.wish) (eb_B (K := K) (ev_call (false, st, y.wish) (ea_cons (ev_v (.t tv)) (ea_cons (ev_ixT (j := 3) (ev_v (h1.same e)) ev_int rfl) ea_nil)) (by dsimp only; omega))) (fun hb H4 e4 => ?_) fun hw H4 e4 => ?_
        · refine s_ret (K := K) ev_bl fun v H5 e5 hv => q v H5 (e.trans (e4.trans e5)) (?_ : Ap K H5 v _)
          dsimp only
          rw [bad st hsm (by rw [hb]; rfl)]
          exact hv
        · refine z_seq (q_forT (K := K) (ev_ixT (j := 1) (ev_v (h1.same (e.trans e4))) ev_int rfl) (fun H5 j σ' H' => Same H4 H5 ∧ Same H5 H' ∧ (∃ b, σ' = [some v1, some v2, some v, b]) ∧ ∀ d ∈ y.deeds.take j, (!(hasB st d.needs) || decide (afterM st d ∈ ss)) = true) (fun H5 e5 => ⟨e5, Same.refl H5, ⟨b, rfl⟩, fun r hr => by simp at hr⟩) (fun _ _ _ _ p => p.2.1) (fun H5 j z u σ' H6 e5 hj p tu => ?_) fun H5 σ' H6 e5 p => ?_)
          · obtain ⟨e6, e7, ⟨b, rfl⟩, hpd⟩ := p
            rw [List.getElem?_map] at hj
            obtain ⟨d, hd', rfl⟩ := Option.map_eq_some_iff.mp hj
            have hdm := List.mem_of_getElem? hd'
            have hdo := (ok.deeds d hdm).five h5
            have hnl := hdo.needs.len
            have e' := (e.trans e4).trans (e6.trans e7)
            refine z_seq (q_if0 (EvB.is (b := !(!(hasB st d.needs) || decide (afterM st d ∈ ss))) (eb_and (a := hasB st d.needs) (b := !decide (afterM st d ∈ ss)) (eb_B (K := K) ?_) fun _ => eb_test (K := K) ?_) ?_) (fun hc H7 e8 => ?_) fun hc H7 e8 => ?_)
            · exact ev_call (false, st, d.needs) (ea_cons (ev_v (.t (tv.same (e4.trans (e6.trans e7))))) (ea_cons (ev_ixT (j := 1) (ev_v (.t tu)) ev_int rfl) ea_nil)) (by dsimp only; omega)
            · exact Ev.is (ev_notInD (ev_call (st, d) (ea_cons (ev_v (.t (tv.same (e4.trans (e6.trans e7))))) (ea_cons (ev_v (.t tu)) ea_nil)) ⟨hso, hdo⟩) (ev_v (h2.same e')) (sh_tI _).ok (sh_rows ss).ok) (by rw [any_eqv])
            · cases hasB st d.needs <;> cases decide (afterM st d ∈ ss) <;> rfl
            · refine s_ret (K := K) ev_bl fun v H8 e9 hv => q v H8 (e'.trans (e8.trans e9)) (?_ : Ap K H8 v _)
              dsimp only
              rw [bad st hsm]
              · exact hv
              · rw [Bool.and_eq_false_iff]
                right
                rw [List.all_eq_false]
                exact ⟨d, hdm, by simpa using hc⟩
            · refine ⟨e6, e7.trans e8, ⟨some u, rfl⟩, fun d' hd'' => ?_⟩
              rw [List.take_add_one, hd', List.mem_append] at hd''
              rcases hd'' with z | z
              · exact hpd d' z
              · obtain rfl : d' = d := by simpa using z
                exact not_f hc
          · obtain ⟨e6, e7, ⟨b, rfl⟩, hpd⟩ := p
            rw [List.length_map, List.take_length] at hpd
            refine ⟨e3.trans (e4.trans (e6.trans e7)), ⟨some v, b, rfl⟩, fun r' hr'' => ?_⟩
            rw [List.take_add_one, hs', List.mem_append] at hr''
            rcases hr'' with z | z
            · exact hp r' z
            · obtain rfl : r' = st := by simpa using z
              rw [hw, List.all_eq_true.mpr hpd]
              rfl
      · obtain ⟨e3, ⟨a, b, rfl⟩, hp⟩ := p
        rw [List.length_map, List.take_length] at hp
        refine s_ret (K := K) ev_bl fun v H8 e9 hv => q v H8 ((e1.trans e2).trans (e3.trans e9)) (?_ : Ap K H8 v _)
        dsimp only
        rw [hN, List.all_eq_true.mpr hp]
        exact hv

abbrev s_is_weighed : Stmt := topS 23
abbrev N_is_weighed : List Str := ["yard", "weights", "deed", "mark"]
theorem sc_is_weighed : FnScope N_is_weighed ["yard", "weights"] (defScope s_is_weighed) := ⟨rfl, rfl, rfl, by decide +kernel, rfl, by decide +kernel, by decide +kernel⟩
def weightI (ws : List Int) (s : List Int) : Int := (s.map (wAt ws)).sum
def weighedB (y : Yard) (ws : List Int) : Bool := decide (ws.length = y.marks.length) && ((y.deeds.all fun d => decide (fallI d ws ≤ 0)) && decide (topI y ws < weightI ws y.start))
def spWeighed (K : PySem.W.Frag) : Sp := spF K (α := Yard × List Int) (fun x => [x.1.dat, .list (dI x.2)]) (fun x => x.1.Ok ∧ x.2.length ≤ 1000) (fun x => .bool (weighedB x.1 x.2))
theorem ok_is_weighed (F : Df K mg "is_weighed" s_is_weighed) (M : Mg mg) (C_fall_of : Cl P w K mg base 1 "fall_of" (spFall K)) (C_top_of : Cl P w K mg base 4 "top_of" (spTop K)) : Cl P w K mg base 5 "is_weighed" (spWeighed K) := by
  refine cl_of F sc_is_weighed (fun _ _ _ _ _ _ us hl => match us, hl with | [_, _], _ => rfl) (fun vs H Q E h => ?_) (fun f cdv A outer s H vs Q E hr h => ?_)
  · obtain ⟨x, h, _⟩ := h
    exact h.len
  · have nd := sc_is_weighed.nd
    obtain ⟨⟨y, ws⟩, h, ⟨ok, hl⟩, q⟩ := h
    obtain ⟨v1, v2, rfl, h1, h2⟩ := h.two
    dsimp only at h1 h2 hl ok
    have h5 := ok.m5
    have hd10 := ok.d10
    have hsl := ok.start.len
    refine ⟨_, (pss_cons (ps_if (PW.pt (pw_or (pt_cmpR op_ne (pe_callB (k_len K) (by rfl) M.b_len (by decide +kernel) (pa_cons (pv 1) pa_nil)) (pe_callB (k_len K) (by rfl) M.b_len (by decide +kernel) (pa_cons (pe_ix (k_ixT K) (pv 0) pe_int (fun _ _ => rfl)) pa_nil)) (nomark _)) (pw_or1 (pt_cmpR (k_neD K hr.units) (pe_lc (own := [("deed", 2)]) (g := gName 2) (by rfl) nd (k_tup K (pe_ix (k_ixT K) (pv 0) pe_int (fun _ _ => rfl))) (blkOk_by (N := N_is_weighed) (sc := defScope s_is_weighed) (by decide +kernel)) (fun _ _ _ _ _ => pg_name (i := 2) nd rfl (by first | exact Or.inl rfl | exact Or.inr rfl)) (fun _ _ _ _ _ => pts_one (pt_cmpR op_gt (pe_cl C_fall_of hr (by decide) (by rfl) (pa_cons (pv 2) (pa_cons (pv 1) pa_nil))) pe_int (nomark _))) (fun _ _ _ _ _ => (pv 2))) (pe_lst pa_nil) (nomark _)))))
        (pss_one (ps_ret pe_bl))
        pss_nil)
      (pss_one (ps_ret (pe_cmpR op_gt (pe_callB (k_sum K rfl) (by rfl) M.b_sum (by decide +kernel) (pa_cons (pe_lc (own := [("mark", 3)]) (g := gName 3) (by rfl) nd (k_tup K (pe_ix (k_ixT K) (pv 0) pe_int (fun _ _ => rfl))) (blkOk_by (N := N_is_weighed) (sc := defScope s_is_weighed) (by decide +kernel)) (fun _ _ _ _ _ => pg_name (i := 3) nd rfl (by first | exact Or.inl rfl | exact Or.inr rfl)) (fun _ _ _ _ _ => pts_nil) (fun _ _ _ _ _ => (pe_ix (k_ixL K) (pv 1) (pv 3) (fun _ _ => rfl)))) pa_nil)) (pe_cl C_top_of hr (by decide) (by rfl) (pa_cons (pv 0) (pa_cons (pv 1) pa_nil))) (nomark _))))), ?_⟩
    refine q_if0 (EvB.is (b := !(decide (ws.length = y.marks.length) && (y.deeds.all fun d => decide (fallI d ws ≤ 0)))) (eb_or (a := !decide (ws.length = y.marks.length)) (b := !(y.deeds.all fun d => decide (fallI d ws ≤ 0))) (eb_test (K := K) ?_) fun hlen => eb_test (K := K) ?_) ?_) (fun hb H1 e1 => ?_) fun hb H1 e1 => ?_
    · refine Ev.is (ev_neI (ev_len (ea_cons (ev_v h2) ea_nil) (.inr rfl)) (ev_len (ea_cons (ev_ixT (j := 0) (ev_v h1) ev_int rfl) ea_nil) (.inl rfl))) ?_
      rw [List.length_map, List.length_map]
      by_cases h : ws.length = y.marks.length
      · rw [decide_eq_true h, decide_eq_true (by omega)]
      · rw [decide_eq_false h, decide_eq_false (by omega)]
    · have hwl : ws.length = y.marks.length := of_decide_eq_true (not_f hlen)
      refine Ev.is (ev_neD (EvN.ev (en_fT (fun d => decide (0 < fallI d ws)) Deed.dat (ev_ixT (j := 1) (ev_v h1) ev_int rfl) (by omega) (fun x => rfl) fun d hd x H' e hx =>
        ⟨eb_test (K := K) (ev_gt (ev_call (d, ws) (ea_cons (ev_v hx) (ea_cons (ev_v (h2.same e)) ea_nil)) (by dsimp only; rw [hwl]; exact ok.deeds d hd)) ev_int), fun _ => ⟨rfl, ev_v hx⟩⟩)) (EvN.ev (en_lst ea_nil rfl (by simp))) (sh_list (k := 2) fun x hx => ?_).ok rfl) ?_
      · obtain ⟨d, hd, rfl⟩ := List.mem_map.mp hx
        exact sh_deed (ok.deeds d (List.mem_filter.mp hd).1).name
      · rw [eqv_nil, filter_some]
        congr 1
        rw [← Bool.not_not (b := y.deeds.any _), List.not_any_eq_all_not]
        congr 2
        funext d
        rw [← decide_not]
        congr 1
        exact propext ⟨fun h => by omega, fun h => by omega⟩
    · cases decide (ws.length = y.marks.length) <;> cases (y.deeds.all fun d => decide (fallI d ws ≤ 0)) <;> rfl
    · refine s_ret (K := K) ev_bl fun v H2 e2 hv => q v H2 (e1.trans e2) (?_ : Ap K H2 v _)
      have : weighedB y ws = false := by
        unfold weighedB
        rw [← Bool.and_assoc, show (decide (ws.length = y.marks.length) && (y.deeds.all fun d => decide (fallI d ws ≤ 0))) = false from not_t hb]
        rfl
      dsimp only
      rw [this]
      exact hv
    · have hb' := not_f hb
      have hwl : ws.length = y.marks.length := of_decide_eq_true (Bool.and_eq_true_iff.mp hb').1
      refine s_ret (K := K) (ev_gt (ev_sum (ns := y.start.map (wAt ws)) (ea_cons (Ev.is (EvN.ev (en_fT (fun _ => true) (fun m => PyData.int (wAt ws m)) (ev_ixT (j := 2) (ev_v (h1.same e1)) ev_int rfl) (by omega) (fun x => rfl) fun m hm x H' e hx =>
        ⟨eb_yes, fun _ => ⟨rfl, ev_ixW (ev_v ((h2.same e1).same e)) (ev_v hx) (ok.start.2 m hm).1 (by rw [hwl]; exact (ok.start.2 m hm).2)⟩⟩)) (by rw [filter_tt, dI, List.map_map]; rfl)) ea_nil))
        (ev_call (y, ws) (ea_cons (ev_v (h1.same e1)) (ea_cons (ev_v (h2.same e1)) ea_nil)) ⟨ok, hl⟩)) fun v H2 e2 hv => q v H2 (e1.trans e2) (?_ : Ap K H2 v _)
      have : weighedB y ws = decide (topI y ws < weightI ws y.start) := by
        unfold weighedB
        rw [← Bool.and_assoc, hb', Bool.true_and]
      dsimp only
      rw [this]
      exact hv

abbrev s_shows_none : Stmt := topS 24
abbrev N_shows_none : List Str := ["yard", "paper", "word", "some"]
theorem sc_shows_none : FnScope N_shows_none ["yard", "paper"] (defScope s_shows_none) := ⟨rfl, rfl, rfl, by decide +kernel, rfl, by decide +kernel, by decide +kernel⟩
/-- a paper's list: rows or weights -/
inductive Paper where
  | rows (rs : List (List Int))
  | nums (ws : List Int)
def Paper.dat : Paper → PyData
  | .rows rs => .list (rs.map tI)
  | .nums ws => .list (dI ws)
def dueB (y : Yard) (word : Str) (p : Paper) : Bool :=
  match p with
  | .rows rs => (decide (word = "never") && neverB y rs) || (decide (word = "closed") && closedB y rs)
  | .nums ws => decide (word = "weighed") && weighedB y ws
/-- what a paper's list is asked to be, by its word -/
def PaperOk (word : Str) : Paper → Prop
  | .rows rs => (word = "never" ∧ RowsOk rs) ∨ (word = "closed" ∧ SetsOk rs)
  | .nums ws => word ≠ "never" ∧ word ≠ "closed" ∧ ws.length ≤ 1000
def spShows (K : PySem.W.Frag) : Sp := fun vs H Q _ => ∃ (v p : V) (y : Yard) (a b : Addr) (word : Str) (pp : Paper), vs = [v, p] ∧ Ap K H v y.dat ∧ p = .ref a ∧ SqT K H a [.str word, .ref b] ∧ Ap K H (.ref b) pp.dat ∧ y.Ok ∧ PaperOk word pp ∧ ∀ H', Same H H' → Q (.bl (dueB y word pp)) H'
theorem ok_shows_none (F : Df K mg "shows_none" s_shows_none) (M : Mg mg) (C_need_yard : Cl P w K mg base 3 "need_yard" (spNeed K)) (C_is_never : Cl P w K mg base 3 "is_never" (spNever K)) (C_is_closed : Cl P w K mg base 2 "is_closed" (spClosed K)) (C_is_weighed : Cl P w K mg base 5 "is_weighed" (spWeighed K)) :
    Cl P w K mg base 6 "shows_none" (spShows K) := by
  refine cl_of F sc_shows_none (fun _ _ _ _ _ _ us hl => match us, hl with | [_, _], _ => rfl) (fun vs H Q E h => ?_) (fun f cdv A outer s H vs Q E hr h => ?_)
  · obtain ⟨_, _, _, _, _, _, _, rfl, _⟩ := h
    rfl
  · have nd := sc_shows_none.nd
    obtain ⟨v, p, y, a, b, word, pp, rfl, hv, rfl, hp, hl, ok, pok, q⟩ := h
    refine ⟨_, (pss_cons (ps_expr (pe_cl C_need_yard hr (by decide) (by rfl) (pa_cons (pv 0) pa_nil)))
      (pss_cons (ps_asg (pv 1) (k_gtup K (n := 2) rfl (pgs_cons (pg_name (i := 2) nd rfl (by first | exact Or.inl rfl | exact Or.inr rfl)) (pgs_cons (pg_name (i := 3) nd rfl (by first | exact Or.inl rfl | exact Or.inr rfl)) pgs_nil))))
      (pss_cons (ps_if (pt_cmpR op_eq (pv 2) pe_str (nomark _))
        (pss_one (ps_ret (pe_cl C_is_never hr (by decide) (by rfl) (pa_cons (pv 0) (pa_cons (pv 3) pa_nil)))))
        pss_nil)
      (pss_cons (ps_if (pt_cmpR op_eq (pv 2) pe_str (nomark _))
        (pss_one (ps_ret (pe_cl C_is_closed hr (by decide) (by rfl) (pa_cons (pv 0) (pa_cons (pv 3) pa_nil)))))
        pss_nil)
      (pss_one (ps_ret (pe_and (pe_cmpR op_eq (pv 2) pe_str (nomark _)) (pe_one (pe_cl C_is_weighed hr (by decide) (by rfl) (pa_cons (pv 0) (pa_cons (pv 3) pa_nil))))))))))), ?_⟩
    refine q_drop (K := K) (ev_call y (ea_cons (ev_v hv) ea_nil) ok) fun H1 e1 => ?_
    refine ⟨_, rfl, a, _, rfl, e1.sqT hp, rfl, _, _, rfl, _, _, rfl, rfl, ?_⟩
    refine q_if0 (b := decide (word = "never")) (eb_test (K := K) (ev_eqS (ev_v (.t (.str _))) ev_str)) (fun hw H2 e2 => ?_) fun hw H2 e2 => ?_
    · have hw := of_decide_eq_true hw
      cases pp with
      | nums ws => exact absurd hw pok.1
      | rows rs =>
        have hrs : RowsOk rs := by
          rcases pok with z | z
          · exact z.2
          · rw [hw] at z
            exact absurd z.1 (by decide)
        refine s_ret (K := K) (ev_call (y, rs) (ea_cons (ev_v ((hv.same e1).same e2)) (ea_cons (ev_v ((hl.same e1).same e2)) ea_nil)) ⟨ok, hrs⟩) fun u H3 e3 hu => ?_
        obtain rfl := hu.bl_inv
        have : dueB y word (.rows rs) = neverB y rs := by
          unfold dueB
          rw [decide_eq_true hw, decide_eq_false (by rw [hw]; decide)]
          simp
        have := this ▸ q H3 (e1.trans (e2.trans e3))
        exact this
    · have hw := of_decide_eq_false hw
      refine q_if0 (b := decide (word = "closed")) (eb_test (K := K) (ev_eqS (ev_v (.t (.str _))) ev_str)) (fun hc H3 e3 => ?_) fun hc H3 e3 => ?_
      · have hc := of_decide_eq_true hc
        cases pp with
        | nums ws => exact absurd hc pok.2.1
        | rows rs =>
          have hrs : SetsOk rs := by
            rcases pok with z | z
            · exact absurd z.1 hw
            · exact z.2
          refine s_ret (K := K) (ev_call (y, rs) (ea_cons (ev_v (((hv.same e1).same e2).same e3)) (ea_cons (ev_v (((hl.same e1).same e2).same e3)) ea_nil)) ⟨ok, hrs⟩) fun u H4 e4 hu => ?_
          obtain rfl := hu.bl_inv
          have : dueB y word (.rows rs) = closedB y rs := by
            unfold dueB
            rw [decide_eq_false hw, decide_eq_true hc]
            simp
          have := this ▸ q H4 (e1.trans (e2.trans (e3.trans e4)))
          exact this
      · have hc := of_decide_eq_false hc
        cases pp with
        | rows rs => exact absurd pok fun z => z.elim (fun z => hw z.1) fun z => hc z.1
        | nums ws =>
          refine s_ret (K := K) (ev_andV (ev_eqS (ev_v (.t (.str _))) ev_str) fun _ => ev_call (y, ws) (ea_cons (ev_v (((hv.same e1).same e2).same e3)) (ea_cons (ev_v (((hl.same e1).same e2).same e3)) ea_nil)) ⟨ok, pok.2.2⟩) fun u H4 e4 hu => ?_
          obtain rfl := hu.bl_inv
          exact q H4 (e1.trans (e2.trans (e3.trans e4)))
end
end WB

/-! the law's own looks, without dice -/
namespace WB
open PySem PySem.Spec PyProof.Rows L2
section
variable {K : PySem.W.Frag} {σ : L2.St} {H : Hp} {ta tb tl te : TE} {tt : TT} {ds es : List PyData} {D : Ends} {u tb2 : TS}
/-- a tracked list -/
def EvM (K : PySem.W.Frag) (te : TE) (σ : L2.St) (H : Hp) (ds : List PyData) : Prop := ∀ H1, Same H H1 → ∀ Q : VK, (∀ p xs H2, Same H1 H2 → H2 p = some (.lst xs) → TpAll K H2 xs ds → Q (.ref p) H2) → te σ H1 Q
theorem em_N (h : EvN K te σ H ds) : EvM K te σ H ds := fun H1 e Q q => h H1 e Q fun p xs H2 _ e2 h2 hx => q p xs H2 e2 h2 hx
theorem em_v {i : Nat} {p : Addr} {xs : List V} (hH : H p = some (.lst xs)) (hx : TpAll K H xs ds) (h : σ[i]? = some (some (.ref p)) := by rfl) : EvM K (tVar i) σ H ds := fun H1 e Q q => ⟨_, h, q p xs H1 (Same.refl H1) (e _ _ hH) (hx.same e)⟩
theorem EvM.ev (h : EvM K te σ H ds) : Ev K te σ H (.list ds) := fun H1 a Q q => h H1 a Q fun p xs H2 e h2 h3 => q _ H2 e (.l (.inl (.inl h2)) h3)
theorem en_catM (ha : EvM K ta σ H ds) (hb : EvM K tb σ H es) (hl : ds.length + es.length ≤ 1000) : EvN K (tOp rCat ta tb) σ H (ds ++ es) := fun H1 e Q q =>
  ha H1 e _ fun p xs H2 e2 h2 hx => hb H2 (e.trans e2) _ fun r ys H3 e3 h3 hy =>
    ⟨p, r, xs, ys, rfl, rfl, e3 _ _ h2, h3, by rw [hx.len, hy.len]; exact Nat.le_of_lt (small1000 hl), fun l hl => q l _ _ (e2.free (e3.free hl)) ((e2.trans e3).trans (Same.new hl)) upd_same (((hx.same e3).same (Same.new hl)).app (hy.same (Same.new hl)))⟩
theorem q_forR {ta : TA} {j n : Nat} (h : EvA K ta σ H [.int n]) (hn : n ≤ 1000) (Pv : Hp → Nat → L2.St → Hp → Prop) (h0 : ∀ H1, Same H H1 → Pv H1 0 σ H1)
    (hs : ∀ H1 i σ' H', Same H H1 → i < n → Pv H1 i σ' H' → tb2 { D with nx := Pv H1 (i + 1), ct := Pv H1 (i + 1), bk := u D } (σ'.set j (some (.int i))) H') (hd : ∀ H1 σ' H', Same H H1 → Pv H1 n σ' H' → u D σ' H') :
    tSeq (tFor (iRng1 ta) (gName j) tb2) u D σ H := h H (Same.refl H) _ fun vs H1 e hv => by
  obtain ⟨v, rfl, h1⟩ := hv.one
  obtain rfl := h1.int_inv
  refine ⟨(n : Int), rfl, by omega, by omega, ?_⟩
  rw [Int.toNat_natCast]
  exact for_range (lo := 0) (n := n) (D := { D with nx := u D }) (Pv H1) (h0 H1 e) (fun i σ' H' hi p => by
    have := hs H1 i σ' H' e hi p
    show tb2 _ (σ'.set j (some (.int (0 + (i : Int))))) H'
    rw [Int.zero_add]
    exact this) fun σ' H' p => hd H1 σ' H' e p
end
theorem sort_ms {ns ms ks : List Int} (hn : ns.Nodup) (hm : ms.Pairwise (· < ·)) (h : ∀ k, k ∈ ms ↔ k ∈ ns) (p : ks.Perm ns) (s : ks.Pairwise (· ≤ ·)) : ks = ms := by
  have nd : ks.Nodup := p.nodup_iff.mpr hn
  have lt : ks.Pairwise (· < ·) := by
    clear p
    induction ks with
    | nil => exact .nil
    | cons a l ih =>
      obtain ⟨s1, s2⟩ := List.pairwise_cons.mp s
      obtain ⟨n1, n2⟩ := List.nodup_cons.mp nd
      refine List.pairwise_cons.mpr ⟨fun b hb => ?_, ih s2 n2⟩
      have := s1 b hb
      have : a ≠ b := fun e => n1 (e ▸ hb)
      omega
  exact lt_ext lt hm fun k => (p.mem_iff).trans (h k).symm
section
variable {P : Program} {w : World} {K : PySem.W.Frag} {mg : Str → Option Value} {base : Heap}
abbrev s__law_has : Stmt := topS 35
abbrev N__law_has : List Str := ["_law_state", "_law_some_here", "_law_mark"]
theorem sc__law_has : FnScope N__law_has ["_law_state", "_law_some_here"] (defScope s__law_has) := ⟨rfl, rfl, rfl, by decide +kernel, rfl, by decide +kernel, by decide +kernel⟩
theorem ok__law_has (F : Df K mg "_law_has" s__law_has) (M : Mg mg) : Cl P w K mg base 1 "_law_has" (spHas K) := by
  refine cl_of F sc__law_has (fun _ _ _ _ _ _ us hl => match us, hl with | [_, _], _ => rfl) (fun vs H Q E h => ?_) (fun f cdv A outer s H vs Q E hr h => ?_)
  · obtain ⟨x, h, _⟩ := h
    exact h.len
  · have nd := sc__law_has.nd
    obtain ⟨⟨l, st, ms⟩, h, hl, q⟩ := h
    obtain ⟨v1, v2, rfl, h1, h2⟩ := h.two
    dsimp only at h1 h2 hl
    refine ⟨_, (pss_one (ps_ret (pe_cmpR (k_eqD K hr.units) (pe_lc (own := [("_law_mark", 2)]) (g := gName 2) (by rfl) nd (k_tup K (pv 1)) (blkOk_by (N := N__law_has) (sc := defScope s__law_has) (by decide +kernel)) (fun _ _ _ _ _ => pg_name (i := 2) nd rfl (by first | exact Or.inl rfl | exact Or.inr rfl)) (fun _ _ _ _ _ => pts_one (pt_cmpR (k_notIn K) (pv 2) (pv 0) (by rfl))) (fun _ _ _ _ _ => (pv 2))) (pe_lst pa_nil) (nomark _)))), ?_⟩
    refine s_ret (K := K) (Ev.is (ev_eqD (EvN.ev (en_fT (fun m => !decide (m ∈ st)) PyData.int (ev_v h2) (Nat.le_trans hl (by decide)) (fun x => rfl) fun m hm x H' e hx =>
      ⟨eb_test (ev_niS (ev_v hx) (ev_v (h1.same e))), fun _ => ⟨rfl, ev_v hx⟩⟩)) (EvN.ev (en_lst ea_nil rfl (by simp))) (sh_lI _).ok rfl) ?_) fun v H1 e hv => q v H1 e hv
    rw [eqv_nil, filter_nil]
    rfl

abbrev s__law_after : Stmt := topS 36
abbrev N__law_after : List Str := ["_law_state", "_law_deed", "_law_stay", "_law_mark"]
theorem sc__law_after : FnScope N__law_after ["_law_state", "_law_deed"] (defScope s__law_after) := ⟨rfl, rfl, rfl, by decide +kernel, rfl, by decide +kernel, by decide +kernel⟩
theorem ok__law_after (F : Df K mg "_law_after" s__law_after) (M : Mg mg) : Cl P w K mg base 1 "_law_after" (spBehind K) := by
  refine cl_of F sc__law_after (fun _ _ _ _ _ _ us hl => match us, hl with | [_, _], _ => rfl) (fun vs H Q E h => ?_) (fun f cdv A outer s H vs Q E hr h => ?_)
  · obtain ⟨x, h, _⟩ := h
    exact h.len
  · have nd := sc__law_after.nd
    obtain ⟨⟨st, d⟩, h, ⟨hst, hd⟩, q⟩ := h
    obtain ⟨v1, v2, rfl, h1, h2⟩ := h.two
    dsimp only at h1 h2 hst hd
    have l1 := hst.len
    have l2 := hd.sets.len
    have l3 : (st.filter fun m => !decide (m ∈ d.strikes) && !decide (m ∈ d.sets)).length ≤ st.length := List.length_filter_le _ _
    refine ⟨_, (pss_cons (ps_setLc (i := 2) (own := [("_law_mark", 3)]) (g := gName 3) (by rfl) nd rfl (by first | exact rfl) (sw_true rfl rfl rfl (by decide +kernel)) (k_tup K (pv 0)) (blkOk_by (N := N__law_after) (sc := defScope s__law_after) (by decide +kernel)) (fun _ _ _ _ _ => pg_name (i := 3) nd rfl (by first | exact Or.inl rfl | exact Or.inr rfl)) (fun _ _ _ _ _ => pts_one (PW.pt (pw_and (pt_cmpR (k_notIn K) (pv 3) (pe_ix (k_ixT K) (pv 1) pe_int (fun _ _ => rfl)) (by rfl)) (pw_and1 (pt_cmpR (k_notIn K) (pv 3) (pe_ix (k_ixT K) (pv 1) pe_int (fun _ _ => rfl)) (by rfl)))))) (fun _ _ _ _ _ => (pv 3)))
      (pss_one (ps_ret (pe_callTy (k_tupOf K) (by rfl) M.b_tuple (by decide +kernel) (pa_cons (pe_callB (k_sorted K) (by rfl) M.b_sorted (by decide +kernel) (pa_cons (pe_op op_cat (pv 2) (pe_callTy (k_listOf K) (by rfl) M.b_list (by decide +kernel) (pa_cons (pe_ix (k_ixT K) (pv 1) pe_int (fun _ _ => rfl)) pa_nil))) pa_nil)) pa_nil))))), ?_⟩
    refine q_setN (K := K) (ds := dI (st.filter fun m => !decide (m ∈ d.strikes) && !decide (m ∈ d.sets))) (en_fT (fun m => !decide (m ∈ d.strikes) && !decide (m ∈ d.sets)) PyData.int (ev_v h1) (by omega) (fun x => rfl) fun m hm x H' e hx =>
      ⟨eb_and (eb_test (ev_niT (ev_v hx) (ev_ixT (j := 3) (ev_v (h2.same e)) ev_int rfl))) fun _ => eb_test (ev_niT (ev_v hx) (ev_ixT (j := 2) (ev_v (h2.same e)) ev_int rfl)), fun _ => ⟨rfl, ev_v hx⟩⟩) fun p xs H1 hp e1 hH hx => ?_
    refine s_ret (K := K) (ev_tupN (ds := dI (afterM st d)) (en_sorted (ns := (st.filter fun m => !decide (m ∈ d.strikes) && !decide (m ∈ d.sets)) ++ d.sets) (ea_cons (Ev.is (EvN.ev (en_catM (em_v hH hx) (em_N (en_list (ea_cons (ev_ixT (j := 2) (d := tI d.sets) (ev_v (h2.same e1)) ev_int rfl) ea_nil) (.inl rfl))) ?_)) ?_) ea_nil) ?_ fun ks pm so => sort_ms ?_ (mk_ms 5 _).1 (fun k => ?_) pm so)) fun v H2 e2 hv => q v H2 (e1.trans e2) hv
    · rw [dI, dI, List.length_map, List.length_map]; omega
    · rw [dI, dI, dI, List.map_append]
    · rw [List.length_append]; omega
    · rw [List.nodup_append]
      refine ⟨hst.nodup.filter _, hd.sets.nodup, fun a ha b hb e => ?_⟩
      subst e
      have := (List.mem_filter.mp ha).2
      simp_all
    · unfold afterM
      rw [mem_mk, List.mem_append, List.mem_filter, Bool.and_eq_true, Bool.or_eq_true, Bool.and_eq_true]
      simp only [decide_eq_true_eq, Bool.not_eq_true', decide_eq_false_iff_not]
      constructor
      · rintro ⟨_, z, u⟩
        by_cases hs : k ∈ d.sets
        · exact .inr hs
        · exact .inl ⟨z.resolve_right hs, u, hs⟩
      · rintro (⟨z, u, _⟩ | z)
        · exact ⟨hst.2 k z, .inl z, u⟩
        · exact ⟨hd.sets.2 k z, .inr z, hd.apart k z⟩

abbrev s__law_every : Stmt := topS 38
abbrev N__law_every : List Str := ["_law_many", "_law_found", "_law_mark", "_law_row"]
theorem sc__law_every : FnScope N__law_every ["_law_many"] (defScope s__law_every) := ⟨rfl, rfl, rfl, by decide +kernel, rfl, by decide +kernel, by decide +kernel⟩
def everyL : Nat → List (List Int)
  | 0 => [[]]
  | k + 1 => everyL k ++ (everyL k).map fun r => r ++ [(k : Int)]
theorem every_len : ∀ n, (everyL n).length = 2 ^ n
  | 0 => rfl
  | n + 1 => by
    unfold everyL
    rw [List.length_append, List.length_map, every_len n, Nat.pow_succ]
    omega
theorem mem_every : ∀ {n : Nat} {r : List Int}, r ∈ everyL n ↔ Ms n r
  | 0, r => by
    unfold everyL
    rw [List.mem_singleton]
    constructor
    · rintro rfl; exact Ms.nil 0
    · intro h
      cases r with
      | nil => rfl
      | cons a r => have := h.2 a List.mem_cons_self; omega
  | n + 1, r => by
    unfold everyL
    rw [List.mem_append, List.mem_map, mem_every]
    constructor
    · rintro (h | ⟨s, hs, rfl⟩)
      · exact h.mono (Nat.le_succ n)
      · have hs := mem_every.mp hs
        refine ⟨List.pairwise_append.mpr ⟨hs.1, List.pairwise_singleton _ _, fun a ha b hb => ?_⟩, fun m hm => ?_⟩
        · have := hs.2 a ha
          have : b = (n : Int) := by simpa using hb
          omega
        · rcases List.mem_append.mp hm with z | z
          · have := hs.2 m z; omega
          · have : m = (n : Int) := by simpa using z
            omega
    · intro h
      by_cases hn : (n : Int) ∈ r
      · refine .inr ⟨r.filter fun m => decide (m < n), mem_every.mpr ⟨h.1.filter _, fun m hm => ?_⟩, ?_⟩
        · have := h.2 m (List.mem_filter.mp hm).1
          have := (List.mem_filter.mp hm).2
          simp only [decide_eq_true_eq] at this
          omega
        · refine lt_ext (List.pairwise_append.mpr ⟨h.1.filter _, List.pairwise_singleton _ _, fun a ha b hb => ?_⟩) h.1 fun m => ?_
          · have := (List.mem_filter.mp ha).2
            have : b = (n : Int) := by simpa using hb
            simp_all
          · rw [List.mem_append, List.mem_filter, List.mem_singleton, decide_eq_true_eq]
            constructor
            · rintro (z | z)
              · exact z.1
              · exact z ▸ hn
            · intro z
              have := h.2 m z
              by_cases e : m = n
              · exact .inr e
              · exact .inl ⟨z, by omega⟩
      · refine .inl ⟨h.1, fun m hm => ?_⟩
        have := h.2 m hm
        have : m ≠ (n : Int) := fun e => hn (e ▸ hm)
        omega
def spEvery (K : PySem.W.Frag) : Sp := spN K (α := Nat) (fun n => [.int n]) (fun n => n ≤ 5) (fun n => (everyL n).map tI)
theorem pow5 {n : Nat} (h : n ≤ 5) : 2 ^ n ≤ 32 := Nat.pow_le_pow_right (n := 2) (by omega) h
theorem ok__law_every (F : Df K mg "_law_every" s__law_every) (M : Mg mg) : Cl P w K mg base 1 "_law_every" (spEvery K) := by
  refine cl_of F sc__law_every (fun _ _ _ _ _ _ us hl => match us, hl with | [_], _ => rfl) (fun vs H Q E h => ?_) (fun f cdv A outer s H vs Q E hr h => ?_)
  · obtain ⟨x, h, _⟩ := h
    exact h.len
  · have nd := sc__law_every.nd
    obtain ⟨n, h, n5, q⟩ := h
    obtain ⟨v1, rfl, h1⟩ := h.one
    refine ⟨_, (pss_cons (ps_set (i := 1) nd rfl (by first | exact Or.inl rfl | exact Or.inr rfl) (pe_lst (pa_cons (pe_tup pa_nil) pa_nil)))
      (pss_cons (ps_for PassesOwn.never rfl (pi_range1 (by rfl) M.b_range (pa_cons (pv 0) pa_nil)) (pg_name (i := 2) nd rfl (by first | exact Or.inl rfl | exact Or.inr rfl))
        (pss_one (ps_set (i := 1) nd rfl (by first | exact Or.inl rfl | exact Or.inr rfl) (pe_op op_cat (pv 1) (pe_lc (own := [("_law_row", 3)]) (g := gName 3) (by rfl) nd (k_list K (pv 1)) (blkOk_by (N := N__law_every) (sc := defScope s__law_every) (by decide +kernel)) (fun _ _ _ _ _ => pg_name (i := 3) nd rfl (by first | exact Or.inl rfl | exact Or.inr rfl)) (fun _ _ _ _ _ => pts_nil) (fun _ _ _ _ _ => (pe_op (k_catA K) (pv 3) (pe_tup (pa_cons (pv 2) pa_nil)))))))))
      (pss_one (ps_ret (pv 1))))), ?_⟩
    refine q_setN (K := K) (ds := [tI []]) (en_lst (ea_cons (ev_tup ea_nil rfl (by simp)) ea_nil) rfl (by simp)) fun p xs H1 hp e1 hH hx => ?_
    refine q_forR (K := K) (n := n) (ea_cons (ev_v (h1.same e1)) ea_nil) (by omega) (fun H2 i σ' H' => Same H H' ∧ i ≤ n ∧ ∃ p xs y z, σ' = [some v1, some (.ref p), y, z] ∧ H p = none ∧ H' p = some (.lst xs) ∧ TpAll K H' xs ((everyL i).map tI)) (fun H2 e2 => ⟨e1.trans e2, Nat.zero_le _, p, xs, none, none, rfl, hp, e2 _ _ hH, hx.same e2⟩) (fun H2 i σ' H3 e2 hi p => ?_) fun H2 σ' H3 e2 p => ?_
    · obtain ⟨e3, _, p, xs, a, b, rfl, hp, hH, hx⟩ := p
      have hl := every_len i
      have h32 := pow5 (show i ≤ 5 by omega)
      refine z_seq (q_setN (K := K) (en_catM (em_v hH hx) (em_N (en_fL (emb := tI) (zs := everyL i) (fun _ => true) (fun r => tI (r ++ [(i : Int)])) (em_v hH hx).ev (by omega) (fun x => rfl) fun r hr x H' e hx => ⟨eb_yes, fun _ => ⟨rfl, Ev.is (ev_catA (ev_v hx) (ev_tup (ea_cons (ev_v (.t (.int i))) ea_nil) rfl (by simp)) ?_) ?_⟩⟩)) ?_) fun p' xs' H4 hp' e4 hH' hx' => ?_)
      · have := (mem_every.mp hr).len
        rw [List.length_map, List.length_singleton]; omega
      · show PyData.tuple (dI r ++ [PyData.int i]) = PyData.tuple (dI (r ++ [(i : Int)]))
        rw [show dI (r ++ [(i : Int)]) = dI r ++ [PyData.int i] from List.map_append]
      · rw [List.length_map, List.length_map, filter_tt]; omega
      · refine ⟨e3.trans e4, hi, p', xs', _, b, rfl, e3.free hp', hH', ?_⟩
        rw [filter_tt] at hx'
        have : (everyL (i + 1)).map tI = (everyL i).map tI ++ (everyL i).map fun r => tI (r ++ [(i : Int)]) := by
          rw [everyL, List.map_append, List.map_map]; rfl
        rw [this]
        exact hx'
    · obtain ⟨e3, _, p, xs, a, b, rfl, hp, hH, hx⟩ := p
      exact ⟨_, rfl, q p xs H3 hp e3 hH hx⟩
end
end WB

/-! weights: what a deed may lose, what a yard may weigh -/
namespace WB
open PySem PySem.Spec PyProof.Rows L2
def upI (n : Nat) : List Int := (List.range n).map Int.ofNat
def sumU (n : Nat) (f : Int → Int) : Int := ((upI n).map f).sum
theorem mem_upI {n : Nat} {m : Int} : m ∈ upI n ↔ 0 ≤ m ∧ m < n := by
  constructor
  · exact (up_ms n).2 m
  · intro h
    exact List.mem_map.mpr ⟨m.toNat, List.mem_range.mpr (by omega), by simp only [Int.ofNat_eq_natCast]; omega⟩
theorem sum_le {f g : Int → Int} : ∀ {l : List Int}, (∀ m ∈ l, f m ≤ g m) → (l.map f).sum ≤ (l.map g).sum
  | [], _ => Int.le_refl _
  | a :: l, h => by
    rw [List.map_cons, List.map_cons, List.sum_cons, List.sum_cons]
    have := h a List.mem_cons_self
    have := sum_le (l := l) fun m hm => h m (List.mem_cons_of_mem _ hm)
    omega
theorem sum_same {f g : Int → Int} {l : List Int} (h : ∀ m ∈ l, f m = g m) : (l.map f).sum = (l.map g).sum := by
  rw [List.map_congr_left h]
theorem sum_add (f g : Int → Int) : ∀ l : List Int, (l.map f).sum + (l.map g).sum = (l.map fun m => f m + g m).sum
  | [] => rfl
  | a :: l => by
    rw [List.map_cons, List.map_cons, List.map_cons, List.sum_cons, List.sum_cons, List.sum_cons, ← sum_add f g l]
    omega
theorem sum_filter (p : Int → Bool) (f : Int → Int) : ∀ l : List Int, ((l.filter p).map f).sum = (l.map fun m => if p m = true then f m else 0).sum
  | [] => rfl
  | a :: l => by
    rw [List.filter_cons, List.map_cons, List.sum_cons, ← sum_filter p f l]
    cases h : p a <;> simp [h]
theorem sum_ms {n : Nat} {l : List Int} (h : Ms n l) (f : Int → Int) : (l.map f).sum = sumU n fun m => if m ∈ l then f m else 0 := by
  conv => lhs; rw [h.of_mk]
  unfold mk sumU upI
  rw [sum_filter]
  simp only [decide_eq_true_eq]
theorem weight_up {n : Nat} {ws s : List Int} (h : Ms n s) : weightI ws s = sumU n fun m => if m ∈ s then wAt ws m else 0 := sum_ms h _
/-- a deed's loss at a mark -/
def fallM (d : Deed) (ws : List Int) (m : Int) : Int := (if m ∈ d.strikes then fallS d ws m else 0) + (if m ∈ d.sets then fallG d ws m else 0)
theorem fall_up {n : Nat} {ws : List Int} {d : Deed} (h : d.Ok n) : fallI d ws = sumU n (fallM d ws) := by
  unfold fallI
  rw [sum_ms h.strikes, sum_ms h.sets]
  unfold sumU
  rw [sum_add]
  rfl
theorem mem_after {s : List Int} {d : Deed} {m : Int} (h0 : 0 ≤ m) (h5 : m < 5) : m ∈ afterM s d ↔ (m ∈ s ∨ m ∈ d.sets) ∧ m ∉ d.strikes := by
  unfold afterM
  rw [mem_mk, Bool.and_eq_true, Bool.or_eq_true]
  simp only [decide_eq_true_eq, Bool.not_eq_true', decide_eq_false_iff_not]
  exact ⟨fun z => z.2, fun z => ⟨⟨h0, h5⟩, z⟩⟩
theorem has_iff {s ms : List Int} : hasB s ms = true ↔ ∀ m ∈ ms, m ∈ s := by
  unfold hasB
  rw [List.all_eq_true]
  simp only [decide_eq_true_eq]
theorem after_ms {n : Nat} {s : List Int} {d : Deed} (hs : Ms n s) (hd : d.Ok n) (h5 : n ≤ 5) : Ms n (afterM s d) := by
  refine ⟨(mk_ms 5 _).1, fun m hm => ?_⟩
  have h := (mk_ms 5 _).2 m hm
  rcases (mem_after h.1 h.2).mp hm with ⟨z | z, _⟩
  · exact hs.2 m z
  · exact hd.sets.2 m z
theorem fall_max {n : Nat} {ws s : List Int} {d : Deed} (hs : Ms n s) (hd : d.Ok n) (h5 : n ≤ 5) (hh : hasB s d.needs = true) : weightI ws s ≤ weightI ws (afterM s d) + fallI d ws := by
  rw [weight_up hs, weight_up (after_ms hs hd h5), fall_up hd]
  unfold sumU
  rw [sum_add]
  refine sum_le fun m hm => ?_
  have h := mem_upI.mp hm
  have ha := mem_after (s := s) (d := d) h.1 (by omega)
  have hn : m ∈ d.needs → m ∈ s := fun z => has_iff.mp hh m z
  have ap := hd.apart m
  unfold fallM fallS fallG
  by_cases h1 : m ∈ s <;> by_cases h2 : m ∈ d.strikes <;> by_cases h3 : m ∈ d.sets <;> by_cases h4 : m ∈ d.needs <;> simp only [ha, h1, h2, h3, h4, if_true, if_false, not_true, not_false_iff, and_true, and_false, or_true, or_false, true_or, false_or, or_self, and_self] <;> first | omega | exact absurd (hn h4) h1 | exact absurd h2 (ap h3)
theorem fall_hit {n : Nat} {ws : List Int} {d : Deed} (hd : d.Ok n) (h5 : n ≤ 5) : ∃ s, Ms n s ∧ hasB s d.needs = true ∧ weightI ws s = weightI ws (afterM s d) + fallI d ws := by
  refine ⟨mk n fun m => decide (m ∈ d.needs) || ((decide (m ∈ d.strikes) && decide (0 < wAt ws m)) || (decide (m ∈ d.sets) && decide (0 ≤ wAt ws m))), mk_ms n _, ?_, ?_⟩
  · refine has_iff.mpr fun m hm => mem_mk.mpr ⟨hd.needs.2 m hm, ?_⟩
    simp [hm]
  · have hs := mk_ms n fun m => decide (m ∈ d.needs) || ((decide (m ∈ d.strikes) && decide (0 < wAt ws m)) || (decide (m ∈ d.sets) && decide (0 ≤ wAt ws m)))
    rw [weight_up hs, weight_up (after_ms hs hd h5), fall_up hd]
    unfold sumU
    rw [sum_add]
    refine sum_same fun m hm => ?_
    have h := mem_upI.mp hm
    have hi : (m ∈ mk n fun m => decide (m ∈ d.needs) || ((decide (m ∈ d.strikes) && decide (0 < wAt ws m)) || (decide (m ∈ d.sets) && decide (0 ≤ wAt ws m)))) ↔ (m ∈ d.needs ∨ (m ∈ d.strikes ∧ 0 < wAt ws m) ∨ (m ∈ d.sets ∧ 0 ≤ wAt ws m)) := by
      rw [mem_mk]
      simp only [Bool.or_eq_true, Bool.and_eq_true, decide_eq_true_eq]
      exact ⟨fun z => z.2, fun z => ⟨h, z⟩⟩
    have ha := mem_after (s := mk n fun m => decide (m ∈ d.needs) || ((decide (m ∈ d.strikes) && decide (0 < wAt ws m)) || (decide (m ∈ d.sets) && decide (0 ≤ wAt ws m)))) (d := d) h.1 (by omega)
    have ap := hd.apart m
    unfold fallM fallS fallG
    by_cases h2 : m ∈ d.strikes <;> by_cases h3 : m ∈ d.sets <;> by_cases h4 : m ∈ d.needs <;> by_cases h5 : 0 < wAt ws m <;> by_cases h6 : 0 ≤ wAt ws m <;> simp only [ha, hi, h2, h3, h4, h5, h6, if_true, if_false, not_true, not_false_iff, and_true, true_and, and_false, false_and, or_true, or_false, true_or, false_or, or_self, and_self] <;> first | omega | exact absurd h2 (ap h3)
theorem fall_iff {n : Nat} {ws : List Int} {d : Deed} (hd : d.Ok n) (h5 : n ≤ 5) : decide (fallI d ws ≤ 0) = (everyL n).all fun s => !(hasB s d.needs && decide (weightI ws (afterM s d) < weightI ws s)) := by
  rw [Bool.eq_iff_iff, decide_eq_true_eq, List.all_eq_true]
  constructor
  · intro h s hs
    have hs := mem_every.mp hs
    cases hh : hasB s d.needs with
    | false => rfl
    | true =>
      have := fall_max (ws := ws) hs hd h5 hh
      rw [decide_eq_false (by omega)]
      rfl
  · intro h
    obtain ⟨s, hs, hh, e⟩ := fall_hit (ws := ws) hd h5
    have := h s (mem_every.mpr hs)
    rw [hh] at this
    simp at this
    omega
theorem sum_idx {ws : List Int} (f : Nat → Int → Int) : (ws.mapIdx f).sum = sumU ws.length fun m => f m.toNat (wAt ws m) := by
  congr 1
  refine List.ext_getElem (by simp [upI]) fun i h1 h2 => ?_
  rw [List.length_mapIdx] at h1
  simp only [List.getElem_mapIdx, upI, List.getElem_map, List.getElem_range]
  unfold wAt
  rw [show (Int.ofNat i).toNat = i from rfl, List.getD_eq_getElem?_getD, List.getElem?_eq_getElem h1]
  rfl
theorem top_up (y : Yard) (ws : List Int) : topI y ws = sumU ws.length fun m => if m ∈ y.wish then wAt ws m else max 0 (wAt ws m) := by
  unfold topI
  rw [sum_idx]
  refine sum_same fun m hm => ?_
  have h := mem_upI.mp hm
  rw [Int.toNat_of_nonneg h.1]
theorem top_max {y : Yard} {ws s : List Int} (hs : Ms ws.length s) (hh : hasB s y.wish = true) : weightI ws s ≤ topI y ws := by
  rw [weight_up hs, top_up]
  refine sum_le fun m hm => ?_
  have := has_iff.mp hh m
  by_cases h1 : m ∈ s <;> by_cases h2 : m ∈ y.wish <;> simp only [h1, h2, if_true, if_false] <;> first | omega | exact absurd (this h2) h1
theorem top_hit {y : Yard} {ws : List Int} (hw : Ms ws.length y.wish) : ∃ s, Ms ws.length s ∧ hasB s y.wish = true ∧ weightI ws s = topI y ws := by
  refine ⟨mk ws.length fun m => decide (m ∈ y.wish) || decide (0 < wAt ws m), mk_ms _ _, ?_, ?_⟩
  · refine has_iff.mpr fun m hm => mem_mk.mpr ⟨hw.2 m hm, ?_⟩
    simp [hm]
  · rw [weight_up (mk_ms _ _), top_up]
    refine sum_same fun m hm => ?_
    have h := mem_upI.mp hm
    have hi : (m ∈ mk ws.length fun m => decide (m ∈ y.wish) || decide (0 < wAt ws m)) ↔ (m ∈ y.wish ∨ 0 < wAt ws m) := by
      rw [mem_mk]
      simp only [Bool.or_eq_true, decide_eq_true_eq]
      exact ⟨fun z => z.2, fun z => ⟨h, z⟩⟩
    by_cases h2 : m ∈ y.wish <;> by_cases h5 : 0 < wAt ws m <;> simp only [hi, h2, h5, if_true, if_false, true_or, false_or, or_self] <;> omega
end WB

/-! the law's own judges, without dice -/
namespace WB
open PySem PySem.Spec PyProof.Rows L2
theorem has_congr {s t ms : List Int} (h : ∀ m ∈ ms, (m ∈ s ↔ m ∈ t)) : hasB s ms = hasB t ms := by
  rw [Bool.eq_iff_iff, has_iff, has_iff]
  exact ⟨fun z m hm => (h m hm).mp (z m hm), fun z m hm => (h m hm).mpr (z m hm)⟩
theorem one_congr {rows : List (List Int)} {s t : List Int} (h : ∀ r ∈ rows, ∀ m ∈ r, (m ∈ s ↔ m ∈ t)) : oneB rows s = oneB rows t := by
  unfold oneB
  rw [Bool.eq_iff_iff, List.any_eq_true, List.any_eq_true]
  exact ⟨fun ⟨r, hr, z⟩ => ⟨r, hr, has_congr (h r hr) ▸ z⟩, fun ⟨r, hr, z⟩ => ⟨r, hr, (has_congr (h r hr)).symm ▸ z⟩⟩
section
variable {P : Program} {w : World} {K : PySem.W.Frag} {mg : Str → Option Value} {base : Heap}
abbrev s__law_weight : Stmt := topS 47
abbrev N__law_weight : List Str := ["_law_weights_here", "_law_state", "_law_mark"]
theorem sc__law_weight : FnScope N__law_weight ["_law_weights_here", "_law_state"] (defScope s__law_weight) := ⟨rfl, rfl, rfl, by decide +kernel, rfl, by decide +kernel, by decide +kernel⟩
def spWeight (K : PySem.W.Frag) : Sp := spF K (α := List Int × List Int) (fun x => [.list (dI x.1), tI x.2]) (fun x => x.2.length ≤ 1000 ∧ ∀ m ∈ x.2, 0 ≤ m ∧ m < x.1.length) (fun x => .int (weightI x.1 x.2))
theorem ok__law_weight (F : Df K mg "_law_weight" s__law_weight) (M : Mg mg) : Cl P w K mg base 1 "_law_weight" (spWeight K) := by
  refine cl_of F sc__law_weight (fun _ _ _ _ _ _ us hl => match us, hl with | [_, _], _ => rfl) (fun vs H Q E h => ?_) (fun f cdv A outer s H vs Q E hr h => ?_)
  · obtain ⟨x, h, _⟩ := h
    exact h.len
  · have nd := sc__law_weight.nd
    obtain ⟨⟨ws, st⟩, h, ⟨hl, hm⟩, q⟩ := h
    obtain ⟨v1, v2, rfl, h1, h2⟩ := h.two
    dsimp only at h1 h2 hl hm
    refine ⟨_, (pss_one (ps_ret (pe_callB (k_sum K rfl) (by rfl) M.b_sum (by decide +kernel) (pa_cons (pe_lc (own := [("_law_mark", 2)]) (g := gName 2) (by rfl) nd (k_tup K (pv 1)) (blkOk_by (N := N__law_weight) (sc := defScope s__law_weight) (by decide +kernel)) (fun _ _ _ _ _ => pg_name (i := 2) nd rfl (by first | exact Or.inl rfl | exact Or.inr rfl)) (fun _ _ _ _ _ => pts_nil) (fun _ _ _ _ _ => (pe_ix (k_ixL K) (pv 0) (pv 2) (fun _ _ => rfl)))) pa_nil)))), ?_⟩
    exact s_ret (K := K) (ev_sum (ns := st.map (wAt ws)) (ea_cons (Ev.is (EvN.ev (en_fT (fun _ => true) (fun m => PyData.int (wAt ws m)) (ev_v h2) (by omega) (fun x => rfl) fun m hx x H' e hv =>
        ⟨eb_yes, fun _ => ⟨rfl, ev_ixW (ev_v (h1.same e)) (ev_v hv) (hm m hx).1 (hm m hx).2⟩⟩)) (by rw [filter_tt, dI, List.map_map]; rfl)) ea_nil)) fun v H2 e2 hv => q v H2 e2 hv

abbrev s__law_one : Stmt := topS 48
abbrev N__law_one : List Str := ["_law_rows_here", "_law_some_here", "_law_row"]
theorem sc__law_one : FnScope N__law_one ["_law_rows_here", "_law_some_here"] (defScope s__law_one) := ⟨rfl, rfl, rfl, by decide +kernel, rfl, by decide +kernel, by decide +kernel⟩
def spOneL (K : PySem.W.Frag) : Sp := spF K (α := List (List Int) × Bool × List Int) (fun x => [.list (x.1.map tI), sI x.2.1 x.2.2]) (fun x => RowsOk x.1) (fun x => .bool (oneB x.1 x.2.2))
theorem ok__law_one (F : Df K mg "_law_one" s__law_one) (M : Mg mg) (C__law_has : Cl P w K mg base 1 "_law_has" (spHas K)) : Cl P w K mg base 2 "_law_one" (spOneL K) := by
  refine cl_of F sc__law_one (fun _ _ _ _ _ _ us hl => match us, hl with | [_, _], _ => rfl) (fun vs H Q E h => ?_) (fun f cdv A outer s H vs Q E hr h => ?_)
  · obtain ⟨x, h, _⟩ := h
    exact h.len
  · have nd := sc__law_one.nd
    obtain ⟨⟨rows, l, st⟩, h, hrs, q⟩ := h
    obtain ⟨v1, v2, rfl, h1, h2⟩ := h.two
    dsimp only at h1 h2 hrs
    refine ⟨_, (pss_one (ps_ret (pe_cmpR (k_neD K hr.units) (pe_lc (own := [("_law_row", 2)]) (g := gName 2) (by rfl) nd (k_list K (pv 0)) (blkOk_by (N := N__law_one) (sc := defScope s__law_one) (by decide +kernel)) (fun _ _ _ _ _ => pg_name (i := 2) nd rfl (by first | exact Or.inl rfl | exact Or.inr rfl)) (fun _ _ _ _ _ => pts_one (pt_val (pe_cl C__law_has hr (by decide) (by rfl) (pa_cons (pv 1) (pa_cons (pv 2) pa_nil))))) (fun _ _ _ _ _ => (pv 2))) (pe_lst pa_nil) (nomark _)))), ?_⟩
    refine s_ret (K := K) (Ev.is (ev_neD (EvN.ev (en_fL (fun r => hasB st r) tI (ev_v h1) (by have := hrs.1; omega) (fun x => rfl) fun r hr' x H' e hx =>
      ⟨eb_B (K := K) (ev_call (l, st, r) (ea_cons (ev_v (h2.same e)) (ea_cons (ev_v hx) ea_nil)) (by have := (hrs.2 r hr').len; dsimp only; omega)), fun _ => ⟨rfl, ev_v hx⟩⟩)) (EvN.ev (en_lst ea_nil rfl (by simp))) (sh_rows _).ok rfl) ?_) fun v H1 e hv => q v H1 e hv
    rw [eqv_nil, filter_some]
    rfl

abbrev s__law_least : Stmt := topS 41
abbrev N__law_least : List Str := ["_law_one_here", "_law_other"]
theorem sc__law_least : FnScope N__law_least ["_law_one_here", "_law_other"] (defScope s__law_least) := ⟨rfl, rfl, rfl, by decide +kernel, rfl, by decide +kernel, by decide +kernel⟩
def oD : Option Int → PyData
  | none => .none
  | some i => .int i
def leastB : Option Int → Option Int → Bool
  | none, _ => false
  | some _, none => true
  | some i, some j => decide (i < j)
def spLeast (K : PySem.W.Frag) : Sp := spF K (α := Option Int × Option Int) (fun x => [oD x.1, oD x.2]) (fun x => True) (fun x => .bool (leastB x.1 x.2))
theorem ok__law_least (F : Df K mg "_law_least" s__law_least) (M : Mg mg) : Cl P w K mg base 1 "_law_least" (spLeast K) := by
  refine cl_of F sc__law_least (fun _ _ _ _ _ _ us hl => match us, hl with | [_, _], _ => rfl) (fun vs H Q E h => ?_) (fun f cdv A outer s H vs Q E hr h => ?_)
  · obtain ⟨x, h, _⟩ := h
    exact h.len
  · obtain ⟨⟨a, b⟩, h, _, q⟩ := h
    obtain ⟨v1, v2, rfl, h1, h2⟩ := h.two
    dsimp only at h1 h2 q
    refine ⟨_, (pss_one (ps_ret (pe_and (pe_cmpR op_notN (pv 0) pe_non (nomark _)) (pe_one (pe_or (pe_cmpR op_isN (pv 1) pe_non (nomark _)) (pe_one (pe_cmpR op_lt (pv 0) (pv 1) (nomark _)))))))), ?_⟩
    refine s_ret (K := K) (d := .bool (leastB a b)) ?_ fun v H2 e2 hv => q v H2 e2 hv
    cases a with
    | none => exact Ev.is (ev_andV (K := K) (a := false) (b := false) (Ev.is (ev_notN (ev_v h1)) rfl) (fun z => nomatch z)) rfl
    | some i =>
      refine Ev.is (ev_andV (K := K) (a := true) (b := leastB (some i) b) (Ev.is (ev_notN (ev_v h1)) rfl) fun _ => ?_) rfl
      cases b with
      | none => exact Ev.is (ev_orV (K := K) (a := true) (b := false) (Ev.is (ev_isN (ev_v h2)) rfl) (fun z => nomatch z)) rfl
      | some j => exact Ev.is (ev_orV (K := K) (a := false) (b := decide (i < j)) (Ev.is (ev_isN (ev_v h2)) rfl) fun _ => ev_lt (ev_v h1) (ev_v h2)) rfl

abbrev s__law_rows : Stmt := topS 42
abbrev N__law_rows : List Str := ["_law_many", "_law_wide", "_law_row"]
theorem sc__law_rows : FnScope N__law_rows ["_law_many", "_law_wide"] (defScope s__law_rows) := ⟨rfl, rfl, rfl, by decide +kernel, rfl, by decide +kernel, by decide +kernel⟩
def rowsL (n k : Nat) : List (List Int) := (everyL n).filter fun r => decide (1 ≤ r.length) && decide (r.length ≤ k)
def spRows (K : PySem.W.Frag) : Sp := spN K (α := Nat × Nat) (fun x => [.int x.1, .int x.2]) (fun x => x.1 ≤ 5) (fun x => (rowsL x.1 x.2).map tI)
theorem ok__law_rows (F : Df K mg "_law_rows" s__law_rows) (M : Mg mg) (C__law_every : Cl P w K mg base 1 "_law_every" (spEvery K)) : Cl P w K mg base 2 "_law_rows" (spRows K) := by
  refine cl_of F sc__law_rows (fun _ _ _ _ _ _ us hl => match us, hl with | [_, _], _ => rfl) (fun vs H Q E h => ?_) (fun f cdv A outer s H vs Q E hr h => ?_)
  · obtain ⟨x, h, _⟩ := h
    exact h.len
  · have nd := sc__law_rows.nd
    obtain ⟨⟨n, k⟩, h, h5, q⟩ := h
    obtain ⟨v1, v2, rfl, h1, h2⟩ := h.two
    dsimp only at h1 h2 h5
    have hl := every_len n
    have hp := pow5 h5
    refine ⟨_, (pss_one (ps_ret (pe_lc (own := [("_law_row", 2)]) (g := gName 2) (by rfl) nd (k_list K (pe_cl C__law_every hr (by decide) (by rfl) (pa_cons (pv 0) pa_nil))) (blkOk_by (N := N__law_rows) (sc := defScope s__law_rows) (by decide +kernel)) (fun _ _ _ _ _ => pg_name (i := 2) nd rfl (by first | exact Or.inl rfl | exact Or.inr rfl)) (fun _ _ _ _ _ => pts_one (pt_chain op_le op_le pe_int (pe_callB (k_len K) (by rfl) M.b_len (by decide +kernel) (pa_cons (pv 2) pa_nil)) (pv 1))) (fun _ _ _ _ _ => (pv 2))))), ?_⟩
    refine s_retN (K := K) (ds := (rowsL n k).map tI) (en_fL (zs := everyL n) (fun r => decide (1 ≤ r.length) && decide (r.length ≤ k)) tI (EvN.ev (en_call n (ea_cons (ev_v h1) ea_nil) h5)) (by omega) (fun x => rfl) fun r hr' x H' e hx =>
      ⟨eb_test (K := K) (Ev.is (ev_chainI (i := 1) (j := (r.length : Int)) (k := (k : Int)) (g := fun i j => decide (i ≤ j)) (g' := fun i j => decide (i ≤ j)) ev_int (Ev.is (ev_len (ea_cons (ev_v hx) ea_nil) (.inl rfl)) (by rw [List.length_map])) (ev_v (h2.same e))) ?_), fun _ => ⟨rfl, ev_v hx⟩⟩) q
    congr 2 <;> exact decide_eq_decide.mpr ⟨fun _ => by omega, fun _ => by omega⟩

abbrev s__law_is_never : Stmt := topS 49
abbrev N__law_is_never : List Str := ["_law_t", "_law_rows_here", "_law_row", "_law_deed", "_law_mark", "_law_left"]
theorem sc__law_is_never : FnScope N__law_is_never ["_law_t", "_law_rows_here"] (defScope s__law_is_never) := ⟨rfl, rfl, rfl, by decide +kernel, rfl, by decide +kernel, by decide +kernel⟩
theorem ok__law_is_never (F : Df K mg "_law_is_never" s__law_is_never) (M : Mg mg) (C__law_one : Cl P w K mg base 2 "_law_one" (spOneL K)) : Cl P w K mg base 3 "_law_is_never" (spNever K) := by
  refine cl_of F sc__law_is_never (fun _ _ _ _ _ _ us hl => match us, hl with | [_, _], _ => rfl) (fun vs H Q E h => ?_) (fun f cdv A outer s H vs Q E hr h => ?_)
  · obtain ⟨x, h, _⟩ := h
    exact h.len
  · have nd := sc__law_is_never.nd
    obtain ⟨⟨y, rows⟩, h, ⟨ok, hrs⟩, q⟩ := h
    obtain ⟨v1, v2, rfl, h1, h2⟩ := h.two
    dsimp only at h1 h2 hrs ok
    refine ⟨_, (pss_cons (ps_if (PW.pt (pw_or (pt_val (pe_cl C__law_one hr (by decide) (by rfl) (pa_cons (pv 1) (pa_cons (pe_ix (k_ixT K) (pv 0) pe_int (fun _ _ => rfl)) pa_nil)))) (pw_or1 (pt_not (pt_val (pe_cl C__law_one hr (by decide) (by rfl) (pa_cons (pv 1) (pa_cons (pe_ix (k_ixT K) (pv 0) pe_int (fun _ _ => rfl)) pa_nil))))))))
        (pss_one (ps_ret pe_bl))
        pss_nil)
      (pss_cons (ps_for PassesOwn.never rfl (k_list K (pv 1)) (pg_name (i := 2) nd rfl (by first | exact Or.inl rfl | exact Or.inr rfl))
        (pss_one (ps_for PassesOwn.never rfl (k_tup K (pe_ix (k_ixT K) (pv 0) pe_int (fun _ _ => rfl))) (pg_name (i := 3) nd rfl (by first | exact Or.inl rfl | exact Or.inr rfl))
          (pss_one (ps_if (PW.pt (pw_and (pt_cmpR (k_neD K hr.units) (pe_lc (own := [("_law_mark", 4)]) (g := gName 4) (by rfl) nd (k_tup K (pv 2)) (blkOk_by (N := N__law_is_never) (sc := defScope s__law_is_never) (by decide +kernel)) (fun _ _ _ _ _ => pg_name (i := 4) nd rfl (by first | exact Or.inl rfl | exact Or.inr rfl)) (fun _ _ _ _ _ => pts_one (pt_cmpR (k_in K) (pv 4) (pe_ix (k_ixT K) (pv 3) pe_int (fun _ _ => rfl)) (by rfl))) (fun _ _ _ _ _ => (pv 4))) (pe_lst pa_nil) (nomark _)) (pw_and1 (pt_cmpR (k_eqD K hr.units) (pe_lc (own := [("_law_mark", 4)]) (g := gName 4) (by rfl) nd (k_tup K (pv 2)) (blkOk_by (N := N__law_is_never) (sc := defScope s__law_is_never) (by decide +kernel)) (fun _ _ _ _ _ => pg_name (i := 4) nd rfl (by first | exact Or.inl rfl | exact Or.inr rfl)) (fun _ _ _ _ _ => pts_one (pt_cmpR (k_in K) (pv 4) (pe_ix (k_ixT K) (pv 3) pe_int (fun _ _ => rfl)) (by rfl))) (fun _ _ _ _ _ => (pv 4))) (pe_lst pa_nil) (nomark _)))))
            (pss_cons (ps_setLc (i := 5) (own := [("_law_mark", 4)]) (g := gName 4) (by rfl) nd rfl (by first | exact rfl) (sw_true rfl rfl rfl (by decide +kernel)) (k_tup K (pv 2)) (blkOk_by (N := N__law_is_never) (sc := defScope s__law_is_never) (by decide +kernel)) (fun _ _ _ _ _ => pg_name (i := 4) nd rfl (by first | exact Or.inl rfl | exact Or.inr rfl)) (fun _ _ _ _ _ => pts_one (pt_cmpR (k_notIn K) (pv 4) (pe_ix (k_ixT K) (pv 3) pe_int (fun _ _ => rfl)) (by rfl))) (fun _ _ _ _ _ => (pv 4)))
            (pss_one (ps_if (pt_not (pt_val (pe_cl C__law_one hr (by decide) (by rfl) (pa_cons (pv 1) (pa_cons (pe_op op_cat (pv 5) (pe_callTy (k_listOf K) (by rfl) M.b_list (by decide +kernel) (pa_cons (pe_ix (k_ixT K) (pv 3) pe_int (fun _ _ => rfl)) pa_nil))) pa_nil)))))
              (pss_one (ps_ret pe_bl))
              pss_nil)))
            pss_nil)))))
      (pss_one (ps_ret pe_bl)))), ?_⟩
    refine q_if0 (EvB.is (b := !(!oneB rows y.start && oneB rows y.wish)) (eb_or (a := oneB rows y.start) (b := !oneB rows y.wish) (eb_B (K := K) ?_) fun _ => eb_not (eb_B (K := K) ?_)) ?_) (fun hb H1 e1 => ?_) fun hb H1 e1 => ?_
    · exact ev_call (rows, false, y.start) (ea_cons (ev_v h2) (ea_cons (ev_ixT (j := 2) (ev_v h1) ev_int rfl) ea_nil)) hrs
    · exact ev_call (rows, false, y.wish) (ea_cons (ev_v h2) (ea_cons (ev_ixT (j := 3) (ev_v h1) ev_int rfl) ea_nil)) hrs
    · cases oneB rows y.start <;> cases oneB rows y.wish <;> rfl
    · refine s_ret (K := K) ev_bl fun v H2 e2 hv => q v H2 (e1.trans e2) (?_ : Ap K H2 v _)
      have : neverB y rows = false := by
        unfold neverB
        cases h1 : oneB rows y.start <;> cases h2 : oneB rows y.wish <;> simp_all
      dsimp only
      rw [this]
      exact hv
    · have hb' : (!oneB rows y.start && oneB rows y.wish) = true := by simpa using hb
      have hN : neverB y rows = rows.all fun r => y.deeds.all fun d => !bringsB d r || oneB rows (neededM d r) := by
        unfold neverB
        rw [← Bool.and_assoc, hb', Bool.true_and]
      refine q_forL (K := K) (ev_v (h2.same e1)) (fun H2 i σ' H' => Same H2 H' ∧ (∃ a b c d, σ' = [some v1, some v2, a, b, c, d]) ∧ ∀ r ∈ rows.take i, (y.deeds.all fun d => !bringsB d r || oneB rows (neededM d r)) = true) (fun H2 _ => ⟨Same.refl H2, ⟨none, none, none, none, rfl⟩, fun r hr => by simp at hr⟩) (fun _ _ _ _ p => p.1) (fun H2 i z v σ' H3 e2 hi p tv => ?_) fun H2 σ' H3 e2 p => ?_
      · obtain ⟨e3, ⟨a, b, c, dd, rfl⟩, hp⟩ := p
        rw [List.getElem?_map] at hi
        obtain ⟨r, hr', rfl⟩ := Option.map_eq_some_iff.mp hi
        have hrm := List.mem_of_getElem? hr'
        have hro := hrs.2 r hrm
        have hrl := hro.len
        have e := (e1.trans e2).trans e3
        refine z_seq (q_forT (K := K) (ev_ixT (j := 1) (ev_v (h1.same e)) ev_int rfl) (fun H4 j σ' H' => Same H3 H4 ∧ Same H4 H' ∧ (∃ b c d, σ' = [some v1, some v2, some v, b, c, d]) ∧ ∀ d ∈ y.deeds.take j, (!bringsB d r || oneB rows (neededM d r)) = true) (fun H4 e4 => ⟨e4, Same.refl H4, ⟨b, c, dd, rfl⟩, fun r hr => by simp at hr⟩) (fun _ _ _ _ p => p.2.1) (fun H4 j z u σ' H5 e4 hj p tu => ?_) fun H4 σ' H5 e4 p => ?_)
        · obtain ⟨e5, e6, ⟨b, c, dd, rfl⟩, hpd⟩ := p
          rw [List.getElem?_map] at hj
          obtain ⟨d, hd', rfl⟩ := Option.map_eq_some_iff.mp hj
          have hdm := List.mem_of_getElem? hd'
          have hdo := (ok.deeds d hdm).five ok.m5
          have hnl := hdo.needs.len
          have e' := e.trans (e4.trans e6)
          have hrow := Ap.t (tv.same (e4.trans e6))
          have next : (!bringsB d r || oneB rows (neededM d r)) = true → ∀ d' ∈ y.deeds.take (j + 1), (!bringsB d' r || oneB rows (neededM d' r)) = true := fun hc d' hd'' => by
            rw [List.take_add_one, hd', List.mem_append] at hd''
            rcases hd'' with z | z
            · exact hpd d' z
            · obtain rfl : d' = d := by simpa using z
              exact hc
          refine z_seq (q_if0 (b := bringsB d r) (eb_and (a := r.any fun m => decide (m ∈ d.sets)) (b := !(r.any fun m => decide (m ∈ d.strikes))) (eb_test (K := K) ?_) fun _ => eb_test (K := K) ?_) (fun hc H6 e7 => ?_) fun hc H6 e7 => ?_)
          · exact Ev.is (ev_neD (EvN.ev (en_fT (fun m => decide (m ∈ d.sets)) PyData.int (ev_v hrow) (by omega) (fun x => rfl) fun m hm x H' e hx =>
              ⟨eb_test (ev_inT (ev_v hx) (ev_ixT (j := 2) (ev_v (.t (tu.same e))) ev_int rfl)), fun _ => ⟨rfl, ev_v hx⟩⟩)) (EvN.ev (en_lst ea_nil rfl (by simp))) (sh_lI _).ok rfl) (by rw [eqv_nil, ← filter_some (g := PyData.int)])
          · exact Ev.is (ev_eqD (EvN.ev (en_fT (fun m => decide (m ∈ d.strikes)) PyData.int (ev_v hrow) (by omega) (fun x => rfl) fun m hm x H' e hx =>
              ⟨eb_test (ev_inT (ev_v hx) (ev_ixT (j := 3) (ev_v (.t (tu.same e))) ev_int rfl)), fun _ => ⟨rfl, ev_v hx⟩⟩)) (EvN.ev (en_lst ea_nil rfl (by simp))) (sh_lI _).ok rfl) (by rw [eqv_nil, ← filter_some (g := PyData.int), Bool.not_not])
          · have hfl : (r.filter fun m => !decide (m ∈ d.sets)).length ≤ r.length := List.length_filter_le _ _
            refine q_setN (K := K) (ds := dI (r.filter fun m => !decide (m ∈ d.sets))) (en_fT (fun m => !decide (m ∈ d.sets)) PyData.int (ev_v (hrow.same e7)) (by omega) (fun x => rfl) fun m hm x H' e hx =>
              ⟨eb_test (ev_niT (ev_v hx) (ev_ixT (j := 2) (ev_v (.t ((tu.same e7).same e))) ev_int rfl)), fun _ => ⟨rfl, ev_v hx⟩⟩) fun p xs H7 hp e8 hH hx => ?_
            have e9 := e7.trans e8
            have hone : oneB rows ((r.filter fun m => !decide (m ∈ d.sets)) ++ d.needs) = oneB rows (neededM d r) := one_congr fun r' hr'' m hm => by
              unfold neededM
              rw [mem_mk, List.mem_append, List.mem_filter, Bool.or_eq_true, Bool.and_eq_true, decide_eq_true_eq, decide_eq_true_eq]
              exact ⟨fun z => ⟨(hrs.2 r' hr'').2 m hm, z⟩, fun z => z.2⟩
            refine z_seq (q_if0 (b := !oneB rows (neededM d r)) (eb_not (eb_B (K := K) (Ev.is (ev_call (rows, true, (r.filter fun m => !decide (m ∈ d.sets)) ++ d.needs) (ea_cons (ev_v (h2.same (e'.trans e9))) (ea_cons (Ev.is (EvN.ev (en_catM (em_v hH hx) (em_N (en_list (ea_cons (ev_ixT (j := 1) (d := tI d.needs) (ev_v (.t (tu.same e9))) ev_int rfl) ea_nil) (.inl rfl))) ?_)) ?_) ea_nil)) hrs) (by dsimp only; rw [hone])))) (fun hc' H8 e10 => ?_) fun hc' H8 e10 => ?_)
            · rw [dI, dI, List.length_map, List.length_map]; omega
            · show PyData.list _ = PyData.list _
              rw [dI, dI, dI, List.map_append]
            · refine s_ret (K := K) ev_bl fun v H9 e11 hv => q v H9 ((e'.trans e9).trans (e10.trans e11)) (?_ : Ap K H9 v _)
              dsimp only
              rw [hN]
              have : (rows.all fun r => y.deeds.all fun d => !bringsB d r || oneB rows (neededM d r)) = false := by
                rw [List.all_eq_false]
                refine ⟨r, hrm, ?_⟩
                rw [Bool.not_eq_true, List.all_eq_false]
                exact ⟨d, hdm, by rw [hc, show oneB rows (neededM d r) = false by simpa using hc']; decide⟩
              rw [this]
              exact hv
            · exact ⟨e5, e6.trans (e9.trans e10), ⟨some u, _, _, rfl⟩, next (by rw [not_f hc']; simp)⟩
          · exact ⟨e5, e6.trans e7, ⟨some u, _, _, rfl⟩, next (by rw [hc]; rfl)⟩
        · obtain ⟨e5, e6, ⟨b, c, dd, rfl⟩, hpd⟩ := p
          rw [List.length_map, List.take_length] at hpd
          refine ⟨e3.trans (e5.trans e6), ⟨some v, b, c, dd, rfl⟩, fun r' hr'' => ?_⟩
          rw [List.take_add_one, hr', List.mem_append] at hr''
          rcases hr'' with z | z
          · exact hp r' z
          · obtain rfl : r' = r := by simpa using z
            exact List.all_eq_true.mpr hpd
      · obtain ⟨e3, ⟨a, b, c, dd, rfl⟩, hp⟩ := p
        rw [List.length_map, List.take_length] at hp
        refine s_ret (K := K) ev_bl fun v H8 e9 hv => q v H8 ((e1.trans e2).trans (e3.trans e9)) (?_ : Ap K H8 v _)
        dsimp only
        rw [hN, List.all_eq_true.mpr hp]
        exact hv

abbrev s__law_is_closed : Stmt := topS 50
abbrev N__law_is_closed : List Str := ["_law_t", "_law_spots", "_law_state", "_law_deed"]
theorem sc__law_is_closed : FnScope N__law_is_closed ["_law_t", "_law_spots"] (defScope s__law_is_closed) := ⟨rfl, rfl, rfl, by decide +kernel, rfl, by decide +kernel, by decide +kernel⟩
theorem ok__law_is_closed (F : Df K mg "_law_is_closed" s__law_is_closed) (M : Mg mg) (C__law_has : Cl P w K mg base 1 "_law_has" (spHas K)) (C__law_after : Cl P w K mg base 1 "_law_after" (spBehind K)) : Cl P w K mg base 2 "_law_is_closed" (spClosed K) := by
  refine cl_of F sc__law_is_closed (fun _ _ _ _ _ _ us hl => match us, hl with | [_, _], _ => rfl) (fun vs H Q E h => ?_) (fun f cdv A outer s H vs Q E hr h => ?_)
  · obtain ⟨x, h, _⟩ := h
    exact h.len
  · have nd := sc__law_is_closed.nd
    obtain ⟨⟨y, ss⟩, h, ⟨ok, hss⟩, q⟩ := h
    obtain ⟨v1, v2, rfl, h1, h2⟩ := h.two
    dsimp only at h1 h2 hss ok
    have h5 := ok.m5
    have hwl := ok.wish.len
    have hN : closedB y ss = ((decide (y.start ∈ ss) && !(ss.any fun s => hasB s y.wish)) && ss.all fun s => y.deeds.all fun d => !(hasB s d.needs) || decide (afterM s d ∈ ss)) := by
      unfold closedB
      rw [Bool.and_assoc]
      congr 1
      rw [Bool.eq_iff_iff, Bool.and_eq_true, List.all_eq_true, List.all_eq_true, Bool.not_eq_true', List.any_eq_false]
      constructor
      · intro z
        exact ⟨fun s hs => by have := (Bool.and_eq_true_iff.mp (z s hs)).1; simpa using this, fun s hs => (Bool.and_eq_true_iff.mp (z s hs)).2⟩
      · rintro ⟨z, u⟩ s hs
        exact Bool.and_eq_true_iff.mpr ⟨by have := z s hs; simpa using this, u s hs⟩
    refine ⟨_, (pss_cons (ps_if (PW.pt (pw_or (pt_cmpR (k_notInD K (hu65 hr)) (pe_ix (k_ixT K) (pv 0) pe_int (fun _ _ => rfl)) (pv 1) (by rfl)) (pw_or1 (pt_cmpR (k_neD K hr.units) (pe_lc (own := [("_law_state", 2)]) (g := gName 2) (by rfl) nd (k_list K (pv 1)) (blkOk_by (N := N__law_is_closed) (sc := defScope s__law_is_closed) (by decide +kernel)) (fun _ _ _ _ _ => pg_name (i := 2) nd rfl (by first | exact Or.inl rfl | exact Or.inr rfl)) (fun _ _ _ _ _ => pts_one (pt_val (pe_cl C__law_has hr (by decide) (by rfl) (pa_cons (pv 2) (pa_cons (pe_ix (k_ixT K) (pv 0) pe_int (fun _ _ => rfl)) pa_nil))))) (fun _ _ _ _ _ => (pv 2))) (pe_lst pa_nil) (nomark _)))))
        (pss_one (ps_ret pe_bl))
        pss_nil)
      (pss_cons (ps_for PassesOwn.never rfl (k_list K (pv 1)) (pg_name (i := 2) nd rfl (by first | exact Or.inl rfl | exact Or.inr rfl))
        (pss_one (ps_for PassesOwn.never rfl (k_tup K (pe_ix (k_ixT K) (pv 0) pe_int (fun _ _ => rfl))) (pg_name (i := 3) nd rfl (by first | exact Or.inl rfl | exact Or.inr rfl))
          (pss_one (ps_if (PW.pt (pw_and (pt_val (pe_cl C__law_has hr (by decide) (by rfl) (pa_cons (pv 2) (pa_cons (pe_ix (k_ixT K) (pv 3) pe_int (fun _ _ => rfl)) pa_nil)))) (pw_and1 (pt_cmpR (k_notInD K (hu65 hr)) (pe_cl C__law_after hr (by decide) (by rfl) (pa_cons (pv 2) (pa_cons (pv 3) pa_nil))) (pv 1) (by rfl)))))
            (pss_one (ps_ret pe_bl))
            pss_nil)))))
      (pss_one (ps_ret pe_bl)))), ?_⟩
    refine q_if0 (EvB.is (b := !(decide (y.start ∈ ss) && !(ss.any fun s => hasB s y.wish))) (eb_or (a := !decide (y.start ∈ ss)) (b := ss.any fun s => hasB s y.wish) (eb_test (K := K) (Ev.is (ev_notInD (ev_ixT (j := 2) (d := tI y.start) (ev_v h1) ev_int rfl) (ev_v h2) (sh_tI _).ok (sh_rows ss).ok) (by rw [any_eqv]))) fun _ => eb_test (K := K) ?_) ?_) (fun hb H1 e1 => ?_) fun hb H1 e1 => ?_
    · refine Ev.is (ev_neD (EvN.ev (en_fL (fun s => hasB s y.wish) tI (ev_v h2) (by have := hss.1; omega) (fun x => rfl) fun r hr' x H' e hx =>
        ⟨eb_B (K := K) (ev_call (false, r, y.wish) (ea_cons (ev_v hx) (ea_cons (ev_ixT (j := 3) (ev_v (h1.same e)) ev_int rfl) ea_nil)) (by dsimp only; omega)), fun _ => ⟨rfl, ev_v hx⟩⟩)) (EvN.ev (en_lst ea_nil rfl (by simp))) (sh_rows _).ok rfl) ?_
      rw [eqv_nil, filter_some]
    · cases decide (y.start ∈ ss) <;> cases (ss.any fun s => hasB s y.wish) <;> rfl
    · refine s_ret (K := K) ev_bl fun v H2 e2 hv => q v H2 (e1.trans e2) (?_ : Ap K H2 v _)
      dsimp only
      rw [hN, not_t hb]
      exact hv
    · rw [not_f hb, Bool.true_and] at hN
      refine q_forL (K := K) (ev_v (h2.same e1)) (fun H2 i σ' H' => Same H2 H' ∧ (∃ a b, σ' = [some v1, some v2, a, b]) ∧ ∀ s ∈ ss.take i, (y.deeds.all fun d => !(hasB s d.needs) || decide (afterM s d ∈ ss)) = true) (fun H2 _ => ⟨Same.refl H2, ⟨none, none, rfl⟩, fun r hr => by simp at hr⟩) (fun _ _ _ _ p => p.1) (fun H2 i z v σ' H3 e2 hi p tv => ?_) fun H2 σ' H3 e2 p => ?_
      · obtain ⟨e3, ⟨a, b, rfl⟩, hp⟩ := p
        rw [List.getElem?_map] at hi
        obtain ⟨st, hs', rfl⟩ := Option.map_eq_some_iff.mp hi
        have hsm := List.mem_of_getElem? hs'
        have hso := hss.2 st hsm
        have e := (e1.trans e2).trans e3
        refine z_seq (q_forT (K := K) (ev_ixT (j := 1) (ev_v (h1.same e)) ev_int rfl) (fun H5 j σ' H' => Same H3 H5 ∧ Same H5 H' ∧ (∃ b, σ' = [some v1, some v2, some v, b]) ∧ ∀ d ∈ y.deeds.take j, (!(hasB st d.needs) || decide (afterM st d ∈ ss)) = true) (fun H5 e5 => ⟨e5, Same.refl H5, ⟨b, rfl⟩, fun r hr => by simp at hr⟩) (fun _ _ _ _ p => p.2.1) (fun H5 j z u σ' H6 e5 hj p tu => ?_) fun H5 σ' H6 e5 p => ?_)
        · obtain ⟨e6, e7, ⟨b, rfl⟩, hpd⟩ := p
          rw [List.getElem?_map] at hj
          obtain ⟨d, hd', rfl⟩ := Option.map_eq_some_iff.mp hj
          have hdm := List.mem_of_getElem? hd'
          have hdo := (ok.deeds d hdm).five h5
          have hnl := hdo.needs.len
          have e' := e.trans (e6.trans e7)
          have hst := Ap.t (tv.same (e6.trans e7))
          refine z_seq (q_if0 (EvB.is (b := !(!(hasB st d.needs) || decide (afterM st d ∈ ss))) (eb_and (a := hasB st d.needs) (b := !decide (afterM st d ∈ ss)) (eb_B (K := K) ?_) fun _ => eb_test (K := K) ?_) ?_) (fun hc H7 e8 => ?_) fun hc H7 e8 => ?_)
          · exact ev_call (false, st, d.needs) (ea_cons (ev_v hst) (ea_cons (ev_ixT (j := 1) (ev_v (.t tu)) ev_int rfl) ea_nil)) (by dsimp only; omega)
          · exact Ev.is (ev_notInD (ev_call (st, d) (ea_cons (ev_v hst) (ea_cons (ev_v (.t tu)) ea_nil)) ⟨hso, hdo⟩) (ev_v (h2.same e')) (sh_tI _).ok (sh_rows ss).ok) (by rw [any_eqv])
          · cases hasB st d.needs <;> cases decide (afterM st d ∈ ss) <;> rfl
          · refine s_ret (K := K) ev_bl fun v H8 e9 hv => q v H8 (e'.trans (e8.trans e9)) (?_ : Ap K H8 v _)
            dsimp only
            have : (ss.all fun s => y.deeds.all fun d => !(hasB s d.needs) || decide (afterM s d ∈ ss)) = false := by
              rw [List.all_eq_false]
              refine ⟨st, hsm, ?_⟩
              rw [Bool.not_eq_true, List.all_eq_false]
              exact ⟨d, hdm, by simpa using hc⟩
            rw [hN, this]
            exact hv
          · refine ⟨e6, e7.trans e8, ⟨some u, rfl⟩, fun d' hd'' => ?_⟩
            rw [List.take_add_one, hd', List.mem_append] at hd''
            rcases hd'' with z | z
            · exact hpd d' z
            · obtain rfl : d' = d := by simpa using z
              exact not_f hc
        · obtain ⟨e6, e7, ⟨b, rfl⟩, hpd⟩ := p
          rw [List.length_map, List.take_length] at hpd
          refine ⟨e3.trans (e6.trans e7), ⟨some v, b, rfl⟩, fun r' hr'' => ?_⟩
          rw [List.take_add_one, hs', List.mem_append] at hr''
          rcases hr'' with z | z
          · exact hp r' z
          · obtain rfl : r' = st := by simpa using z
            exact List.all_eq_true.mpr hpd
      · obtain ⟨e3, ⟨a, b, rfl⟩, hp⟩ := p
        rw [List.length_map, List.take_length] at hp
        refine s_ret (K := K) ev_bl fun v H8 e9 hv => q v H8 ((e1.trans e2).trans (e3.trans e9)) (?_ : Ap K H8 v _)
        dsimp only
        rw [hN, List.all_eq_true.mpr hp]
        exact hv

abbrev s__law_is_weighed : Stmt := topS 51
abbrev N__law_is_weighed : List Str := ["_law_t", "_law_weights_here", "_law_spots", "_law_deed", "_law_state", "_law_there", "_law_tops"]
theorem sc__law_is_weighed : FnScope N__law_is_weighed ["_law_t", "_law_weights_here"] (defScope s__law_is_weighed) := ⟨rfl, rfl, rfl, by decide +kernel, rfl, by decide +kernel, by decide +kernel⟩
theorem ok__law_is_weighed (F : Df K mg "_law_is_weighed" s__law_is_weighed) (M : Mg mg) (C__law_has : Cl P w K mg base 1 "_law_has" (spHas K)) (C__law_after : Cl P w K mg base 1 "_law_after" (spBehind K)) (C__law_every : Cl P w K mg base 1 "_law_every" (spEvery K)) (C__law_weight : Cl P w K mg base 1 "_law_weight" (spWeight K)) :
    Cl P w K mg base 2 "_law_is_weighed" (spWeighed K) := by
  refine cl_of F sc__law_is_weighed (fun _ _ _ _ _ _ us hl => match us, hl with | [_, _], _ => rfl) (fun vs H Q E h => ?_) (fun f cdv A outer s H vs Q E hr h => ?_)
  · obtain ⟨x, h, _⟩ := h
    exact h.len
  · have nd := sc__law_is_weighed.nd
    obtain ⟨⟨y, ws⟩, h, ⟨ok, hl⟩, q⟩ := h
    obtain ⟨v1, v2, rfl, h1, h2⟩ := h.two
    dsimp only at h1 h2 hl ok
    have h5 := ok.m5
    have hwi := ok.wish.len
    have hel := every_len y.marks.length
    have hep := pow5 h5
    refine ⟨_, (pss_cons (ps_if (pt_cmpR op_ne (pe_callB (k_len K) (by rfl) M.b_len (by decide +kernel) (pa_cons (pv 1) pa_nil)) (pe_callB (k_len K) (by rfl) M.b_len (by decide +kernel) (pa_cons (pe_ix (k_ixT K) (pv 0) pe_int (fun _ _ => rfl)) pa_nil)) (nomark _))
        (pss_one (ps_ret pe_bl))
        pss_nil)
      (pss_cons (ps_set (i := 2) nd rfl (by first | exact Or.inl rfl | exact Or.inr rfl) (pe_cl C__law_every hr (by decide) (by rfl) (pa_cons (pe_callB (k_len K) (by rfl) M.b_len (by decide +kernel) (pa_cons (pe_ix (k_ixT K) (pv 0) pe_int (fun _ _ => rfl)) pa_nil)) pa_nil)))
      (pss_cons (ps_for PassesOwn.never rfl (k_tup K (pe_ix (k_ixT K) (pv 0) pe_int (fun _ _ => rfl))) (pg_name (i := 3) nd rfl (by first | exact Or.inl rfl | exact Or.inr rfl))
        (pss_one (ps_for PassesOwn.never rfl (k_list K (pv 2)) (pg_name (i := 4) nd rfl (by first | exact Or.inl rfl | exact Or.inr rfl))
          (pss_cons (ps_set (i := 5) nd rfl (by first | exact Or.inl rfl | exact Or.inr rfl) (pe_cl C__law_after hr (by decide) (by rfl) (pa_cons (pv 4) (pa_cons (pv 3) pa_nil))))
          (pss_one (ps_if (PW.pt (pw_and (pt_val (pe_cl C__law_has hr (by decide) (by rfl) (pa_cons (pv 4) (pa_cons (pe_ix (k_ixT K) (pv 3) pe_int (fun _ _ => rfl)) pa_nil)))) (pw_and1 (pt_cmpR op_lt (pe_cl C__law_weight hr (by decide) (by rfl) (pa_cons (pv 1) (pa_cons (pv 5) pa_nil))) (pe_cl C__law_weight hr (by decide) (by rfl) (pa_cons (pv 1) (pa_cons (pv 4) pa_nil))) (nomark _)))))
            (pss_one (ps_ret pe_bl))
            pss_nil))))))
      (pss_cons (ps_setLc (i := 6) (own := [("_law_state", 4)]) (g := gName 4) (by rfl) nd rfl (by first | exact rfl) (sw_true rfl rfl rfl (by decide +kernel)) (k_list K (pv 2)) (blkOk_by (N := N__law_is_weighed) (sc := defScope s__law_is_weighed) (by decide +kernel)) (fun _ _ _ _ _ => pg_name (i := 4) nd rfl (by first | exact Or.inl rfl | exact Or.inr rfl)) (fun _ _ _ _ _ => pts_one (pt_val (pe_cl C__law_has hr (by decide) (by rfl) (pa_cons (pv 4) (pa_cons (pe_ix (k_ixT K) (pv 0) pe_int (fun _ _ => rfl)) pa_nil))))) (fun _ _ _ _ _ => (pe_cl C__law_weight hr (by decide) (by rfl) (pa_cons (pv 1) (pa_cons (pv 4) pa_nil)))))
      (pss_one (ps_ret (pe_cmpR op_gt (pe_cl C__law_weight hr (by decide) (by rfl) (pa_cons (pv 1) (pa_cons (pe_ix (k_ixT K) (pv 0) pe_int (fun _ _ => rfl)) pa_nil))) (pe_callB (k_max K rfl) (by rfl) M.b_max (by decide +kernel) (pa_cons (pv 6) pa_nil)) (nomark _)))))))), ?_⟩
    refine q_if0 (b := !decide (ws.length = y.marks.length)) (eb_test (K := K) ?_) (fun hb H1 e1 => ?_) fun hb H1 e1 => ?_
    · refine Ev.is (ev_neI (ev_len (ea_cons (ev_v h2) ea_nil) (.inr rfl)) (ev_len (ea_cons (ev_ixT (j := 0) (ev_v h1) ev_int rfl) ea_nil) (.inl rfl))) ?_
      rw [List.length_map, List.length_map]
      by_cases h : ws.length = y.marks.length
      · rw [decide_eq_true h, decide_eq_true (by omega)]
      · rw [decide_eq_false h, decide_eq_false (by omega)]
    · refine s_ret (K := K) ev_bl fun v H2 e2 hv => q v H2 (e1.trans e2) (?_ : Ap K H2 v _)
      have : weighedB y ws = false := by
        unfold weighedB
        rw [not_t hb]
        rfl
      dsimp only
      rw [this]
      exact hv
    · have hwl : ws.length = y.marks.length := of_decide_eq_true (not_f hb)
      have wok : ∀ {s : List Int}, Ms y.marks.length s → s.length ≤ 1000 ∧ ∀ m ∈ s, 0 ≤ m ∧ m < (ws.length : Int) := fun hs => ⟨by have := hs.len; omega, fun m hm => hwl ▸ hs.2 m hm⟩
      have hW : weighedB y ws = ((y.deeds.all fun d => (everyL y.marks.length).all fun s => !(hasB s d.needs && decide (weightI ws (afterM s d) < weightI ws s))) && decide (topI y ws < weightI ws y.start)) := by
        unfold weighedB
        rw [not_f hb, Bool.true_and]
        congr 1
        rw [Bool.eq_iff_iff, List.all_eq_true, List.all_eq_true]
        exact ⟨fun z d hd => (fall_iff (ok.deeds d hd) h5) ▸ z d hd, fun z d hd => (fall_iff (ok.deeds d hd) h5).symm ▸ z d hd⟩
      refine q_setN (K := K) (ds := (everyL y.marks.length).map tI) (en_call y.marks.length (ea_cons (Ev.is (ev_len (ea_cons (ev_ixT (j := 0) (ev_v (h1.same e1)) ev_int rfl) ea_nil) (.inl rfl)) (by rw [List.length_map])) ea_nil) h5) fun p xs H2 hp e2 hH hx => ?_
      have hS : Ap K H2 (.ref p) (.list ((everyL y.marks.length).map tI)) := .l (.inl (.inl hH)) hx
      have e := e1.trans e2
      refine q_forT (K := K) (ev_ixT (j := 1) (ev_v (h1.same e)) ev_int rfl) (fun H3 j σ' H' => Same H2 H3 ∧ Same H3 H' ∧ (∃ a b c, σ' = [some v1, some v2, some (.ref p), a, b, c, none]) ∧ ∀ d ∈ y.deeds.take j, ((everyL y.marks.length).all fun s => !(hasB s d.needs && decide (weightI ws (afterM s d) < weightI ws s))) = true) (fun H3 e3 => ⟨e3, Same.refl H3, ⟨none, none, none, rfl⟩, fun r hr => by simp at hr⟩) (fun _ _ _ _ p => p.2.1) (fun H3 j z u σ' H4 e3 hj p tu => ?_) fun H3 σ' H4 e3 p => ?_
      · obtain ⟨_, e4, ⟨a, b, c, rfl⟩, hpd⟩ := p
        rw [List.getElem?_map] at hj
        obtain ⟨d, hd', rfl⟩ := Option.map_eq_some_iff.mp hj
        have hdm := List.mem_of_getElem? hd'
        have hdn := ok.deeds d hdm
        have hdo := hdn.five h5
        have hnl := hdo.needs.len
        have e5 := e3.trans e4
        refine z_seq (q_forL (K := K) (ev_v (hS.same e5)) (fun H5 j σ' H' => Same H4 H5 ∧ Same H5 H' ∧ (∃ b c, σ' = [some v1, some v2, some (.ref p), some u, b, c, none]) ∧ ∀ s ∈ (everyL y.marks.length).take j, (!(hasB s d.needs && decide (weightI ws (afterM s d) < weightI ws s))) = true) (fun H5 e6 => ⟨e6, Same.refl H5, ⟨b, c, rfl⟩, fun r hr => by simp at hr⟩) (fun _ _ _ _ p => p.2.1) (fun H5 i z v σ' H6 e6 hi p tv => ?_) fun H5 σ' H6 e6 p => ?_)
        · obtain ⟨_, e7, ⟨b, c, rfl⟩, hps⟩ := p
          rw [List.getElem?_map] at hi
          obtain ⟨st, hs', rfl⟩ := Option.map_eq_some_iff.mp hi
          have hsm := mem_every.mp (List.mem_of_getElem? hs')
          have e8 := e6.trans e7
          have e9 := e.trans (e5.trans e8)
          refine q_set (K := K) (ev_call (st, d) (ea_cons (ev_v (.t tv)) (ea_cons (ev_v (.t (tu.same e8))) ea_nil)) ⟨hsm.mono h5, hdo⟩) fun x H7 e10 hx => ?_
          refine z_seq (q_if0 (b := hasB st d.needs && decide (weightI ws (afterM st d) < weightI ws st)) (eb_and (a := hasB st d.needs) (b := decide (weightI ws (afterM st d) < weightI ws st)) (eb_B (K := K) ?_) fun _ => eb_test (K := K) ?_) (fun hc H8 e11 => ?_) fun hc H8 e11 => ?_)
          · exact ev_call (false, st, d.needs) (ea_cons (ev_v (.t (tv.same e10))) (ea_cons (ev_ixT (j := 1) (ev_v (.t ((tu.same e8).same e10))) ev_int rfl) ea_nil)) (by dsimp only; omega)
          · exact ev_lt (ev_call (ws, afterM st d) (ea_cons (ev_v (h2.same (e9.trans e10))) (ea_cons (ev_v hx) ea_nil)) (wok (after_ms hsm hdn h5))) (ev_call (ws, st) (ea_cons (ev_v (h2.same (e9.trans e10))) (ea_cons (ev_v (.t (tv.same e10))) ea_nil)) (wok hsm))
          · refine s_ret (K := K) ev_bl fun v H9 e12 hv => q v H9 ((e9.trans e10).trans (e11.trans e12)) (?_ : Ap K H9 v _)
            dsimp only
            have : (y.deeds.all fun d => (everyL y.marks.length).all fun s => !(hasB s d.needs && decide (weightI ws (afterM s d) < weightI ws s))) = false := by
              rw [List.all_eq_false]
              refine ⟨d, hdm, ?_⟩
              rw [Bool.not_eq_true, List.all_eq_false]
              exact ⟨st, List.mem_of_getElem? hs', by rw [hc]; decide⟩
            rw [hW, this]
            exact hv
          · refine ⟨e6, e7.trans (e10.trans e11), ⟨some v, some x, rfl⟩, fun s' hs'' => ?_⟩
            rw [List.take_add_one, hs', List.mem_append] at hs''
            rcases hs'' with z | z
            · exact hps s' z
            · obtain rfl : s' = st := by simpa using z
              rw [hc]; rfl
        · obtain ⟨_, e7, ⟨b, c, rfl⟩, hps⟩ := p
          rw [List.length_map, List.take_length] at hps
          refine ⟨e3, e4.trans (e6.trans e7), ⟨some u, b, c, rfl⟩, fun d' hd'' => ?_⟩
          rw [List.take_add_one, hd', List.mem_append] at hd''
          rcases hd'' with z | z
          · exact hpd d' z
          · obtain rfl : d' = d := by simpa using z
            exact List.all_eq_true.mpr hps
      · obtain ⟨_, e4, ⟨a, b, c, rfl⟩, hpd⟩ := p
        rw [List.length_map, List.take_length] at hpd
        rw [List.all_eq_true.mpr hpd, Bool.true_and] at hW
        have e5 := e3.trans e4
        have e6 := e.trans e5
        have hfl : ((everyL y.marks.length).filter fun s => hasB s y.wish).length ≤ (everyL y.marks.length).length := List.length_filter_le _ _
        refine q_setN (K := K) (ds := ((everyL y.marks.length).filter fun s => hasB s y.wish).map fun s => PyData.int (weightI ws s)) (en_fL (zs := everyL y.marks.length) (fun s => hasB s y.wish) (fun s => PyData.int (weightI ws s)) (ev_v (hS.same e5)) (by omega) (fun x => rfl) fun s hs x H' e' hx =>
          ⟨eb_B (K := K) (ev_call (false, s, y.wish) (ea_cons (ev_v hx) (ea_cons (ev_ixT (j := 3) (ev_v (h1.same (e6.trans e'))) ev_int rfl) ea_nil)) (by dsimp only; omega)), fun _ => ⟨rfl, ev_call (ws, s) (ea_cons (ev_v (h2.same (e6.trans e'))) (ea_cons (ev_v hx) ea_nil)) (wok (mem_every.mp hs))⟩⟩) fun p' xs' H5 hp' e7 hH' hx' => ?_
        have hT : Ap K H5 (.ref p') (.list (dI (((everyL y.marks.length).filter fun s => hasB s y.wish).map (weightI ws)))) := .l (.inl (.inl hH')) (by rw [dI, List.map_map]; exact hx')
        obtain ⟨s0, hs0, hh0, ht0⟩ := top_hit (y := y) (ws := ws) (hwl ▸ ok.wish)
        have hm0 : topI y ws ∈ ((everyL y.marks.length).filter fun s => hasB s y.wish).map (weightI ws) := List.mem_map.mpr ⟨s0, List.mem_filter.mpr ⟨mem_every.mpr (hwl ▸ hs0), hh0⟩, ht0⟩
        refine s_ret (K := K) (ev_gt (ev_call (ws, y.start) (ea_cons (ev_v (h2.same (e6.trans e7))) (ea_cons (ev_ixT (j := 2) (ev_v (h1.same (e6.trans e7))) ev_int rfl) ea_nil)) (wok ok.start)) (ev_max (m := topI y ws) (ea_cons (ev_v hT) ea_nil) (List.length_pos_of_mem hm0) fun k hk hy => ?_)) fun v H9 e12 hv => q v H9 ((e6.trans e7).trans e12) (?_ : Ap K H9 v _)
        · obtain ⟨s, hs, rfl⟩ := List.mem_map.mp hk
          have h1 := hy _ hm0
          have h2 := top_max (y := y) (ws := ws) (hwl ▸ mem_every.mp (List.mem_filter.mp hs).1) (List.mem_filter.mp hs).2
          omega
        · dsimp only
          rw [hW]
          exact hv
end
end WB

/-! the dice: a list that changes while all else stays -/
namespace WB
open PySem PySem.Spec PyProof.Rows L2
def Dice (d : Addr) (H : Hp) : Prop := ∃ (a b : Int) (r : List Int), H d = some (.lst ((a :: b :: r).map V.int)) ∧ 0 ≤ a ∧ a < 2147483647 ∧ 0 ≤ b ∧ ∀ c ∈ r, 0 ≤ c
structure Kp (d : Addr) (H H' : Hp) : Prop where
  st : ∀ a o, a ≠ d → H a = some o → H' a = some o
  d1 : Dice d H
  d2 : Dice d H'
section
variable {d p : Addr} {o : HO} {H H' H2 : Hp}
theorem Dice.lst (h : Dice d H) : ∃ xs, H d = some (.lst xs) := let ⟨_, _, _, h, _⟩ := h; ⟨_, h⟩
theorem Dice.same (e : Same H H') (h : Dice d H) : Dice d H' := let ⟨a, b, r, h, q⟩ := h; ⟨a, b, r, e _ _ h, q⟩
theorem Dice.ne (h : Dice d H) (hp : H p = none) : p ≠ d := fun e => by
  obtain ⟨xs, h⟩ := h.lst
  rw [e, h] at hp
  cases hp
theorem Kp.refl (h : Dice d H) : Kp d H H := ⟨fun _ _ _ e => e, h, h⟩
theorem Kp.trans (a : Kp d H H') (b : Kp d H' H2) : Kp d H H2 := ⟨fun c o n e => b.st c o n (a.st c o n e), a.d1, b.d2⟩
theorem Kp.of (e : Same H H') (h : Dice d H) : Kp d H H' := ⟨fun a o _ q => e a o q, h, h.same e⟩
theorem Kp.then (a : Kp d H H') (e : Same H' H2) : Kp d H H2 := a.trans (Kp.of e a.d2)
theorem Kp.tm (k : Kp d H H') : Tm H H' := fun a xs h => k.st a _ (fun e => by
  obtain ⟨ys, q⟩ := k.d1.lst
  rw [e, q] at h
  cases h) h
theorem Kp.free (k : Kp d H H') (h : H' p = none) : H p = none := by
  cases e : H p with
  | none => rfl
  | some o =>
    have := k.st p o (k.d2.ne h) e
    rw [h] at this
    cases this
theorem Kp.mut (k : Kp d H H') (h : H p = none) : Kp d H (upd H' p o) := by
  have n := k.d1.ne h
  refine ⟨fun a u na ha => ?_, k.d1, ?_⟩
  · rw [upd_ne (ne_of_none ha h)]
    exact k.st a u na ha
  · obtain ⟨a, b, r, e, q⟩ := k.d2
    exact ⟨a, b, r, by rw [upd_ne (fun z => n z.symm)]; exact e, q⟩
variable {K : PySem.W.Frag}
theorem Kp.sqL (k : Kp d H H') {a : Addr} {xs : List V} (n : a ≠ d) (h : SqL K H a xs) : SqL K H' a xs := h.imp (fun z => z.imp (k.st a _ n) fun ⟨o, y⟩ => ⟨o, k.st a _ n y⟩) id
theorem Kp.sqT (k : Kp d H H') {a : Addr} {xs : List V} (n : a ≠ d) (h : SqT K H a xs) : SqT K H' a xs := h.imp (fun z => z.imp (k.st a _ n) fun ⟨o, y⟩ => ⟨o, k.st a _ n y⟩) id
theorem Tp.kp (k : Kp d H H') {v : V} {dd : PyData} (h : Tp K H v dd) : Tp K H' v dd := h.tm k.tm
theorem TpAll.kp (k : Kp d H H') {v : List V} {dd : List PyData} (h : TpAll K H v dd) : TpAll K H' v dd := h.tm k.tm
theorem Ap.kp (k : Kp d H H') {v : V} {dd : PyData} (n : v ≠ .ref d) (h : Ap K H v dd) : Ap K H' v dd := by
  cases h with
  | t h => exact .t (h.kp k)
  | l h hx => exact .l (k.sqL (fun e => n (e ▸ rfl)) h) (hx.kp k)
end
/-- data apart from the dice -/
def Aq (K : PySem.W.Frag) (d : Addr) (H : Hp) (v : V) (dd : PyData) : Prop := Ap K H v dd ∧ v ≠ .ref d
section
variable {K : PySem.W.Frag} {d : Addr} {σ : L2.St} {H H' H2 : Hp} {v : V} {dd : PyData} {ta tb te : TE} {tt uu : TT}
theorem Aq.kp (k : Kp d H H') (h : Aq K d H v dd) : Aq K d H' v dd := ⟨h.1.kp k h.2, h.2⟩
theorem Aq.same (e : Same H H') (h : Aq K d H v dd) : Aq K d H' v dd := ⟨h.1.same e, h.2⟩
theorem Aq.of (hd : Dice d H) (h : Ap K H v dd) (n : noL dd = true) : Aq K d H v dd := ⟨h, fun e => by
  subst e
  cases h.tp n with
  | tup a b =>
    obtain ⟨xs, q⟩ := hd.lst
    rw [q] at a
    cases a⟩
theorem Tp.aq (hd : Dice d H) (h : Tp K H v dd) : Aq K d H v dd := by
  refine ⟨.t h, fun e => ?_⟩
  subst e
  cases h with
  | tup a b =>
    obtain ⟨xs, q⟩ := hd.lst
    rw [q] at a
    cases a
def AqAll (K : PySem.W.Frag) (d : Addr) (H : Hp) (vs : List V) (ds : List PyData) : Prop := ApAll K H vs ds ∧ ∀ v ∈ vs, v ≠ .ref d
theorem AqAll.nil : AqAll K d H [] [] := ⟨.nil, fun _ h => by simp at h⟩
theorem AqAll.cons {vs : List V} {ds : List PyData} (h : Aq K d H v dd) (t : AqAll K d H vs ds) : AqAll K d H (v :: vs) (dd :: ds) := ⟨.cons h.1 t.1, fun u hu => by
  rcases List.mem_cons.mp hu with rfl | z
  · exact h.2
  · exact t.2 u z⟩
theorem ApAll.kp (k : Kp d H H') : ∀ {vs : List V} {ds : List PyData}, (∀ v ∈ vs, v ≠ .ref d) → ApAll K H vs ds → ApAll K H' vs ds
  | _, _, _, .nil => .nil
  | _, _, n, .cons h t => .cons (h.kp k (n _ List.mem_cons_self)) (ApAll.kp k (fun v hv => n v (List.mem_cons_of_mem _ hv)) t)
theorem AqAll.kp (k : Kp d H H') {vs : List V} {ds : List PyData} (h : AqAll K d H vs ds) : AqAll K d H' vs ds := ⟨h.1.kp k h.2, h.2⟩
theorem AqAll.one (h : AqAll K d H vs [dd]) : ∃ v, vs = [v] ∧ Aq K d H v dd := by
  obtain ⟨v, rfl, q⟩ := h.1.one
  exact ⟨v, rfl, q, h.2 v (by simp)⟩
theorem AqAll.two {d1 d2 : PyData} (h : AqAll K d H vs [d1, d2]) : ∃ v u, vs = [v, u] ∧ Aq K d H v d1 ∧ Aq K d H u d2 := by
  obtain ⟨v, u, rfl, q, r⟩ := h.1.two
  exact ⟨v, u, rfl, ⟨q, h.2 v (by simp)⟩, r, h.2 u (by simp)⟩
theorem AqAll.three {d1 d2 d3 : PyData} (h : AqAll K d H vs [d1, d2, d3]) : ∃ v u w, vs = [v, u, w] ∧ Aq K d H v d1 ∧ Aq K d H u d2 ∧ Aq K d H w d3 := by
  obtain ⟨v, u, w, rfl, q, r, t⟩ := h.1.three
  exact ⟨v, u, w, rfl, ⟨q, h.2 v (by simp)⟩, ⟨r, h.2 u (by simp)⟩, t, h.2 w (by simp)⟩
theorem AqAll.get {vs : List V} {ds : List PyData} {i : Nat} (h : AqAll K d H vs ds) (hi : i < ds.length) : ∃ v dd, vs[i]? = some v ∧ ds[i]? = some dd ∧ Aq K d H v dd := by
  obtain ⟨h, n⟩ := h
  induction h generalizing i with
  | nil => simp at hi
  | cons a b ih =>
    cases i with
    | zero => exact ⟨_, _, rfl, rfl, a, n _ List.mem_cons_self⟩
    | succ i =>
      obtain ⟨v, dd, h1, h2, h3⟩ := ih (i := i) (by simpa using hi) (fun v hv => n v (List.mem_cons_of_mem _ hv))
      exact ⟨v, dd, by simpa using h1, by simpa using h2, h3⟩

/-! readings while the dice change -/
def DP (K : PySem.W.Frag) (d : Addr) (te : TE) (σ : L2.St) (H : Hp) (P : PyData → Prop) : Prop := ∀ H1, Kp d H H1 → ∀ Q : VK, (∀ v dd H2, Kp d H1 H2 → Aq K d H2 v dd → P dd → Q v H2) → te σ H1 Q
/-- .. a new list -/
def DN (K : PySem.W.Frag) (d : Addr) (te : TE) (σ : L2.St) (H : Hp) (P : List PyData → Prop) : Prop := ∀ H1, Kp d H H1 → ∀ Q : VK, (∀ p xs ds H2, H1 p = none → Kp d H1 H2 → H2 p = some (.lst xs) → TpAll K H2 xs ds → P ds → Q (.ref p) H2) → te σ H1 Q
def DA (K : PySem.W.Frag) (d : Addr) (ta : TA) (σ : L2.St) (H : Hp) (P : List PyData → Prop) : Prop := ∀ H1, Kp d H H1 → ∀ Q : List V → Hp → Prop, (∀ vs ds H2, Kp d H1 H2 → AqAll K d H2 vs ds → P ds → Q vs H2) → ta σ H1 Q
def DB (d : Addr) (tt : TT) (σ : L2.St) (H : Hp) (P : Bool → Prop) : Prop := ∀ H1, Kp d H H1 → ∀ Q : Bool → Hp → Prop, (∀ b H2, Kp d H1 H2 → P b → Q b H2) → tt σ H1 Q
def IsI (p : Int → Prop) : PyData → Prop := fun dd => ∃ i, dd = .int i ∧ p i
def IsB (p : Bool → Prop) : PyData → Prop := fun dd => ∃ i, dd = .bool i ∧ p i
def Rg (n : Int) : Int → Prop := fun i => 0 ≤ i ∧ i < n
variable {P P1 P2 : PyData → Prop} {p q r : Int → Prop}
theorem DP.mono (h : DP K d te σ H P1) (e : ∀ x, P1 x → P2 x) : DP K d te σ H P2 := fun H1 k Q qq => h H1 k Q fun v dd H2 k2 a hp => qq v dd H2 k2 a (e dd hp)
theorem DP.kp (k : Kp d H H') (h : DP K d te σ H P) : DP K d te σ H' P := fun H1 k1 => h H1 (k.trans k1)
theorem DN.dp {L : List PyData → Prop} (h : DN K d te σ H L) (e : ∀ x, L x → P (.list x)) : DP K d te σ H P := fun H1 k Q qq => h H1 k Q fun p xs ds H2 hp k2 h2 hx hP => qq _ _ H2 k2 ⟨.l (.inl (.inl h2)) hx, fun z => (k.d2.ne hp) (V.ref.inj z)⟩ (e ds hP)
theorem dp_ev (h : ∀ H1, Kp d H H1 → Ev K te σ H1 dd) (n : noL dd = true) (hp : P dd) : DP K d te σ H P := fun H1 k Q qq => h H1 k H1 (Same.refl H1) Q fun v H2 e hv => qq v dd H2 (Kp.of e k.d2) (Aq.of (k.d2.same e) hv n) hp
theorem dn_en {ds : List PyData} {P : List PyData → Prop} (h : ∀ H1, Kp d H H1 → EvN K te σ H1 ds) (hp : P ds) : DN K d te σ H P := fun H1 k Q qq => h H1 k H1 (Same.refl H1) Q fun p xs H2 hn e h2 hx => qq p xs ds H2 hn (Kp.of e k.d2) h2 hx hp
theorem db_eb {b : Bool} {P : Bool → Prop} (h : ∀ H1, Kp d H H1 → EvB tt σ H1 b) (hp : P b) : DB d tt σ H P := fun H1 k Q qq => h H1 k H1 (Same.refl H1) Q fun H2 e => qq b H2 (Kp.of e k.d2) hp
/-- a slot -/
theorem dp_v {i : Nat} {v : V} (hv : Aq K d H v dd) (hp : P dd) (h : σ[i]? = some (some v) := by rfl) : DP K d (tVar i) σ H P := fun H1 k _ q => ⟨v, h, q v dd H1 (Kp.refl k.d2) (hv.kp k) hp⟩
theorem dp_int {i : Int} (hp : P (.int i)) : DP K d (tC (.int i)) σ H P := dp_ev (fun _ _ => ev_int) rfl hp
theorem dp_str {i : Str} (hp : P (.str i)) : DP K d (tC (.str i)) σ H P := dp_ev (fun _ _ => ev_str) rfl hp
theorem dp_op {rr : R2} (ha : DP K d ta σ H P1) (hb : DP K d tb σ H P2) (hr : ∀ v u d1 d2 H1, Kp d H H1 → Aq K d H1 v d1 → Aq K d H1 u d2 → P1 d1 → P2 d2 → ∀ Q : VK, (∀ w dd H2, Kp d H1 H2 → Aq K d H2 w dd → P dd → Q w H2) → rr v u H1 Q) : DP K d (tOp rr ta tb) σ H P := fun H1 k Q qq =>
  ha H1 k _ fun v d1 H2 k2 hv p1 => hb H2 (k.trans k2) _ fun u d2 H3 k3 hu p2 => hr v u d1 d2 H3 ((k.trans k2).trans k3) (hv.kp k3) hu p1 p2 Q fun w dd H4 k4 hw hp => qq w dd H4 ((k2.trans k3).trans k4) hw hp
theorem dp_I0 {g : Int → Int → V} {G : Int → Int → PyData} (ha : DP K d ta σ H (IsI p)) (hb : DP K d tb σ H (IsI q)) (hg : ∀ i j H, Tp K H (g i j) (G i j)) (hP : ∀ i j, p i → q j → P (G i j)) : DP K d (tOp (rI0 g) ta tb) σ H P :=
  dp_op ha hb fun v u d1 d2 H1 k hv hu ⟨i, e1, pi⟩ ⟨j, e2, qj⟩ Q qq => by
    subst e1 e2
    exact ⟨i, j, hv.1.int_inv, hu.1.int_inv, qq _ _ H1 (Kp.refl k.d2) ((hg i j H1).aq k.d2) (hP i j pi qj)⟩
theorem dp_I {C : Int → Int → Prop} {g : Int → Int → V} {G : Int → Int → PyData} (ha : DP K d ta σ H (IsI p)) (hb : DP K d tb σ H (IsI q)) (hc : ∀ i j, p i → q j → C i j) (hg : ∀ i j H, Tp K H (g i j) (G i j)) (hP : ∀ i j, p i → q j → P (G i j)) : DP K d (tOp (rI C g) ta tb) σ H P :=
  dp_op ha hb fun v u d1 d2 H1 k hv hu ⟨i, e1, pi⟩ ⟨j, e2, qj⟩ Q qq => by
    subst e1 e2
    exact ⟨i, j, hv.1.int_inv, hu.1.int_inv, hc i j pi qj, qq _ _ H1 (Kp.refl k.d2) ((hg i j H1).aq k.d2) (hP i j pi qj)⟩
theorem dp_add (ha : DP K d ta σ H (IsI p)) (hb : DP K d tb σ H (IsI q)) (h : ∀ i j, p i → q j → r (i + j)) : DP K d (tOp (rI0 fun i j => .int (i + j)) ta tb) σ H (IsI r) := dp_I0 (G := fun i j => .int (i + j)) ha hb (fun _ _ _ => .int _) fun i j a b => ⟨_, rfl, h i j a b⟩
theorem dp_sub (ha : DP K d ta σ H (IsI p)) (hb : DP K d tb σ H (IsI q)) (h : ∀ i j, p i → q j → r (i - j)) : DP K d (tOp (rI0 fun i j => .int (i - j)) ta tb) σ H (IsI r) := dp_I0 (G := fun i j => .int (i - j)) ha hb (fun _ _ _ => .int _) fun i j a b => ⟨_, rfl, h i j a b⟩
theorem dp_mul (ha : DP K d ta σ H (IsI p)) (hb : DP K d tb σ H (IsI q)) (hc : ∀ i j, p i → q j → CMul i j) (h : ∀ i j, p i → q j → r (i * j)) : DP K d (tOp (rI CMul fun i j => .int (i * j)) ta tb) σ H (IsI r) := dp_I (G := fun i j => .int (i * j)) ha hb hc (fun _ _ _ => .int _) fun i j a b => ⟨_, rfl, h i j a b⟩
theorem dp_gt (ha : DP K d ta σ H (IsI p)) (hb : DP K d tb σ H (IsI q)) : DP K d (tOp (rI0 fun i j => .bl (decide (j < i))) ta tb) σ H (IsB fun _ => True) := dp_I0 (G := fun i j => .bool (decide (j < i))) ha hb (fun _ _ _ => .bl _) fun i j a b => ⟨_, rfl, True.intro⟩
theorem dp_eqI (ha : DP K d ta σ H (IsI p)) (hb : DP K d tb σ H (IsI q)) : DP K d (tOp rEq ta tb) σ H (IsB fun _ => True) := dp_op ha hb fun v u d1 d2 H1 k hv hu ⟨i, e1, pi⟩ ⟨j, e2, qj⟩ Q qq => by
  subst e1 e2
  obtain rfl := hv.1.int_inv
  obtain rfl := hu.1.int_inv
  exact ⟨rfl, qq _ _ H1 (Kp.refl k.d2) (Tp.aq k.d2 (.bl _)) ⟨_, rfl, True.intro⟩⟩
theorem db_test {p : Bool → Prop} (h : DP K d te σ H (IsB p)) : DB d (tTest te) σ H p := fun H1 k Q qq => h H1 k _ fun v dd H2 k2 hv ⟨b, e, pb⟩ => by
  subst e
  exact ⟨b, hv.1.bl_inv, qq b H2 k2 pb⟩
theorem db_or {p1 p2 : Bool → Prop} {P : Bool → Prop} (h1 : DB d tt σ H p1) (h2 : DB d uu σ H p2) (ht : p1 true → P true) (hf : ∀ b, p1 false → p2 b → P b) : DB d (tOr tt uu) σ H P := fun H1 k Q qq => h1 H1 k _ fun b H2 k2 pb => by
  cases b with
  | true => exact iteT (qq true H2 k2 (ht pb))
  | false => exact iteF (h2 H2 (k.trans k2) Q fun c H3 k3 pc => qq c H3 (k2.trans k3) (hf c pb pc))
theorem db_and {p1 p2 : Bool → Prop} {P : Bool → Prop} (h1 : DB d tt σ H p1) (h2 : p1 true → DB d uu σ H p2) (ht : p1 false → P false) (hf : ∀ b, p1 true → p2 b → P b) : DB d (tAnd tt uu) σ H P := fun H1 k Q qq => h1 H1 k _ fun b H2 k2 pb => by
  cases b with
  | true => exact iteT (h2 pb H2 (k.trans k2) Q fun c H3 k3 pc => qq c H3 (k2.trans k3) (hf c pb pc))
  | false => exact iteF (qq false H2 k2 (ht pb))
/-! arguments -/
variable {L L2' : List PyData → Prop}
theorem da_nil (h : L []) : DA K d tNil σ H L := fun H1 k _ q => q [] [] H1 (Kp.refl k.d2) AqAll.nil h
theorem da_cons {tr : TA} (h : DP K d ta σ H P1) (hr : DA K d tr σ H L2') (e : ∀ x xs, P1 x → L2' xs → L (x :: xs)) : DA K d (tCons ta tr) σ H L := fun H1 k _ q =>
  h H1 k _ fun v dd H2 k2 hv p1 => hr H2 (k.trans k2) _ fun vs ds H3 k3 hvs p2 => q _ _ H3 (k2.trans k3) (AqAll.cons (hv.kp k3) hvs) (e _ _ p1 p2)
/-- one argument -/
theorem da_one (h : DP K d ta σ H P1) : DA K d (tCons ta tNil) σ H (fun ds => ∃ x, ds = [x] ∧ P1 x) := da_cons h (da_nil (L := fun ds => ds = []) rfl) fun x xs h e => ⟨x, by rw [e], h⟩
theorem da_two (h : DP K d ta σ H P1) (h2 : DP K d tb σ H P2) : DA K d (tCons ta (tCons tb tNil)) σ H (fun ds => ∃ x y, ds = [x, y] ∧ P1 x ∧ P2 y) := da_cons h (da_one h2) fun x xs h ⟨y, e, hy⟩ => ⟨x, y, by rw [e], h, hy⟩
def spD {α : Type} (K : PySem.W.Frag) (dat : α → List PyData) (Pre : α → Prop) (res : α → PyData → Prop) : Sp := fun vs H Q _ => ∃ (d : Addr) (us : List V) (x : α), vs = .ref d :: us ∧ Dice d H ∧ AqAll K d H us (dat x) ∧ Pre x ∧ ∀ v dd H', Kp d H H' → Aq K d H' v dd → res x dd → Q v H'
theorem dp_call {α : Type} {dat : α → List PyData} {Pre : α → Prop} {res : α → PyData → Prop} {E : XK} {t : TA} {i : Nat} (h : DA K d t σ H (fun ds => ∃ x, ds = dat x ∧ Pre x ∧ ∀ dd, res x dd → P dd)) (hd : σ[i]? = some (some (.ref d)) := by rfl) : DP K d (tCall (spD K dat Pre res) [] E (tCons (tVar i) t)) σ H P := fun H1 k Q qq =>
  ⟨_, hd, h H1 k _ fun vs ds H2 k2 hvs ⟨x, e, pre, hr⟩ => ⟨d, vs, x, by rw [List.append_nil], k2.d2, e ▸ hvs, pre, fun v dd H3 k3 hv hres => qq v dd H3 (k2.trans k3) hv (hr dd hres)⟩⟩
/-- a choice out of a display of data -/
theorem dp_pick {t : TA} {n : Nat} (h : DA K d t σ H (fun ds => ds.length = n ∧ ∀ x ∈ ds, P x)) (hi : DP K d tb σ H (IsI (Rg n))) (hn : n ≤ 1000) : DP K d (tOp (rIxL K) (tLst t) tb) σ H P := fun H1 k Q qq =>
  h H1 k _ fun vs ds H2 k2 hvs ⟨hl, hP⟩ => ⟨by rw [hvs.1.len, hl]; exact Nat.le_of_lt (small1000 (by omega)), fun a ha => by
    have hna := k2.d2.ne ha
    have k3 : Kp d H2 (upd H2 a (.lst vs)) := Kp.of (Same.new ha) k2.d2
    refine hi _ ((k.trans k2).trans k3) _ fun u dd H4 k4 hu ⟨i, e, h0, h1⟩ => ?_
    subst e
    obtain rfl := hu.1.int_inv
    obtain ⟨v, dd, g1, g2, g3⟩ := hvs.get (i := i.toNat) (by omega)
    refine ⟨a, vs, i, v, rfl, rfl, .inl (.inl (k4.st _ _ hna upd_same)), ?_, qq v dd H4 ((k2.trans k3).trans k4) ((g3.kp k3).kp k4) (hP dd (List.mem_of_getElem? g2))⟩
    have := atI_nat g1
    rwa [Int.toNat_of_nonneg h0] at this⟩
/-- a tuple of data -/
theorem dp_tup {t : TA} (h : DA K d t σ H L) (n : ∀ ds, L ds → ds.all noL = true ∧ ds.length ≤ 1000) (hP : ∀ ds, L ds → P (.tuple ds)) : DP K d (tTup t) σ H P := fun H1 k Q qq =>
  h H1 k _ fun vs ds H2 k2 hvs hL => ⟨by rw [hvs.1.len]; exact Nat.le_of_lt (small1000 (n ds hL).2), fun a ha => by
    have k3 : Kp d H2 (upd H2 a (.tup vs)) := Kp.of (Same.new ha) k2.d2
    exact qq _ _ _ (k2.trans k3) (Tp.aq k3.d2 (.tup upd_same ((hvs.1.tp (n ds hL).1).same (Same.new ha)))) (hP ds hL)⟩
theorem dn_lst {t : TA} (h : DA K d t σ H L) (n : ∀ ds, L ds → ds.all noL = true ∧ ds.length ≤ 1000) : DN K d (tLst t) σ H L := fun H1 k Q qq =>
  h H1 k _ fun vs ds H2 k2 hvs hL => ⟨by rw [hvs.1.len]; exact Nat.le_of_lt (small1000 (n ds hL).2), fun a ha => by
    have k3 : Kp d H2 (upd H2 a (.lst vs)) := Kp.of (Same.new ha) k2.d2
    exact qq a vs ds _ (k2.free ha) (k2.trans k3) upd_same ((hvs.1.tp (n ds hL).1).same (Same.new ha)) hL⟩
/-- a built-in that leaves the heap's data -/
theorem dp_cb {rr : List V → Hp → VK → Prop} {t : TA} (h : DA K d t σ H L) (hr : ∀ vs ds H1, Kp d H H1 → AqAll K d H1 vs ds → L ds → ∀ Q : VK, (∀ w dd H2, Same H1 H2 → Aq K d H2 w dd → P dd → Q w H2) → rr vs H1 Q) : DP K d (tCB rr t) σ H P := fun H1 k Q qq =>
  h H1 k _ fun vs ds H2 k2 hv hL => hr vs ds H2 (k.trans k2) hv hL Q fun w dd H3 e hw hp => qq w dd H3 (k2.then e) hw hp
theorem dp_tupOf (h : DP K d ta σ H fun x => ∃ ds, x = .list ds ∧ P (.tuple ds)) : DP K d (tCB (rTupQ K) (tCons ta tNil)) σ H P := dp_cb (da_one h) fun vs ds H1 k hv ⟨x, e, ds', e2, hP⟩ Q qq => by
  subst e e2
  obtain ⟨v, rfl, hw⟩ := hv.one
  obtain ⟨a, xs, rfl, hq, hx⟩ := hw.1.lst_inv
  exact ⟨a, xs, rfl, .inl ⟨hq, fun l hl => qq _ _ _ (Same.new hl) (Tp.aq (k.d2.same (Same.new hl)) (.tup upd_same (hx.same (Same.new hl)))) hP⟩⟩
theorem dp_intB {pb : Bool → Prop} (h : DP K d ta σ H (IsB pb)) (hP : ∀ b, pb b → P (.int (if b then 1 else 0))) : DP K d (tCB (fun xs H Q => (∃ i, xs = [V.int i] ∧ Q (.int i) H) ∨ ∃ k, xs = [V.bl k] ∧ Q (.int (if k then 1 else 0)) H) (tCons ta tNil)) σ H P := dp_cb (da_one h) fun vs ds H1 k hv ⟨x, e, b, e2, pb⟩ Q qq => by
  subst e e2
  obtain ⟨v, rfl, hw⟩ := hv.one
  obtain rfl := hw.1.bl_inv
  exact .inr ⟨b, rfl, qq _ _ H1 (Same.refl H1) (Tp.aq k.d2 (.int _)) (hP b pb)⟩
theorem dp_if {pb : Bool → Prop} (h : DB d tt σ H pb) (h1 : pb true → DP K d ta σ H P) (h2 : pb false → DP K d tb σ H P) : DP K d (tIf tt ta tb) σ H P := fun H1 k Q qq => h H1 k _ fun b H2 k2 hb => by
  cases b with
  | true => exact iteT (h1 hb H2 (k.trans k2) Q fun w dd H3 k3 hw hp => qq w dd H3 (k2.trans k3) hw hp)
  | false => exact iteF (h2 hb H2 (k.trans k2) Q fun w dd H3 k3 hw hp => qq w dd H3 (k2.trans k3) hw hp)
/-! statements -/
variable {D : Ends} {u tu tw : TS}
theorem dq_set {i : Nat} (hd : Dice d H) (h : DP K d te σ H P) (k : ∀ v dd H1, Kp d H H1 → Aq K d H1 v dd → P dd → u D (σ.set i (some v)) H1) : tSeq (tAsg te (gName i)) u D σ H := h H (Kp.refl hd) _ k
theorem dq_setN {i : Nat} (hd : Dice d H) (h : DN K d te σ H L) (k : ∀ p xs ds H1, H p = none → Kp d H H1 → H1 p = some (.lst xs) → TpAll K H1 xs ds → L ds → u D (σ.set i (some (.ref p))) H1) : tSeq (tAsg te (gName i)) u D σ H := h H (Kp.refl hd) _ k
theorem dq_if {pb : Bool → Prop} (hd : Dice d H) (h : DB d tt σ H pb) (h1 : pb true → ∀ H1, Kp d H H1 → tu { D with nx := u D } σ H1) (h2 : pb false → ∀ H1, Kp d H H1 → tw { D with nx := u D } σ H1) : tSeq (tIfS tt tu tw) u D σ H := h H (Kp.refl hd) _ fun b H1 k hb => by
  cases b with
  | true => exact iteT (h1 hb H1 k)
  | false => exact iteF (h2 hb H1 k)
theorem dq_if0 {pb : Bool → Prop} (hd : Dice d H) (h : DB d tt σ H pb) (h1 : pb true → ∀ H1, Kp d H H1 → tu { D with nx := u D } σ H1) (h2 : pb false → ∀ H1, Kp d H H1 → u D σ H1) : tSeq (tIfS tt tu tNext) u D σ H := h H (Kp.refl hd) _ fun b H1 k hb => by
  cases b with
  | true => exact iteT (h1 hb H1 k)
  | false => exact iteF (h2 hb H1 k)
theorem ds_ret (hd : Dice d H) (h : DP K d te σ H P) (k : ∀ v dd H1, Kp d H H1 → Aq K d H1 v dd → P dd → D.rt v H1) : tRet te D σ H := h H (Kp.refl hd) _ k
theorem ds_retN (hd : Dice d H) (h : DN K d te σ H L) (k : ∀ p xs ds H1, H p = none → Kp d H H1 → H1 p = some (.lst xs) → TpAll K H1 xs ds → L ds → D.rt (.ref p) H1) : tRet te D σ H := h H (Kp.refl hd) _ k
end
/-! comprehensions while the dice change -/
section
variable {K : PySem.W.Frag} {d : Addr} {σ : L2.St} {H : Hp} {tl te : TE} {tt : TT} {ta : TA} {j : Nat} {vs : List Nat}
theorem DB.mono {p q : Bool → Prop} (h : DB d tt σ H p) (e : ∀ b, p b → q b) : DB d tt σ H q := fun H1 k Q qq => h H1 k Q fun b H2 k2 hb => qq b H2 k2 (e b hb)
/-- what a turn does to what is told of the new list -/
def Turn (K : PySem.W.Frag) (d : Addr) (tt : TT) (te : TE) (σ : L2.St) (H : Hp) (ds : List PyData) (J : List PyData → Prop) : Prop := DB d tt σ H fun b => if b = true then DP K d te σ H (fun r => noL r = true ∧ J (ds ++ [r])) else J ds
/-- a test without a word -/
theorem turn_any {ds : List PyData} {J : List PyData → Prop} (h : DB d tt σ H fun _ => True) (h1 : DP K d te σ H (fun r => noL r = true ∧ J (ds ++ [r]))) (h2 : J ds) : Turn K d tt te σ H ds J := h.mono fun b _ => by
  cases b
  · exact h2
  · exact h1
theorem turn_eb {ds : List PyData} {J : List PyData → Prop} {b : Bool} (h : ∀ H1, Kp d H H1 → EvB tt σ H1 b) (h1 : b = true → DP K d te σ H (fun r => noL r = true ∧ J (ds ++ [r]))) (h2 : b = false → J ds) : Turn K d tt te σ H ds J := db_eb h (by
  cases b
  · exact h2 rfl
  · exact h1 rfl)
theorem turn_all {ds : List PyData} {J : List PyData → Prop} (h1 : DP K d te σ H (fun r => noL r = true ∧ J (ds ++ [r]))) : Turn K d tYes te σ H ds J := turn_eb (fun _ _ => eb_yes) (fun _ => h1) (fun z => nomatch z)
theorem dlc_step {D : Addr} {H0 H' : Hp} {i n : Nat} {x : V} {J : Nat → List PyData → Prop} (hD : H0 D = none) (hin : i < n) (hn : n ≤ 100000) (hw : wipe ((wipe σ vs).set j (some x)) vs = wipe σ vs)
    (hs : ∀ ds H', Kp d H0 H' → J i ds → Turn K d tt te ((wipe σ vs).set j (some x)) H' ds (J (i + 1)))
    (hp : ∃ acc ds, Kp d H0 H' ∧ H' D = some (.lst acc) ∧ TpAll K H' acc ds ∧ ds.length ≤ i ∧ J i ds) :
    gName j x (wipe σ vs) H' fun σ2 H2 => wipe σ2 vs = wipe σ vs ∧ tt σ2 H2 fun b H3 =>
      if b = true then te σ2 H3 fun y H4 => ∃ acc, H4 D = some (.lst acc) ∧ acc.length < sizeLine ∧ (fun H' => ∃ acc ds, Kp d H0 H' ∧ H' D = some (.lst acc) ∧ TpAll K H' acc ds ∧ ds.length ≤ i + 1 ∧ J (i + 1) ds) (upd H4 D (.lst (acc ++ [y])))
      else (fun H' => ∃ acc ds, Kp d H0 H' ∧ H' D = some (.lst acc) ∧ TpAll K H' acc ds ∧ ds.length ≤ i + 1 ∧ J (i + 1) ds) H3 := by
  obtain ⟨acc, ds, k, eD, ta, hl, hJ⟩ := hp
  have nD := k.d1.ne hD
  refine ⟨hw, hs ds H' k hJ H' (Kp.refl k.d2) _ fun b H3 k3 hb => ?_⟩
  cases b with
  | false => exact iteF ⟨acc, ds, k.trans k3, k3.st _ _ nD eD, ta.kp k3, by omega, hb⟩
  | true =>
    refine iteT ((show DP K d te _ _ _ from hb) H3 k3 _ fun y dd H4 k4 hy ⟨nl, hJ'⟩ => ⟨acc, k4.st _ _ nD (k3.st _ _ nD eD), ?_, _, _, ((k.trans k3).trans k4).mut hD, upd_same, ?_, ?_, hJ'⟩)
    · rw [ta.len]
      exact sizeK (by omega) hn
    · have m : Tm H4 (upd H4 D (.lst (acc ++ [y]))) := Tm.updL (k4.st _ _ nD (k3.st _ _ nD eD))
      exact (((ta.kp k3).kp k4).tm m).app (.cons ((hy.1.tp nl).tm m) .nil)
    · rw [List.length_append, List.length_singleton]; omega
theorem dn_lcR {n : Nat} (J : Nat → List PyData → Prop) (hk : ∀ H1, Kp d H H1 → EvA K ta σ H1 [.int n]) (hn : n ≤ 1000) (h0 : J 0 []) (hw : ∀ x, wipe ((wipe σ vs).set j (some x)) vs = wipe σ vs)
    (hs : ∀ (i : Nat) ds H', i < n → Kp d H H' → J i ds → Turn K d tt te ((wipe σ vs).set j (some (.int i))) H' ds (J (i + 1))) :
    DN K d (tLc (iRng1 ta) (gName j) tt te vs) σ H (J n) := fun H1 k Q q =>
  hk H1 k H1 (Same.refl H1) _ fun us H2 e2 hv => by
    obtain ⟨v, rfl, hw'⟩ := hv.one
    obtain rfl := hw'.int_inv
    refine ⟨(n : Int), rfl, by omega, by omega, fun D hD => ?_⟩
    have k2 := k.then e2
    rw [Int.toNat_natCast]
    refine lc_range (lo := 0) (n := n) (fun i H' => ∃ acc ds, Kp d H2 H' ∧ H' D = some (.lst acc) ∧ TpAll K H' acc ds ∧ ds.length ≤ i ∧ J i ds) ⟨[], [], Kp.of (Same.new hD) k2.d2, upd_same, .nil, Nat.le_refl _, h0⟩ (fun i H' hi hp => ?_) fun H' ⟨acc, ds, k3, eD, ta, _, hJ⟩ => ?_
    · rw [Int.zero_add]
      exact dlc_step hD hi (by omega) (hw _) (fun ds H' k3 hJ => hs i ds H' hi (k2.trans k3) hJ) hp
    · exact q D acc ds H' (e2.free hD) ((Kp.of e2 k.d2).trans k3) eD ta hJ
/-- what is walked is told by R; L tells the new list -/
def Sweep (K : PySem.W.Frag) (d : Addr) (tt : TT) (te : TE) (j : Nat) (σ : L2.St) (H : Hp) (zs : List PyData) (L : List PyData → Prop) : Prop := zs.length ≤ 1000 ∧ ∃ J : Nat → List PyData → Prop, J 0 [] ∧
  (∀ (i : Nat) z x ds H', zs[i]? = some z → Kp d H H' → Aq K d H' x z → J i ds → Turn K d tt te (σ.set j (some x)) H' ds (J (i + 1))) ∧ ∀ ds, J zs.length ds → L ds
theorem dn_lcT {R L : List PyData → Prop} (h : DP K d tl σ H (fun x => ∃ zs, x = .tuple zs ∧ R zs)) (hw : ∀ x, wipe ((wipe σ vs).set j (some x)) vs = wipe σ vs) (hs : ∀ zs, R zs → Sweep K d tt te j (wipe σ vs) H zs L) :
    DN K d (tLc (iTup K tl) (gName j) tt te vs) σ H L := fun H1 k Q q =>
  h H1 k _ fun v dd H2 k2 hv ⟨zs, e, hR⟩ => by
    subst e
    obtain ⟨hn, J, h0, hs, hL⟩ := hs zs hR
    obtain ⟨a, xs, rfl, hq, hx⟩ := hv.1.tup_inv
    have na : a ≠ d := fun e => hv.2 (e ▸ rfl)
    have hxl := hx.len
    refine ⟨a, rfl, ⟨xs, hq⟩, fun D hD => lc_tup (xs := xs) (fun i H' => ∃ acc ds, Kp d H2 H' ∧ H' D = some (.lst acc) ∧ TpAll K H' acc ds ∧ ds.length ≤ i ∧ J i ds) ⟨[], [], Kp.of (Same.new hD) k2.d2, upd_same, .nil, Nat.le_refl _, h0⟩ (fun i H' _ ⟨_, _, k3, _⟩ => k3.sqT na hq) (fun i x H' hi hp => ?_) fun H' ⟨acc, ds, k3, eD, ta, _, hJ⟩ => ?_⟩
    · obtain ⟨z, hz, tx⟩ := hx.get hi
      have hil : i < zs.length := (List.getElem?_eq_some_iff.mp hz).1
      exact dlc_step hD hil (by omega) (hw _) (fun ds H' k3 hJ => hs i z x ds H' hz ((k.trans k2).trans k3) ((tx.kp k3).aq k3.d2) hJ) hp
    · rw [hxl] at hJ
      exact q D acc ds H' (k2.free hD) (k2.trans k3) eD ta (hL ds hJ)
theorem dn_lcL {R L : List PyData → Prop} (h : DP K d tl σ H (fun x => ∃ zs, x = .list zs ∧ R zs)) (hw : ∀ x, wipe ((wipe σ vs).set j (some x)) vs = wipe σ vs) (hs : ∀ zs, R zs → Sweep K d tt te j (wipe σ vs) H zs L) :
    DN K d (tLc (iList K tl) (gName j) tt te vs) σ H L := fun H1 k Q q =>
  h H1 k _ fun v dd H2 k2 hv ⟨zs, e, hR⟩ => by
    subst e
    obtain ⟨hn, J, h0, hs, hL⟩ := hs zs hR
    obtain ⟨a, xs, rfl, hq, hx⟩ := hv.1.lst_inv
    have na : a ≠ d := fun e => hv.2 (e ▸ rfl)
    have hxl := hx.len
    refine ⟨a, rfl, ⟨xs, hq⟩, fun D hD => lc_list (xs := xs) (fun i H' => ∃ acc ds, Kp d H2 H' ∧ H' D = some (.lst acc) ∧ TpAll K H' acc ds ∧ ds.length ≤ i ∧ J i ds) ⟨[], [], Kp.of (Same.new hD) k2.d2, upd_same, .nil, Nat.le_refl _, h0⟩ (fun i H' _ ⟨_, _, k3, _⟩ => k3.sqL na hq) (fun i x H' hi hp => ?_) fun H' ⟨acc, ds, k3, eD, ta, _, hJ⟩ => ?_⟩
    · obtain ⟨z, hz, tx⟩ := hx.get hi
      have hil : i < zs.length := (List.getElem?_eq_some_iff.mp hz).1
      exact dlc_step hD hil (by omega) (hw _) (fun ds H' k3 hJ => hs i z x ds H' hz ((k.trans k2).trans k3) ((tx.kp k3).aq k3.d2) hJ) hp
    · rw [hxl] at hJ
      exact q D acc ds H' (k2.free hD) (k2.trans k3) eD ta (hL ds hJ)
end
/-! loops and the rest -/
section
variable {K : PySem.W.Frag} {d : Addr} {σ : L2.St} {H : Hp} {ta tb tl te : TE} {tt : TT} {j : Nat} {D : Ends} {u tu tb2 : TS} {p q r : Int → Prop} {L : List PyData → Prop} {P : PyData → Prop}
theorem dp_min2 (ha : DP K d ta σ H (IsI p)) (hb : DP K d tb σ H (IsI q)) (h : ∀ i j, p i → q j → r (min i j)) : DP K d (tCB (fun xs H Q => ∃ i j, xs = [.int i, .int j] ∧ Q (.int (if j < i then j else i)) H) (tCons ta (tCons tb tNil))) σ H (IsI r) :=
  dp_cb (da_two ha hb) fun vs ds H1 k hv ⟨x, y, e, ⟨i, e1, hi⟩, m, e2, hm⟩ Q qq => by
    subst e e1 e2
    obtain ⟨v, u, rfl, h1, h2⟩ := hv.two
    obtain rfl := h1.1.int_inv
    obtain rfl := h2.1.int_inv
    refine ⟨i, m, rfl, ?_⟩
    rw [show (if m < i then m else i) = min i m by split <;> omega]
    exact qq _ _ H1 (Same.refl H1) (Tp.aq k.d2 (.int _)) ⟨_, rfl, h i m hi hm⟩
theorem dp_max2 (ha : DP K d ta σ H (IsI p)) (hb : DP K d tb σ H (IsI q)) (h : ∀ i j, p i → q j → r (max i j)) : DP K d (tCB (fun xs H Q => ∃ i j, xs = [.int i, .int j] ∧ Q (.int (if j > i then j else i)) H) (tCons ta (tCons tb tNil))) σ H (IsI r) :=
  dp_cb (da_two ha hb) fun vs ds H1 k hv ⟨x, y, e, ⟨i, e1, hi⟩, m, e2, hm⟩ Q qq => by
    subst e e1 e2
    obtain ⟨v, u, rfl, h1, h2⟩ := hv.two
    obtain rfl := h1.1.int_inv
    obtain rfl := h2.1.int_inv
    refine ⟨i, m, rfl, ?_⟩
    rw [show (if m > i then m else i) = max i m by split <;> omega]
    exact qq _ _ H1 (Same.refl H1) (Tp.aq k.d2 (.int _)) ⟨_, rfl, h i m hi hm⟩
theorem dq_forR {N : Nat} (hd : Dice d H) (h : DP K d te σ H (IsI fun m => 0 ≤ m ∧ m ≤ N)) (hN : N ≤ 1000)
    (k : ∀ (n : Nat) H1, Kp d H H1 → n ≤ N → ∃ Pv : Nat → L2.St → Hp → Prop, Pv 0 σ H1 ∧ (∀ i σ' H', i < n → Pv i σ' H' → tb2 { D with nx := Pv (i + 1), ct := Pv (i + 1), bk := u D } (σ'.set j (some (.int i))) H') ∧ ∀ σ' H', Pv n σ' H' → u D σ' H') :
    tSeq (tFor (iRng1 (tCons te tNil)) (gName j) tb2) u D σ H := h H (Kp.refl hd) _ fun v dd H1 k1 hv ⟨m, e, m0, m1⟩ => by
  subst e
  obtain rfl := hv.1.int_inv
  refine ⟨m, rfl, by omega, by omega, ?_⟩
  obtain ⟨Pv, h0, hs, hd'⟩ := k m.toNat H1 k1 (by omega)
  exact for_range (lo := 0) (n := m.toNat) (D := { D with nx := u D }) Pv h0 (fun i σ' H' hi p => by
    have := hs i σ' H' hi p
    show tb2 _ (σ'.set j (some (.int (0 + (i : Int))))) H'
    rw [Int.zero_add]
    exact this) hd'
theorem q_ifJ {b : Bool} (C : L2.St → Hp → Prop) (h : EvB tt σ H b) (h1 : b = true → ∀ H1, Same H H1 → ∀ N : L2.St → Hp → Prop, (∀ σ' H', C σ' H' → N σ' H') → tu { D with nx := N } σ H1) (h2 : b = false → ∀ H1, Same H H1 → C σ H1) (k : ∀ σ' H', C σ' H' → u D σ' H') :
    tSeq (tIfS tt tu tNext) u D σ H := q_if0 h (fun hb H1 e => h1 hb H1 e _ k) fun hb H1 e => k _ _ (h2 hb H1 e)
theorem dq_ifJ {pb : Bool → Prop} (hd : Dice d H) (C : L2.St → Hp → Prop) (h : DB d tt σ H pb) (h1 : pb true → ∀ H1, Kp d H H1 → ∀ N : L2.St → Hp → Prop, (∀ σ' H', C σ' H' → N σ' H') → tu { D with nx := N } σ H1) (h2 : pb false → ∀ H1, Kp d H H1 → C σ H1) (k : ∀ σ' H', C σ' H' → u D σ' H') :
    tSeq (tIfS tt tu tNext) u D σ H := dq_if0 hd h (fun hb H1 e => h1 hb H1 e _ k) fun hb H1 e => k _ _ (h2 hb H1 e)
theorem dq_tup {n : Nat} {t : TGs} (hd : Dice d H) (h : DP K d te σ H (fun x => ∃ ds, x = .tuple ds ∧ ds.length = n ∧ L ds)) (k : ∀ xs ds H1, Kp d H H1 → TpAll K H1 xs ds → L ds → t xs σ H1 (u D)) : tSeq (tAsg te (gTup K n t)) u D σ H := h H (Kp.refl hd) _ fun v dd H1 k1 hv ⟨ds, e, hn, hL⟩ => by
  subst e
  obtain ⟨a, xs, rfl, hq, hx⟩ := hv.1.tup_inv
  exact ⟨a, xs, rfl, hq, hx.len.trans hn, k xs ds H1 k1 hx hL⟩
theorem app_d {q : Addr} {ys : List V} {es : List PyData} (hd : Dice d H) (hq : H q = some (.lst ys)) (hy : TpAll K H ys es) (nqd : q ≠ d) (sj : σ[j]? = some (some (.ref q))) (h : DP K d te σ H (fun x => noL x = true ∧ P x)) (hl : es.length ≤ 1000)
    (k : ∀ z ys' H1, P z → H1 q = some (.lst ys') → TpAll K H1 ys' (es ++ [z]) → (∀ H0, Kp d H0 H → H0 q = none → Kp d H0 H1) → Dice d H1 → D.nx σ H1) : tDrop (tBM K "list" rAppend (tVar j) (tCons te tNil)) D σ H :=
  ⟨_, sj, .inl ⟨rfl, _, .inl (.inl hq)⟩, h H (Kp.refl hd) _ fun v dd H2 k2 hv ⟨nl, hP⟩ => by
    have hq2 := k2.st _ _ nqd hq
    have t2 : Tm H2 (upd H2 q (.lst (ys ++ [v]))) := Tm.updL hq2
    refine ⟨q, ys, v, rfl, rfl, hq2, ?_, k dd _ _ hP upd_same (((hy.kp k2).tm t2).app (.cons ((hv.1.tp nl).tm t2) .nil)) (fun H0 k0 n1 => (k0.trans k2).mut n1) ?_⟩
    · rw [hy.len]; exact small1000 hl
    · obtain ⟨a, b, r, e, z⟩ := k2.d2
      exact ⟨a, b, r, by rw [upd_ne (fun z => nqd z.symm)]; exact e, z⟩⟩
theorem dn_slL {n : Nat} (h : DP K d te σ H (fun x => ∃ ds, x = .list ds ∧ L (ds.take n))) (hh : ∀ H1, Kp d H H1 → Ev K tb σ H1 (.int n)) : DN K d (tSl (rSlL K) te tNoPart (tPart tb)) σ H L := fun H1 k Q q =>
  h H1 k _ fun v dd H2 k2 hv ⟨ds, e, hL⟩ => hh H2 (k.trans k2) H2 (Same.refl H2) _ fun u H3 e3 hu => ⟨(n : Int), hu.int_inv, by
    subst e
    obtain ⟨a, xs, rfl, hq, hx⟩ := (hv.same e3).1.lst_inv
    have e4 : cutV xs none (some (n : Int)) = xs.take n := by
      unfold cutV
      rw [HT.sIx_nat, HT.sIx_none]
      simp
    exact ⟨a, xs, rfl, hq, fun p hp => q p _ _ _ (k2.free (e3.free hp)) (k2.then (e3.trans (Same.new hp))) (by rw [upd_same, e4]) ((hx.take n).same (Same.new hp)) hL⟩⟩
end
end WB

/-! more readings: numbers, texts, list methods, isinstance -/
namespace WB
open PySem PySem.Spec PyProof.Rows L2
theorem pss_never {X : Cx} {st : List Stmt} : PSs X st tNever := ⟨fun _ _ _ _ _ _ h => h.elim⟩
section
variable {K : PySem.W.Frag} {σ : L2.St} {H : Hp} {ta tb te : TE} {d : Addr} {D : Ends}
theorem ev_mul {i j : Int} (ha : Ev K ta σ H (.int i)) (hb : Ev K tb σ H (.int j)) (hc : CMul i j) : Ev K (tOp (rI CMul fun i j => .int (i * j)) ta tb) σ H (.int (i * j)) := ev_I ha hb hc fun _ => .t (.int _)
theorem ev_mod {i j : Int} (ha : Ev K ta σ H (.int i)) (hb : Ev K tb σ H (.int j)) (hc : 0 < j) : Ev K (tOp (rI (fun _ j => 0 < j) fun i j => .int (i % j)) ta tb) σ H (.int (i % j)) := ev_I ha hb hc fun _ => .t (.int _)
theorem ev_fdiv {i j : Int} (ha : Ev K ta σ H (.int i)) (hb : Ev K tb σ H (.int j)) (hc : CDiv i j) : Ev K (tOp (rI CDiv fun i j => .int (i / j)) ta tb) σ H (.int (i / j)) := ev_I ha hb hc fun _ => .t (.int _)
theorem ev_pow {i j : Int} (ha : Ev K ta σ H (.int i)) (hb : Ev K tb σ H (.int j)) (hc : CPow i j) : Ev K (tOp (rI CPow fun i j => .int (i ^ j.toNat)) ta tb) σ H (.int (i ^ j.toNat)) := ev_I ha hb hc fun _ => .t (.int _)
theorem ev_abs {i : Int} (h : Ev K ta σ H (.int i)) : Ev K (tCB (fun xs H Q => ∃ i, xs = [.int i] ∧ Q (.int (if i < 0 then -i else i)) H) (tCons ta tNil)) σ H (.int (if i < 0 then -i else i)) := ev_cb (ea_cons h ea_nil) fun vs H1 _ hv Q q => by
  obtain ⟨v, rfl, hw⟩ := hv.one
  obtain rfl := hw.int_inv
  exact ⟨i, rfl, q _ H1 (Same.refl H1) (.t (.int _))⟩
/-- isinstance(a bool, bool) -/
theorem ev_isB {b : Bool} (h : Ev K ta σ H (.bool b)) : Ev K (tCB (rIsi K) (tCons ta (tCons (tC (.ty "bool")) tNil))) σ H (.bool true) := fun H1 e Q q =>
  h H1 e _ fun v H2 e2 hv => by
    obtain rfl := hv.bl_inv
    exact ⟨.bl b, .ty "bool", .type "bool", .type "bool", true, rfl, .ty "bool", .base (.bl b), kit_ty (by decide +kernel), q _ H2 e2 (.t (.bl _))⟩
/-! texts -/
theorem ev_ixStr {z : Str} {j c : Nat} (ha : Ev K ta σ H (.str z)) (hb : Ev K tb σ H (.int (j : Int))) (hz : z.length ≤ 1000) (hc : z.cps.toList[j]? = some c) : Ev K (tOp rIxS ta tb) σ H (.str ⟨#[c]⟩) := ev_op ha hb fun v u H1 _ hv hu Q q =>
  ⟨z, (j : Int), c, hv.str_inv, hu.int_inv, Nat.le_of_lt (small1000 hz), atI_nat hc, q _ H1 (Same.refl H1) (.t (.str _))⟩
theorem ev_addS {a b : Str} (ha : Ev K ta σ H (.str a)) (hb : Ev K tb σ H (.str b)) (hz : a.length + b.length ≤ 1000) : Ev K (tOp (fun x y H Q => ∃ i j, x = .str i ∧ y = .str j ∧ i.length + j.length ≤ sizeLine ∧ Q (.str (i ++ j)) H) ta tb) σ H (.str (a ++ b)) := ev_op ha hb fun v u H1 _ hv hu Q q =>
  ⟨a, b, hv.str_inv, hu.str_inv, Nat.le_of_lt (small1000 hz), q _ H1 (Same.refl H1) (.t (.str _))⟩
theorem ev_mulS {c : Nat} {n : Int} (ha : Ev K ta σ H (.str ⟨#[c]⟩)) (hb : Ev K tb σ H (.int n)) (h5 : n = 5 ∨ n = 6) : Ev K (tOp rMulS ta tb) σ H (.str ⟨(List.replicate n.toNat c).toArray⟩) := ev_op ha hb fun v u H1 _ hv hu Q q =>
  ⟨c, n, hv.str_inv, hu.int_inv, h5, q _ H1 (Same.refl H1) (.t (.str _))⟩
/-- a part of a slice -/
def EvO (K : PySem.W.Frag) (to : TO) (σ : L2.St) (H : Hp) (i : Option Int) : Prop := ∀ H1, Same H H1 → ∀ Q : Option Int → Hp → Prop, (∀ H2, Same H1 H2 → Q i H2) → to σ H1 Q
theorem eo_none : EvO K tNoPart σ H none := fun H1 _ _ q => q H1 (Same.refl H1)
theorem eo_some {i : Int} (h : Ev K te σ H (.int i)) : EvO K (tPart te) σ H (some i) := fun H1 e _ q => h H1 e _ fun v H2 e2 hv => ⟨i, hv.int_inv, q H2 e2⟩
theorem ev_slS {z : Str} {l h : Option Int} {tl th : TO} (hz : Ev K te σ H (.str z)) (hl : EvO K tl σ H l) (hh : EvO K th σ H h) (hn : z.length ≤ 1000) : Ev K (tSl rSlS te tl th) σ H (.str (cutS z l h)) := fun H1 e Q q =>
  hz H1 e _ fun v H2 e2 hv => hl H2 (e.trans e2) _ fun H3 e3 => hh H3 ((e.trans e2).trans e3) _ fun H4 e4 => ⟨z, hv.str_inv, Nat.le_of_lt (small1000 hn), q _ H4 ((e2.trans e3).trans e4) (.t (.str _))⟩
theorem TpAll.cut {vs : List V} {ds : List PyData} (h : TpAll K H vs ds) (l u : Option Int) : TpAll K H (cutV vs l u) ((ds.drop (HT.sIx ds.length 0 l)).take (HT.sIx ds.length ds.length u - HT.sIx ds.length 0 l)) := by
  unfold cutV
  rw [h.len]
  exact (h.drop _).take _
theorem en_slL {ds : List PyData} {l h : Option Int} {tl th : TO} (hz : Ev K te σ H (.list ds)) (hl : EvO K tl σ H l) (hh : EvO K th σ H h) : EvN K (tSl (rSlL K) te tl th) σ H ((ds.drop (HT.sIx ds.length 0 l)).take (HT.sIx ds.length ds.length h - HT.sIx ds.length 0 l)) := fun H1 e Q q =>
  hz H1 e _ fun v H2 e2 hv => hl H2 (e.trans e2) _ fun H3 e3 => hh H3 ((e.trans e2).trans e3) _ fun H4 e4 => by
    obtain ⟨a, xs, rfl, hq, hx⟩ := hv.lst_inv
    exact ⟨a, xs, rfl, (e3.trans e4).seq hq, fun p hp => q p _ _ (e2.free (e3.free (e4.free hp))) (((e2.trans e3).trans e4).trans (Same.new hp)) upd_same (((hx.same (e3.trans e4)).cut l h).same (Same.new hp))⟩
theorem sIx_le' (n d : Nat) (o : Option Int) (h : d ≤ n) : HT.sIx n d o ≤ n := HT.sIx_le _ _ h _
/-! list(range(n)), tuple(range(a, b)) -/
theorem rgV_data (a b : Int) : TpAll K H (rgV a b) (dI ((List.range (b - a).toNat).map fun i => a + (i : Nat))) := by
  have : rgV a b = ((List.range (b - a).toNat).map fun i => a + (i : Nat)).map V.int := by unfold rgV; rw [List.map_map]; rfl
  rw [this]
  exact TpAll.ofInts _
theorem en_rg1 {n : Nat} (h : Ev K ta σ H (.int n)) (hn : n ≤ 1000) : EvN K (tLstRg (tRg1 ta)) σ H (dI (upI n)) := fun H1 e Q q =>
  h H1 e _ fun v H2 e2 hv => ⟨(n : Int), hv.int_inv, RgOk.of_le (by omega) (by omega) (by omega) (by omega), fun p hp => by
    refine q p _ _ (e2.free hp) (e2.trans (Same.new hp)) upd_same ?_
    have := rgV_data (K := K) (H := upd H2 p (.lst (rgV 0 (n : Int)))) 0 (n : Int)
    have e : ((List.range ((n : Int) - 0).toNat).map fun i : Nat => (0 : Int) + (i : Nat)) = upI n := by
      unfold upI
      rw [show ((n : Int) - 0).toNat = n by omega]
      refine List.map_congr_left fun i _ => ?_
      show (0 : Int) + (i : Int) = Int.ofNat i
      simp
    rw [e] at this
    exact this⟩
/-! pop and append while the dice change -/
theorem pop_app {p q : Addr} {i j : Nat} {xs ys : List V} {ds es : List PyData} (hd : Dice d H) (hp : H p = some (.lst xs)) (hq : H q = some (.lst ys)) (hx : TpAll K H xs ds) (hy : TpAll K H ys es) (npq : p ≠ q) (npd : p ≠ d) (nqd : q ≠ d)
    (si : σ[i]? = some (some (.ref p))) (sj : σ[j]? = some (some (.ref q))) (hi : DP K d te σ H (IsI (Rg ds.length))) (hl : es.length ≤ 1000) (hl2 : ds.length ≤ 1000)
    (k : ∀ (n : Nat) z xs' ys' H1, ds[n]? = some z → H1 p = some (.lst xs') → H1 q = some (.lst ys') → TpAll K H1 xs' (ds.eraseIdx n) → TpAll K H1 ys' (es ++ [z]) → (∀ H0, Kp d H0 H → H0 p = none → H0 q = none → Kp d H0 H1) → Dice d H1 → D.nx σ H1) :
    tDrop (tBM K "list" rAppend (tVar j) (tCons (tBM K "list" rPopAt (tVar i) (tCons te tNil)) tNil)) D σ H :=
  ⟨_, sj, .inl ⟨rfl, _, .inl (.inl hq)⟩, _, si, .inl ⟨rfl, _, .inl (.inl hp)⟩, hi H (Kp.refl hd) _ fun v dd H2 k2 hv ⟨m, e, m0, m1⟩ => by
    subst e
    obtain rfl := hv.1.int_inv
    have hml : m.toNat < ds.length := by omega
    have hmx : m.toNat < xs.length := by rw [hx.len]; exact hml
    obtain ⟨y, hy1, hy2⟩ := hx.getD (List.getElem?_eq_getElem hml)
    have hp2 := k2.st _ _ npd hp
    have hq2 := k2.st _ _ nqd hq
    refine ⟨p, xs, m, m.toNat, y, rfl, rfl, hp2, by omega, by omega, ?_, hy1, q, ys, y, rfl, rfl, by rw [upd_ne (fun z => npq z.symm)]; exact hq2, ?_, ?_⟩
    · unfold seqIndex?
      dsimp only
      rw [if_neg (show ¬ m < 0 by omega), if_pos]
      rw [Bool.and_eq_true, decide_eq_true_eq, decide_eq_true_eq]
      exact ⟨m0, by rw [hx.len]; exact m1⟩
    · rw [hy.len]; exact small1000 hl
    · have t1 : Tm H2 (upd H2 p (.lst (xs.eraseIdx m.toNat))) := Tm.updL hp2
      have hq3 : upd H2 p (.lst (xs.eraseIdx m.toNat)) q = some (.lst ys) := by rw [upd_ne (fun z => npq z.symm)]; exact hq2
      have t2 : Tm (upd H2 p (.lst (xs.eraseIdx m.toNat))) (upd (upd H2 p (.lst (xs.eraseIdx m.toNat))) q (.lst (ys ++ [y]))) := Tm.updL hq3
      refine k m.toNat _ _ _ _ (List.getElem?_eq_getElem hml) (by rw [upd_ne npq]; exact upd_same) upd_same ((((hx.kp k2).erase _).tm t1).tm t2) ((((hy.kp k2).tm t1).tm t2).app (.cons (((hy2.kp k2).tm t1).tm t2) .nil)) (fun H0 k0 n1 n2 => ((k0.trans k2).mut n1).mut n2) ?_
      obtain ⟨a, b, r, e, z⟩ := k2.d2
      exact ⟨a, b, r, by rw [upd_ne (fun z => nqd z.symm), upd_ne (fun z => npd z.symm)]; exact e, z⟩⟩
theorem erase_perm {α : Type} : ∀ {ds es : List α} {n : Nat} {z : α}, ds[n]? = some z → (ds.eraseIdx n ++ (es ++ [z])).Perm (ds ++ es) := by
  intro ds es n z h
  have key : ∀ (ds : List α) (n : Nat), ds[n]? = some z → (z :: ds.eraseIdx n).Perm ds := by
    intro ds
    induction ds with
    | nil => intro n h; simp at h
    | cons a l ih =>
      intro n h
      cases n with
      | zero => simp at h; subst h; exact List.Perm.refl _
      | succ n =>
        have := ih n (by simpa using h)
        exact (List.Perm.swap a z _).trans (this.cons a)
  have h1 := key ds n h
  refine List.Perm.trans ?_ (h1.append_right es)
  rw [← List.append_assoc]
  exact List.perm_append_comm
end
end WB

/-! the law's dice -/
namespace WB
open PySem PySem.Spec PyProof.Rows L2
section
variable {P : Program} {w : World} {K : PySem.W.Frag} {mg : Str → Option Value} {base : Heap}
abbrev s__law_alike : Stmt := topS 28
abbrev N__law_alike : List Str := ["_law_found", "_law_due", "_law_key", "_law_k"]
theorem sc__law_alike : FnScope N__law_alike ["_law_found", "_law_due"] (defScope s__law_alike) := ⟨rfl, rfl, rfl, by decide +kernel, rfl, by decide +kernel, by decide +kernel⟩
def spAlike (K : PySem.W.Frag) : Sp := spF K (α := Bool × Bool) (fun x => [.bool x.1, .bool x.2]) (fun x => True) (fun x => .bool (decide (x.1 = x.2)))
theorem ok__law_alike (F : Df K mg "_law_alike" s__law_alike) (M : Mg mg) : Cl P w K mg base 1 "_law_alike" (spAlike K) := by
  refine cl_of F sc__law_alike (fun _ _ _ _ _ _ us hl => match us, hl with | [_, _], _ => rfl) (fun vs H Q E h => ?_) (fun f cdv A outer s H vs Q E hr h => ?_)
  · obtain ⟨x, h, _⟩ := h
    exact h.len
  · obtain ⟨⟨a, b⟩, h, _, q⟩ := h
    obtain ⟨v1, v2, rfl, h1, h2⟩ := h.two
    dsimp only at h1 h2 q
    refine ⟨_, (pss_cons (ps_if (pt_cmpR op_isN (pv 1) pe_non (nomark _)) pss_never pss_nil)
      (pss_cons (ps_if (pt_val (pe_callB (k_isi K) (by rfl) M.b_isinstance (by decide +kernel) (pa_cons (pv 1) (pa_cons (pe_bltn (v := .ty "bool") rfl M.b_bool PyProof.Rows.boot_bool rfl) pa_nil))))
        (pss_one (ps_ret (pe_and (pe_callB (k_isi K) (by rfl) M.b_isinstance (by decide +kernel) (pa_cons (pv 0) (pa_cons (pe_bltn (v := .ty "bool") rfl M.b_bool PyProof.Rows.boot_bool rfl) pa_nil))) (pe_one (pe_cmpR op_eq (pv 0) (pv 1) (nomark _))))))
        pss_nil)
      pss_never)), ?_⟩
    refine q_if0 (b := false) (eb_test (K := K) (Ev.is (ev_isN (ev_v h2)) rfl)) (fun z => nomatch z) fun _ H1 e1 => ?_
    refine q_if0 (b := true) (eb_B (K := K) (ev_isB (ev_v (h2.same e1)))) (fun _ H2 e2 => ?_) (fun z => nomatch z)
    exact s_ret (K := K) (Ev.is (ev_andV (K := K) (a := true) (b := decide (a = b)) (ev_isB (ev_v ((h1.same e1).same e2))) fun _ => ev_eqB (ev_v ((h1.same e1).same e2)) (ev_v ((h2.same e1).same e2))) (by rw [Bool.true_and])) fun v H3 e3 hv => q v H3 (e1.trans (e2.trans e3)) hv

abbrev s__law_dice : Stmt := topS 26
abbrev N__law_dice : List Str := ["_law_script", "_law_k", "_law_found", "_law_cell"]
theorem sc__law_dice : FnScope N__law_dice ["_law_script", "_law_k"] (defScope s__law_dice) := ⟨rfl, rfl, rfl, by decide +kernel, rfl, by decide +kernel, by decide +kernel⟩
def spDice (K : PySem.W.Frag) : Sp := fun vs H Q _ => ∃ (v : V) (ns : List Int), vs = [v, .int 0] ∧ Ap K H v (.list (dI ns)) ∧ ns.length ≤ 900 ∧ ∀ d H', Same H H' → Dice d H' → Q (.ref d) H'
theorem ok__law_dice (F : Df K mg "_law_dice" s__law_dice) (M : Mg mg) : Cl P w K mg base 1 "_law_dice" (spDice K) := by
  refine cl_of F sc__law_dice (fun _ _ _ _ _ _ us hl => match us, hl with | [_, _], _ => rfl) (fun vs H Q E h => ?_) (fun f cdv A outer s H vs Q E hr h => ?_)
  · obtain ⟨_, _, rfl, _⟩ := h
    rfl
  · have nd := sc__law_dice.nd
    obtain ⟨v1, ns, rfl, h1, hl, q⟩ := h
    refine ⟨_, (pss_cons (ps_set (i := 2) nd rfl (by first | exact Or.inl rfl | exact Or.inr rfl) (pv 1))
      (pss_cons (ps_for PassesOwn.never rfl (k_list K (pv 0)) (pg_name (i := 3) nd rfl (by first | exact Or.inl rfl | exact Or.inr rfl))
        (pss_one (ps_set (i := 2) nd rfl (by first | exact Or.inl rfl | exact Or.inr rfl) (pe_op op_mod (pe_op op_add (pe_op op_mul (pv 2) pe_int) (pe_callB call_abs (by rfl) M.b_abs (by decide +kernel) (pa_cons (pv 3) pa_nil))) pe_int))))
      (pss_one (ps_ret (pe_op op_cat (pe_lst (pa_cons (pv 2) (pa_cons pe_int pa_nil))) (pe_lc (own := [("_law_cell", 3)]) (g := gName 3) (by rfl) nd (k_list K (pv 0)) (blkOk_by (N := N__law_dice) (sc := defScope s__law_dice) (by decide +kernel)) (fun _ _ _ _ _ => pg_name (i := 3) nd rfl (by first | exact Or.inl rfl | exact Or.inr rfl)) (fun _ _ _ _ _ => pts_one (pt_cmpR op_ge (pv 3) (pe_op op_pow pe_int pe_int) (nomark _))) (fun _ _ _ _ _ => (pv 3)))))))), ?_⟩
    refine q_set (K := K) (ev_v (.t (.int 0))) fun v H1 e1 hv => ?_
    obtain rfl := hv.int_inv
    refine q_forL (K := K) (ev_v (h1.same e1)) (fun H2 i σ' H' => Same H2 H' ∧ ∃ n b, σ' = [some v1, some (.int 0), some (.int n), b] ∧ 0 ≤ n ∧ n < 2147483647) (fun H2 _ => ⟨Same.refl H2, 0, none, rfl, by omega, by omega⟩) (fun _ _ _ _ p => p.1) (fun H2 i z v σ' H3 e2 hi p tv => ?_) fun H2 σ' H3 e2 p => ?_
    · obtain ⟨e3, n, b, rfl, n0, n1⟩ := p
      rw [List.getElem?_map] at hi
      obtain ⟨m, hm, rfl⟩ := Option.map_eq_some_iff.mp hi
      refine z_seq (q_set (K := K) (ev_mod (ev_add (ev_mul (ev_v (.t (.int n))) ev_int (.inl (by omega))) (ev_abs (ev_v (.t tv)))) ev_int (by decide)) fun u H4 e4 hu => ?_)
      obtain rfl := hu.int_inv
      exact ⟨e3.trans e4, _, some v, rfl, Int.emod_nonneg _ (by decide), Int.emod_lt_of_pos _ (by decide)⟩
    · obtain ⟨e3, n, b, rfl, n0, n1⟩ := p
      have e := (e1.trans e2).trans e3
      have hfl : (ns.filter fun c => decide ((10 : Int) ^ (18 : Int).toNat ≤ c)).length ≤ ns.length := List.length_filter_le _ _
      refine s_retN (K := K) (ds := dI (n :: 0 :: ns.filter fun c => decide ((10 : Int) ^ (18 : Int).toNat ≤ c))) (en_cat (es := dI (ns.filter fun c => decide ((10 : Int) ^ (18 : Int).toNat ≤ c))) (en_lst (ea_cons (ev_v (.t (.int n))) (ea_cons ev_int ea_nil)) rfl (by simp))
        (en_fL (fun c => decide ((10 : Int) ^ (18 : Int).toNat ≤ c)) PyData.int (ev_v (h1.same e)) (by omega) (fun x => rfl) fun c hc x H' e' hx => ⟨eb_test (ev_ge (ev_v hx) (ev_pow ev_int ev_int ⟨by decide, by decide, by decide⟩)), fun _ => ⟨rfl, ev_v hx⟩⟩) ?_) fun p xs H4 hp e4 hH hx => ?_
      · rw [List.length_map]
        show 2 + _ ≤ 1000
        omega
      · refine q p H4 (e.trans e4) ⟨n, 0, _, hx.ints ▸ hH, n0, n1, Int.le_refl _, fun c hc => ?_⟩
        have := of_decide_eq_true (List.mem_filter.mp hc).2
        have h10 : (0 : Int) ≤ (10 : Int) ^ (18 : Int).toNat := by decide
        omega

abbrev s__law_off : Stmt := topS 27
abbrev N__law_off : List Str := ["_law_d", "_law_upto", "_law_found"]
theorem sc__law_off : FnScope N__law_off ["_law_d", "_law_upto"] (defScope s__law_off) := ⟨rfl, rfl, rfl, by decide +kernel, rfl, by decide +kernel, by decide +kernel⟩
def spOff (K : PySem.W.Frag) : Sp := spD K (α := Int) (fun n => [.int n]) (fun n => 0 < n ∧ n < 1000000) (fun n => IsI (Rg n))
theorem ok__law_off (F : Df K mg "_law_off" s__law_off) (M : Mg mg) : Cl P w K mg base 1 "_law_off" (spOff K) := by
  refine cl_of F sc__law_off (fun _ _ _ _ _ _ us hl => match us, hl with | [_, _], _ => rfl) (fun vs H Q E h => ?_) (fun f cdv A outer s H vs Q E hr h => ?_)
  · obtain ⟨d, us, x, rfl, _, h, _⟩ := h
    rw [List.length_cons, h.1.len]
    rfl
  · have nd := sc__law_off.nd
    obtain ⟨d, us, n, rfl, ⟨a, b, r, hH, a0, a1, b0, r0⟩, h, ⟨n0, n1⟩, q⟩ := h
    obtain ⟨u, rfl, hu⟩ := h.one
    obtain rfl := hu.1.int_inv
    have ap : ∀ {H1 : Hp} {ms : List Int}, H1 d = some (.lst (ms.map V.int)) → Ap K H1 (.ref d) (.list (dI ms)) := fun h => .l (.inl (.inl h)) (TpAll.ofInts _)
    refine ⟨_, (pss_cons (ps_if (PW.pt (pw_and (pt_cmpR op_eq (pe_ix (k_ixL K) (pv 0) pe_int (fun _ _ => rfl)) pe_int (nomark _)) (pw_and1 (pt_cmpR op_gt (pe_callB (k_len K) (by rfl) M.b_len (by decide +kernel) (pa_cons (pv 0) pa_nil)) pe_int (nomark _)))))
        (pss_one (ps_asg (pe_bm PySem.F.plainAttrs_list PySem.F.slot_list_pop PySem.F.type_list_pop mt_popAt (pv 0) (pa_cons pe_int pa_nil)) (pg_sub (pv 0) pe_int set_list)))
        pss_nil)
      (pss_cons (ps_if (pt_cmpR op_gt (pe_ix (k_ixL K) (pv 0) pe_int (fun _ _ => rfl)) pe_int (nomark _))
        (pss_cons (ps_set (i := 2) nd rfl (by first | exact Or.inl rfl | exact Or.inr rfl) (pe_op op_mod (pe_ix (k_ixL K) (pv 0) pe_int (fun _ _ => rfl)) (pv 1)))
        (pss_cons (ps_asg (pe_op op_fdiv (pe_ix (k_ixL K) (pv 0) pe_int (fun _ _ => rfl)) (pv 1)) (pg_sub (pv 0) pe_int set_list))
        (pss_one (ps_ret (pv 2)))))
        pss_nil)
      (pss_cons (ps_asg (pe_op op_mod (pe_op op_add (pe_op op_mul (pe_ix (k_ixL K) (pv 0) pe_int (fun _ _ => rfl)) pe_int) pe_int) pe_int) (pg_sub (pv 0) pe_int set_list))
      (pss_one (ps_ret (pe_op op_mod (pe_op op_fdiv (pe_ix (k_ixL K) (pv 0) pe_int (fun _ _ => rfl)) pe_int) (pv 1))))))), ?_⟩
    refine show tSeq _ _ _ _ _ from ?_
    have fin : ∀ (H1 : Hp) (a b : Int) (r : List Int), (∀ c o, c ≠ d → H c = some o → H1 c = some o) → H1 d = some (.lst ((a :: b :: r).map V.int)) → 0 ≤ a → a < 2147483647 → 0 ≤ b → (∀ c ∈ r, 0 ≤ c) → Kp d H H1 := fun H1 a b r h1 h2 h3 h4 h5 h6 => ⟨h1, ⟨_, _, _, hH, a0, a1, b0, r0⟩, a, b, r, h2, h3, h4, h5, h6⟩
    have rest : ∀ (H1 : Hp) (a b : Int) (r : List Int), (∀ c o, c ≠ d → H c = some o → H1 c = some o) → H1 d = some (.lst ((a :: b :: r).map V.int)) → 0 ≤ a → a < 2147483647 → 0 ≤ b → (∀ c ∈ r, 0 ≤ c) → ∀ D : Ends, (∀ v dd H', Kp d H H' → Aq K d H' v dd → IsI (Rg n) dd → D.rt v H') →
        tSeq (tIfS (tTest (tOp (rI0 fun i j => .bl (decide (j < i))) (tOp (rIxL K) (tVar 0) (tC (.int 1))) (tC (.int 0))))
          (tSeq (tAsg (tOp (rI (fun _ j => 0 < j) fun i j => .int (i % j)) (tOp (rIxL K) (tVar 0) (tC (.int 1))) (tVar 1)) (gName 2))
            (tSeq (tAsg (tOp (rI CDiv fun i j => .int (i / j)) (tOp (rIxL K) (tVar 0) (tC (.int 1))) (tVar 1)) (gSub (tVar 0) (tC (.int 1)) rSetL)) (tRet (tVar 2)))) tNext)
          (tSeq (tAsg (tOp (rI (fun _ j => 0 < j) fun i j => .int (i % j)) (tOp (rI0 fun i j => .int (i + j)) (tOp (rI CMul fun i j => .int (i * j)) (tOp (rIxL K) (tVar 0) (tC (.int 0))) (tC (.int 48271))) (tC (.int 11))) (tC (.int 2147483647))) (gSub (tVar 0) (tC (.int 0)) rSetL))
            (tRet (tOp (rI (fun _ j => 0 < j) fun i j => .int (i % j)) (tOp (rI CDiv fun i j => .int (i / j)) (tOp (rIxL K) (tVar 0) (tC (.int 0))) (tC (.int 64))) (tVar 1)))) D [some (.ref d), some (.int n), none] H1 := fun H1 a b r h1 h2 h3 h4 h5 h6 D q => by
      refine q_if0 (b := decide (0 < b)) (eb_test (K := K) (ev_gt (ev_ixL (j := 1) (d := .int b) (ev_v (ap h2)) ev_int rfl) ev_int)) (fun hb H2 e2 => ?_) fun hb H2 e2 => ?_
      · refine q_set (K := K) (ev_mod (ev_ixL (j := 1) (d := .int b) (ev_v (ap (e2 _ _ h2))) ev_int rfl) (ev_v (.t (.int n))) n0) fun v H3 e3 hv => ?_
        obtain rfl := hv.int_inv
        refine ev_fdiv (K := K) (ev_ixL (j := 1) (d := .int b) (ev_v (ap (e3 _ _ (e2 _ _ h2)))) ev_int rfl) (ev_v (.t (.int n))) ⟨n0, by omega⟩ H3 (Same.refl H3) _ fun v H4 e4 hv => ?_
        obtain rfl := hv.int_inv
        have h2' := e4 _ _ (e3 _ _ (e2 _ _ h2))
        refine ⟨_, rfl, d, _, 1, 1, rfl, rfl, h2', ?_, ?_⟩
        · unfold ixN
          rw [if_pos (by decide), if_pos (by rw [List.length_map, List.length_cons, List.length_cons]; omega)]
          rfl
        · refine ⟨.int (b % n), rfl, ?_⟩
          refine q _ (.int (b % n)) _ (fin _ a (b / n) r (fun c o hc ho => by rw [upd_ne hc]; exact e4 _ _ (e3 _ _ (e2 _ _ (h1 c o hc ho)))) upd_same h3 h4 (Int.ediv_nonneg h5 (by omega)) h6) ⟨.t (.int _), fun z => nomatch z⟩ ⟨_, rfl, Int.emod_nonneg _ (by omega), Int.emod_lt_of_pos _ n0⟩
      · refine ev_mod (K := K) (ev_add (ev_mul (ev_ixL (j := 0) (d := .int a) (ev_v (ap (e2 _ _ h2))) ev_int rfl) ev_int (.inl (by omega))) ev_int) ev_int (by decide) H2 (Same.refl H2) _ fun v H4 e4 hv => ?_
        obtain rfl := hv.int_inv
        have h2' := e4 _ _ (e2 _ _ h2)
        refine ⟨_, rfl, d, _, 0, 0, rfl, rfl, h2', ?_, ?_⟩
        · unfold ixN
          rw [if_pos (by decide), if_pos (by rw [List.length_map, List.length_cons, List.length_cons]; omega)]
          rfl
        · have h3' : upd H4 d (.lst (((a :: b :: r).map V.int).set 0 (.int ((a * 48271 + 11) % 2147483647)))) d = some (.lst ((((a * 48271 + 11) % 2147483647) :: b :: r).map V.int)) := upd_same
          refine s_ret (K := K) (ev_mod (ev_fdiv (ev_ixL (j := 0) (d := .int ((a * 48271 + 11) % 2147483647)) (ev_v (ap h3')) ev_int rfl) ev_int ⟨by decide, by decide⟩) (ev_v (.t (.int n))) n0) fun v H5 e5 hv => ?_
          refine q v (.int ((a * 48271 + 11) % 2147483647 / 64 % n)) _ (fin _ _ b r (fun c o hc ho => e5 _ _ (by rw [upd_ne hc]; exact e4 _ _ (e2 _ _ (h1 c o hc ho)))) (e5 _ _ h3') (Int.emod_nonneg _ (by decide)) (Int.emod_lt_of_pos _ (by decide)) h5 h6) ⟨hv, fun z => ?_⟩ ⟨_, rfl, Int.emod_nonneg _ (by omega), Int.emod_lt_of_pos _ n0⟩
          obtain rfl := hv.int_inv
          cases z
    refine q_if0 (b := decide (b = 0) && decide (2 < ((dI (a :: b :: r)).length : Int))) (eb_and (a := decide (b = 0)) (b := decide (2 < ((dI (a :: b :: r)).length : Int))) (eb_test (K := K) (ev_eqI (ev_ixL (j := 1) (d := .int b) (ev_v (ap hH)) ev_int rfl) ev_int)) fun _ => eb_test (K := K) (ev_gt (ev_len (ea_cons (ev_v (ap hH)) ea_nil) (.inr rfl)) ev_int)) (fun hb H1 e1 => ?_) fun hb H1 e1 => ?_
    · have hr2 := of_decide_eq_true (Bool.and_eq_true_iff.mp hb).2
      cases r with
      | nil => simp at hr2
      | cons c r =>
        have h1 := e1 _ _ hH
        refine ⟨_, rfl, .inl ⟨rfl, _, .inl (.inl h1)⟩, d, _, 2, 2, .int c, rfl, rfl, h1, by decide, by decide, ?_, rfl, _, rfl, d, _, 1, 1, rfl, rfl, upd_same, ?_, ?_⟩
        · unfold seqIndex?
          dsimp only
          rw [if_neg (show ¬ (2 : Int) < 0 by decide), if_pos]
          · rfl
          · rw [Bool.and_eq_true, decide_eq_true_eq, decide_eq_true_eq]
            exact ⟨by decide, by simp only [List.length_map, List.length_cons]; omega⟩
        · show ixN (List.length ((V.int a) :: (V.int b) :: (r.map V.int))) 1 = some 1
          unfold ixN
          rw [if_pos (by decide), if_pos (by rw [List.length_cons, List.length_cons]; omega)]
          rfl
        · exact rest _ a c r (fun x o hx ho => by rw [upd_ne hx, upd_ne hx]; exact e1 _ _ ho) upd_same a0 a1 (r0 c List.mem_cons_self) (fun x hx => r0 x (List.mem_cons_of_mem _ hx)) _ q
    · exact rest _ a b r (fun x o hx ho => e1 _ _ ho) (e1 _ _ hH) a0 a1 b0 r0 _ q
end
end WB

/-! the law's draws -/
namespace WB
open PySem PySem.Spec PyProof.Rows L2
section
variable {K : PySem.W.Frag} {d : Addr} {σ : L2.St} {H : Hp} {te : TE} {E : XK} {p r : Int → Prop}
theorem dp_off {i : Nat} (h : DP K d te σ H (IsI p)) (hp : ∀ n, p n → (0 < n ∧ n < 1000000) ∧ ∀ m, Rg n m → r m) (hd : σ[i]? = some (some (.ref d)) := by rfl) : DP K d (tCall (spOff K) [] E (tCons (tVar i) (tCons te tNil))) σ H (IsI r) :=
  dp_call (da_cons h (da_nil (L := fun ds => ds = []) rfl) fun x xs ⟨n, e, hn⟩ e2 => ⟨n, by rw [e, e2], (hp n hn).1, fun dd ⟨m, e3, hm⟩ => ⟨m, e3, (hp n hn).2 m hm⟩⟩) hd
theorem dp_offC {i : Nat} {n : Int} (h0 : 0 < n) (h1 : n < 1000000) (hd : σ[i]? = some (some (.ref d)) := by rfl) : DP K d (tCall (spOff K) [] E (tCons (tVar i) (tCons (tC (.int n)) tNil))) σ H (IsI (Rg n)) :=
  dp_off (p := fun m => m = n) (dp_int ⟨n, rfl, rfl⟩) (fun m e => ⟨⟨by omega, by omega⟩, fun k hk => e ▸ hk⟩) hd
end
section
variable {P : Program} {w : World} {K : PySem.W.Frag} {mg : Str → Option Value} {base : Heap}
abbrev s__law_mixed : Stmt := topS 29
abbrev N__law_mixed : List Str := ["_law_d", "_law_row", "_law_left", "_law_found"]
theorem sc__law_mixed : FnScope N__law_mixed ["_law_d", "_law_row"] (defScope s__law_mixed) := ⟨rfl, rfl, rfl, by decide +kernel, rfl, by decide +kernel, by decide +kernel⟩
def spMixed (K : PySem.W.Frag) : Sp := spD K (α := List PyData) (fun zs => [.list zs]) (fun zs => zs.length ≤ 900 ∧ ∀ z ∈ zs, noL z = true ∧ Sh 2 z) (fun zs dd => ∃ ys, dd = .list ys ∧ ys.Perm zs)
theorem ok__law_mixed (F : Df K mg "_law_mixed" s__law_mixed) (M : Mg mg) (C__law_off : Cl P w K mg base 1 "_law_off" (spOff K)) : Cl P w K mg base 2 "_law_mixed" (spMixed K) := by
  refine cl_of F sc__law_mixed (fun _ _ _ _ _ _ us hl => match us, hl with | [_, _], _ => rfl) (fun vs H Q E h => ?_) (fun f cdv A outer s H vs Q E hr h => ?_)
  · obtain ⟨d, us, x, rfl, _, h, _⟩ := h
    rw [List.length_cons, h.1.len]
    rfl
  · have nd := sc__law_mixed.nd
    obtain ⟨d, us, zs, rfl, hd, h, ⟨hl, hz⟩, q⟩ := h
    obtain ⟨v1, rfl, h1⟩ := h.one
    refine ⟨_, (pss_cons (ps_set (i := 2) nd rfl (by first | exact Or.inl rfl | exact Or.inr rfl) (pe_callTy (k_listOf K) (by rfl) M.b_list (by decide +kernel) (pa_cons (pv 1) pa_nil)))
      (pss_cons (ps_set (i := 3) nd rfl (by first | exact Or.inl rfl | exact Or.inr rfl) (pe_lst pa_nil))
      (pss_cons (ps_while PassesOwn.never (pt_cmpR (k_neD K hr.units) (pv 2) (pe_lst pa_nil) (nomark _))
        (pss_one (ps_expr (pe_bm PySem.F.plainAttrs_list PySem.F.slot_list_append PySem.F.type_list_append mt_append (pv 3) (pa_cons (pe_bm PySem.F.plainAttrs_list PySem.F.slot_list_pop PySem.F.type_list_pop mt_popAt (pv 2) (pa_cons (pe_cl C__law_off hr (by decide) (by rfl) (pa_cons (pv 0) (pa_cons (pe_callB (k_len K) (by rfl) M.b_len (by decide +kernel) (pa_cons (pv 2) pa_nil)) pa_nil))) pa_nil)) pa_nil)))))
      (pss_one (ps_ret (pv 3)))))), ?_⟩
    refine q_setN (K := K) (ds := zs) (en_list (ea_cons (ev_v h1.1) ea_nil) (.inr rfl)) fun p xs H1 hp e1 hH hx => ?_
    refine q_setN (K := K) (ds := []) (en_lst ea_nil rfl (by simp)) fun q2 ys H2 hq e2 hQ hy => ?_
    have npq : p ≠ q2 := ne_of_none hH hq
    have npd := hd.ne hp
    have nqd := hd.ne (e1.free hq)
    have hn2 := e1.free hq
    refine ⟨fun m σ' H' => ∃ xs ys ds es, σ' = [some (.ref d), some v1, some (.ref p), some (.ref q2)] ∧ Kp d H H' ∧ H' p = some (.lst xs) ∧ H' q2 = some (.lst ys) ∧ TpAll K H' xs ds ∧ TpAll K H' ys es ∧ (ds ++ es).Perm zs ∧ m = ds.length, ⟨_, xs, ys, zs, [], rfl, Kp.of (e1.trans e2) hd, e2 _ _ hH, hQ, hx.same e2, hy, by rw [List.append_nil], rfl⟩, ?_⟩
    rintro m σ' H' ⟨xs, ys, ds, es, rfl, k, hH', hQ', hx', hy', pm, rfl⟩
    have hlen : ds.length + es.length ≤ 900 := by have := pm.length_eq; rw [List.length_append] at this; omega
    have hin : ∀ z ∈ ds, z ∈ zs := fun z h => pm.mem_iff.mp (List.mem_append_left _ h)
    refine eb_test (K := K) (Ev.is (ev_neD (ev_v (d := .list ds) (.l (.inl (.inl hH')) hx')) (EvN.ev (en_lst ea_nil rfl (by simp))) (sh_list (k := 2) fun z h => (hz z (hin z h)).2).ok rfl) rfl) H' (Same.refl H') _ fun H3 e3 => ?_
    rw [eqv_nil]
    cases ds with
    | nil =>
      refine iteF ⟨_, rfl, q _ (.list es) H3 (k.then e3) ⟨.l (.inl (.inl (e3 _ _ hQ'))) (hy'.same e3), fun z => nqd (V.ref.inj z)⟩ ⟨es, rfl, pm⟩⟩
    | cons z0 ds =>
      refine iteT ⟨fun σ' H' => ∃ m', m' < (z0 :: ds).length ∧ ∃ xs ys ds es, σ' = [some (.ref d), some v1, some (.ref p), some (.ref q2)] ∧ Kp d H H' ∧ H' p = some (.lst xs) ∧ H' q2 = some (.lst ys) ∧ TpAll K H' xs ds ∧ TpAll K H' ys es ∧ (ds ++ es).Perm zs ∧ m' = ds.length, fun _ _ z => z, ?_⟩
      have hpos : 0 < (z0 :: ds).length := by simp
      refine pop_app (K := K) (i := 2) (j := 3) ((k.then e3).d2) (e3 _ _ hH') (e3 _ _ hQ') (hx'.same e3) (hy'.same e3) npq npd nqd rfl rfl (dp_off (p := fun m => m = ((z0 :: ds).length : Int)) (dp_ev (fun H4 k4 => ev_len (ea_cons (ev_v (d := .list (z0 :: ds)) (.l (.inl (.inl (k4.st _ _ npd (e3 _ _ hH')))) ((hx'.same e3).kp k4))) ea_nil) (.inr rfl)) rfl ⟨_, rfl, rfl⟩) fun n e => ⟨⟨by omega, by omega⟩, fun m hm => e ▸ hm⟩) (by omega) (by omega) fun n z xs' ys' H5 hn h1 h2 h3 h4 hk hd5 => ?_
      have hnl := (List.getElem?_eq_some_iff.mp hn).1
      refine ⟨_, ?_, xs', ys', _, _, rfl, hk H (k.then e3) hp hn2, h1, h2, h3, h4, (erase_perm hn).trans pm, rfl⟩
      rw [List.length_eraseIdx, if_pos hnl]
      omega

abbrev s__law_some : Stmt := topS 31
abbrev N__law_some : List Str := ["_law_d", "_law_many", "_law_few", "_law_left", "_law_found", "_law_turn"]
theorem sc__law_some : FnScope N__law_some ["_law_d", "_law_many", "_law_few"] (defScope s__law_some) := ⟨rfl, rfl, rfl, by decide +kernel, rfl, by decide +kernel, by decide +kernel⟩
def spSome (K : PySem.W.Frag) : Sp := spD K (α := Nat × Nat) (fun x => [.int x.1, .int x.2]) (fun x => x.1 ≤ 5 ∧ x.2 ≤ 5) (fun x dd => ∃ ns, dd = tI ns ∧ Ms x.1 ns)
def toI : PyData → Int
  | .int i => i
  | _ => 0
theorem toI_dI (ns : List Int) : (dI ns).map toI = ns := by
  rw [dI, List.map_map]
  exact List.map_id _
theorem ok__law_some (F : Df K mg "_law_some" s__law_some) (M : Mg mg) (C__law_off : Cl P w K mg base 1 "_law_off" (spOff K)) : Cl P w K mg base 2 "_law_some" (spSome K) := by
  refine cl_of F sc__law_some (fun _ _ _ _ _ _ us hl => match us, hl with | [_, _, _], _ => rfl) (fun vs H Q E h => ?_) (fun f cdv A outer s H vs Q E hr h => ?_)
  · obtain ⟨d, us, x, rfl, _, h, _⟩ := h
    rw [List.length_cons, h.1.len]
    rfl
  · have nd := sc__law_some.nd
    obtain ⟨d, us, ⟨many, few⟩, rfl, hd, h, ⟨hm5, hf5⟩, q⟩ := h
    obtain ⟨v1, v2, rfl, h1, h2⟩ := h.two
    dsimp only at h1 h2 hm5 hf5 q
    obtain rfl := h1.1.int_inv
    obtain rfl := h2.1.int_inv
    refine ⟨_, (pss_cons (ps_set (i := 3) nd rfl (by first | exact Or.inl rfl | exact Or.inr rfl) (pe_listRg rfl (by rfl) M.b_list (prg_1 (by rfl) M.b_range (pv 1))))
      (pss_cons (ps_set (i := 4) nd rfl (by first | exact Or.inl rfl | exact Or.inr rfl) (pe_lst pa_nil))
      (pss_cons (ps_for PassesOwn.never rfl (pi_range1 (by rfl) M.b_range (pa_cons (pe_callB (call_min2 rfl) (by rfl) M.b_min (by decide +kernel) (pa_cons (pv 1) (pa_cons (pe_cl C__law_off hr (by decide) (by rfl) (pa_cons (pv 0) (pa_cons (pe_op op_add (pv 2) pe_int) pa_nil))) pa_nil))) pa_nil)) (pg_name (i := 5) nd rfl (by first | exact Or.inl rfl | exact Or.inr rfl))
        (pss_one (ps_expr (pe_bm PySem.F.plainAttrs_list PySem.F.slot_list_append PySem.F.type_list_append mt_append (pv 4) (pa_cons (pe_bm PySem.F.plainAttrs_list PySem.F.slot_list_pop PySem.F.type_list_pop mt_popAt (pv 3) (pa_cons (pe_cl C__law_off hr (by decide) (by rfl) (pa_cons (pv 0) (pa_cons (pe_callB (k_len K) (by rfl) M.b_len (by decide +kernel) (pa_cons (pv 3) pa_nil)) pa_nil))) pa_nil)) pa_nil)))))
      (pss_one (ps_ret (pe_callTy (k_tupOf K) (by rfl) M.b_tuple (by decide +kernel) (pa_cons (pe_callB (k_sorted K) (by rfl) M.b_sorted (by decide +kernel) (pa_cons (pv 4) pa_nil)) pa_nil))))))), ?_⟩
    refine q_setN (K := K) (ds := dI (upI many)) (en_rg1 (ev_v (.t (.int _))) (by omega)) fun p xs H1 hp e1 hH hx => ?_
    refine q_setN (K := K) (ds := []) (en_lst ea_nil rfl (by simp)) fun q2 ys H2 hq e2 hQ hy => ?_
    have npq : p ≠ q2 := ne_of_none hH hq
    have npd := hd.ne hp
    have nqd := hd.ne (e1.free hq)
    have hn2 := e1.free hq
    have k2 := Kp.of (e1.trans e2) hd
    have hup : (upI many).length = many := by unfold upI; rw [List.length_map, List.length_range]
    refine dq_forR (K := K) (N := many) k2.d2 (dp_min2 (p := fun m => m = many) (q := fun m => 0 ≤ m) (dp_ev (fun H4 k4 => ev_v (.t (.int _))) rfl ⟨_, rfl, rfl⟩) (dp_off (p := fun m => m = (few : Int) + 1) (dp_add (p := fun m => m = few) (q := fun m => m = 1) (dp_ev (fun H4 k4 => ev_v (.t (.int _))) rfl ⟨_, rfl, rfl⟩) (dp_int ⟨_, rfl, rfl⟩) fun i j h1 h2 => by rw [h1, h2]) fun n e => ⟨⟨by omega, by omega⟩, fun m hm => hm.1⟩) fun i j h1 h2 => ⟨by omega, by omega⟩) (by omega) fun n H3 k3 hn => ?_
    refine ⟨fun i σ' H' => ∃ xs ys ds es b, σ' = [some (.ref d), some (.int many), some (.int few), some (.ref p), some (.ref q2), b] ∧ Kp d H H' ∧ H' p = some (.lst xs) ∧ H' q2 = some (.lst ys) ∧ TpAll K H' xs ds ∧ TpAll K H' ys es ∧ (ds ++ es).Perm (dI (upI many)) ∧ es.length = i, ⟨xs, ys, dI (upI many), [], none, rfl, k2.trans k3, k3.st _ _ npd (e2 _ _ hH), k3.st _ _ nqd hQ, (hx.same e2).kp k3, hy.kp k3, by rw [List.append_nil], rfl⟩, ?_, ?_⟩
    · rintro i σ' H' hi ⟨xs, ys, ds, es, b, rfl, k, hH', hQ', hx', hy', pm, hil⟩
      have hlen : ds.length + es.length = many := by have := pm.length_eq; rw [List.length_append, List.length_map, hup] at this; omega
      refine pop_app (K := K) (i := 3) (j := 4) k.d2 hH' hQ' hx' hy' npq npd nqd rfl rfl (dp_off (p := fun m => m = (ds.length : Int)) (dp_ev (fun H4 k4 => ev_len (ea_cons (ev_v (d := .list ds) (.l (.inl (.inl (k4.st _ _ npd hH'))) (hx'.kp k4))) ea_nil) (.inr rfl)) rfl ⟨_, rfl, rfl⟩) fun n e => ⟨⟨by omega, by omega⟩, fun m hm => e ▸ hm⟩) (by omega) (by omega) fun n z xs' ys' H5 hn h1 h2 h3 h4 hk hd5 => ?_
      refine ⟨xs', ys', _, _, _, rfl, hk H k hp hn2, h1, h2, h3, h4, (erase_perm hn).trans pm, ?_⟩
      rw [List.length_append, hil]; rfl
    · rintro σ' H' ⟨xs, ys, ds, es, b, rfl, k, hH', hQ', hx', hy', pm, hil⟩
      have allI : ∀ z ∈ es, ∃ i, z = PyData.int i := fun z hz => by
        obtain ⟨i, _, e⟩ := List.mem_map.mp (pm.mem_iff.mp (List.mem_append_right ds hz))
        exact ⟨i, e.symm⟩
      have he : es = dI (es.map toI) := by
        rw [dI, List.map_map]
        conv => lhs; rw [← List.map_id es]
        refine List.map_congr_left fun z hz => ?_
        obtain ⟨i, rfl⟩ := allI z hz
        rfl
      have pm2 : (ds.map toI ++ es.map toI).Perm (upI many) := by
        have := pm.map toI
        rwa [List.map_append, toI_dI] at this
      have ndU : (ds.map toI ++ es.map toI).Nodup := pm2.nodup_iff.mpr (up_ms many).nodup
      have ndE : (es.map toI).Nodup := (List.nodup_append.mp ndU).2.1
      have hmem : ∀ k ∈ es.map toI, 0 ≤ k ∧ k < (many : Int) := fun k hk => mem_upI.mp (pm2.mem_iff.mp (List.mem_append_right _ hk))
      have hels : (es.map toI).length ≤ 5 := by have := nodup_len ndE hmem; omega
      have hS : Ap K H' (.ref q2) (.list (dI (es.map toI))) := .l (.inl (.inl hQ')) (he ▸ hy')
      refine s_ret (K := K) (ev_tupN (ds := dI (mk many fun m => decide (m ∈ es.map toI))) (en_sorted (ns := es.map toI) (ea_cons (ev_v hS) ea_nil) (by omega) fun ks p s => sort_ms ndE (mk_ms many _).1 (fun k => ?_) p s)) fun v H3 e3 hv => q v (tI (mk many fun m => decide (m ∈ es.map toI))) H3 (k.then e3) (Aq.of (k.then e3).d2 hv rfl) ⟨_, rfl, mk_ms many _⟩
      rw [mem_mk, decide_eq_true_eq]
      exact ⟨fun z => z.2, fun z => ⟨hmem k z, z⟩⟩

abbrev s__law_price : Stmt := topS 32
abbrev N__law_price : List Str := ["_law_d"]
theorem sc__law_price : FnScope N__law_price ["_law_d"] (defScope s__law_price) := ⟨rfl, rfl, rfl, by decide +kernel, rfl, by decide +kernel, by decide +kernel⟩
def spPrice (K : PySem.W.Frag) : Sp := spD K (α := Unit) (fun _ => []) (fun _ => True) (fun _ => IsI (Rg 100))
theorem ok__law_price (F : Df K mg "_law_price" s__law_price) (M : Mg mg) (C__law_off : Cl P w K mg base 1 "_law_off" (spOff K)) : Cl P w K mg base 2 "_law_price" (spPrice K) := by
  refine cl_of F sc__law_price (fun _ _ _ _ _ _ us hl => match us, hl with | [_], _ => rfl) (fun vs H Q E h => ?_) (fun f cdv A outer s H vs Q E hr h => ?_)
  · obtain ⟨d, us, x, rfl, _, h, _⟩ := h
    rw [List.length_cons, h.1.len]
    rfl
  · have nd := sc__law_price.nd
    obtain ⟨d, us, _, rfl, hd, h, _, q⟩ := h
    cases h.1
    refine ⟨_, (pss_one (ps_ret (pe_ix (k_ixL K) (pe_lst (pa_cons (pe_op op_add pe_int (pe_cl C__law_off hr (by decide) (by rfl) (pa_cons (pv 0) (pa_cons pe_int pa_nil)))) (pa_cons (pe_op op_add pe_int (pe_cl C__law_off hr (by decide) (by rfl) (pa_cons (pv 0) (pa_cons pe_int pa_nil)))) (pa_cons pe_int (pa_cons (pe_cl C__law_off hr (by decide) (by rfl) (pa_cons (pv 0) (pa_cons pe_int pa_nil))) pa_nil))))) (pe_cl C__law_off hr (by decide) (by rfl) (pa_cons (pv 0) (pa_cons pe_int pa_nil))) (fun _ _ => rfl)))), ?_⟩
    have one : ∀ H1, Kp d H H1 → DP K d (tOp (rI0 fun i j => .int (i + j)) (tC (.int 1)) (tCall (spOff K) [] E0 (tCons (tVar 0) (tCons (tC (.int 4)) tNil)))) (start N__law_price [.ref d]) H1 (IsI (Rg 100)) := fun H1 k => dp_add (p := fun m => m = 1) (dp_int ⟨1, rfl, rfl⟩) (dp_offC (by decide) (by decide)) fun i j h1 ⟨h2, h3⟩ => ⟨by omega, by omega⟩
    refine ds_ret (K := K) (P := IsI (Rg 100)) hd (dp_pick (n := 4) (da_cons (P1 := IsI (Rg 100)) (L2' := fun ds => ds.length = 3 ∧ ∀ x ∈ ds, IsI (Rg 100) x) (one H (Kp.refl hd)) (da_cons (P1 := IsI (Rg 100)) (L2' := fun ds => ds.length = 2 ∧ ∀ x ∈ ds, IsI (Rg 100) x) (one H (Kp.refl hd)) (da_cons (P1 := IsI (Rg 100)) (L2' := fun ds => ds.length = 1 ∧ ∀ x ∈ ds, IsI (Rg 100) x) (dp_int ⟨0, rfl, by decide, by decide⟩) (da_cons (P1 := IsI (Rg 100)) (L2' := fun ds => ds.length = 0 ∧ ∀ x ∈ ds, IsI (Rg 100) x) (dp_offC (by decide) (by decide)) (da_nil ⟨rfl, fun x h => by simp at h⟩) ?_) ?_) ?_) ?_) (dp_offC (by decide) (by decide)) (by decide)) q
    all_goals exact fun x xs h ⟨h1, h2⟩ => ⟨by rw [List.length_cons, h1], fun y hy => (List.mem_cons.mp hy).elim (fun e => e ▸ h) (h2 y)⟩
end
end WB

/-! the law's names, parts -/
namespace WB
open PySem PySem.Spec PyProof.Rows L2
theorem DA.mono {K : PySem.W.Frag} {d : Addr} {ta : TA} {σ : L2.St} {H : Hp} {L L' : List PyData → Prop} (h : DA K d ta σ H L) (e : ∀ ds, L ds → L' ds) : DA K d ta σ H L' := fun H1 k Q qq => h H1 k Q fun vs ds H2 k2 a hp => qq vs ds H2 k2 a (e ds hp)
theorem Aq.l {K : PySem.W.Frag} {d p : Addr} {H : Hp} {xs : List V} {ds : List PyData} (n : p ≠ d) (h : H p = some (.lst xs)) (hx : TpAll K H xs ds) : Aq K d H (.ref p) (.list ds) := ⟨.l (.inl (.inl h)) hx, fun z => n (V.ref.inj z)⟩
def alphaS : Str := "abcdefghijklmnopqrstuvwxyz"
def oneC (c : Nat) : Str := ⟨#[c]⟩
def repC (c n : Nat) : Str := ⟨(List.replicate n c).toArray⟩
def rotS (t : Nat) : Str := cutS alphaS (some (t : Int)) none ++ cutS alphaS none (some (t : Int))
def sgC (t i : Nat) : Nat := (rotS t).cps.toList.getD i 0
def namesA (t : Nat) : List Str := [oneC (sgC t 0), oneC (sgC t 0) ++ oneC (sgC t 1), oneC (sgC t 1) ++ oneC (sgC t 0), repC (sgC t 2) 6, repC (sgC t 2) 5, cutS (rotS t) (some 3) (some 9), oneC (sgC t 1)]
def namesB (t : Nat) : List Str := (cutS (rotS t) (some 3) (some 12)).cps.toList.map fun c => repC (sgC t 2) 5 ++ oneC c
instance (s : Str) : Decidable (NameOk s) := by unfold NameOk; infer_instance
theorem names_all : ∀ t ∈ List.range 26, (rotS t).cps.toList.length = 26 ∧ (namesA t ++ namesB t).length = 16 ∧ (namesA t ++ namesB t).Nodup ∧ (∀ s ∈ namesA t ++ namesB t, NameOk s) ∧ (namesB t).length ≤ 9 ∧ (cutS (rotS t) (some 3) (some 12)).cps.size ≤ 26 ∧ (cutS alphaS (some (t : Int)) none).length ≤ 26 ∧ (cutS alphaS none (some (t : Int))).length ≤ 26 := by decide +kernel
section
variable {P : Program} {w : World} {K : PySem.W.Frag} {mg : Str → Option Value} {base : Heap}
abbrev s__law_names : Stmt := topS 30
abbrev N__law_names : List Str := ["_law_d", "_law_many", "_law_signs", "_law_turn", "_law_found", "_law_sign"]
theorem sc__law_names : FnScope N__law_names ["_law_d", "_law_many"] (defScope s__law_names) := ⟨rfl, rfl, rfl, by decide +kernel, rfl, by decide +kernel, by decide +kernel⟩
def spNames (K : PySem.W.Frag) : Sp := spD K (α := Nat) (fun n => [.int n]) (fun n => n ≤ 16) (fun n dd => ∃ ss : List Str, dd = .list (ss.map .str) ∧ ss.length = n ∧ ss.Nodup ∧ ∀ s ∈ ss, NameOk s)
theorem perm_map_inv {α β : Type} {f : α → β} {ys : List β} {zs : List α} (h : ys.Perm (zs.map f)) : ∃ zs' : List α, ys = zs'.map f ∧ zs'.Perm zs := by
  generalize he : zs.map f = xs at h
  induction h generalizing zs with
  | nil => 
    cases zs with
    | nil => exact ⟨[], rfl, .refl _⟩
    | cons a l => cases he
  | @cons x l1 l2 h ih =>
    cases zs with
    | nil => cases he
    | cons a l =>
      obtain ⟨e1, e2⟩ := List.cons.inj he
      obtain ⟨zs', e, pm⟩ := ih e2
      exact ⟨a :: zs', by rw [List.map_cons, e, e1], pm.cons a⟩
  | swap x y l =>
    cases zs with
    | nil => cases he
    | cons a l1 =>
      cases l1 with
      | nil => cases he
      | cons b l2 =>
        obtain ⟨e1, e2⟩ := List.cons.inj he
        obtain ⟨e3, e4⟩ := List.cons.inj e2
        exact ⟨b :: a :: l2, by rw [List.map_cons, List.map_cons, e1, e3, e4], List.Perm.swap a b l2⟩
  | trans h1 h2 ih1 ih2 =>
    obtain ⟨z1, e1, p1⟩ := ih2 he
    obtain ⟨z2, e2, p2⟩ := ih1 e1.symm
    exact ⟨z2, e2, p2.trans p1⟩
theorem ok__law_names (F : Df K mg "_law_names" s__law_names) (M : Mg mg) (C__law_off : Cl P w K mg base 1 "_law_off" (spOff K)) (C__law_mixed : Cl P w K mg base 2 "_law_mixed" (spMixed K)) : Cl P w K mg base 3 "_law_names" (spNames K) := by
  refine cl_of F sc__law_names (fun _ _ _ _ _ _ us hl => match us, hl with | [_, _], _ => rfl) (fun vs H Q E h => ?_) (fun f cdv A outer s H vs Q E hr h => ?_)
  · obtain ⟨d, us, x, rfl, _, h, _⟩ := h
    rw [List.length_cons, h.1.len]
    rfl
  · have nd := sc__law_names.nd
    obtain ⟨d, us, many, rfl, hd, h, hm, q⟩ := h
    obtain ⟨v1, rfl, h1⟩ := h.one
    obtain rfl := h1.1.int_inv
    refine ⟨_, (pss_cons (ps_set (i := 2) nd rfl (by first | exact Or.inl rfl | exact Or.inr rfl) pe_str)
      (pss_cons (ps_set (i := 3) nd rfl (by first | exact Or.inl rfl | exact Or.inr rfl) (pe_cl C__law_off hr (by decide) (by rfl) (pa_cons (pv 0) (pa_cons pe_int pa_nil))))
      (pss_cons (ps_set (i := 2) nd rfl (by first | exact Or.inl rfl | exact Or.inr rfl) (pe_op op_add_str (pe_slice sl_str (pv 2) (po_some (pv 3)) po_none) (pe_slice sl_str (pv 2) po_none (po_some (pv 3)))))
      (pss_cons (ps_set (i := 4) nd rfl (by first | exact Or.inl rfl | exact Or.inr rfl) (pe_lst (pa_cons (pe_ix ix_str (pv 2) pe_int (fun _ _ => rfl)) (pa_cons (pe_op op_add_str (pe_ix ix_str (pv 2) pe_int (fun _ _ => rfl)) (pe_ix ix_str (pv 2) pe_int (fun _ _ => rfl))) (pa_cons (pe_op op_add_str (pe_ix ix_str (pv 2) pe_int (fun _ _ => rfl)) (pe_ix ix_str (pv 2) pe_int (fun _ _ => rfl))) (pa_cons (pe_op op_mulS (pe_ix ix_str (pv 2) pe_int (fun _ _ => rfl)) pe_int) (pa_cons (pe_op op_mulS (pe_ix ix_str (pv 2) pe_int (fun _ _ => rfl)) pe_int) (pa_cons (pe_slice sl_str (pv 2) (po_some pe_int) (po_some pe_int)) (pa_cons (pe_ix ix_str (pv 2) pe_int (fun _ _ => rfl)) pa_nil)))))))))
      (pss_cons (ps_set (i := 4) nd rfl (by first | exact Or.inl rfl | exact Or.inr rfl) (pe_op op_cat (pv 4) (pe_lc (own := [("_law_sign", 5)]) (g := gName 5) (by rfl) nd (pi_str (pe_slice sl_str (pv 2) (po_some pe_int) (po_some pe_int))) (blkOk_by (N := N__law_names) (sc := defScope s__law_names) (by decide +kernel)) (fun _ _ _ _ _ => pg_name (i := 5) nd rfl (by first | exact Or.inl rfl | exact Or.inr rfl)) (fun _ _ _ _ _ => pts_nil) (fun _ _ _ _ _ => (pe_op op_add_str (pe_op op_mulS (pe_ix ix_str (pv 2) pe_int (fun _ _ => rfl)) pe_int) (pv 5))))))
      (pss_one (ps_ret (pe_slice (k_slL K) (pe_cl C__law_mixed hr (by decide) (by rfl) (pa_cons (pv 0) (pa_cons (pv 4) pa_nil))) po_none (po_some (pv 1)))))))))), ?_⟩
    refine q_set (K := K) ev_str fun v H1 e1 hv => ?_
    obtain rfl := hv.str_inv
    have hd1 := hd.same e1
    refine dq_set (K := K) hd1 (dp_offC (by decide) (by decide)) fun v dd H2 k2 hv ⟨m, e, m0, m1⟩ => ?_
    subst e
    obtain rfl := hv.1.int_inv
    obtain ⟨t, rfl⟩ : ∃ t : Nat, m = (t : Int) := ⟨m.toNat, by omega⟩
    obtain ⟨n26, n16, nnd, nok, nb9, nc, na1, na2⟩ := names_all t (List.mem_range.mpr (by omega))
    have n26' : (rotS t).length ≤ 1000 := by show (rotS t).cps.size ≤ 1000; rw [← Array.length_toList, n26]; decide
    have len1 : ∀ c, (oneC c).length = 1 := fun c => rfl
    refine q_set (K := K) (d := .str (rotS t)) (ev_addS (ev_slS (ev_v (.t (.str alphaS))) (eo_some (ev_v (.t (.int t)))) eo_none (by decide)) (ev_slS (ev_v (.t (.str alphaS))) eo_none (eo_some (ev_v (.t (.int t)))) (by decide)) (by omega)) fun v H3 e3 hv => ?_
    obtain rfl := hv.str_inv
    have ix : ∀ {H' : Hp} {σ : L2.St} (i : Nat), σ[2]? = some (some (.str (rotS t))) → i < 26 → Ev K (tOp rIxS (tVar 2) (tC (.int i))) σ H' (.str (oneC (sgC t i))) := fun i hσ hi => ev_ixStr (ev_v (.t (.str _)) hσ) ev_int n26' (by
      unfold sgC
      rw [List.getD_eq_getElem?_getD, List.getElem?_eq_getElem (show i < (rotS t).cps.toList.length by rw [n26]; exact hi)]
      rfl)
    refine q_setN (K := K) (ds := (namesA t).map .str) (en_lst (ea_cons (ix 0 rfl (by decide)) (ea_cons (ev_addS (ix 0 rfl (by decide)) (ix 1 rfl (by decide)) (by rw [len1, len1]; decide)) (ea_cons (ev_addS (ix 1 rfl (by decide)) (ix 0 rfl (by decide)) (by rw [len1, len1]; decide)) (ea_cons (ev_mulS (ix 2 rfl (by decide)) ev_int (.inr rfl)) (ea_cons (ev_mulS (ix 2 rfl (by decide)) ev_int (.inl rfl)) (ea_cons (ev_slS (ev_v (.t (.str _))) (eo_some ev_int) (eo_some ev_int) n26') (ea_cons (ix 1 rfl (by decide)) ea_nil))))))) rfl (by show 7 ≤ 1000; decide)) fun p xs H4 hp e4 hH hx => ?_
    refine q_setN (K := K) (ds := (namesA t ++ namesB t).map .str) (List.map_append ▸ en_catM (em_v hH hx) (es := (namesB t).map .str) (em_N (by
      have := en_lcS (K := K) (j := 5) (vs := [5]) (σ := [some (.ref d), some (.int many), some (.str (rotS t)), some (.int t), some (.ref p), none]) (H := H4) (te := tOp (fun x y H Q => ∃ i j, x = .str i ∧ y = .str j ∧ i.length + j.length ≤ sizeLine ∧ Q (.str (i ++ j)) H) (tOp rMulS (tOp rIxS (tVar 2) (tC (.int 2))) (tC (.int 5))) (tVar 5)) (tt := tYes) (tl := tSl rSlS (tVar 2) (tPart (tC (.int 3))) (tPart (tC (.int 12)))) (fun _ => true) (fun c => .str (repC (sgC t 2) 5 ++ oneC c)) (ev_slS (ev_v (.t (.str (rotS t)))) (eo_some ev_int) (eo_some ev_int) n26') (by omega) (fun x => rfl) fun c hc H' e => ⟨eb_yes, fun _ => ⟨rfl, ev_addS (ev_mulS (ix 2 rfl (by decide)) ev_int (.inl rfl)) (ev_v (.t (.str (oneC c)))) (by rw [len1]; show 5 + 1 ≤ 1000; decide)⟩⟩
      rw [filter_tt] at this
      unfold namesB
      rw [List.map_map]
      exact this)) (by rw [List.length_map, List.length_map]; have : (namesA t).length = 7 := rfl; omega)) fun p' xs' H5 hp' e5 hH' hx' => ?_
    have hd5 := ((k2.d2.same e3).same e4).same e5
    have k5 : Kp d H H5 := (((((Kp.of e1 hd).trans k2).then e3).then e4).then e5)
    have nq := ((k2.d2.same e3).same e4).ne hp'
    refine ds_retN (K := K) (L := fun ds => ∃ ss : List Str, ds = ss.map .str ∧ ss.length = many ∧ ss.Nodup ∧ ∀ s ∈ ss, NameOk s) hd5 (dn_slL (n := many) (dp_call ((da_one (dp_v (dd := .list ((namesA t ++ namesB t).map .str)) (P := fun x => x = .list ((namesA t ++ namesB t).map .str)) (Aq.l nq hH' hx') rfl)).mono fun ds ⟨x, ex, ex2⟩ =>
      ⟨(namesA t ++ namesB t).map .str, by rw [ex, ex2], ⟨by rw [List.length_map, n16]; decide, fun z hz => ?_⟩, fun dd ⟨ys, ey, py⟩ => ?_⟩)) fun H6 k6 => ev_v (.t (.int _))) fun p6 xs6 ds6 H6 hp6 k6 hH6 hx6 ⟨ss, es, h⟩ => q _ (.list ds6) H6 (k5.trans k6) (Aq.l (hd5.ne hp6) hH6 hx6) ⟨ss, by rw [es], h⟩
    · obtain ⟨s, hs, rfl⟩ := List.mem_map.mp hz
      exact ⟨rfl, (sh_str (nok s hs)).mono (by decide)⟩
    · obtain ⟨ss, rfl, ps⟩ := perm_map_inv py
      refine ⟨_, ey, ss.take many, by rw [List.map_take], ?_, ?_, fun s hs => nok s (ps.mem_iff.mp (List.mem_of_mem_take hs))⟩
      · rw [List.length_take, ps.length_eq, n16]; omega
      · exact ((ps.nodup_iff).mpr nnd).sublist (List.take_sublist _ _)
end
end WB

/-! the law's yards -/
namespace WB
open PySem PySem.Spec PyProof.Rows L2
theorem Ms.one {n : Nat} {a : Int} (h : Rg n a) : Ms n [a] := ⟨List.pairwise_singleton _ _, fun m hm => by
  obtain rfl := List.mem_singleton.mp hm
  exact h⟩
theorem Ms.snoc {i : Nat} {l : List Int} (h : Ms i l) : Ms (i + 1) (l ++ [(i : Int)]) := by
  refine ⟨List.pairwise_append.mpr ⟨h.1, List.pairwise_singleton _ _, fun a ha b hb => ?_⟩, fun m hm => ?_⟩
  · have := h.2 a ha
    have : b = (i : Int) := by simpa using hb
    omega
  · rcases List.mem_append.mp hm with z | z
    · have := h.2 m z; omega
    · have : m = (i : Int) := by simpa using z
      omega
def IsMs (n : Nat) : PyData → Prop := fun dd => ∃ ns, dd = tI ns ∧ Ms n ns
section
variable {K : PySem.W.Frag} {d : Addr} {σ : L2.St} {H : Hp} {ta tb te : TE} {E : XK} {p r : Int → Prop}
theorem dp_tupRg {n : Nat} (ha : DP K d ta σ H (IsI fun i => 0 ≤ i ∧ i ≤ 1000)) (hb : ∀ H1, Kp d H H1 → Ev K tb σ H1 (.int n)) (hn : n ≤ 1000) : DP K d (tTupRg (tRg2 ta tb)) σ H (IsMs n) := fun H1 k Q qq =>
  ha H1 k _ fun v dd H2 k2 hv ⟨i, e, i0, i1⟩ => hb H2 (k.trans k2) H2 (Same.refl H2) _ fun u H3 e3 hu => by
    subst e
    obtain rfl := hv.1.int_inv
    obtain rfl := hu.int_inv
    refine ⟨i, n, rfl, rfl, RgOk.of_le i0 (by omega) (by omega) (by omega), fun q hq => qq _ (tI ((List.range ((n : Int) - i).toNat).map fun x => i + (x : Nat))) _ (k2.then (e3.trans (Same.new hq))) (Tp.aq (k2.d2.same (e3.trans (Same.new hq))) (.tup upd_same (rgV_data i n))) ⟨_, rfl, ?_, fun m hm => ?_⟩⟩
    · rw [List.pairwise_map]
      exact List.Pairwise.imp (fun h => by omega) List.pairwise_lt_range
    · obtain ⟨x, hx, rfl⟩ := List.mem_map.mp hm
      have := List.mem_range.mp hx
      omega
/-- a call of the law's choice of marks -/
theorem dp_some {i : Nat} {n : Nat} {tb : TE} (hn : n ≤ 5) (ha : DP K d ta σ H (fun x => x = .int n)) (hb : DP K d tb σ H (IsI fun m => 0 ≤ m ∧ m ≤ 5)) (hd : σ[i]? = some (some (.ref d)) := by rfl) : DP K d (tCall (spSome K) [] E (tCons (tVar i) (tCons ta (tCons tb tNil)))) σ H (IsMs n) :=
  dp_call ((da_two ha hb).mono fun ds ⟨x, y, e, ex, m, ey, m0, m1⟩ => ⟨(n, m.toNat), by rw [e, ex, ey]; show _ = [PyData.int n, PyData.int (m.toNat : Nat)]; rw [Int.toNat_of_nonneg m0], ⟨hn, by dsimp only; omega⟩, fun dd h => h⟩) hd
/-- .. among a few ints -/
theorem da_all {P : PyData → Prop} {n : Nat} {t : TA} (h : DP K d te σ H P) (ht : DA K d t σ H (fun ds => ds.length = n ∧ ∀ x ∈ ds, P x)) : DA K d (tCons te t) σ H (fun ds => ds.length = n + 1 ∧ ∀ x ∈ ds, P x) := da_cons h ht fun x xs h ⟨h1, h2⟩ => ⟨by rw [List.length_cons, h1], fun y hy => (List.mem_cons.mp hy).elim (fun e => e ▸ h) (h2 y)⟩
theorem da_end {P : PyData → Prop} : DA K d tNil σ H (fun ds => ds.length = 0 ∧ ∀ x ∈ ds, P x) := da_nil ⟨rfl, fun x h => by simp at h⟩
end
section
variable {P : Program} {w : World} {K : PySem.W.Frag} {mg : Str → Option Value} {base : Heap}
abbrev s__law_parts : Stmt := topS 33
abbrev N__law_parts : List Str := ["_law_d", "_law_many", "_law_way", "_law_k", "_law_one_here", "_law_other", "_law_mark", "_law_strikes", "_law_below", "_law_low", "_law_sets", "_law_needs"]
theorem sc__law_parts : FnScope N__law_parts ["_law_d", "_law_many", "_law_way", "_law_k"] (defScope s__law_parts) := ⟨rfl, rfl, rfl, by decide +kernel, rfl, by decide +kernel, by decide +kernel⟩
def spParts (K : PySem.W.Frag) : Sp := spD K (α := Nat × Int × Nat) (fun x => [.int x.1, .int x.2.1, .int x.2.2]) (fun x => 1 ≤ x.1 ∧ x.1 ≤ 5) (fun x dd => ∃ a b c, dd = .tuple [tI a, tI b, tI c] ∧ Ms x.1 a ∧ Ms x.1 b ∧ Ms x.1 c ∧ ∀ m ∈ b, m ∉ c)
theorem ok__law_parts (F : Df K mg "_law_parts" s__law_parts) (M : Mg mg) (C__law_off : Cl P w K mg base 1 "_law_off" (spOff K)) (C__law_some : Cl P w K mg base 2 "_law_some" (spSome K)) : Cl P w K mg base 3 "_law_parts" (spParts K) := by
  refine cl_of F sc__law_parts (fun _ _ _ _ _ _ us hl => match us, hl with | [_, _, _, _], _ => rfl) (fun vs H Q E h => ?_) (fun f cdv A outer s H vs Q E hr h => ?_)
  · obtain ⟨d, us, x, rfl, _, h, _⟩ := h
    rw [List.length_cons, h.1.len]
    rfl
  · have nd := sc__law_parts.nd
    obtain ⟨d, us, ⟨many, way, k0⟩, rfl, hd, h, ⟨hm1, hm5⟩, q⟩ := h
    obtain ⟨v1, v2, v3, rfl, h1, h2, h3⟩ := h.three
    dsimp only at h1 h2 h3 hm1 hm5 q
    obtain rfl := h1.1.int_inv
    obtain rfl := h2.1.int_inv
    obtain rfl := h3.1.int_inv
    have offM : ∀ {σ : L2.St} {H' : Hp} {E : XK}, σ[0]? = some (some (.ref d)) → σ[1]? = some (some (.int many)) → DP K d (tCall (spOff K) [] E (tCons (tVar 0) (tCons (tVar 1) tNil))) σ H' (IsI (Rg many)) := fun s0 s1 =>
      dp_off (p := fun m => m = (many : Int)) (dp_ev (fun H4 k4 => ev_v (.t (.int _)) s1) rfl ⟨_, rfl, rfl⟩) (fun n e => ⟨⟨by omega, by omega⟩, fun m hm => e ▸ hm⟩) s0
    refine ⟨_, (pss_cons (ps_if (pt_cmpR op_eq (pv 2) pe_int (nomark _))
        (pss_cons (ps_set (i := 4) nd rfl (by first | exact Or.inl rfl | exact Or.inr rfl) (pe_cl C__law_off hr (by decide) (by rfl) (pa_cons (pv 0) (pa_cons (pv 1) pa_nil))))
        (pss_cons (ps_set (i := 5) nd rfl (by first | exact Or.inl rfl | exact Or.inr rfl) (pe_cl C__law_off hr (by decide) (by rfl) (pa_cons (pv 0) (pa_cons (pv 1) pa_nil))))
        (pss_one (ps_ret (pe_tup (pa_cons (pe_tup (pa_cons (pv 4) pa_nil)) (pa_cons (pe_tup (pa_cons (pv 5) pa_nil)) (pa_cons (pe_ifExp (pt_cmpR op_ne (pv 4) (pv 5) (nomark _)) (pe_tup (pa_cons (pv 4) pa_nil)) (pe_tup pa_nil)) pa_nil))))))))
        pss_nil)
      (pss_cons (ps_if (pt_cmpR op_eq (pv 2) pe_int (nomark _))
        (pss_cons (ps_set (i := 6) nd rfl (by first | exact Or.inl rfl | exact Or.inr rfl) (pe_op op_mod (pv 3) (pv 1)))
        (pss_cons (ps_setLc (i := 7) (own := [("_law_below", 8)]) (g := gName 8) (by rfl) nd rfl (by first | exact rfl) (sw_true rfl rfl rfl (by decide +kernel)) (pi_range1 (by rfl) M.b_range (pa_cons (pv 6) pa_nil)) (blkOk_by (N := N__law_parts) (sc := defScope s__law_parts) (by decide +kernel)) (fun _ _ _ _ _ => pg_name (i := 8) nd rfl (by first | exact Or.inl rfl | exact Or.inr rfl)) (fun _ _ _ _ _ => pts_one (pt_cmpR op_eq (pe_cl C__law_off hr (by decide) (by rfl) (pa_cons (pv 0) (pa_cons pe_int pa_nil))) pe_int (nomark _))) (fun _ _ _ _ _ => (pv 8)))
        (pss_one (ps_ret (pe_tup (pa_cons (pe_callTy (k_tupOf K) (by rfl) M.b_tuple (by decide +kernel) (pa_cons (pe_lc (own := [("_law_below", 8)]) (g := gName 8) (by rfl) nd (pi_range1 (by rfl) M.b_range (pa_cons (pv 6) pa_nil)) (blkOk_by (N := N__law_parts) (sc := defScope s__law_parts) (by decide +kernel)) (fun _ _ _ _ _ => pg_name (i := 8) nd rfl (by first | exact Or.inl rfl | exact Or.inr rfl)) (fun _ _ _ _ _ => pts_one (pt_cmpR op_eq (pe_cl C__law_off hr (by decide) (by rfl) (pa_cons (pv 0) (pa_cons pe_int pa_nil))) pe_int (nomark _))) (fun _ _ _ _ _ => (pv 8))) pa_nil)) (pa_cons (pe_tup (pa_cons (pv 6) pa_nil)) (pa_cons (pe_callTy (k_tupOf K) (by rfl) M.b_tuple (by decide +kernel) (pa_cons (pv 7) pa_nil)) pa_nil))))))))
        pss_nil)
      (pss_cons (ps_if (pt_cmpR op_eq (pv 2) pe_int (nomark _))
        (pss_cons (ps_set (i := 6) nd rfl (by first | exact Or.inl rfl | exact Or.inr rfl) (pe_op op_mod (pv 3) (pv 1)))
        (pss_cons (ps_set (i := 9) nd rfl (by first | exact Or.inl rfl | exact Or.inr rfl) (pe_callB (call_max2 rfl) (by rfl) M.b_max (by decide +kernel) (pa_cons pe_int (pa_cons (pe_op op_sub (pv 6) pe_int) pa_nil))))
        (pss_one (ps_ret (pe_tup (pa_cons (pe_tupRg rfl (by rfl) M.b_tuple (prg_2 (by rfl) M.b_range (pe_ix (k_ixL K) (pe_lst (pa_cons (pv 9) (pa_cons pe_int pa_nil))) (pe_callTy call_int1 (by rfl) M.b_int (by decide +kernel) (pa_cons (pe_cmpR op_eq (pe_cl C__law_off hr (by decide) (by rfl) (pa_cons (pv 0) (pa_cons pe_int pa_nil))) pe_int (nomark _)) pa_nil)) (fun _ _ => rfl)) (pv 6))) (pa_cons (pe_tup (pa_cons (pv 6) pa_nil)) (pa_cons (pe_cl C__law_some hr (by decide) (by rfl) (pa_cons (pv 0) (pa_cons (pv 9) (pa_cons (pe_cl C__law_off hr (by decide) (by rfl) (pa_cons (pv 0) (pa_cons pe_int pa_nil))) pa_nil)))) pa_nil))))))))
        pss_nil)
      (pss_cons (ps_set (i := 10) nd rfl (by first | exact Or.inl rfl | exact Or.inr rfl) (pe_cl C__law_some hr (by decide) (by rfl) (pa_cons (pv 0) (pa_cons (pv 1) (pa_cons pe_int pa_nil)))))
      (pss_cons (ps_set (i := 11) nd rfl (by first | exact Or.inl rfl | exact Or.inr rfl) (pe_cl C__law_some hr (by decide) (by rfl) (pa_cons (pv 0) (pa_cons (pv 1) (pa_cons (pe_ix (k_ixL K) (pe_lst (pa_cons pe_int (pa_cons pe_int (pa_cons pe_int (pa_cons (pv 1) pa_nil))))) (pe_cl C__law_off hr (by decide) (by rfl) (pa_cons (pv 0) (pa_cons pe_int pa_nil))) (fun _ _ => rfl)) pa_nil)))))
      (pss_one (ps_ret (pe_tup (pa_cons (pv 11) (pa_cons (pv 10) (pa_cons (pe_callTy (k_tupOf K) (by rfl) M.b_tuple (by decide +kernel) (pa_cons (pe_lc (own := [("_law_mark", 6)]) (g := gName 6) (by rfl) nd (k_tup K (pe_cl C__law_some hr (by decide) (by rfl) (pa_cons (pv 0) (pa_cons (pv 1) (pa_cons pe_int pa_nil))))) (blkOk_by (N := N__law_parts) (sc := defScope s__law_parts) (by decide +kernel)) (fun _ _ _ _ _ => pg_name (i := 6) nd rfl (by first | exact Or.inl rfl | exact Or.inr rfl)) (fun _ _ _ _ _ => pts_one (pt_cmpR (k_notIn K) (pv 6) (pv 10) (by rfl))) (fun _ _ _ _ _ => (pv 6))) pa_nil)) pa_nil))))))))))), ?_⟩
    refine q_if0 (b := decide (way = 2)) (eb_test (K := K) (ev_eqI (ev_v (.t (.int _))) ev_int)) (fun _ H1 e1 => ?_) fun _ H1 e1 => ?_
    · have hd1 := hd.same e1
      refine dq_set (K := K) hd1 (offM rfl rfl) fun v dd H2 k2 hv ⟨a, e, ha⟩ => ?_
      subst e
      obtain rfl := hv.1.int_inv
      refine dq_set (K := K) k2.d2 (offM rfl rfl) fun v dd H3 k3 hv ⟨b, e, hb⟩ => ?_
      subst e
      obtain rfl := hv.1.int_inv
      refine s_ret (K := K) (d := .tuple [tI [a], tI [b], tI (if a = b then [] else [a])]) (ev_tup (ea_cons (ev_tup (ea_cons (ev_v (.t (.int a))) ea_nil) rfl (by simp)) (ea_cons (ev_tup (ea_cons (ev_v (.t (.int b))) ea_nil) rfl (by simp)) (ea_cons (ev_if (b := !decide (a = b)) (eb_test (K := K) (ev_neI (ev_v (.t (.int _))) (ev_v (.t (.int _))))) (fun h => ?_) fun h => ?_) ea_nil))) rfl (by simp)) fun v H4 e4 hv => ?_
      · rw [if_neg (by simpa using h)]
        exact ev_tup (ea_cons (ev_v (.t (.int a))) ea_nil) rfl (by simp)
      · rw [if_pos (by simpa using h)]
        exact ev_tup ea_nil rfl (by simp)
      · have k4 := (((Kp.of e1 hd).trans k2).trans k3).then e4
        refine q v _ H4 k4 (Aq.of k4.d2 hv rfl) ⟨_, _, _, rfl, Ms.one ha, Ms.one hb, ?_, fun m hm => ?_⟩
        · split
          · exact Ms.nil _
          · exact Ms.one ha
        · obtain rfl := List.mem_singleton.mp hm
          split
          · simp
          · rename_i ne
            exact fun z => ne (List.mem_singleton.mp z).symm
    · refine q_if0 (b := decide (way = 3)) (eb_test (K := K) (ev_eqI (ev_v (.t (.int _))) ev_int)) (fun _ H2 e2 => ?_) fun _ H2 e2 => ?_
      · have e12 := e1.trans e2
        refine q_set (K := K) (ev_mod (ev_v (.t (.int _))) (ev_v (.t (.int _))) (by omega)) fun v H3 e3 hv => ?_
        obtain rfl := hv.int_inv
        have g0 : 0 ≤ (k0 : Int) % many := Int.emod_nonneg _ (by omega)
        have g1 : (k0 : Int) % many < many := Int.emod_lt_of_pos _ (by omega)
        obtain ⟨g, hg⟩ : ∃ g : Nat, (k0 : Int) % many = g := ⟨((k0 : Int) % many).toNat, by omega⟩
        rw [hg] at g0 g1 ⊢
        have hd3 := hd.same (e12.trans e3)
        have lc : ∀ {σ : L2.St} {H' : Hp}, σ[0]? = some (some (.ref d)) → σ[6]? = some (some (.int g)) → σ.length = 12 → DN K d (tLc (iRng1 (tCons (tVar 6) tNil)) (gName 8) (tTest (tOp rEq (tCall (spOff K) [] E0 (tCons (tVar 0) (tCons (tC (.int 2)) tNil))) (tC (.int 0)))) (tVar 8) [8]) σ H' (fun ds => ∃ ns, ds = dI ns ∧ Ms g ns) := fun {σ H'} s0 s6 s12 => by
          refine dn_lcR (n := g) (fun i ds => ∃ ns, ds = dI ns ∧ Ms i ns) (fun H5 k5 => ea_cons (ev_v (.t (.int _)) s6) ea_nil) (by omega) ⟨[], rfl, Ms.nil 0⟩ (fun x => ?_) fun i ds H5 hi k5 ⟨ns, e, hn⟩ => ?_
          · show (((σ.set 8 none).set 8 (some x)).set 8 none) = σ.set 8 none
            rw [List.set_set, List.set_set]
          · refine turn_any (db_test (p := fun _ => True) (dp_eqI (p := Rg 2) (q := fun _ => True) (dp_offC (by decide) (by decide) ?_) (dp_int ⟨_, rfl, True.intro⟩))) (dp_ev (dd := .int i) (fun H6 k6 => ev_v (.t (.int _)) ?_) rfl ⟨rfl, ns ++ [(i : Int)], ?_, hn.snoc⟩) ⟨ns, e, hn.mono (Nat.le_succ i)⟩
            · show (((σ.set 8 none).set 8 (some (V.int i))))[0]? = _
              rw [List.set_set, List.getElem?_set_ne (by decide)]
              exact s0
            · show (((σ.set 8 none).set 8 (some (V.int i))))[8]? = _
              rw [List.set_set, List.getElem?_set_self (by omega)]
            · rw [e, dI, dI, List.map_append]; rfl
        refine dq_setN (K := K) hd3 (lc rfl rfl rfl) fun p xs ds H4 hp k4 hH hx ⟨ns, e, hn⟩ => ?_
        subst e
        have npd := hd3.ne hp
        refine ds_ret (K := K) (P := fun dd => ∃ a b c, dd = .tuple [tI a, tI b, tI c] ∧ Ms many a ∧ Ms many b ∧ Ms many c ∧ ∀ m ∈ b, m ∉ c) k4.d2 (dp_tup (L := fun ds => ∃ a, ds = [tI a, tI [(g : Int)], tI ns] ∧ Ms g a) (da_cons (P1 := IsMs g) (L2' := fun ds => ds = [tI [(g : Int)], tI ns]) (dp_tupOf ((lc rfl rfl rfl).dp fun ds ⟨a, e, ha⟩ => ⟨ds, rfl, a, by rw [e], ha⟩)) (da_cons (P1 := fun x => x = tI [(g : Int)]) (L2' := fun ds => ds = [tI ns]) (dp_ev (dd := tI [(g : Int)]) (fun H5 k5 => ev_tup (ea_cons (ev_v (.t (.int _))) ea_nil) rfl (by simp)) rfl rfl) (da_cons (P1 := fun x => x = tI ns) (L2' := fun ds => ds = []) (dp_ev (dd := tI ns) (fun H5 k5 => ev_tupOf (ea_cons (ev_v (d := .list (dI ns)) (.l (.inl (.inl (k5.st _ _ npd hH))) (hx.kp k5))) ea_nil)) rfl rfl) (da_nil rfl) ?_) ?_) ?_) ?_ ?_) fun v dd H5 k5 hv hP => q v dd H5 (((Kp.of (e12.trans e3) hd).trans k4).trans k5) hv hP
        · exact fun x xs h1 h2 => by rw [h1, h2]
        · exact fun x xs h1 h2 => by rw [h1, h2]
        · exact fun x xs ⟨a, e, ha⟩ h2 => ⟨a, by rw [e, h2], ha⟩
        · exact fun ds ⟨a, e, _⟩ => by subst e; exact ⟨rfl, by simp⟩
        · refine fun ds ⟨a, e, ha⟩ => ⟨a, [(g : Int)], ns, by rw [e], ha.mono (by omega), Ms.one ⟨g0, g1⟩, hn.mono (by omega), fun m hm z => ?_⟩
          obtain rfl := List.mem_singleton.mp hm
          have := hn.2 _ z
          omega
      · refine q_if0 (b := decide (way = 4)) (eb_test (K := K) (ev_eqI (ev_v (.t (.int _))) ev_int)) (fun _ H3 e3 => ?_) fun _ H3 e3 => ?_
        · have e13 := (e1.trans e2).trans e3
          refine q_set (K := K) (ev_mod (ev_v (.t (.int _))) (ev_v (.t (.int _))) (by omega)) fun v H4 e4 hv => ?_
          obtain rfl := hv.int_inv
          have g0 : 0 ≤ (k0 : Int) % many := Int.emod_nonneg _ (by omega)
          have g1 : (k0 : Int) % many < many := Int.emod_lt_of_pos _ (by omega)
          obtain ⟨g, hg⟩ : ∃ g : Nat, (k0 : Int) % many = g := ⟨((k0 : Int) % many).toNat, by omega⟩
          rw [hg] at g0 g1 ⊢
          refine q_set (K := K) (ev_max2 (ea_cons ev_int (ea_cons (ev_sub (ev_v (.t (.int _))) ev_int) ea_nil))) fun v H5 e5 hv => ?_
          obtain rfl := hv.int_inv
          rw [show max (0 : Int) ((g : Int) - 1) = ((g - 1 : Nat) : Int) by omega]
          have e15 := (e13.trans e4).trans e5
          have hd5 := hd.same e15
          refine ds_ret (K := K) (P := fun dd => ∃ a b c, dd = .tuple [tI a, tI b, tI c] ∧ Ms many a ∧ Ms many b ∧ Ms many c ∧ ∀ m ∈ b, m ∉ c) hd5 (dp_tup (L := fun ds => ∃ a c, ds = [tI a, tI [(g : Int)], tI c] ∧ Ms g a ∧ Ms (g - 1) c) (da_cons (P1 := IsMs g) (L2' := fun ds => ∃ c, ds = [tI [(g : Int)], tI c] ∧ Ms (g - 1) c)
            (dp_tupRg (dp_pick (n := 2) (da_all (dp_ev (dd := .int (g - 1 : Nat)) (fun H6 k6 => ev_v (.t (.int _))) rfl ⟨_, rfl, by omega, by omega⟩) (da_all (dp_int ⟨0, rfl, by decide, by decide⟩) da_end)) (dp_intB (pb := fun _ => True) (dp_eqI (p := Rg 4) (q := fun _ => True) (dp_offC (by decide) (by decide)) (dp_int ⟨_, rfl, True.intro⟩)) fun b _ => ⟨_, rfl, by cases b <;> decide, by cases b <;> decide⟩) (by decide)) (fun H6 k6 => ev_v (.t (.int _))) (by omega))
            (da_cons (P1 := fun x => x = tI [(g : Int)]) (L2' := fun ds => ∃ c, ds = [tI c] ∧ Ms (g - 1) c) (dp_ev (dd := tI [(g : Int)]) (fun H6 k6 => ev_tup (ea_cons (ev_v (.t (.int _))) ea_nil) rfl (by simp)) rfl rfl)
            (da_cons (P1 := IsMs (g - 1)) (L2' := fun ds => ds = []) (dp_some (n := g - 1) (by omega) (dp_ev (dd := .int (g - 1 : Nat)) (fun H6 k6 => ev_v (.t (.int _))) rfl rfl) ((dp_offC (n := 2) (by decide) (by decide)).mono fun x ⟨i, e, h0, h1⟩ => ⟨i, e, h0, by omega⟩)) (da_nil rfl) ?_) ?_) ?_) ?_ ?_) fun v dd H6 k6 hv hP => q v dd H6 ((Kp.of e15 hd).trans k6) hv hP
          · exact fun x xs ⟨c, e, hc⟩ h2 => ⟨c, by rw [e, h2], hc⟩
          · exact fun x xs h1 ⟨c, e, hc⟩ => ⟨c, by rw [h1, e], hc⟩
          · exact fun x xs ⟨a, e, ha⟩ ⟨c, e2, hc⟩ => ⟨a, c, by rw [e, e2], ha, hc⟩
          · exact fun ds ⟨a, c, e, _⟩ => by subst e; exact ⟨rfl, by simp⟩
          · refine fun ds ⟨a, c, e, ha, hc⟩ => ⟨a, [(g : Int)], c, by rw [e], ha.mono (by omega), Ms.one ⟨g0, g1⟩, hc.mono (by omega), fun m hm z => ?_⟩
            obtain rfl := List.mem_singleton.mp hm
            have := hc.2 _ z
            omega
        · have e13 := (e1.trans e2).trans e3
          have hd3 := hd.same e13
          refine dq_set (K := K) hd3 (dp_some (n := many) hm5 (dp_ev (dd := .int many) (fun H6 k6 => ev_v (.t (.int _))) rfl rfl) (dp_int ⟨2, rfl, by decide, by decide⟩)) fun v10 dd H4 k4 h10 ⟨st, e, hst⟩ => ?_
          subst e
          refine dq_set (K := K) k4.d2 (dp_some (n := many) hm5 (dp_ev (dd := .int many) (fun H6 k6 => ev_v (.t (.int _))) rfl rfl) (dp_pick (n := 4) (da_all (dp_int ⟨2, rfl, by decide, by decide⟩) (da_all (dp_int ⟨2, rfl, by decide, by decide⟩) (da_all (dp_int ⟨2, rfl, by decide, by decide⟩) (da_all (dp_ev (dd := .int many) (fun H6 k6 => ev_v (.t (.int _))) rfl ⟨_, rfl, by omega, by omega⟩) da_end)))) (dp_offC (by decide) (by decide)) (by decide))) fun v11 dd H5 k5 h11 ⟨nd', e, hnd⟩ => ?_
          subst e
          refine ds_ret (K := K) (P := fun dd => ∃ a b c, dd = .tuple [tI a, tI b, tI c] ∧ Ms many a ∧ Ms many b ∧ Ms many c ∧ ∀ m ∈ b, m ∉ c) k5.d2 (dp_tup (L := fun ds => ∃ c, ds = [tI nd', tI st, tI c] ∧ Ms many c ∧ ∀ m ∈ c, m ∉ st) (da_cons (P1 := fun x => x = tI nd') (L2' := fun ds => ∃ c, ds = [tI st, tI c] ∧ Ms many c ∧ ∀ m ∈ c, m ∉ st) (dp_v h11 rfl) (da_cons (P1 := fun x => x = tI st) (L2' := fun ds => ∃ c, ds = [tI c] ∧ Ms many c ∧ ∀ m ∈ c, m ∉ st) (dp_v (h10.kp k5) rfl)
            (da_cons (P1 := fun x => ∃ c, x = tI c ∧ Ms many c ∧ ∀ m ∈ c, m ∉ st) (L2' := fun ds => ds = []) (dp_tupOf ((dn_lcT (R := fun zs => ∃ ns, zs = dI ns ∧ Ms many ns) (L := fun ds => ∃ c, ds = dI c ∧ Ms many c ∧ ∀ m ∈ c, m ∉ st) ((dp_some (n := many) hm5 (dp_ev (dd := .int many) (fun H6 k6 => ev_v (.t (.int _))) rfl rfl) (dp_int ⟨2, rfl, by decide, by decide⟩)).mono fun x ⟨ns, e, hn⟩ => ⟨dI ns, e, ns, rfl, hn⟩) (fun x => rfl) fun zs ⟨ns, e, hn⟩ => ?_).dp fun ds ⟨c, e, hc⟩ => ⟨ds, rfl, c, by rw [e], hc⟩)) (da_nil rfl) ?_) ?_) ?_) ?_ ?_) fun v dd H6 k6 hv hP => q v dd H6 ((((Kp.of e13 hd).trans k4).trans k5).trans k6) hv hP
          · subst e
            have hnl := hn.len
            refine ⟨by rw [List.length_map]; omega, fun i ds => ∃ c, ds = dI c ∧ c.Sublist (ns.take i) ∧ ∀ m ∈ c, m ∉ st, ⟨[], rfl, List.nil_sublist _, fun m hm => by simp at hm⟩, fun i z x ds H' hz k' hx ⟨c, e, hs, hc⟩ => ?_, fun ds ⟨c, e, hs, hc⟩ => ?_⟩
            · rw [List.getElem?_map] at hz
              obtain ⟨m, hm, rfl⟩ := Option.map_eq_some_iff.mp hz
              obtain rfl := hx.1.int_inv
              have ht : ns.take (i + 1) = ns.take i ++ [m] := by rw [List.take_add_one, hm]; rfl
              refine turn_eb (b := !decide (m ∈ st)) (fun H7 k7 => eb_test (K := K) (ev_niT (ev_v (.t (.int _))) (ev_v ((h10.kp k5).kp (k'.trans k7)).1))) (fun hb => dp_ev (dd := .int m) (fun H7 k7 => ev_v (.t (.int _))) rfl ⟨rfl, c ++ [m], ?_, ?_, fun y hy => ?_⟩) fun hb => ⟨c, e, ?_, hc⟩
              · rw [e, dI, dI, List.map_append]; rfl
              · rw [ht]; exact hs.append (List.Sublist.refl _)
              · rcases List.mem_append.mp hy with z | z
                · exact hc y z
                · obtain rfl := List.mem_singleton.mp z
                  simpa using hb
              · rw [ht]; exact hs.trans (List.sublist_append_left _ _)
            · rw [List.length_map, List.take_length] at hs
              exact ⟨c, e, ⟨hn.1.sublist hs, fun m hm => hn.2 m (hs.subset hm)⟩, hc⟩
          · exact fun x xs ⟨c, e, hc⟩ h2 => ⟨c, by rw [e, h2], hc⟩
          · exact fun x xs h1 ⟨c, e, hc⟩ => ⟨c, by rw [h1, e], hc⟩
          · exact fun x xs h1 ⟨c, e, hc⟩ => ⟨c, by rw [h1, e], hc⟩
          · exact fun ds ⟨c, e, _⟩ => by subst e; exact ⟨rfl, by simp⟩
          · exact fun ds ⟨c, e, hc, ha⟩ => ⟨nd', st, c, by rw [e], hnd, hst, hc, fun m hm z => ha m z hm⟩
end
end WB

/-! the law's yard, weights, changes -/
namespace WB
open PySem PySem.Spec PyProof.Rows L2
theorem sh_yard {y : Yard} (ok : y.Ok) : Sh 4 y.dat := by
  refine sh_tup (k := 3) fun x hx => ?_
  simp only [List.mem_cons, List.not_mem_nil, or_false] at hx
  rcases hx with rfl | rfl | rfl | rfl
  · exact (sh_tup (k := 0) fun z hz => by obtain ⟨s, hs, rfl⟩ := List.mem_map.mp hz; exact sh_str (ok.names s hs)).mono (by omega)
  · exact (sh_tup (k := 2) fun z hz => by obtain ⟨s, hs, rfl⟩ := List.mem_map.mp hz; exact sh_deed (ok.deeds s hs).name)
  · exact (sh_tI _).mono (by omega)
  · exact (sh_tI _).mono (by omega)
section
variable {P : Program} {w : World} {K : PySem.W.Frag} {mg : Str → Option Value} {base : Heap}
abbrev s__law_yard : Stmt := topS 34
abbrev N__law_yard : List Str := ["_law_d", "_law_upto", "_law_acts", "_law_many", "_law_way", "_law_names_here", "_law_found", "_law_k", "_law_needs", "_law_sets", "_law_strikes", "_law_begin", "_law_wish"]
theorem sc__law_yard : FnScope N__law_yard ["_law_d", "_law_upto", "_law_acts"] (defScope s__law_yard) := ⟨rfl, rfl, rfl, by decide +kernel, rfl, by decide +kernel, by decide +kernel⟩
def spYard (K : PySem.W.Frag) : Sp := spD K (α := Nat × Nat) (fun x => [.int x.1, .int x.2]) (fun x => (1 ≤ x.1 ∧ x.1 ≤ 5) ∧ 3 ≤ x.2 ∧ x.2 ≤ 10) (fun x dd => ∃ y : Yard, dd = y.dat ∧ y.Ok)
theorem ok__law_yard (F : Df K mg "_law_yard" s__law_yard) (M : Mg mg) (C__law_off : Cl P w K mg base 1 "_law_off" (spOff K)) (C__law_some : Cl P w K mg base 2 "_law_some" (spSome K)) (C__law_names : Cl P w K mg base 3 "_law_names" (spNames K))
    (C__law_parts : Cl P w K mg base 3 "_law_parts" (spParts K)) (C__law_price : Cl P w K mg base 2 "_law_price" (spPrice K)) (C__law_mixed : Cl P w K mg base 2 "_law_mixed" (spMixed K)) : Cl P w K mg base 4 "_law_yard" (spYard K) := by
  refine cl_of F sc__law_yard (fun _ _ _ _ _ _ us hl => match us, hl with | [_, _, _], _ => rfl) (fun vs H Q E h => ?_) (fun f cdv A outer s H vs Q E hr h => ?_)
  · obtain ⟨d, us, x, rfl, _, h, _⟩ := h
    rw [List.length_cons, h.1.len]
    rfl
  · have nd := sc__law_yard.nd
    obtain ⟨d, us, ⟨upto, acts⟩, rfl, hd, h, ⟨⟨u1, u5⟩, a3, a10⟩, q⟩ := h
    obtain ⟨v1, v2, rfl, h1, h2⟩ := h.two
    dsimp only at h1 h2 u1 u5 a3 a10 q
    obtain rfl := h1.1.int_inv
    obtain rfl := h2.1.int_inv
    refine ⟨_, (pss_cons (ps_set (i := 3) nd rfl (by first | exact Or.inl rfl | exact Or.inr rfl) (pe_op op_add pe_int (pe_cl C__law_off hr (by decide) (by rfl) (pa_cons (pv 0) (pa_cons (pv 1) pa_nil)))))
      (pss_cons (ps_set (i := 4) nd rfl (by first | exact Or.inl rfl | exact Or.inr rfl) (pe_cl C__law_off hr (by decide) (by rfl) (pa_cons (pv 0) (pa_cons pe_int pa_nil))))
      (pss_cons (ps_set (i := 5) nd rfl (by first | exact Or.inl rfl | exact Or.inr rfl) (pe_cl C__law_names hr (by decide) (by rfl) (pa_cons (pv 0) (pa_cons (pv 2) pa_nil))))
      (pss_cons (ps_set (i := 6) nd rfl (by first | exact Or.inl rfl | exact Or.inr rfl) (pe_lst pa_nil))
      (pss_cons (ps_if (pt_cmpR op_eq (pv 4) pe_int (nomark _))
        (pss_one (ps_set (i := 3) nd rfl (by first | exact Or.inl rfl | exact Or.inr rfl) (pv 1)))
        pss_nil)
      (pss_cons (ps_for PassesOwn.never rfl (pi_range1 (by rfl) M.b_range (pa_cons (pe_ifExp (pt_cmpR op_lt (pv 4) pe_int (nomark _)) (pe_cl C__law_off hr (by decide) (by rfl) (pa_cons (pv 0) (pa_cons (pe_op op_add (pv 2) pe_int) pa_nil))) (pe_op op_sub (pv 2) (pe_cl C__law_off hr (by decide) (by rfl) (pa_cons (pv 0) (pa_cons pe_int pa_nil))))) pa_nil)) (pg_name (i := 7) nd rfl (by first | exact Or.inl rfl | exact Or.inr rfl))
        (pss_cons (ps_asg (pe_cl C__law_parts hr (by decide) (by rfl) (pa_cons (pv 0) (pa_cons (pv 3) (pa_cons (pv 4) (pa_cons (pv 7) pa_nil))))) (k_gtup K (n := 3) rfl (pgs_cons (pg_name (i := 8) nd rfl (by first | exact Or.inl rfl | exact Or.inr rfl)) (pgs_cons (pg_name (i := 9) nd rfl (by first | exact Or.inl rfl | exact Or.inr rfl)) (pgs_cons (pg_name (i := 10) nd rfl (by first | exact Or.inl rfl | exact Or.inr rfl)) pgs_nil)))))
        (pss_one (ps_expr (pe_bm PySem.F.plainAttrs_list PySem.F.slot_list_append PySem.F.type_list_append mt_append (pv 6) (pa_cons (pe_tup (pa_cons (pe_ix (k_ixL K) (pv 5) (pv 7) (fun _ _ => rfl)) (pa_cons (pv 8) (pa_cons (pv 9) (pa_cons (pv 10) (pa_cons (pe_callB (call_max2 rfl) (by rfl) M.b_max (by decide +kernel) (pa_cons (pe_cl C__law_price hr (by decide) (by rfl) (pa_cons (pv 0) pa_nil)) (pa_cons (pe_callTy call_int1 (by rfl) M.b_int (by decide +kernel) (pa_cons (pe_cmpR op_eq (pv 4) pe_int (nomark _)) pa_nil)) pa_nil))) pa_nil)))))) pa_nil))))))
      (pss_cons (ps_set (i := 11) nd rfl (by first | exact Or.inl rfl | exact Or.inr rfl) (pe_cl C__law_some hr (by decide) (by rfl) (pa_cons (pv 0) (pa_cons (pv 3) (pa_cons (pe_ix (k_ixL K) (pe_lst (pa_cons pe_int (pa_cons pe_int (pa_cons (pv 3) pa_nil)))) (pe_cl C__law_off hr (by decide) (by rfl) (pa_cons (pv 0) (pa_cons pe_int pa_nil))) (fun _ _ => rfl)) pa_nil)))))
      (pss_cons (ps_set (i := 12) nd rfl (by first | exact Or.inl rfl | exact Or.inr rfl) (pe_cl C__law_some hr (by decide) (by rfl) (pa_cons (pv 0) (pa_cons (pv 3) (pa_cons (pe_ix (k_ixL K) (pe_lst (pa_cons pe_int (pa_cons pe_int (pa_cons pe_int (pa_cons (pv 3) pa_nil))))) (pe_cl C__law_off hr (by decide) (by rfl) (pa_cons (pv 0) (pa_cons pe_int pa_nil))) (fun _ _ => rfl)) pa_nil)))))
      (pss_cons (ps_if (PW.pt (pw_and (pt_cmpR op_gt (pv 4) pe_int (nomark _)) (pw_and1 (pt_cmpR op_eq (pe_cl C__law_off hr (by decide) (by rfl) (pa_cons (pv 0) (pa_cons pe_int pa_nil))) pe_int (nomark _)))))
        (pss_one (ps_par (i := 11) (j := 12) rfl nd rfl rfl (by decide) rfl rfl (pa_cons (pe_tup pa_nil) (pa_cons (pe_tup (pa_cons (pe_op op_sub (pv 3) pe_int) pa_nil)) pa_nil)) rfl))
        pss_nil)
      (pss_one (ps_ret (pe_tup (pa_cons (pe_callTy (k_tupOf K) (by rfl) M.b_tuple (by decide +kernel) (pa_cons (pe_cl C__law_names hr (by decide) (by rfl) (pa_cons (pv 0) (pa_cons (pv 3) pa_nil))) pa_nil)) (pa_cons (pe_callTy (k_tupOf K) (by rfl) M.b_tuple (by decide +kernel) (pa_cons (pe_cl C__law_mixed hr (by decide) (by rfl) (pa_cons (pv 0) (pa_cons (pv 6) pa_nil))) pa_nil)) (pa_cons (pv 11) (pa_cons (pv 12) pa_nil)))))))))))))))), ?_⟩
    refine dq_set (K := K) hd (dp_add (p := fun m => m = 1) (q := Rg upto) (r := fun m => 1 ≤ m ∧ m ≤ 5) (dp_int ⟨1, rfl, rfl⟩) (dp_off (p := fun m => m = (upto : Int)) (dp_ev (fun H4 k4 => ev_v (.t (.int _))) rfl ⟨_, rfl, rfl⟩) fun n e => ⟨⟨by omega, by omega⟩, fun m hm => e ▸ hm⟩) fun i j h1 ⟨h2, h3⟩ => ⟨by omega, by omega⟩) fun v dd H1 k1 hv ⟨many0, e, m01, m05⟩ => ?_
    subst e
    obtain rfl := hv.1.int_inv
    refine dq_set (K := K) k1.d2 (dp_offC (by decide) (by decide)) fun v dd H2 k2 hv ⟨way, e, w0, w5⟩ => ?_
    subst e
    obtain rfl := hv.1.int_inv
    refine dq_set (K := K) (P := fun dd => ∃ ss : List Str, dd = .list (ss.map .str) ∧ ss.length = acts ∧ ss.Nodup ∧ ∀ s ∈ ss, NameOk s) k2.d2 (dp_call ((da_one (dp_ev (dd := .int acts) (P := fun x => x = .int acts) (fun H4 k4 => ev_v (.t (.int _))) rfl rfl)).mono fun ds ⟨x, e, ex⟩ => ⟨acts, by rw [e, ex], by omega, fun dd h => h⟩)) fun vn dd H3 k3 hn ⟨ss, e, sl, snd', sok⟩ => ?_
    subst e
    refine q_setN (K := K) (ds := []) (en_lst ea_nil rfl (by simp)) fun p xs H4 hp e4 hH hx => ?_
    have k03 := (k1.trans k2).trans k3
    have npd := k3.d2.ne hp
    refine q_ifJ (b := decide (way = 4)) (fun σ' H' => ∃ m : Nat, (1 ≤ m ∧ m ≤ 5) ∧ σ' = [some (.ref d), some (.int upto), some (.int acts), some (.int m), some (.int way), some vn, some (.ref p), none, none, none, none, none, none] ∧ Same H4 H') (eb_test (K := K) (ev_eqI (ev_v (.t (.int _))) ev_int)) (fun _ H5 e5 N hN => ?_) (fun _ H5 e5 => ?_) fun σ' H5 hC => ?_
    · refine s_set (K := K) (ev_v (.t (.int _))) fun v H6 e6 hv => ?_
      obtain rfl := hv.int_inv
      exact hN _ _ ⟨upto, ⟨u1, u5⟩, rfl, e5.trans e6⟩
    · obtain ⟨m, rfl⟩ : ∃ m : Nat, many0 = (m : Int) := ⟨many0.toNat, by omega⟩
      exact ⟨m, ⟨by omega, by omega⟩, rfl, e5⟩
    · obtain ⟨m, ⟨m1, m5⟩, rfl, e5⟩ := hC
      have e45 := e4.trans e5
      have hd5 := k3.d2.same e45
      refine dq_forR (K := K) (N := acts) hd5 (dp_if (pb := fun _ => True) (db_eb (b := decide (way < 4)) (fun H6 k6 => eb_test (K := K) (ev_lt (ev_v (.t (.int _))) ev_int)) True.intro) (fun _ => dp_off (p := fun m => m = (acts : Int) + 1) (dp_add (p := fun m => m = (acts : Int)) (q := fun m => m = 1) (dp_ev (fun H6 k6 => ev_v (.t (.int _))) rfl ⟨_, rfl, rfl⟩) (dp_int ⟨_, rfl, rfl⟩) fun i j h1 h2 => by rw [h1, h2]) fun n e => ⟨⟨by omega, by omega⟩, fun m hm => ⟨hm.1, by have := hm.2; omega⟩⟩) fun _ => dp_sub (p := fun m => m = (acts : Int)) (q := Rg 3) (dp_ev (fun H6 k6 => ev_v (.t (.int _))) rfl ⟨_, rfl, rfl⟩) (dp_offC (by decide) (by decide)) fun i j h1 ⟨h2, h3⟩ => ⟨by omega, by omega⟩) (by omega) fun n H6 k6 hna => ?_
      have hsl : ss.length = acts := sl
      refine ⟨fun i σ' H' => ∃ xs es a b c e, σ' = [some (.ref d), some (.int upto), some (.int acts), some (.int m), some (.int way), some vn, some (.ref p), a, b, c, e, none, none] ∧ Kp d H3 H' ∧ H' p = some (.lst xs) ∧ TpAll K H' xs (es.map Deed.dat) ∧ es.length = i ∧ es.map Deed.name = ss.take i ∧ ∀ e ∈ es, Deed.Ok m e, ⟨xs, [], none, none, none, none, rfl, (Kp.of e45 k3.d2).trans k6, k6.st _ _ npd (e5 _ _ hH), (hx.same e5).kp k6, rfl, rfl, fun e h => by simp at h⟩, ?_, ?_⟩
      · rintro i σ' H' hi ⟨xs, es, a, b, c, e, rfl, k, hH', hx', hil, hnm, hok⟩
        refine dq_tup (K := K) (L := fun ds => ∃ a b c, ds = [tI a, tI b, tI c] ∧ Ms m a ∧ Ms m b ∧ Ms m c ∧ ∀ m ∈ b, m ∉ c) k.d2 (dp_call ((da_cons (P1 := fun x => x = .int m) (L2' := fun ds => ds = [.int way, .int i]) (L := fun ds => ds = [.int m, .int way, .int i]) (dp_ev (dd := .int m) (fun H7 k7 => ev_v (.t (.int _))) rfl rfl) ((da_two (P1 := fun x => x = .int way) (P2 := fun x => x = .int i) (dp_ev (dd := .int way) (fun H7 k7 => ev_v (.t (.int _))) rfl rfl) (dp_ev (dd := .int i) (fun H7 k7 => ev_v (.t (.int _))) rfl rfl)).mono fun ds ⟨x, y, e, ex, ey⟩ => by rw [e, ex, ey]) fun x xs e1 e2 => by rw [e1, e2]).mono fun ds e => ⟨(m, way, i), e, ⟨m1, m5⟩, fun dd ⟨a, b, c, e, h⟩ => ⟨_, e, rfl, a, b, c, rfl, h⟩⟩)) fun ys ds H7 k7 hy ⟨na, nb, nc, e, ha, hb, hc, hap⟩ => ?_
        subst e
        obtain ⟨x1, r1, rfl, t1, hy⟩ := hy.cons_inv
        obtain ⟨x2, r2, rfl, t2, hy⟩ := hy.cons_inv
        obtain ⟨x3, r3, rfl, t3, hy⟩ := hy.cons_inv
        obtain rfl := hy.nil_inv
        refine ⟨_, _, rfl, _, _, rfl, _, _, rfl, rfl, ?_⟩
        have hi2 : i < ss.length := by omega
        have hn7 := (hn.kp k).kp k7
        refine app_d (K := K) (P := fun z => ∃ e : Deed, z = e.dat ∧ e.name = ss[i] ∧ e.Ok m) (j := 6) k7.d2 (k7.st _ _ npd hH') (hx'.kp k7) npd rfl (dp_tup (L := fun ds => ∃ cost, ds = [.str ss[i], tI na, tI nb, tI nc, .int cost] ∧ Rg 100 cost) (da_cons (P1 := fun x => x = .str ss[i]) (L2' := fun ds => ∃ cost, ds = [tI na, tI nb, tI nc, .int cost] ∧ Rg 100 cost) (dp_ev (dd := .str ss[i]) (fun H8 k8 => ev_ixL (j := i) (ev_v (hn7.kp k8).1) (ev_v (.t (.int _))) (by rw [List.getElem?_map, List.getElem?_eq_getElem hi2]; rfl)) rfl rfl)
          (da_cons (P1 := fun x => x = tI na) (L2' := fun ds => ∃ cost, ds = [tI nb, tI nc, .int cost] ∧ Rg 100 cost) (dp_v (Tp.aq k7.d2 t1) rfl) (da_cons (P1 := fun x => x = tI nb) (L2' := fun ds => ∃ cost, ds = [tI nc, .int cost] ∧ Rg 100 cost) (dp_v (Tp.aq k7.d2 t2) rfl) (da_cons (P1 := fun x => x = tI nc) (L2' := fun ds => ∃ cost, ds = [.int cost] ∧ Rg 100 cost) (dp_v (Tp.aq k7.d2 t3) rfl)
            (da_cons (P1 := IsI (Rg 100)) (L2' := fun ds => ds = []) (dp_max2 (p := Rg 100) (q := fun m => 0 ≤ m ∧ m ≤ 1) (dp_call (da_nil ⟨(), rfl, True.intro, fun dd h => h⟩)) (dp_intB (pb := fun _ => True) (dp_eqI (p := fun _ => True) (q := fun _ => True) (dp_ev (dd := .int way) (fun H8 k8 => ev_v (.t (.int _))) rfl ⟨_, rfl, True.intro⟩) (dp_int ⟨_, rfl, True.intro⟩)) fun b _ => ⟨_, rfl, by cases b <;> decide, by cases b <;> decide⟩) fun i j ⟨h1, h2⟩ ⟨h3, h4⟩ => ⟨by omega, by omega⟩) (da_nil rfl) ?_) ?_) ?_) ?_) ?_) ?_ ?_) (by rw [List.length_map]; omega) fun z ys' H8 ⟨e, hz, hen, heo⟩ hH8 hx8 hk hd8 => ?_
        · exact fun x xs ⟨c, e, hc⟩ h2 => ⟨c, by rw [e, h2], hc⟩
        · exact fun x xs h1 ⟨c, e, hc⟩ => ⟨c, by rw [h1, e], hc⟩
        · exact fun x xs h1 ⟨c, e, hc⟩ => ⟨c, by rw [h1, e], hc⟩
        · exact fun x xs h1 ⟨c, e, hc⟩ => ⟨c, by rw [h1, e], hc⟩
        · exact fun x xs h1 ⟨c, e, hc⟩ => ⟨c, by rw [h1, e], hc⟩
        · exact fun ds ⟨c, e, _⟩ => by subst e; exact ⟨rfl, by simp⟩
        · exact fun ds ⟨c, e, hc'⟩ => by subst e; exact ⟨rfl, ⟨ss[i], na, nb, nc, c⟩, rfl, rfl, ⟨sok _ (List.getElem_mem hi2), ha, hb, hc, hap, hc'.1, by have := hc'.2; dsimp only; omega⟩⟩
        · refine ⟨ys', es ++ [e], _, _, _, _, rfl, hk H3 (k.trans k7) hp, hH8, ?_, by rw [List.length_append, hil]; rfl, ?_, fun e' he => ?_⟩
          · rw [List.map_append, List.map_singleton, ← hz]; exact hx8
          · rw [List.map_append, hnm, List.take_add_one, List.getElem?_eq_getElem hi2, List.map_singleton, hen]; rfl
          · rcases List.mem_append.mp he with z | z
            · exact hok e' z
            · obtain rfl := List.mem_singleton.mp z
              exact heo
      · rintro σ' H7 ⟨xs, es, a, b, c, e, rfl, k7, hH7, hx7, hil, hnm, hok⟩
        refine dq_set (K := K) k7.d2 (dp_some (n := m) m5 (dp_ev (dd := .int m) (fun H8 k8 => ev_v (.t (.int _))) rfl rfl) (dp_pick (n := 3) (da_all (dp_int ⟨2, rfl, by decide, by decide⟩) (da_all (dp_int ⟨1, rfl, by decide, by decide⟩) (da_all (dp_ev (dd := .int m) (fun H6 k6 => ev_v (.t (.int _))) rfl ⟨_, rfl, by omega, by omega⟩) da_end))) (dp_offC (by decide) (by decide)) (by decide))) fun vb dd H8 k8 hb ⟨bs, e, hbs⟩ => ?_
        subst e
        refine dq_set (K := K) k8.d2 (dp_some (n := m) m5 (dp_ev (dd := .int m) (fun H8 k8 => ev_v (.t (.int _))) rfl rfl) (dp_pick (n := 4) (da_all (dp_int ⟨1, rfl, by decide, by decide⟩) (da_all (dp_int ⟨2, rfl, by decide, by decide⟩) (da_all (dp_int ⟨3, rfl, by decide, by decide⟩) (da_all (dp_ev (dd := .int m) (fun H6 k6 => ev_v (.t (.int _))) rfl ⟨_, rfl, by omega, by omega⟩) da_end)))) (dp_offC (by decide) (by decide)) (by decide))) fun vw dd H9 k9 hw ⟨ws, e, hws⟩ => ?_
        subst e
        refine dq_ifJ (pb := fun _ => True) k9.d2 (fun σ' H' => ∃ vb vw bs ws, σ' = [some (.ref d), some (.int upto), some (.int acts), some (.int m), some (.int way), some vn, some (.ref p), a, b, c, e, some vb, some vw] ∧ Kp d H9 H' ∧ Aq K d H' vb (tI bs) ∧ Aq K d H' vw (tI ws) ∧ Ms m bs ∧ Ms m ws) (db_and (p1 := fun _ => True) (p2 := fun _ => True) (db_eb (b := decide (2 < way)) (fun H6 k6 => eb_test (K := K) (ev_gt (ev_v (.t (.int _))) ev_int)) True.intro) (fun _ => db_test (p := fun _ => True) (dp_eqI (p := Rg 2) (q := fun _ => True) (dp_offC (by decide) (by decide)) (dp_int ⟨_, rfl, True.intro⟩))) (fun _ => True.intro) fun _ _ _ => True.intro)
          (fun _ H10 k10 N hN => ?_) (fun _ H10 k10 => ⟨vb, vw, bs, ws, rfl, k10, (hb.kp k9).kp k10, hw.kp k10, hbs, hws⟩) fun σ' H10 hC => ?_
        · refine ea_cons (K := K) (ev_tup (ds := dI []) ea_nil rfl (by simp)) (ea_cons (ev_tup (ds := dI [(m : Int) - 1]) (ea_cons (ev_sub (ev_v (.t (.int _))) ev_int) ea_nil) rfl (by simp)) ea_nil) H10 (Same.refl _) _ fun vs H11 e11 hvs => ?_
          obtain ⟨v, u, rfl, hv, hu⟩ := hvs.two
          exact ⟨v, u, rfl, hN _ _ ⟨v, u, [], [(m : Int) - 1], rfl, k10.then e11, Aq.of (k10.then e11).d2 hv rfl, Aq.of (k10.then e11).d2 hu rfl, Ms.nil _, Ms.one ⟨by omega, by omega⟩⟩⟩
        · obtain ⟨vb, vw, bs, ws, rfl, k10, hb, hw, hbs, hws⟩ := hC
          have k710 := (k8.trans k9).trans k10
          have hfnd : Aq K d H10 (.ref p) (.list (es.map Deed.dat)) := (Aq.l npd hH7 hx7).kp k710
          refine ds_ret (K := K) (P := fun dd => ∃ y : Yard, dd = y.dat ∧ y.Ok) k10.d2 (dp_tup (L := fun ds => ∃ (ms : List Str) (des : List Deed), ds = [.tuple (ms.map .str), .tuple (des.map Deed.dat), tI bs, tI ws] ∧ (ms.length = m ∧ ms.Nodup ∧ ∀ s ∈ ms, NameOk s) ∧ des.Perm es)
            (da_cons (P1 := fun x => ∃ ms : List Str, x = .tuple (ms.map .str) ∧ ms.length = m ∧ ms.Nodup ∧ ∀ s ∈ ms, NameOk s) (L2' := fun ds => ∃ des : List Deed, ds = [.tuple (des.map Deed.dat), tI bs, tI ws] ∧ des.Perm es)
              (dp_tupOf (dp_call ((da_one (dp_ev (dd := .int m) (P := fun x => x = .int m) (fun H4 k4 => ev_v (.t (.int _))) rfl rfl)).mono fun ds ⟨x, e, ex⟩ => ⟨m, by rw [e, ex], by omega, fun dd ⟨ms, e, h⟩ => ⟨_, e, ms, rfl, h⟩⟩)))
              (da_cons (P1 := fun x => ∃ des : List Deed, x = .tuple (des.map Deed.dat) ∧ des.Perm es) (L2' := fun ds => ds = [tI bs, tI ws])
                (dp_tupOf (dp_call ((da_one (dp_v (P := fun x => x = .list (es.map Deed.dat)) hfnd rfl)).mono fun ds ⟨x, e, ex⟩ => ⟨es.map Deed.dat, by rw [e, ex], ⟨by rw [List.length_map]; omega, fun z hz => ?_⟩, fun dd ⟨ys, e, py⟩ => ?_⟩)))
                (da_cons (P1 := fun x => x = tI bs) (L2' := fun ds => ds = [tI ws]) (dp_v hb rfl) (da_cons (P1 := fun x => x = tI ws) (L2' := fun ds => ds = []) (dp_v hw rfl) (da_nil rfl) ?_) ?_) ?_) ?_) ?_ ?_) fun v dd H11 k11 hv hP => q v dd H11 (((k03.trans k7).trans k710).trans k11) hv hP
          · obtain ⟨e, he, rfl⟩ := List.mem_map.mp hz
            exact ⟨rfl, sh_deed (hok e he).name⟩
          · obtain ⟨des, rfl, pd⟩ := perm_map_inv py
            exact ⟨_, e, des, rfl, pd⟩
          · exact fun x xs e1 e2 => by rw [e1, e2]
          · exact fun x xs e1 e2 => by rw [e1, e2]
          · exact fun x xs ⟨des, e, h⟩ e2 => ⟨des, by rw [e, e2], h⟩
          · exact fun x xs ⟨ms, e, h⟩ ⟨des, e2, h2⟩ => ⟨ms, des, by rw [e, e2], h, h2⟩
          · exact fun ds ⟨ms, des, e, _⟩ => by subst e; exact ⟨rfl, by simp⟩
          · refine fun ds ⟨ms, des, e, ⟨ml, mn, mo⟩, pd⟩ => ⟨⟨ms, des, bs, ws⟩, by rw [e]; rfl, ?_⟩
            have hdl := pd.length_eq
            exact ⟨by dsimp only; omega, by dsimp only; omega, mo, mn, by dsimp only; omega, fun e' he => by dsimp only; rw [ml]; exact hok e' (pd.mem_iff.mp he), (((pd.map Deed.name).nodup_iff).mpr (hnm ▸ snd'.sublist (List.take_sublist _ _))), by dsimp only; rw [ml]; exact hbs, by dsimp only; rw [ml]; exact hws⟩

abbrev s__law_weights : Stmt := topS 46
abbrev N__law_weights : List Str := ["_law_d", "_law_t", "_law_way", "_law_mark"]
theorem sc__law_weights : FnScope N__law_weights ["_law_d", "_law_t"] (defScope s__law_weights) := ⟨rfl, rfl, rfl, by decide +kernel, rfl, by decide +kernel, by decide +kernel⟩
def spWts (K : PySem.W.Frag) : Sp := fun vs H Q _ => ∃ (d : Addr) (u : V) (y : Yard), vs = [.ref d, u] ∧ Dice d H ∧ Aq K d H u y.dat ∧ y.Ok ∧ ∀ p xs ns H', H p = none → Kp d H H' → H' p = some (.lst xs) → TpAll K H' xs (dI ns) → ns.length = y.marks.length → Q (.ref p) H'
theorem ok__law_weights (F : Df K mg "_law_weights" s__law_weights) (M : Mg mg) (C__law_off : Cl P w K mg base 1 "_law_off" (spOff K)) : Cl P w K mg base 2 "_law_weights" (spWts K) := by
  refine cl_of F sc__law_weights (fun _ _ _ _ _ _ us hl => match us, hl with | [_, _], _ => rfl) (fun vs H Q E h => ?_) (fun f cdv A outer s H vs Q E hr h => ?_)
  · obtain ⟨d, u, y, rfl, _⟩ := h
    rfl
  · have nd := sc__law_weights.nd
    obtain ⟨d, u, y, rfl, hd, hu, ok, q⟩ := h
    refine ⟨_, (pss_cons (ps_set (i := 2) nd rfl (by first | exact Or.inl rfl | exact Or.inr rfl) (pe_cl C__law_off hr (by decide) (by rfl) (pa_cons (pv 0) (pa_cons pe_int pa_nil))))
      (pss_one (ps_ret (pe_lc (own := [("_law_mark", 3)]) (g := gName 3) (by rfl) nd (k_tup K (pe_ix (k_ixT K) (pv 1) pe_int (fun _ _ => rfl))) (blkOk_by (N := N__law_weights) (sc := defScope s__law_weights) (by decide +kernel)) (fun _ _ _ _ _ => pg_name (i := 3) nd rfl (by first | exact Or.inl rfl | exact Or.inr rfl)) (fun _ _ _ _ _ => pts_nil) (fun _ _ _ _ _ => (pe_ix (k_ixL K) (pe_lst (pa_cons (pe_op op_sub (pe_cl C__law_off hr (by decide) (by rfl) (pa_cons (pv 0) (pa_cons pe_int pa_nil))) pe_int) (pa_cons (pe_op op_sub (pe_cl C__law_off hr (by decide) (by rfl) (pa_cons (pv 0) (pa_cons pe_int pa_nil))) pe_int) (pa_cons pe_int (pa_cons (pe_op op_sub (pe_cl C__law_off hr (by decide) (by rfl) (pa_cons (pv 0) (pa_cons pe_int pa_nil))) pe_int) pa_nil))))) (pv 2) (fun _ _ => rfl))))))), ?_⟩
    refine dq_set (K := K) hd (dp_offC (by decide) (by decide)) fun v dd H1 k1 hv ⟨way, e, w0, w4⟩ => ?_
    subst e
    obtain rfl := hv.1.int_inv
    have h5 := ok.m5
    refine ds_retN (K := K) (L := fun ds => ∃ ns, ds = dI ns ∧ ns.length = y.marks.length) k1.d2 (dn_lcT (R := fun zs => zs = y.marks.map .str) (dp_ev (dd := .tuple (y.marks.map .str)) (fun H2 k2 => ev_ixT (j := 0) (ev_v ((hu.kp k1).kp k2).1) ev_int rfl) rfl ⟨_, rfl, rfl⟩) (fun x => rfl) fun zs e => ⟨by rw [e, List.length_map]; omega, fun i ds => ∃ ns, ds = dI ns ∧ ns.length = i, ⟨[], rfl, rfl⟩, fun i z x ds H' hz k' hx ⟨ns, e, hl⟩ => turn_all ((dp_pick (P := IsI fun _ => True) (n := 4) ?_ (dp_ev (dd := .int way) (fun H2 k2 => ev_v (.t (.int _))) rfl ⟨_, rfl, w0, w4⟩) (by decide)).mono fun dd ⟨i, e2, _⟩ => ⟨by rw [e2]; rfl, ns ++ [i], by rw [e, e2, dI, dI, List.map_append]; rfl, by rw [List.length_append, hl]; rfl⟩), fun ds ⟨ns, e2, hl⟩ => ⟨ns, e2, by rw [hl, e, List.length_map]⟩⟩) fun p xs ds H2 hp k2 hH hx ⟨ns, e, hl⟩ => q p xs ns H2 (k1.free hp) (k1.trans k2) hH (e ▸ hx) hl
    exact da_all (dp_sub (p := Rg 7) (q := fun _ => True) (dp_offC (by decide) (by decide)) (dp_int ⟨_, rfl, True.intro⟩) fun _ _ _ _ => True.intro) (da_all (dp_sub (p := Rg 201) (q := fun _ => True) (dp_offC (by decide) (by decide)) (dp_int ⟨_, rfl, True.intro⟩) fun _ _ _ _ => True.intro) (da_all (dp_int ⟨_, rfl, True.intro⟩) (da_all (dp_sub (p := Rg 3) (q := fun _ => True) (dp_offC (by decide) (by decide)) (dp_int ⟨_, rfl, True.intro⟩) fun _ _ _ _ => True.intro) da_end)))

abbrev s__law_changed : Stmt := topS 52
abbrev N__law_changed : List Str := ["_law_d", "_law_row", "_law_fresh", "_law_at"]
theorem sc__law_changed : FnScope N__law_changed ["_law_d", "_law_row", "_law_fresh"] (defScope s__law_changed) := ⟨rfl, rfl, rfl, by decide +kernel, rfl, by decide +kernel, by decide +kernel⟩
def spChanged (K : PySem.W.Frag) : Sp := spD K (α := List (List Int) × List Int) (fun x => [.list (x.1.map tI), tI x.2]) (fun x => x.1.length ≤ 400) (fun x dd => ∃ rs : List (List Int), dd = .list (rs.map tI) ∧ rs.length ≤ 1000 ∧ ∀ r ∈ rs, r ∈ x.1 ∨ r = x.2)
theorem ok__law_changed (F : Df K mg "_law_changed" s__law_changed) (M : Mg mg) (C__law_off : Cl P w K mg base 1 "_law_off" (spOff K)) : Cl P w K mg base 2 "_law_changed" (spChanged K) := by
  refine cl_of F sc__law_changed (fun _ _ _ _ _ _ us hl => match us, hl with | [_, _, _], _ => rfl) (fun vs H Q E h => ?_) (fun f cdv A outer s H vs Q E hr h => ?_)
  · obtain ⟨d, us, x, rfl, _, h, _⟩ := h
    rw [List.length_cons, h.1.len]
    rfl
  · have nd := sc__law_changed.nd
    obtain ⟨d, us, ⟨rows, fresh⟩, rfl, hd, h, hl, q⟩ := h
    obtain ⟨v1, v2, rfl, h1, h2⟩ := h.two
    dsimp only at h1 h2 hl q
    refine ⟨_, (pss_cons (ps_set (i := 3) nd rfl (by first | exact Or.inl rfl | exact Or.inr rfl) (pe_cl C__law_off hr (by decide) (by rfl) (pa_cons (pv 0) (pa_cons (pe_op op_add (pe_callB (k_len K) (by rfl) M.b_len (by decide +kernel) (pa_cons (pv 1) pa_nil)) pe_int) pa_nil))))
      (pss_one (ps_ret (pe_ix (k_ixL K) (pe_lst (pa_cons (pv 1) (pa_cons (pv 1) (pa_cons (pe_op op_cat (pe_slice (k_slL K) (pv 1) po_none (po_some (pv 3))) (pe_slice (k_slL K) (pv 1) (po_some (pe_op op_add (pv 3) pe_int)) po_none)) (pa_cons (pe_op op_cat (pe_op op_cat (pe_slice (k_slL K) (pv 1) po_none (po_some (pv 3))) (pe_lst (pa_cons (pv 2) pa_nil))) (pe_slice (k_slL K) (pv 1) (po_some (pv 3)) po_none)) pa_nil))))) (pe_cl C__law_off hr (by decide) (by rfl) (pa_cons (pv 0) (pa_cons pe_int pa_nil))) (fun _ _ => rfl))))), ?_⟩
    refine dq_set (K := K) hd (dp_off (p := fun m => m = (rows.length : Int) + 1) (r := fun _ => True) (dp_ev (dd := .int ((rows.map tI).length + 1)) (fun H4 k4 => ev_add (ev_len (ea_cons (ev_v (h1.kp k4).1) ea_nil) (.inr rfl)) ev_int) rfl ⟨_, rfl, by rw [List.length_map]⟩) fun n e => ⟨⟨by omega, by omega⟩, fun m hm => True.intro⟩) fun v dd H1 k1 hv ⟨at', e, _⟩ => ?_
    subst e
    obtain rfl := hv.1.int_inv
    have hr := h1.kp k1
    have hf := h2.kp k1
    have part : ∀ (l u : Option Int), ∃ rs : List (List Int), ((rows.map tI).drop (HT.sIx (rows.map tI).length 0 l)).take (HT.sIx (rows.map tI).length (rows.map tI).length u - HT.sIx (rows.map tI).length 0 l) = rs.map tI ∧ rs.length ≤ rows.length ∧ ∀ r ∈ rs, r ∈ rows := fun l u => ⟨(rows.drop (HT.sIx (rows.map tI).length 0 l)).take (HT.sIx (rows.map tI).length (rows.map tI).length u - HT.sIx (rows.map tI).length 0 l), by rw [List.map_take, List.map_drop], by rw [List.length_take, List.length_drop]; omega, fun r hr => List.mem_of_mem_drop (List.mem_of_mem_take hr)⟩
    have res : DP K d (tVar 1) [some (.ref d), some v1, some v2, some (.int at')] H1 (fun dd => ∃ rs : List (List Int), dd = .list (rs.map tI) ∧ rs.length ≤ 1000 ∧ ∀ r ∈ rs, r ∈ rows ∨ r = fresh) := dp_v hr ⟨rows, rfl, by omega, fun r hr => .inl hr⟩
    refine ds_ret (K := K) k1.d2 (dp_pick (P := fun dd => ∃ rs : List (List Int), dd = .list (rs.map tI) ∧ rs.length ≤ 1000 ∧ ∀ r ∈ rs, r ∈ rows ∨ r = fresh) (n := 4) (da_all res (da_all res (da_all ?_ (da_all ?_ da_end)))) (dp_offC (by decide) (by decide)) (by decide)) fun v dd H2 k2 hv hP => q v dd H2 (k1.trans k2) hv hP
    · obtain ⟨r1, e1, l1, m1⟩ := part none (some at')
      obtain ⟨r2, e2, l2, m2⟩ := part (some (at' + 1)) none
      refine (dn_en (ds := r1.map tI ++ r2.map tI) (P := fun ds => ds = r1.map tI ++ r2.map tI) (fun H2 k2 => en_cat (e1 ▸ en_slL (ev_v (hr.kp k2).1) eo_none (eo_some (ev_v (.t (.int _))))) (e2 ▸ en_slL (ev_v (hr.kp k2).1) (eo_some (ev_add (ev_v (.t (.int _))) ev_int)) eo_none) (by rw [List.length_map, List.length_map]; omega)) rfl).dp fun ds e => ⟨r1 ++ r2, by rw [e, List.map_append], by rw [List.length_append]; omega, fun r h => ?_⟩
      exact (List.mem_append.mp h).elim (fun z => .inl (m1 r z)) fun z => .inl (m2 r z)
    · obtain ⟨r1, e1, l1, m1⟩ := part none (some at')
      obtain ⟨r2, e2, l2, m2⟩ := part (some at') none
      refine (dn_en (ds := (r1.map tI ++ [tI fresh]) ++ r2.map tI) (P := fun ds => ds = (r1.map tI ++ [tI fresh]) ++ r2.map tI) (fun H2 k2 => en_cat (en_cat (e1 ▸ en_slL (ev_v (hr.kp k2).1) eo_none (eo_some (ev_v (.t (.int _))))) (en_lst (ea_cons (ev_v (hf.kp k2).1) ea_nil) rfl (by simp)) (by rw [List.length_map]; simp; omega)) (e2 ▸ en_slL (ev_v (hr.kp k2).1) (eo_some (ev_v (.t (.int _)))) eo_none) (by rw [List.length_append, List.length_map, List.length_map]; simp; omega)) rfl).dp fun ds e => ⟨(r1 ++ [fresh]) ++ r2, by rw [e, List.map_append, List.map_append]; rfl, by rw [List.length_append, List.length_append]; simp; omega, fun r h => ?_⟩
      rcases List.mem_append.mp h with z | z
      · rcases List.mem_append.mp z with y | y
        · exact .inl (m1 r y)
        · exact .inr (List.mem_singleton.mp y)
      · exact .inl (m2 r z)
end
end WB

/-! dicts by tuples of ints -/
namespace WB
open PySem PySem.Spec PyProof.Rows L2
def kI (ns : List Int) : List Key := ns.map Sum.inl
theorem kI_kV (ns : List Int) : (kI ns).map kV = ns.map V.int := by
  unfold kI
  rw [List.map_map]; rfl
theorem kI_inj : ∀ {a b : List Int}, kI a = kI b → a = b
  | [], [], _ => rfl
  | [], _ :: _, h => nomatch h
  | _ :: _, [], h => nomatch h
  | x :: a, y :: b, h => by
    unfold kI at h
    rw [List.map_cons, List.map_cons] at h
    obtain ⟨h1, h2⟩ := List.cons.inj h
    rw [Sum.inl.inj h1, kI_inj (a := a) (b := b) h2]
def tab (R : List (List Int)) (f : List Int → V) : List (List Key × V) := R.map fun r => (kI r, f r)
theorem tab_in {R : List (List Int)} {f : List Int → V} {r : List Int} (h : r ∈ R) : valV (tab R f) (kI r) = some (f r) := by
  induction R with
  | nil => simp at h
  | cons a R ih =>
    by_cases e : a = r
    · subst e; exact valV_pos rfl
    · show valV ((kI a, f a) :: tab R f) (kI r) = _
      rw [valV_neg (fun z => e (kI_inj (show kI a = kI r from z)))]
      exact ih ((List.mem_cons.mp h).resolve_left fun z => e z.symm)
theorem tab_out {R : List (List Int)} {f : List Int → V} {r : List Int} (h : r ∉ R) : valV (tab R f) (kI r) = none := by
  induction R with
  | nil => rfl
  | cons a R ih =>
    show valV ((kI a, f a) :: tab R f) (kI r) = _
    rw [valV_neg (fun z => h (by have := kI_inj (show kI a = kI r from z); rw [this]; exact List.mem_cons_self))]
    exact ih fun z => h (List.mem_cons_of_mem _ z)
theorem tab_some {R : List (List Int)} {f : List Int → V} {r : List Int} : (valV (tab R f) (kI r)).isSome = decide (r ∈ R) := by
  by_cases h : r ∈ R
  · rw [tab_in h]; simp [h]
  · rw [tab_out h]; simp [h]
theorem tab_len (R : List (List Int)) (f : List Int → V) : (tab R f).length = R.length := List.length_map _
theorem tab_congr {R : List (List Int)} {f g : List Int → V} (h : ∀ r ∈ R, f r = g r) : tab R f = tab R g := List.map_congr_left fun r hr => by rw [h r hr]
theorem tab_put_in {R : List (List Int)} {f : List Int → V} {r : List Int} (v : V) (h : r ∈ R) : putK (tab R f) (kI r) v = tab R fun s => if s = r then v else f s := by
  unfold putK
  rw [valV_any, tab_in h, if_pos (show (some (f r)).isSome = true from rfl)]
  unfold tab
  rw [List.map_map]
  refine List.map_congr_left fun s _ => ?_
  show (if kI s = kI r then (kI s, v) else (kI s, f s)) = (kI s, if s = r then v else f s)
  by_cases e : s = r
  · rw [if_pos (by rw [e]), if_pos e]
  · rw [if_neg (fun z => e (kI_inj z)), if_neg e]
theorem tab_put_out {R : List (List Int)} {f : List Int → V} {r : List Int} {v : V} (hv : v = f r) (h : r ∉ R) : putK (tab R f) (kI r) v = tab (R ++ [r]) f := by
  rw [putK_new _ (tab_out h), hv]
  unfold tab
  rw [List.map_append]; rfl
def oV : Option Int → V
  | none => .non
  | some i => .int i
theorem oV_tp {K : PySem.W.Frag} {H : Hp} : ∀ o : Option Int, Tp K H (oV o) (oD o)
  | none => .non
  | some i => .int i
theorem oD_inv {K : PySem.W.Frag} {H : Hp} {v : V} : ∀ {o : Option Int}, Ap K H v (oD o) → v = oV o
  | none, h => Ap.non_inv (show Ap K H v .none from h)
  | some i, h => Ap.int_inv (show Ap K H v (.int i) from h)
theorem Rd.same {H H' : Hp} {p : Addr} {o : HO} (e : Same H H') (h : Rd H p o) : Rd H' p o := h.imp (e _ _) fun ⟨x, y⟩ => ⟨x, e _ _ y⟩
section
variable {K : PySem.W.Frag} {σ : L2.St} {H H0 : Hp} {ta tb tl te td ty tv : TE} {d : PyData} {ds : List PyData} {ns : List Int} {p : Addr} {kvs : List (List Key × V)} {D : Ends} {u tb2 : TS} {g : TG}
theorem dget_of {v : V} {o : Option V} (hp : Rd H p (.dT kvs)) (hv : Ap K H v (tI ns)) (h : valV kvs (kI ns) = o) : DGet H p v o := by
  obtain ⟨b, rfl, hb⟩ := hv.tIT_inv
  exact .inr ⟨kvs, kI ns, b, hp, rfl, by rw [kI_kV]; exact hb, h.symm⟩
theorem ev_dget {i : Nat} {v : V} (hp : Rd H p (.dT kvs)) (hy : Ev K ty σ H (tI ns)) (h : valV kvs (kI ns) = some v) (hd : ∀ H', Tp K H' v d) (si : σ[i]? = some (some (.ref p)) := by rfl) : Ev K (tDGet (tVar i) ty) σ H d := fun H1 e Q q =>
  ⟨_, si, hy H1 e _ fun y H2 e2 hv => ⟨p, v, rfl, dget_of (Rd.same (e.trans e2) hp) hv h, q v H2 e2 (.t (hd H2))⟩⟩
theorem ev_dni {i : Nat} {b : Bool} (hp : Rd H p (.dT kvs)) (hy : Ev K ty σ H (tI ns)) (h : (valV kvs (kI ns)).isSome = b) (si : σ[i]? = some (some (.ref p)) := by rfl) : Ev K (tDNotIn ty (tVar i)) σ H (.bool (!b)) := fun H1 e Q q =>
  hy H1 e _ fun y H2 e2 hv => ⟨_, si, p, _, rfl, dget_of (Rd.same (e.trans e2) hp) hv rfl, by rw [h]; exact q _ H2 e2 (.t (.bl _))⟩
theorem q_dput {i : Nat} (hp : H p = some (.dT kvs)) (hl : kvs.length ≤ 1000) (hv : Ev K tv σ H d) (hy : Ev K ty σ H (tI ns)) (k : ∀ v H1, Same H H1 → Ap K H1 v d → u D σ (upd H1 p (.dT (putK kvs (kI ns) v)))) (si : σ[i]? = some (some (.ref p)) := by rfl) : tSeq (sDPut (tVar i) ty tv) u D σ H :=
  hv H (Same.refl H) _ fun v H1 e1 h1 => ⟨_, si, hy H1 e1 _ fun y H2 e2 h2 => by
    obtain ⟨b, rfl, hb⟩ := h2.tIT_inv
    exact ⟨p, _, rfl, DPut.t (k := kI ns) (e2 _ _ (e1 _ _ hp)) (by rw [kI_kV]; exact hb) (small1000 hl), k v H2 (e1.trans e2) (h1.same e2)⟩⟩
theorem q_app {j : Nat} {q : Addr} {ys : List V} (hq : H q = some (.lst ys)) (hl : ys.length ≤ 1000) (h : Ev K te σ H d) (k : ∀ v H1, Same H H1 → Ap K H1 v d → u D σ (upd H1 q (.lst (ys ++ [v])))) (sj : σ[j]? = some (some (.ref q)) := by rfl) : tSeq (tDrop (tBM K "list" rAppend (tVar j) (tCons te tNil))) u D σ H :=
  ⟨_, sj, .inl ⟨rfl, _, .inl (.inl hq)⟩, h H (Same.refl H) _ fun v H1 e1 h1 => ⟨q, ys, v, rfl, rfl, e1 _ _ hq, small1000 hl, k v H1 e1 h1⟩⟩
/-- over a tuple, while lists and dicts change -/
theorem q_forTm (h : Ev K tl σ H (.tuple ds)) (Pv : Hp → Nat → L2.St → Hp → Prop) (h0 : ∀ H1, Same H H1 → Pv H1 0 σ H1) (hP : ∀ H1 i σ' H', Pv H1 i σ' H' → Tm H1 H')
    (hs : ∀ H1 i d v σ' H', Same H H1 → ds[i]? = some d → Pv H1 i σ' H' → Tp K H' v d → g v σ' H' fun σ2 H2 => tb2 { D with nx := Pv H1 (i + 1), ct := Pv H1 (i + 1), bk := u D } σ2 H2) (hd : ∀ H1 σ' H', Same H H1 → Pv H1 ds.length σ' H' → u D σ' H') :
    tSeq (tFor (iTup K tl) g tb2) u D σ H :=
  h H (Same.refl H) _ fun v H1 e hv => by
    obtain ⟨a, xs, rfl, hq, hx⟩ := hv.tupT_inv
    exact ⟨a, rfl, ⟨xs, .inl (.inl hq)⟩, for_tup (K := K) (a := a) (xs := xs) (g := g) (tb := tb2) (D := { D with nx := u D }) (Pv H1) (h0 H1 e) (fun i σ' H' _ p => .inl (.inl (hP _ _ _ _ p _ _ hq)))
      (fun i x σ' H' hi p => by
        obtain ⟨d, h1, h2⟩ := hx.get hi
        exact hs H1 i d x σ' H' e h1 p (h2.tm (hP _ _ _ _ p))) fun σ' H' p => hd H1 σ' H' e (by rw [← hx.len]; exact p)⟩
/-- over a list that an earlier heap knows -/
theorem q_forLv {i0 : Nat} {v0 : V} (hv : Ap K H0 v0 (.list ds)) (Pv : Nat → L2.St → Hp → Prop) (h0 : Pv 0 σ H) (hP : ∀ i σ' H', Pv i σ' H' → Same H0 H')
    (hs : ∀ i d v σ' H', ds[i]? = some d → Pv i σ' H' → Tp K H' v d → g v σ' H' fun σ2 H2 => tb2 { D with nx := Pv (i + 1), ct := Pv (i + 1), bk := u D } σ2 H2) (hd : ∀ σ' H', Pv ds.length σ' H' → u D σ' H') (si : σ[i0]? = some (some v0) := by rfl) :
    tSeq (tFor (iList K (tVar i0)) g tb2) u D σ H := by
  obtain ⟨a, xs, rfl, hq, hx⟩ := hv.lst_inv
  exact ⟨_, si, a, rfl, ⟨xs, (hP _ _ _ h0).seq hq⟩, for_list (K := K) (a := a) (xs := xs) (g := g) (tb := tb2) (D := { D with nx := u D }) Pv h0 (fun i σ' H' _ p => (hP _ _ _ p).seq hq)
    (fun i x σ' H' hi p => by
      obtain ⟨d, h1, h2⟩ := hx.get hi
      exact hs i d x σ' H' h1 p (h2.same (hP _ _ _ p))) fun σ' H' p => hd σ' H' (by rw [← hx.len]; exact p)⟩
/-- over a new list that the block leaves -/
theorem q_forLN (h : EvN K tl σ H ds) (Pv : Addr → List V → Nat → L2.St → Hp → Prop) (h0 : ∀ a xs H1, H a = none → Same H H1 → H1 a = some (.lst xs) → TpAll K H1 xs ds → Pv a xs 0 σ H1) (hP : ∀ a xs i σ' H', Pv a xs i σ' H' → H' a = some (.lst xs) ∧ TpAll K H' xs ds)
    (hs : ∀ a xs i d v σ' H', ds[i]? = some d → Pv a xs i σ' H' → Tp K H' v d → g v σ' H' fun σ2 H2 => tb2 { D with nx := Pv a xs (i + 1), ct := Pv a xs (i + 1), bk := u D } σ2 H2) (hd : ∀ a xs σ' H', Pv a xs ds.length σ' H' → u D σ' H') :
    tSeq (tFor (iList K tl) g tb2) u D σ H :=
  h H (Same.refl H) _ fun a xs H1 ha e hq hx => ⟨a, rfl, ⟨xs, .inl (.inl hq)⟩, for_list (K := K) (a := a) (xs := xs) (g := g) (tb := tb2) (D := { D with nx := u D }) (Pv a xs) (h0 a xs H1 ha e hq hx) (fun i σ' H' _ p => .inl (.inl (hP _ _ _ _ _ p).1))
    (fun i x σ' H' hi p => by
      obtain ⟨d, h1, h2⟩ := ((hP _ _ _ _ _ p).2).get hi
      exact hs a xs i d x σ' H' h1 p h2) fun σ' H' p => hd a xs σ' H' (by rw [← hx.len]; exact p)⟩
end
/-! counting -/
theorem nodup_sub {α : Type} [DecidableEq α] : ∀ {l m : List α}, l.Nodup → (∀ x ∈ l, x ∈ m) → l.length ≤ m.length
  | [], _, _, _ => Nat.zero_le _
  | a :: l, m, h, hs => by
    obtain ⟨h1, h2⟩ := List.nodup_cons.mp h
    have ha := hs a List.mem_cons_self
    have := nodup_sub (m := m.erase a) h2 fun x hx => (List.mem_erase_of_ne (fun e : x = a => h1 (e ▸ hx))).mpr (hs x (List.mem_cons_of_mem _ hx))
    rw [List.length_erase_of_mem ha] at this
    have : 0 < m.length := List.length_pos_of_mem ha
    simp only [List.length_cons]
    omega
theorem ms_count {n : Nat} {L : List (List Int)} (h5 : n ≤ 5) (nd : L.Nodup) (hm : ∀ s ∈ L, Ms n s) : L.length ≤ 32 := by
  have := nodup_sub nd fun s hs => mem_every.mpr (hm s hs)
  rw [every_len] at this
  have := pow5 h5
  omega
theorem sum_upd {α : Type} [DecidableEq α] {g g' : α → Nat} {r : α} : ∀ {R : List α}, R.Nodup → r ∈ R → (∀ s, s ≠ r → g' s = g s) → (R.map g').sum + g r = (R.map g).sum + g' r
  | [], _, h, _ => by simp at h
  | a :: R, nd, h, he => by
    obtain ⟨h1, h2⟩ := List.nodup_cons.mp nd
    rw [List.map_cons, List.map_cons, List.sum_cons, List.sum_cons]
    by_cases e : a = r
    · subst e
      have : R.map g' = R.map g := List.map_congr_left fun s hs => he s fun z => h1 (z ▸ hs)
      rw [this]; omega
    · have := sum_upd (R := R) h2 ((List.mem_cons.mp h).resolve_left fun z => e z.symm) he
      rw [he a e]; omega
end WB

/-! the law's states, their distances, the cost -/
namespace WB
open PySem PySem.Spec PyProof.Rows L2
/-- what a deed leads on keeps I -/
def Keeps (y : Yard) (I : List Int → Prop) : Prop := I y.start ∧ ∀ s d, d ∈ y.deeds → I s → Ms y.marks.length s → hasB s d.needs = true → I (afterM s d)
structure StInv (y : Yard) (L : List (List Int)) : Prop where
  st : y.start ∈ L
  nd : L.Nodup
  ms : ∀ s ∈ L, Ms y.marks.length s
  ind : ∀ I, Keeps y I → ∀ s ∈ L, I s
def Closed (y : Yard) (L : List (List Int)) : Prop := ∀ s ∈ L, ∀ d ∈ y.deeds, hasB s d.needs = true → afterM s d ∈ L
theorem StInv.snoc {y : Yard} {L : List (List Int)} (h : StInv y L) (ok : y.Ok) {s : List Int} {d : Deed} (hs : s ∈ L) (hd : d ∈ y.deeds) (hh : hasB s d.needs = true) (hn : afterM s d ∉ L) : StInv y (L ++ [afterM s d]) := by
  refine ⟨List.mem_append_left _ h.st, ?_, fun t ht => ?_, fun I k t ht => ?_⟩
  · rw [List.nodup_append]
    exact ⟨h.nd, by simp, fun a ha b hb e => hn (List.mem_singleton.mp hb ▸ e ▸ ha)⟩
  · rcases List.mem_append.mp ht with z | z
    · exact h.ms t z
    · obtain rfl := List.mem_singleton.mp z
      exact after_ms (h.ms s hs) (ok.deeds d hd) ok.m5
  · rcases List.mem_append.mp ht with z | z
    · exact h.ind I k t z
    · obtain rfl := List.mem_singleton.mp z
      exact k.2 s d hd (h.ind I k s hs) (h.ms s hs) hh
section
variable {P : Program} {w : World} {K : PySem.W.Frag} {mg : Str → Option Value} {base : Heap}
abbrev s__law_states : Stmt := topS 37
abbrev N__law_states : List Str := ["_law_t", "_law_found", "_law_known", "_law_at", "_law_deed", "_law_other"]
theorem sc__law_states : FnScope N__law_states ["_law_t"] (defScope s__law_states) := ⟨rfl, rfl, rfl, by decide +kernel, rfl, by decide +kernel, by decide +kernel⟩
def spStates (K : PySem.W.Frag) : Sp := fun vs H Q _ => ∃ (v : V) (y : Yard), vs = [v] ∧ Ap K H v y.dat ∧ y.Ok ∧ ∀ p xs L H', H p = none → Same H H' → H' p = some (.lst xs) → TpAll K H' xs (L.map tI) → StInv y L → Closed y L → Q (.ref p) H'
def StAt (K : PySem.W.Frag) (H : Hp) (y : Yard) (p q : Addr) (L : List (List Int)) (H' : Hp) : Prop := Same H H' ∧ (∃ xs, H' p = some (.lst xs) ∧ TpAll K H' xs (L.map tI)) ∧ H' q = some (.dT (tab L fun _ => .bl true)) ∧ StInv y L
theorem ok__law_states (F : Df K mg "_law_states" s__law_states) (M : Mg mg) (C__law_after : Cl P w K mg base 1 "_law_after" (spBehind K)) (C__law_has : Cl P w K mg base 1 "_law_has" (spHas K)) : Cl P w K mg base 2 "_law_states" (spStates K) := by
  refine cl_of F sc__law_states (fun _ _ _ _ _ _ us hl => match us, hl with | [_], _ => rfl) (fun vs H Q E h => ?_) (fun f cdv A outer s H vs Q E hr h => ?_)
  · obtain ⟨_, _, rfl, _⟩ := h
    rfl
  · have nd := sc__law_states.nd
    obtain ⟨v1, y, rfl, h1, ok, q0⟩ := h
    have h5 := ok.m5
    refine ⟨_, (pss_cons (ps_set (i := 1) nd rfl (by first | exact Or.inl rfl | exact Or.inr rfl) (pe_lst (pa_cons (pe_ix (k_ixT K) (pv 0) pe_int (fun _ _ => rfl)) pa_nil)))
      (pss_cons (ps_set (i := 2) nd rfl (by first | exact Or.inl rfl | exact Or.inr rfl) (pe_disp1T (hu_of hr) (pe_ix (k_ixT K) (pv 0) pe_int (fun _ _ => rfl)) pe_bl))
      (pss_cons (ps_set (i := 3) nd rfl (by first | exact Or.inl rfl | exact Or.inr rfl) pe_int)
      (pss_cons (ps_while PassesOwn.never (pt_cmpR op_lt (pv 3) (pe_callB (k_len K) (by rfl) M.b_len (by decide +kernel) (pa_cons (pv 1) pa_nil)) (nomark _))
        (pss_cons (ps_for PassesOwn.never rfl (k_tup K (pe_ix (k_ixT K) (pv 0) pe_int (fun _ _ => rfl))) (pg_name (i := 4) nd rfl (by first | exact Or.inl rfl | exact Or.inr rfl))
          (pss_cons (ps_set (i := 5) nd rfl (by first | exact Or.inl rfl | exact Or.inr rfl) (pe_cl C__law_after hr (by decide) (by rfl) (pa_cons (pe_ix (k_ixL K) (pv 1) (pv 3) (fun _ _ => rfl)) (pa_cons (pv 4) pa_nil))))
          (pss_one (ps_if (PW.pt (pw_and (pt_val (pe_cl C__law_has hr (by decide) (by rfl) (pa_cons (pe_ix (k_ixL K) (pv 1) (pv 3) (fun _ _ => rfl)) (pa_cons (pe_ix (k_ixT K) (pv 4) pe_int (fun _ _ => rfl)) pa_nil)))) (pw_and1 (pt_cmp (pc_dnotin (hu_of hr) (pv 5) (pv 2)) (by rfl)))))
            (pss_cons (ps_dput (hu_of hr) (pv 2) (pv 5) pe_bl rfl)
            (pss_one (ps_expr (pe_bm PySem.F.plainAttrs_list PySem.F.slot_list_append PySem.F.type_list_append mt_append (pv 1) (pa_cons (pv 5) pa_nil)))))
            pss_nil))))
        (pss_one (ps_set (i := 3) nd rfl (by first | exact Or.inl rfl | exact Or.inr rfl) (pe_op op_add (pv 3) pe_int)))))
      (pss_one (ps_ret (pv 1))))))), ?_⟩
    refine q_setN (K := K) (ds := [tI y.start]) (en_lst (ea_cons (ev_ixT (j := 2) (ev_v h1) ev_int rfl) ea_nil) rfl (by simp)) fun p xs H1 hp e1 hH hx => ?_
    refine show tSeq _ _ _ _ _ from fun q hq => ?_
    have eq1 := Same.new (o := .dT []) hq
    refine ev_ixT (K := K) (j := 2) (d := tI y.start) (ev_v ((h1.same e1).same eq1)) ev_int rfl _ (Same.refl _) _ fun v H2 e2 hv => ?_
    obtain ⟨b, rfl, hb⟩ := hv.tIT_inv
    have npq : p ≠ q := ne_of_none hH hq
    have hq0 := e1.free hq
    refine ⟨b, kI y.start, rfl, e2 _ _ upd_same, by rw [kI_kV]; exact hb, ?_⟩
    refine q_set (K := K) ev_int fun v H4 e4 hv => ?_
    obtain rfl := hv.int_inv
    have sH : Same H (upd H2 q (.dT (putK [] (kI y.start) (.bl true)))) := Same.mut (e1.trans (eq1.trans e2)) hq0
    have st0 : StAt K H y p q [y.start] H4 := by
      refine ⟨sH.trans e4, ⟨xs, e4 _ _ ?_, ?_⟩, e4 _ _ upd_same, ⟨by simp, by simp, fun s hs => List.mem_singleton.mp hs ▸ ok.start, fun I k s hs => List.mem_singleton.mp hs ▸ k.1⟩⟩
      · rw [upd_ne npq]
        exact e2 _ _ (eq1 _ _ hH)
      · exact ((((hx.same eq1).same e2).tm (Tm.updD (e2 _ _ upd_same)))).same e4
    refine ⟨fun m σ' H' => ∃ L i a b, σ' = [some v1, some (.ref p), some (.ref q), some (.int (i : Nat)), a, b] ∧ StAt K H y p q L H' ∧ i ≤ L.length ∧ (∀ s ∈ L.take i, ∀ d ∈ y.deeds, hasB s d.needs = true → afterM s d ∈ L) ∧ m = 33 - i, ⟨33, [y.start], 0, none, none, rfl, st0, Nat.zero_le _, fun s hs => by simp at hs, rfl⟩, ?_⟩
    rintro m σ' H' ⟨L, i, a, b', rfl, ⟨sm, ⟨xs', hH', hx'⟩, hQ', inv⟩, hi, hcl, rfl⟩
    have hL := ms_count h5 inv.nd inv.ms
    refine eb_test (K := K) (ev_lt (ev_v (.t (.int _))) (ev_len (ea_cons (ev_v (d := .list (L.map tI)) (.l (.inl (.inl hH')) hx')) ea_nil) (.inr rfl))) H' (Same.refl H') _ fun H5 e5 => ?_
    rw [List.length_map]
    by_cases hil : i < L.length
    · rw [decide_eq_true (by omega)]
      refine iteT ⟨fun σ' H' => ∃ m', m' < 33 - i ∧ ∃ L i a b, σ' = [some v1, some (.ref p), some (.ref q), some (.int (i : Nat)), a, b] ∧ StAt K H y p q L H' ∧ i ≤ L.length ∧ (∀ s ∈ L.take i, ∀ d ∈ y.deeds, hasB s d.needs = true → afterM s d ∈ L) ∧ m' = 33 - i, fun _ _ z => z, ?_⟩
      refine q_forTm (K := K) (ev_ixT (j := 1) (ev_v (h1.same (sm.trans e5))) ev_int rfl) (fun H6 j σ' H' => Tm H6 H' ∧ ∃ M a b, σ' = [some v1, some (.ref p), some (.ref q), some (.int (i : Nat)), a, b] ∧ StAt K H y p q (L ++ M) H' ∧ ∀ d ∈ y.deeds.take j, hasB L[i] d.needs = true → afterM L[i] d ∈ L ++ M) (fun H6 e6 => ⟨Tm.refl _, [], a, b', rfl, by rw [List.append_nil]; exact ⟨(sm.trans e5).trans e6, ⟨xs', e6 _ _ (e5 _ _ hH'), (hx'.same e5).same e6⟩, e6 _ _ (e5 _ _ hQ'), inv⟩, fun d hd => by simp at hd⟩) (fun _ _ _ _ p => p.1) (fun H6 j z u σ' H7 e6 hj pr tu => ?_) fun H6 σ' H7 e6 pr => ?_
      · obtain ⟨tm, M', a, b', rfl, ⟨sm7, ⟨xs7, hH7, hx7⟩, hQ7, inv7⟩, hcd⟩ := pr
        rw [List.getElem?_map] at hj
        obtain ⟨d, hd', rfl⟩ := Option.map_eq_some_iff.mp hj
        have hdm := List.mem_of_getElem? hd'
        have hdo := (ok.deeds d hdm).five h5
        have hnl := hdo.needs.len
        have hget : (L ++ M')[i]? = some L[i] := by rw [List.getElem?_append_left hil, List.getElem?_eq_getElem hil]
        have hin : L[i] ∈ L ++ M' := List.mem_of_getElem? hget
        have hms := (inv7.ms _ hin).mono h5
        have hlen7 := ms_count h5 inv7.nd inv7.ms
        have apF : ∀ {H8}, Same H7 H8 → Ap K H8 (.ref p) (.list ((L ++ M').map tI)) := fun e => .l (.inl (.inl (e _ _ hH7))) (hx7.same e)
        have ixF : ∀ {H8} {σ : L2.St}, Same H7 H8 → σ[1]? = some (some (.ref p)) → σ[3]? = some (some (.int (i : Nat))) → Ev K (tOp (rIxL K) (tVar 1) (tVar 3)) σ H8 (tI L[i]) := fun e s1 s3 => ev_ixL (j := i) (ev_v (apF e) s1) (ev_v (.t (.int _)) s3) (by rw [List.getElem?_map, hget]; rfl)
        have next : ∀ N : List (List Int), (∀ s ∈ L ++ M', s ∈ L ++ N) → (hasB L[i] d.needs = true → afterM L[i] d ∈ L ++ N) → ∀ d' ∈ y.deeds.take (j + 1), hasB L[i] d'.needs = true → afterM L[i] d' ∈ L ++ N := fun N hs hn d' hd'' hh => by
          rw [List.take_add_one, hd', List.mem_append] at hd''
          rcases hd'' with z | z
          · exact hs _ (hcd d' z hh)
          · obtain rfl : d' = d := by simpa using z
            exact hn hh
        refine q_set (K := K) (ev_call (L[i], d) (ea_cons (ixF (Same.refl _) rfl rfl) (ea_cons (ev_v (.t tu)) ea_nil)) ⟨hms, hdo⟩) fun x H8 e8 hxx => ?_
        refine z_seq (q_if0 (b := hasB L[i] d.needs && !decide (afterM L[i] d ∈ L ++ M')) (eb_and (a := hasB L[i] d.needs) (b := !decide (afterM L[i] d ∈ L ++ M')) (eb_B (K := K) (ev_call (false, L[i], d.needs) (ea_cons (ixF e8 rfl rfl) (ea_cons (ev_ixT (j := 1) (ev_v (.t (tu.same e8))) ev_int rfl) ea_nil)) (by dsimp only; omega))) fun _ => eb_B (K := K) (ev_dni (.inl (e8 _ _ hQ7)) (ev_v hxx) tab_some)) (fun hb H9 e9 => ?_) fun hb H9 e9 => ?_)
        · obtain ⟨hh, hn⟩ := Bool.and_eq_true_iff.mp hb
          have hn : afterM L[i] d ∉ L ++ M' := by simpa using hn
          have e79 := e8.trans e9
          refine q_dput (K := K) (e79 _ _ hQ7) (by rw [tab_len]; omega) ev_bl (ev_v (hxx.same e9)) fun v H10 e10 hv => ?_
          obtain rfl := hv.bl_inv
          have e710 := e79.trans e10
          rw [tab_put_out (f := fun _ => V.bl true) rfl hn]
          have tq : Tm H10 (upd H10 q (.dT (tab (L ++ M' ++ [afterM L[i] d]) fun _ => .bl true))) := Tm.updD (e710 _ _ hQ7)
          have smq : Same H (upd H10 q (.dT (tab (L ++ M' ++ [afterM L[i] d]) fun _ => .bl true))) := Same.mut (sm7.trans e710) hq0
          have hp10 : upd H10 q (.dT (tab (L ++ M' ++ [afterM L[i] d]) fun _ => .bl true)) p = some (.lst xs7) := by rw [upd_ne npq]; exact e710 _ _ hH7
          refine z_seq (q_app (K := K) hp10 (by rw [hx7.len, List.length_map]; omega) (ev_v (d := tI (afterM L[i] d)) (.t ((((hxx.tp rfl).same e9).same e10).tm tq))) fun v H11 e11 hv => ?_)
          have tp : Tm H11 (upd H11 p (.lst (xs7 ++ [v]))) := Tm.updL (e11 _ _ hp10)
          refine ⟨(((tm.trans (Tm.of e710)).trans tq).trans (Tm.of e11)).trans tp, M' ++ [afterM L[i] d], _, _, rfl, ?_, next _ (fun s hs => by rw [← List.append_assoc]; exact List.mem_append_left _ hs) fun _ => by rw [← List.append_assoc]; exact List.mem_append_right _ (by simp)⟩
          rw [← List.append_assoc]
          refine ⟨Same.mut (smq.trans e11) hp, ⟨_, upd_same, ?_⟩, ?_, inv7.snoc ok hin hdm hh hn⟩
          · rw [List.map_append]
            exact ((((hx7.same e710).tm tq).same e11).tm tp).app (.cons ((hv.tp rfl).tm tp) .nil)
          · rw [upd_ne (fun z => npq z.symm)]
            exact e11 _ _ upd_same
        · have e79 := e8.trans e9
          refine ⟨tm.trans (Tm.of e79), M', _, _, rfl, ⟨sm7.trans e79, ⟨xs7, e79 _ _ hH7, hx7.same e79⟩, e79 _ _ hQ7, inv7⟩, next _ (fun s hs => hs) fun hh => ?_⟩
          rw [hh, Bool.true_and] at hb
          exact of_decide_eq_true (not_f hb)
      · obtain ⟨tm, M', a, b', rfl, ⟨sm7, ⟨xs7, hH7, hx7⟩, hQ7, inv7⟩, hcd⟩ := pr
        rw [List.length_map, List.take_length] at hcd
        refine z_seq (q_set (K := K) (ev_add (ev_v (.t (.int _))) ev_int) fun v H8 e8 hv => ?_)
        obtain rfl := hv.int_inv
        refine ⟨33 - (i + 1), by omega, L ++ M', i + 1, a, b', rfl, ⟨sm7.trans e8, ⟨xs7, e8 _ _ hH7, hx7.same e8⟩, e8 _ _ hQ7, inv7⟩, by rw [List.length_append]; omega, fun s hs d hd hh => ?_, rfl⟩
        rw [List.take_append_of_le_length (by omega), List.take_add_one, List.getElem?_eq_getElem hil, List.mem_append] at hs
        rcases hs with z | z
        · exact List.mem_append_left _ (hcl s z d hd hh)
        · obtain rfl : s = L[i] := by simpa using z
          exact hcd d hd hh
    · rw [decide_eq_false (by omega)]
      refine iteF ⟨_, rfl, q0 p xs' L H5 hp (sm.trans e5) (e5 _ _ hH') (hx'.same e5) inv fun s hs => hcl s ?_⟩
      rw [List.take_of_length_le (by omega)]
      exact hs

abbrev s__law_far : Stmt := topS 39
abbrev N__law_far : List Str := ["_law_t", "_law_spots", "_law_far_here", "_law_state", "_law_goes", "_law_deed", "_law_there"]
theorem sc__law_far : FnScope N__law_far ["_law_t", "_law_spots"] (defScope s__law_far) := ⟨rfl, rfl, rfl, by decide +kernel, rfl, by decide +kernel, by decide +kernel⟩
def spFar (K : PySem.W.Frag) : Sp := fun vs H Q _ => ∃ (v u : V) (y : Yard) (L : List (List Int)), vs = [v, u] ∧ Ap K H v y.dat ∧ Ap K H u (.list (L.map tI)) ∧ y.Ok ∧ StInv y L ∧ Closed y L ∧ (∀ s ∈ L, hasB s y.wish = false) ∧ ∀ p H', Same H H' → H' p = some (.dT (tab L fun _ => .non)) → Q (.ref p) H'
theorem ok__law_far (F : Df K mg "_law_far" s__law_far) (M : Mg mg) (C__law_after : Cl P w K mg base 1 "_law_after" (spBehind K)) (C__law_has : Cl P w K mg base 1 "_law_has" (spHas K)) (C__law_least : Cl P w K mg base 1 "_law_least" (spLeast K)) : Cl P w K mg base 2 "_law_far" (spFar K) := by
  refine cl_of F sc__law_far (fun _ _ _ _ _ _ us hl => match us, hl with | [_, _], _ => rfl) (fun vs H Q E h => ?_) (fun f cdv A outer s H vs Q E hr h => ?_)
  · obtain ⟨_, _, _, _, rfl, _⟩ := h
    rfl
  · have nd := sc__law_far.nd
    obtain ⟨v1, v2, y, L, rfl, h1, h2, ok, inv, hcl, hw, q0⟩ := h
    have h5 := ok.m5
    have hL := ms_count h5 inv.nd inv.ms
    have hwl := ok.wish.len
    refine ⟨_, (pss_cons (ps_set (i := 2) nd rfl (by first | exact Or.inl rfl | exact Or.inr rfl) pe_dnewT)
      (pss_cons (ps_for PassesOwn.never rfl (k_list K (pv 1)) (pg_name (i := 3) nd rfl (by first | exact Or.inl rfl | exact Or.inr rfl))
        (pss_one (ps_dput (hu_of hr) (pv 2) (pv 3) (pe_ifExp (pt_val (pe_cl C__law_has hr (by decide) (by rfl) (pa_cons (pv 3) (pa_cons (pe_ix (k_ixT K) (pv 0) pe_int (fun _ _ => rfl)) pa_nil)))) pe_int pe_non) rfl)))
      (pss_cons (ps_set (i := 4) nd rfl (by first | exact Or.inl rfl | exact Or.inr rfl) pe_bl)
      (pss_cons (ps_while PassesOwn.never (pt_val (pv 4))
        (pss_cons (ps_set (i := 4) nd rfl (by first | exact Or.inl rfl | exact Or.inr rfl) pe_bl)
        (pss_one (ps_for PassesOwn.never rfl (k_list K (pv 1)) (pg_name (i := 3) nd rfl (by first | exact Or.inl rfl | exact Or.inr rfl))
          (pss_one (ps_for PassesOwn.never rfl (k_tup K (pe_ix (k_ixT K) (pv 0) pe_int (fun _ _ => rfl))) (pg_name (i := 5) nd rfl (by first | exact Or.inl rfl | exact Or.inr rfl))
            (pss_one (ps_if (pt_val (pe_cl C__law_has hr (by decide) (by rfl) (pa_cons (pv 3) (pa_cons (pe_ix (k_ixT K) (pv 5) pe_int (fun _ _ => rfl)) pa_nil))))
              (pss_cons (ps_set (i := 6) nd rfl (by first | exact Or.inl rfl | exact Or.inr rfl) (pe_dget (hu_of hr) (pv 2) (pe_cl C__law_after hr (by decide) (by rfl) (pa_cons (pv 3) (pa_cons (pv 5) pa_nil))) (fun _ _ => rfl)))
              (pss_one (ps_if (PW.pt (pw_and (pt_cmpR op_notN (pv 6) pe_non (nomark _)) (pw_and1 (pt_val (pe_cl C__law_least hr (by decide) (by rfl) (pa_cons (pe_op op_add (pv 6) (pe_ix (k_ixT K) (pv 5) pe_int (fun _ _ => rfl))) (pa_cons (pe_dget (hu_of hr) (pv 2) (pv 3) (fun _ _ => rfl)) pa_nil)))))))
                (pss_cons (ps_dput (hu_of hr) (pv 2) (pv 3) (pe_op op_add (pv 6) (pe_ix (k_ixT K) (pv 5) pe_int (fun _ _ => rfl))) rfl)
                (pss_one (ps_set (i := 4) nd rfl (by first | exact Or.inl rfl | exact Or.inr rfl) pe_bl)))
                pss_nil)))
              pss_nil))))))))
      (pss_one (ps_ret (pv 2))))))), ?_⟩
    refine show tSeq _ _ _ _ _ from fun p hp => ?_
    have e1 := Same.new (o := .dT []) hp
    refine q_forLv (K := K) h2 (fun i σ' H' => ∃ a, σ' = [some v1, some v2, some (.ref p), a, none, none, none] ∧ Same H H' ∧ H' p = some (.dT (tab (L.take i) fun _ => .non))) ⟨none, rfl, e1, upd_same⟩ (fun i σ' H' pr => pr.choose_spec.2.1) (fun i z v σ' H' hi pr tv => ?_) fun σ' H' pr => ?_
    · obtain ⟨a, rfl, sm, hQ⟩ := pr
      rw [List.getElem?_map] at hi
      obtain ⟨st, hst, rfl⟩ := Option.map_eq_some_iff.mp hi
      have hsm := List.mem_of_getElem? hst
      refine z_seq (q_dput (K := K) (d := .none) hQ (by rw [tab_len, List.length_take]; omega) (ev_if (b := false) (EvB.is (eb_B (K := K) (ev_call (false, st, y.wish) (ea_cons (ev_v (.t tv)) (ea_cons (ev_ixT (j := 3) (ev_v (h1.same sm)) ev_int rfl) ea_nil)) (by dsimp only; omega))) (hw st hsm)) (fun z => nomatch z) fun _ => ev_non) (ev_v (.t tv)) fun v' H2 e2 hv' => ?_)
      obtain rfl := hv'.non_inv
      rw [tab_put_out (f := fun _ => V.non) rfl (notin_take inv.nd hst)]
      refine ⟨_, rfl, Same.mut (sm.trans e2) hp, ?_⟩
      rw [upd_same, List.take_add_one, hst]; rfl
    · obtain ⟨a, rfl, sm, hQ⟩ := pr
      rw [List.length_map, List.take_length] at hQ
      refine q_set (K := K) ev_bl fun v H2 e2 hv => ?_
      obtain rfl := hv.bl_inv
      refine ⟨fun m σ' H' => ∃ b a c d, σ' = [some v1, some v2, some (.ref p), a, some (.bl b), c, d] ∧ Same H H' ∧ H' p = some (.dT (tab L fun _ => .non)) ∧ m = (if b = true then 1 else 0), ⟨1, true, a, none, none, rfl, sm.trans e2, e2 _ _ hQ, rfl⟩, ?_⟩
      rintro m σ' H' ⟨b, a, c, d, rfl, sm, hQ, rfl⟩
      refine eb_B (K := K) (ev_v (.t (.bl b))) H' (Same.refl H') _ fun H3 e3 => ?_
      cases b with
      | false => exact iteF ⟨_, rfl, q0 p H3 (sm.trans e3) (e3 _ _ hQ)⟩
      | true =>
        refine iteT ⟨fun σ' H' => ∃ m', m' < 1 ∧ ∃ b a c d, σ' = [some v1, some v2, some (.ref p), a, some (.bl b), c, d] ∧ Same H H' ∧ H' p = some (.dT (tab L fun _ => .non)) ∧ m' = (if b = true then 1 else 0), fun _ _ z => z, ?_⟩
        refine q_set (K := K) ev_bl fun v H4 e4 hv => ?_
        obtain rfl := hv.bl_inv
        refine z_seq (q_forLv (K := K) h2 (fun i σ' H' => ∃ a c d, σ' = [some v1, some v2, some (.ref p), a, some (.bl false), c, d] ∧ Same H H' ∧ H' p = some (.dT (tab L fun _ => .non))) ⟨a, c, d, rfl, (sm.trans e3).trans e4, e4 _ _ (e3 _ _ hQ)⟩ (fun i σ' H' ⟨_, _, _, _, z, _⟩ => z) (fun i z v σ' H5 hi pr tv => ?_) fun σ' H' ⟨a, c, d, e, sm, hQ⟩ => ⟨0, by decide, false, a, c, d, e, sm, hQ, rfl⟩)
        obtain ⟨a, c, d, rfl, sm, hQ⟩ := pr
        rw [List.getElem?_map] at hi
        obtain ⟨st, hst, rfl⟩ := Option.map_eq_some_iff.mp hi
        have hsm := List.mem_of_getElem? hst
        have hms := (inv.ms _ hsm).mono h5
        refine z_seq (q_forT (K := K) (ev_ixT (j := 1) (ev_v (h1.same sm)) ev_int rfl) (fun H6 j σ' H' => Same H5 H6 ∧ Same H6 H' ∧ ∃ c d, σ' = [some v1, some v2, some (.ref p), some v, some (.bl false), c, d]) (fun H6 e6 => ⟨e6, Same.refl _, c, d, rfl⟩) (fun _ _ _ _ p => p.2.1) (fun H6 j z u σ' H7 e6 hj pr tu => ?_) fun H6 σ' H7 e6 pr => ?_)
        · obtain ⟨e6, e7, c, d', rfl⟩ := pr
          rw [List.getElem?_map] at hj
          obtain ⟨d, hd', rfl⟩ := Option.map_eq_some_iff.mp hj
          have hdm := List.mem_of_getElem? hd'
          have hdo := (ok.deeds d hdm).five h5
          have hnl := hdo.needs.len
          have e67 := e6.trans e7
          refine z_seq (q_if0 (b := hasB st d.needs) (eb_B (K := K) (ev_call (false, st, d.needs) (ea_cons (ev_v (.t (tv.same e67))) (ea_cons (ev_ixT (j := 1) (ev_v (.t tu)) ev_int rfl) ea_nil)) (by dsimp only; omega))) (fun hb H8 e8 => ?_) fun hb H8 e8 => ?_)
          rotate_left
          · exact ⟨e6, e7.trans e8, _, _, rfl⟩
          have e68 := e67.trans e8
          refine q_set (K := K) (d := .none) (ev_dget (v := .non) (.inl (e68 _ _ hQ)) (ev_call (st, d) (ea_cons (ev_v (.t (tv.same e68))) (ea_cons (ev_v (.t (tu.same e8))) ea_nil)) ⟨hms, hdo⟩) (tab_in (f := fun _ => V.non) (hcl st hsm d hdm hb)) fun _ => .non) fun v9 H9 e9 hv9 => ?_
          exact z_seq (q_no (EvB.is (eb_and (a := false) (b := false) (eb_test (K := K) (Ev.is (ev_notN (ev_v hv9)) rfl)) (fun z => nomatch z)) rfl) fun H10 e10 => ⟨e6, e7.trans (e8.trans (e9.trans e10)), _, _, rfl⟩)
        · obtain ⟨e6, e7, c, d, rfl⟩ := pr
          exact ⟨_, _, _, rfl, sm.trans (e6.trans e7), (e6.trans e7) _ _ hQ⟩

abbrev s__law_cost : Stmt := topS 40
abbrev N__law_cost : List Str := ["_law_t"]
theorem sc__law_cost : FnScope N__law_cost ["_law_t"] (defScope s__law_cost) := ⟨rfl, rfl, rfl, by decide +kernel, rfl, by decide +kernel, by decide +kernel⟩
def spCost (K : PySem.W.Frag) : Sp := fun vs H Q _ => ∃ (v : V) (y : Yard) (I : List Int → Prop), vs = [v] ∧ Ap K H v y.dat ∧ y.Ok ∧ Keeps y I ∧ (∀ s, Ms y.marks.length s → I s → hasB s y.wish = false) ∧ ∀ H', Same H H' → Q .non H'
theorem ok__law_cost (F : Df K mg "_law_cost" s__law_cost) (M : Mg mg) (C__law_far : Cl P w K mg base 2 "_law_far" (spFar K)) (C__law_states : Cl P w K mg base 2 "_law_states" (spStates K)) : Cl P w K mg base 3 "_law_cost" (spCost K) := by
  refine cl_of F sc__law_cost (fun _ _ _ _ _ _ us hl => match us, hl with | [_], _ => rfl) (fun vs H Q E h => ?_) (fun f cdv A outer s H vs Q E hr h => ?_)
  · obtain ⟨_, _, _, rfl, _⟩ := h
    rfl
  · have nd := sc__law_cost.nd
    obtain ⟨v1, y, I, rfl, h1, ok, hk, hw, q0⟩ := h
    refine ⟨_, (pss_one (ps_ret (pe_dget (hu_of hr) (pe_cl C__law_far hr (by decide) (by rfl) (pa_cons (pv 0) (pa_cons (pe_cl C__law_states hr (by decide) (by rfl) (pa_cons (pv 0) pa_nil)) pa_nil))) (pe_ix (k_ixT K) (pv 0) pe_int (fun _ _ => rfl)) (fun _ _ => rfl)))), ?_⟩
    refine ⟨_, rfl, _, rfl, v1, y, rfl, h1, ok, fun p xs L H1 hp e1 hH hx inv hcl => ?_⟩
    refine ⟨v1, .ref p, y, L, rfl, h1.same e1, .l (.inl (.inl hH)) hx, ok, inv, hcl, fun s hs => hw s (inv.ms s hs) (inv.ind I hk s hs), fun q H2 e2 hQ => ?_⟩
    refine ev_ixT (K := K) (j := 2) (d := tI y.start) (ev_v ((h1.same e1).same e2)) ev_int rfl H2 (Same.refl _) _ fun v H3 e3 hv => ⟨q, .non, rfl, dget_of (.inl (e3 _ _ hQ)) hv (tab_in (f := fun _ => V.non) inv.st), q0 H3 ((e1.trans e2).trans e3)⟩
end
end WB

/-! the law's table of rows -/
namespace WB
open PySem PySem.Spec PyProof.Rows L2
theorem TpAll.opts {K : PySem.W.Frag} {H : Hp} : ∀ {vs : List V} {os : List (Option Int)}, TpAll K H vs (os.map oD) → vs = os.map oV
  | _, [], h => by cases h; rfl
  | _, o :: os, h => by
    obtain ⟨v, r, rfl, h1, h2⟩ := h.cons_inv
    rw [oD_inv (.t h1), TpAll.opts h2]; rfl
theorem inV_none (os : List (Option Int)) : inV .non (os.map oV) = decide (none ∈ os) := by
  unfold inV
  rw [List.any_map]
  induction os with
  | nil => simp
  | cons o os ih =>
    rw [List.any_cons, ih]
    cases o with
    | none => show (true || _) = _; simp
    | some i => show (false || _) = _; simp
theorem flat_opts (os : List (Option Int)) : (os.map oV).all flatV = true := by
  rw [List.all_map]
  refine List.all_eq_true.mpr fun o _ => ?_
  cases o <;> rfl
theorem max_of : ∀ {ns : List Int}, ns ≠ [] → ∃ m ∈ ns, ∀ y ∈ ns, y ≤ m
  | [], h => absurd rfl h
  | [a], _ => ⟨a, by simp, fun y hy => by rw [List.mem_singleton.mp hy]; exact Int.le_refl _⟩
  | a :: b :: l, _ => by
    obtain ⟨m, hm, h⟩ := max_of (ns := b :: l) (by simp)
    by_cases e : m ≤ a
    · exact ⟨a, List.mem_cons_self, fun y hy => (List.mem_cons.mp hy).elim (fun z => by omega) fun z => by have := h y z; omega⟩
    · exact ⟨m, List.mem_cons_of_mem _ hm, fun y hy => (List.mem_cons.mp hy).elim (fun z => by omega) (h y)⟩
theorem somes : ∀ {os : List (Option Int)}, none ∉ os → ∃ ns : List Int, os = ns.map some
  | [], _ => ⟨[], rfl⟩
  | o :: os, h => by
    obtain ⟨ns, e⟩ := somes (os := os) fun z => h (List.mem_cons_of_mem _ z)
    cases o with
    | none => exact absurd List.mem_cons_self h
    | some i => exact ⟨i :: ns, by rw [e]; rfl⟩
theorem mem_rows {n k : Nat} {r : List Int} : r ∈ rowsL n k ↔ Ms n r ∧ 1 ≤ r.length ∧ r.length ≤ k := by
  unfold rowsL
  rw [List.mem_filter, mem_every, Bool.and_eq_true, decide_eq_true_eq, decide_eq_true_eq]
theorem every_nd : ∀ n, (everyL n).Nodup
  | 0 => by simp [everyL]
  | n + 1 => by
    unfold everyL
    rw [List.nodup_append]
    refine ⟨every_nd n, ?_, fun a ha b hb e => ?_⟩
    · rw [List.nodup_iff_pairwise_ne, List.pairwise_map]
      exact (every_nd n).imp fun h e => h (List.append_cancel_right e)
    · obtain ⟨s, _, rfl⟩ := List.mem_map.mp hb
      subst e
      have := (mem_every.mp ha).2 (n : Int) (by simp)
      omega
theorem rows_nd (n k : Nat) : (rowsL n k).Nodup := (every_nd n).filter _
theorem rows_len {n k : Nat} (h5 : n ≤ 5) : (rowsL n k).length ≤ 32 := Nat.le_trans (List.length_filter_le _ _) (by rw [every_len]; exact pow5 h5)
/-- the marks at the places of r -/
def pickL (ms r : List Int) : List Int := r.map fun i => ms.getD i.toNat 0
theorem pick_ms {n : Nat} {ms r : List Int} (hm : Ms n ms) (hr : Ms ms.length r) : Ms n (pickL ms r) := by
  have get : ∀ i ∈ r, ∃ h : i.toNat < ms.length, ms.getD i.toNat 0 = ms[i.toNat] := fun i hi => by
    have h := hr.2 i hi
    have hl : i.toNat < ms.length := by omega
    exact ⟨hl, by rw [List.getD_eq_getElem?_getD, List.getElem?_eq_getElem hl]; rfl⟩
  refine ⟨?_, fun m h => ?_⟩
  · unfold pickL
    rw [List.pairwise_map]
    refine List.Pairwise.imp_of_mem (fun {a b} ha hb hab => ?_) hr.1
    obtain ⟨h1, e1⟩ := get a ha
    obtain ⟨h2, e2⟩ := get b hb
    rw [e1, e2]
    have := hr.2 a ha
    exact List.pairwise_iff_getElem.mp hm.1 _ _ h1 h2 (by omega)
  · obtain ⟨i, hi, rfl⟩ := List.mem_map.mp h
    obtain ⟨h1, e1⟩ := get i hi
    show 0 ≤ ms.getD i.toNat 0 ∧ ms.getD i.toNat 0 < n
    rw [e1]
    exact hm.2 _ (List.getElem_mem h1)
def Bd (B : Int) (o : Option Int) : Prop := ∀ x, o = some x → 0 ≤ x ∧ x ≤ B
section
variable {P : Program} {w : World} {K : PySem.W.Frag} {mg : Str → Option Value} {base : Heap}
theorem ev_inN {σ : L2.St} {H : Hp} {tb : TE} {os : List (Option Int)} (hb : Ev K tb σ H (.list (os.map oD))) : Ev K (tOp (rIn K false) (tC .non) tb) σ H (.bool (decide (none ∈ os))) := ev_op ev_non hb fun v u H1 _ hv hu Q q => by
  obtain rfl := hv.non_inv
  obtain ⟨a, xs, rfl, hq, hx⟩ := hu.lst_inv
  obtain rfl := hx.opts
  refine ⟨a, _, rfl, .inl hq, rfl, flat_opts os, q _ H1 (Same.refl H1) ?_⟩
  rw [if_neg (by decide), inV_none]
  exact .t (.bl _)
abbrev s__law_told : Stmt := topS 43
abbrev N__law_told : List Str := ["_law_table_here", "_law_some_here", "_law_wide", "_law_values", "_law_places", "_law_row", "_law_k"]
theorem sc__law_told : FnScope N__law_told ["_law_table_here", "_law_some_here", "_law_wide"] (defScope s__law_told) := ⟨rfl, rfl, rfl, by decide +kernel, rfl, by decide +kernel, by decide +kernel⟩
abbrev sc_inner : Scope := { kind := .function, names := [(".0", .local), ("_law_row", .local), ("tuple", .globalImplicit), ("_law_some_here", .cell), ("_law_table_here", .cell)], isGenerator := false, isCoroutine := false }
def spTold (K : PySem.W.Frag) : Sp := fun vs H Q _ => ∃ (p : Addr) (v : V) (n k : Nat) (T : List Int → Option Int) (ms : List Int) (B : Int), vs = [.ref p, v, .int k] ∧ H p = some (.dT (tab (rowsL n k) fun r => oV (T r))) ∧ Ap K H v (tI ms) ∧ Ms n ms ∧ n ≤ 5 ∧ 1 ≤ k ∧ 0 ≤ B ∧ (∀ r ∈ rowsL n k, Bd B (T r)) ∧
  ∀ o H', Same H H' → Bd B o → Q (oV o) H'
theorem ok__law_told (F : Df K mg "_law_told" s__law_told) (M : Mg mg) (C__law_every : Cl P w K mg base 1 "_law_every" (spEvery K)) : Cl P w K mg base 2 "_law_told" (spTold K) := by
  refine cl_of F sc__law_told (fun _ _ _ _ _ _ us hl => match us, hl with | [_, _, _], _ => rfl) (fun vs H Q E h => ?_) (fun f cdv A outer s H vs Q E hr h => ?_)
  · obtain ⟨_, _, _, _, _, _, _, rfl, _⟩ := h
    rfl
  · have nd := sc__law_told.nd
    obtain ⟨p, v1, n, k, T, ms, B, rfl, hT, h1, hms, h5, k1, b0, hB, q0⟩ := h
    have hml := hms.len
    refine ⟨_, (pss_cons (ps_set (i := 3) nd rfl (by first | exact Or.inl rfl | exact Or.inr rfl) (pe_lst (pa_cons pe_int pa_nil)))
      (pss_cons (ps_if (pt_chain op_lt op_le pe_int (pe_callB (k_len K) (by rfl) M.b_len (by decide +kernel) (pa_cons (pv 1) pa_nil)) (pv 2))
        (pss_one (ps_set (i := 3) nd rfl (by first | exact Or.inl rfl | exact Or.inr rfl) (pe_lst (pa_cons (pe_dget (hu_of hr) (pv 0) (pv 1) (fun _ _ => rfl)) pa_nil))))
        pss_nil)
      (pss_cons (ps_if (pt_cmpR op_gt (pe_callB (k_len K) (by rfl) M.b_len (by decide +kernel) (pa_cons (pv 1) pa_nil)) (pv 2) (nomark _))
        (pss_cons (ps_setLc (i := 4) (own := [("_law_row", 5)]) (g := gName 5) (by rfl) nd rfl (by first | exact rfl) (sw_true rfl rfl rfl (by decide +kernel)) (k_list K (pe_cl C__law_every hr (by decide) (by rfl) (pa_cons (pe_callB (k_len K) (by rfl) M.b_len (by decide +kernel) (pa_cons (pv 1) pa_nil)) pa_nil))) (blkOk_by (N := N__law_told) (sc := defScope s__law_told) (by decide +kernel)) (fun _ _ _ _ _ => pg_name (i := 5) nd rfl (by first | exact Or.inl rfl | exact Or.inr rfl)) (fun _ _ _ _ _ => pts_one (pt_cmpR op_eq (pe_callB (k_len K) (by rfl) M.b_len (by decide +kernel) (pa_cons (pv 5) pa_nil)) (pv 2) (nomark _))) (fun _ _ _ _ _ => (pv 5)))
        (pss_one (ps_setLc (i := 3) (own := [("_law_row", 5)]) (g := gName 5) (by rfl) nd rfl (by first | exact rfl) (sw_true rfl rfl rfl (by decide +kernel)) (k_list K (pv 4)) (blkOk_by (N := N__law_told) (sc := defScope s__law_told) (by decide +kernel)) (fun _ _ _ _ _ => pg_name (i := 5) nd rfl (by first | exact Or.inl rfl | exact Or.inr rfl)) (fun _ _ _ _ _ => pts_nil) (fun _ _ _ _ _ => (pe_dget (hu_of hr) (pv 0) (pe_callTy (k_tupOf K) (by rfl) M.b_tuple (by decide +kernel) (pa_cons (pe_lc (own := [("_law_k", 6)]) (g := gName 6) (by rfl) nd (k_tup K (pv 5)) (blkOk_by (N := N__law_told) (sc := sc_inner) (by decide +kernel)) (fun _ _ _ _ _ => pg_name (i := 6) nd rfl (by first | exact Or.inl rfl | exact Or.inr rfl)) (fun _ _ _ _ _ => pts_nil) (fun _ _ _ _ _ => (pe_ix (k_ixT K) (pv 1) (pv 6) (fun _ _ => rfl)))) pa_nil)) (fun _ _ => rfl))))))
        pss_nil)
      (pss_one (ps_ret (pe_ifExp (pt_cmpR (k_in K) pe_non (pv 3) (by rfl)) pe_non (pe_callB (k_max K rfl) (by rfl) M.b_max (by decide +kernel) (pa_cons (pv 3) pa_nil)))))))), ?_⟩
    refine q_setN (K := K) (ds := [some 0].map oD) (en_lst (ea_cons ev_int ea_nil) rfl (by simp)) fun p0 xs0 H1 hp0 e1 hH0 hx0 => ?_
    have lenS : ∀ {σ : L2.St} {H' : Hp}, Same H H' → σ[1]? = some (some v1) → Ev K (tCB (rLenQ K) (tCons (tVar 1) tNil)) σ H' (.int ms.length) := fun e s1 => Ev.is (ev_len (ea_cons (ev_v (h1.same e) s1) ea_nil) (.inl rfl)) (by rw [List.length_map])
    refine q_ifJ (b := decide ((0 : Int) < ms.length) && decide ((ms.length : Int) ≤ k)) (fun σ' H' => ∃ os p' xs, σ' = [some (.ref p), some v1, some (.int k), some (.ref p'), none, none, none] ∧ Same H H' ∧ H' p' = some (.lst xs) ∧ TpAll K H' xs (os.map oD) ∧ os ≠ [] ∧ os.length ≤ 1000 ∧ ∀ o ∈ os, Bd B o) (eb_test (K := K) (ev_chainI (i := 0) (j := (ms.length : Int)) (k := (k : Int)) (g := fun i j => decide (i < j)) (g' := fun i j => decide (i ≤ j)) ev_int (lenS e1 rfl) (ev_v (.t (.int _))))) (fun hb H2 e2 N hN => ?_) (fun _ H2 e2 => ⟨[some 0], p0, xs0, rfl, e1.trans e2, e2 _ _ hH0, hx0.same e2, by simp, by simp, fun o ho x hx => ?_⟩) fun σ' H2 hC => ?_
    · obtain ⟨hb1, hb2⟩ := Bool.and_eq_true_iff.mp hb
      have hb1 := of_decide_eq_true hb1
      have hb2 := of_decide_eq_true hb2
      have hin : ms ∈ rowsL n k := mem_rows.mpr ⟨hms, by omega, by omega⟩
      have e12 := e1.trans e2
      refine s_setN (K := K) (ds := [T ms].map oD) (en_lst (ea_cons (ev_dget (v := oV (T ms)) (.inl (e12 _ _ hT)) (ev_v (h1.same e12)) (tab_in (f := fun r => oV (T r)) hin) fun _ => oV_tp _) ea_nil) (by cases T ms <;> rfl) (by simp)) fun p' xs H3 hp' e3 hH hx => hN _ _ ⟨[T ms], p', xs, rfl, e12.trans e3, hH, hx, by simp, by simp, fun o ho => ?_⟩
      obtain rfl := List.mem_singleton.mp ho
      exact hB ms hin
    · obtain rfl := List.mem_singleton.mp ho
      cases hx
      exact ⟨Int.le_refl _, b0⟩
    · obtain ⟨os, p', xs, rfl, sm, hH, hx, hne, hol, hob⟩ := hC
      refine q_ifJ (b := decide ((k : Int) < ms.length)) (fun σ' H' => ∃ os p' xs a, σ' = [some (.ref p), some v1, some (.int k), some (.ref p'), a, none, none] ∧ Same H H' ∧ H' p' = some (.lst xs) ∧ TpAll K H' xs (os.map oD) ∧ os ≠ [] ∧ os.length ≤ 1000 ∧ ∀ o ∈ os, Bd B o) (eb_test (K := K) (ev_gt (lenS sm rfl) (ev_v (.t (.int _))))) (fun hb H3 e3 N hN => ?_) (fun _ H3 e3 => ⟨os, p', xs, none, rfl, sm.trans e3, e3 _ _ hH, hx.same e3, hne, hol, hob⟩) fun σ' H3 hC => ?_
      · have hb := of_decide_eq_true hb
        have hel := every_len ms.length
        have hp5 := pow5 (show ms.length ≤ 5 by omega)
        have s3 := sm.trans e3
        have hfl : ((everyL ms.length).filter fun r => decide (r.length = k)).length ≤ (everyL ms.length).length := List.length_filter_le _ _
        refine q_setN (K := K) (ds := ((everyL ms.length).filter fun r => decide (r.length = k)).map tI) (en_fL (zs := everyL ms.length) (fun r => decide (r.length = k)) tI (EvN.ev (en_call ms.length (ea_cons (lenS s3 rfl) ea_nil) (show ms.length ≤ 5 by omega))) (by omega) (fun x => rfl) fun r hr x H' e' hv => ⟨eb_test (K := K) (Ev.is (ev_eqI (ev_len (ea_cons (ev_v hv) ea_nil) (.inl rfl)) (ev_v (.t (.int _)))) (by rw [List.length_map]; exact congrArg _ (decide_eq_decide.mpr ⟨fun z => by omega, fun z => by omega⟩))), fun _ => ⟨rfl, ev_v hv⟩⟩) fun pp xp H4 hpp e4 hHp hxp => ?_
        have s4 := s3.trans e4
        have mem : ∀ r ∈ (everyL ms.length).filter (fun r => decide (r.length = k)), Ms ms.length r ∧ pickL ms r ∈ rowsL n k := fun r hr => by
          obtain ⟨h1, h2⟩ := List.mem_filter.mp hr
          have h1 := mem_every.mp h1
          have h2 := of_decide_eq_true h2
          have hl : (pickL ms r).length = r.length := List.length_map _
          exact ⟨h1, mem_rows.mpr ⟨pick_ms hms h1, by omega, by omega⟩⟩
        refine s_setN (K := K) (ds := (((everyL ms.length).filter fun r => decide (r.length = k)).map fun r => T (pickL ms r)).map oD) ?_ fun p9 xs9 H5 hp9 e5 hH9 hx9 => hN _ _ ⟨((everyL ms.length).filter fun r => decide (r.length = k)).map fun r => T (pickL ms r), p9, xs9, some (.ref pp), rfl, s4.trans e5, hH9, hx9, ?_, by rw [List.length_map]; omega, fun o ho => ?_⟩
        · have := en_fL (K := K) (emb := tI) (zs := (everyL ms.length).filter fun r => decide (r.length = k)) (j := 5) (vs := [5]) (σ := [some (.ref p), some v1, some (.int k), some (.ref p'), some (.ref pp), none, none]) (H := H4) (tl := tVar 4) (tt := tYes) (te := tDGet (tVar 0) (tCB (rTupQ K) (tCons (tLc (iTup K (tVar 5)) (gName 6) tYes (tOp (rIxT K) (tVar 1) (tVar 6)) [6]) tNil))) (fun _ => true) (fun r => oD (T (pickL ms r))) (em_v hHp hxp).ev (by omega) (fun x => rfl) fun r hr x H' e' hv => ⟨eb_yes, fun _ => ⟨by cases T (pickL ms r) <;> rfl, ?_⟩⟩
          · rw [filter_tt] at this
            rw [List.map_map]
            exact this
          · obtain ⟨hmr, hin⟩ := mem r hr
            have hrl := hmr.len
            refine ev_dget (v := oV (T (pickL ms r))) (ns := pickL ms r) (.inl ((s4.trans e') _ _ hT)) (ev_tupOf (ea_cons (Ev.is (EvN.ev (en_fT (fun _ => true) (fun i => PyData.int (ms.getD i.toNat 0)) (ev_v hv) (by omega) (fun x => rfl) fun i hi x H'' e'' hv2 => ⟨eb_yes, fun _ => ⟨rfl, ?_⟩⟩)) (by rw [filter_tt]; show PyData.list _ = PyData.list (dI (pickL ms r)); unfold pickL; rw [dI, List.map_map]; rfl)) ea_nil)) (tab_in (f := fun r => oV (T r)) hin) fun _ => oV_tp _
            have h := hmr.2 i hi
            have hl : i.toNat < ms.length := by omega
            have hi' : i = ((i.toNat : Nat) : Int) := by omega
            refine ev_ixT (j := i.toNat) (ev_v (h1.same ((s4.trans e').trans e''))) (hi' ▸ ev_v hv2) ?_
            rw [List.getElem?_map, List.getElem?_eq_getElem hl, List.getD_eq_getElem?_getD, List.getElem?_eq_getElem hl]
            rfl
        · intro z
          have hk : upI k ∈ (everyL ms.length).filter fun r => decide (r.length = k) := List.mem_filter.mpr ⟨mem_every.mpr ((up_ms k).mono (by omega)), decide_eq_true (by unfold upI; rw [List.length_map, List.length_range])⟩
          rw [List.map_eq_nil_iff.mp z] at hk
          simp at hk
        · obtain ⟨r, hr, rfl⟩ := List.mem_map.mp ho
          exact hB _ (mem r hr).2
      · obtain ⟨os, p', xs, a, rfl, sm, hH, hx, hne, hol, hob⟩ := hC
        have hV : Ap K H3 (.ref p') (.list (os.map oD)) := .l (.inl (.inl hH)) hx
        by_cases hn : none ∈ os
        · refine s_ret (K := K) (d := .none) (ev_if (b := decide (none ∈ os)) (eb_test (K := K) (ev_inN (ev_v hV))) (fun _ => ev_non) fun z => absurd hn (of_decide_eq_false z)) fun v H4 e4 hv => ?_
          obtain rfl := hv.non_inv
          exact q0 none H4 (sm.trans e4) fun x z => nomatch z
        · obtain ⟨ns, rfl⟩ := somes hn
          obtain ⟨m, hm, hmax⟩ := max_of (ns := ns) fun z => hne (by rw [z]; rfl)
          refine s_ret (K := K) (d := .int m) (ev_if (b := decide (none ∈ ns.map some)) (eb_test (K := K) (ev_inN (ev_v hV))) (fun z => absurd (of_decide_eq_true z) hn) fun _ => ev_max (ns := ns) (m := m) (ea_cons (Ev.is (ev_v hV) (by rw [List.map_map]; rfl)) ea_nil) (List.length_pos_of_mem hm) fun k hk hy => ?_) fun v H4 e4 hv => ?_
          · have h1 := hy m hm
            have h2 := hmax k hk
            omega
          · obtain rfl := hv.int_inv
            exact q0 (some m) H4 (sm.trans e4) (hob (some m) (List.mem_map.mpr ⟨m, hm, rfl⟩))
end
end WB

/-! the law's table: asked, table -/
namespace WB
open PySem PySem.Spec PyProof.Rows L2
theorem needed_ms {n : Nat} {d : Deed} {r : List Int} (hr : Ms n r) (hd : d.Ok n) (h5 : n ≤ 5) : Ms n (neededM d r) := by
  refine ⟨(mk_ms 5 _).1, fun m hm => ?_⟩
  unfold neededM at hm
  rw [mem_mk, Bool.or_eq_true, Bool.and_eq_true] at hm
  simp only [decide_eq_true_eq] at hm
  rcases hm.2 with z | z
  · exact hr.2 m z.1
  · exact hd.needs.2 m z
section
variable {P : Program} {w : World} {K : PySem.W.Frag} {mg : Str → Option Value} {base : Heap}
abbrev s__law_asked : Stmt := topS 44
abbrev N__law_asked : List Str := ["_law_t", "_law_table_here", "_law_row", "_law_wide", "_law_best", "_law_deed", "_law_mark", "_law_left", "_law_far_here"]
theorem sc__law_asked : FnScope N__law_asked ["_law_t", "_law_table_here", "_law_row", "_law_wide"] (defScope s__law_asked) := ⟨rfl, rfl, rfl, by decide +kernel, rfl, by decide +kernel, by decide +kernel⟩
def spAsked (K : PySem.W.Frag) : Sp := fun vs H Q _ => ∃ (v : V) (p : Addr) (u : V) (y : Yard) (k : Nat) (T : List Int → Option Int) (r : List Int) (B : Int), vs = [v, .ref p, u, .int k] ∧ Ap K H v y.dat ∧ y.Ok ∧ H p = some (.dT (tab (rowsL y.marks.length k) fun r => oV (T r))) ∧ Ap K H u (tI r) ∧ Ms y.marks.length r ∧ 1 ≤ k ∧ 0 ≤ B ∧ (∀ r ∈ rowsL y.marks.length k, Bd B (T r)) ∧
  ∀ o H', Same H H' → Bd (B + 99) o → Q (oV o) H'
theorem ok__law_asked (F : Df K mg "_law_asked" s__law_asked) (M : Mg mg) (C__law_told : Cl P w K mg base 2 "_law_told" (spTold K)) (C__law_least : Cl P w K mg base 1 "_law_least" (spLeast K)) : Cl P w K mg base 3 "_law_asked" (spAsked K) := by
  refine cl_of F sc__law_asked (fun _ _ _ _ _ _ us hl => match us, hl with | [_, _, _, _], _ => rfl) (fun vs H Q E h => ?_) (fun f cdv A outer s H vs Q E hr h => ?_)
  · obtain ⟨_, _, _, _, _, _, _, _, rfl, _⟩ := h
    rfl
  · have nd := sc__law_asked.nd
    obtain ⟨v1, p, v3, y, k, T, r, B, rfl, h1, ok, hT, h3, hr', k1, b0, hB, q0⟩ := h
    have h5 := ok.m5
    have hrl := hr'.len
    refine ⟨_, (pss_cons (ps_set (i := 4) nd rfl (by first | exact Or.inl rfl | exact Or.inr rfl) pe_non)
      (pss_cons (ps_for PassesOwn.never rfl (k_tup K (pe_ix (k_ixT K) (pv 0) pe_int (fun _ _ => rfl))) (pg_name (i := 5) nd rfl (by first | exact Or.inl rfl | exact Or.inr rfl))
        (pss_one (ps_if (PW.pt (pw_and (pt_cmpR (k_neD K hr.units) (pe_lc (own := [("_law_mark", 6)]) (g := gName 6) (by rfl) nd (k_tup K (pv 2)) (blkOk_by (N := N__law_asked) (sc := defScope s__law_asked) (by decide +kernel)) (fun _ _ _ _ _ => pg_name (i := 6) nd rfl (by first | exact Or.inl rfl | exact Or.inr rfl)) (fun _ _ _ _ _ => pts_one (pt_cmpR (k_in K) (pv 6) (pe_ix (k_ixT K) (pv 5) pe_int (fun _ _ => rfl)) (by rfl))) (fun _ _ _ _ _ => (pv 6))) (pe_lst pa_nil) (nomark _)) (pw_and1 (pt_cmpR (k_eqD K hr.units) (pe_lc (own := [("_law_mark", 6)]) (g := gName 6) (by rfl) nd (k_tup K (pv 2)) (blkOk_by (N := N__law_asked) (sc := defScope s__law_asked) (by decide +kernel)) (fun _ _ _ _ _ => pg_name (i := 6) nd rfl (by first | exact Or.inl rfl | exact Or.inr rfl)) (fun _ _ _ _ _ => pts_one (pt_cmpR (k_in K) (pv 6) (pe_ix (k_ixT K) (pv 5) pe_int (fun _ _ => rfl)) (by rfl))) (fun _ _ _ _ _ => (pv 6))) (pe_lst pa_nil) (nomark _)))))
          (pss_cons (ps_setLc (i := 7) (own := [("_law_mark", 6)]) (g := gName 6) (by rfl) nd rfl (by first | exact rfl) (sw_true rfl rfl rfl (by decide +kernel)) (k_tup K (pv 2)) (blkOk_by (N := N__law_asked) (sc := defScope s__law_asked) (by decide +kernel)) (fun _ _ _ _ _ => pg_name (i := 6) nd rfl (by first | exact Or.inl rfl | exact Or.inr rfl)) (fun _ _ _ _ _ => pts_one (PW.pt (pw_and (pt_cmpR (k_notIn K) (pv 6) (pe_ix (k_ixT K) (pv 5) pe_int (fun _ _ => rfl)) (by rfl)) (pw_and1 (pt_cmpR (k_notIn K) (pv 6) (pe_ix (k_ixT K) (pv 5) pe_int (fun _ _ => rfl)) (by rfl)))))) (fun _ _ _ _ _ => (pv 6)))
          (pss_cons (ps_set (i := 8) nd rfl (by first | exact Or.inl rfl | exact Or.inr rfl) (pe_cl C__law_told hr (by decide) (by rfl) (pa_cons (pv 1) (pa_cons (pe_callTy (k_tupOf K) (by rfl) M.b_tuple (by decide +kernel) (pa_cons (pe_callB (k_sorted K) (by rfl) M.b_sorted (by decide +kernel) (pa_cons (pe_op op_cat (pv 7) (pe_callTy (k_listOf K) (by rfl) M.b_list (by decide +kernel) (pa_cons (pe_ix (k_ixT K) (pv 5) pe_int (fun _ _ => rfl)) pa_nil))) pa_nil)) pa_nil)) (pa_cons (pv 3) pa_nil)))))
          (pss_one (ps_if (PW.pt (pw_and (pt_cmpR op_notN (pv 8) pe_non (nomark _)) (pw_and1 (pt_val (pe_cl C__law_least hr (by decide) (by rfl) (pa_cons (pe_op op_add (pv 8) (pe_ix (k_ixT K) (pv 5) pe_int (fun _ _ => rfl))) (pa_cons (pv 4) pa_nil)))))))
            (pss_one (ps_set (i := 4) nd rfl (by first | exact Or.inl rfl | exact Or.inr rfl) (pe_op op_add (pv 8) (pe_ix (k_ixT K) (pv 5) pe_int (fun _ _ => rfl)))))
            pss_nil))))
          pss_nil)))
      (pss_one (ps_ret (pv 4))))), ?_⟩
    refine q_set (K := K) ev_non fun v H1 e1 hv => ?_
    obtain rfl := hv.non_inv
    refine q_forT (K := K) (ev_ixT (j := 1) (ev_v (h1.same e1)) ev_int rfl) (fun H2 i σ' H' => Same H2 H' ∧ ∃ o a b c d, σ' = [some v1, some (.ref p), some v3, some (.int k), some (oV o), a, b, c, d] ∧ Bd (B + 99) o) (fun H2 _ => ⟨Same.refl H2, none, none, none, none, none, rfl, fun x z => nomatch z⟩) (fun _ _ _ _ p => p.1) (fun H2 i z u σ' H3 e2 hi pr tu => ?_) fun H2 σ' H3 e2 pr => ?_
    · obtain ⟨e3, o, a, b, c, d', rfl, ho⟩ := pr
      rw [List.getElem?_map] at hi
      obtain ⟨d, hd', rfl⟩ := Option.map_eq_some_iff.mp hi
      have hdm := List.mem_of_getElem? hd'
      have hdn := ok.deeds d hdm
      have hdo := hdn.five h5
      have hnl := hdo.needs.len
      have e := (e1.trans e2).trans e3
      have hrow := h3.same e
      have pHs : ∀ (sl : Nat) {ns : List Int} {q : Nat}, True := fun _ => trivial
      refine z_seq (q_if0 (b := bringsB d r) (eb_and (a := r.any fun m => decide (m ∈ d.sets)) (b := !(r.any fun m => decide (m ∈ d.strikes))) (eb_test (K := K) ?_) fun _ => eb_test (K := K) ?_) (fun hc H6 e7 => ?_) fun hc H6 e7 => ?_)
      · exact Ev.is (ev_neD (EvN.ev (en_fT (fun m => decide (m ∈ d.sets)) PyData.int (ev_v hrow) (by omega) (fun x => rfl) fun m hm x H' e hx =>
          ⟨eb_test (ev_inT (ev_v hx) (ev_ixT (j := 2) (ev_v (.t (tu.same e))) ev_int rfl)), fun _ => ⟨rfl, ev_v hx⟩⟩)) (EvN.ev (en_lst ea_nil rfl (by simp))) (sh_lI _).ok rfl) (by rw [eqv_nil, ← filter_some (g := PyData.int)])
      · exact Ev.is (ev_eqD (EvN.ev (en_fT (fun m => decide (m ∈ d.strikes)) PyData.int (ev_v hrow) (by omega) (fun x => rfl) fun m hm x H' e hx =>
          ⟨eb_test (ev_inT (ev_v hx) (ev_ixT (j := 3) (ev_v (.t (tu.same e))) ev_int rfl)), fun _ => ⟨rfl, ev_v hx⟩⟩)) (EvN.ev (en_lst ea_nil rfl (by simp))) (sh_lI _).ok rfl) (by rw [eqv_nil, ← filter_some (g := PyData.int), Bool.not_not])
      · have hfl : (r.filter fun m => !decide (m ∈ d.sets) && !decide (m ∈ d.needs)).length ≤ r.length := List.length_filter_le _ _
        refine q_setN (K := K) (ds := dI (r.filter fun m => !decide (m ∈ d.sets) && !decide (m ∈ d.needs))) (en_fT (fun m => !decide (m ∈ d.sets) && !decide (m ∈ d.needs)) PyData.int (ev_v (hrow.same e7)) (by omega) (fun x => rfl) fun m hm x H' e hx =>
          ⟨eb_and (eb_test (ev_niT (ev_v hx) (ev_ixT (j := 2) (ev_v (.t ((tu.same e7).same e))) ev_int rfl))) fun _ => eb_test (ev_niT (ev_v hx) (ev_ixT (j := 1) (ev_v (.t ((tu.same e7).same e))) ev_int rfl)), fun _ => ⟨rfl, ev_v hx⟩⟩) fun p2 xs H7 hp e8 hH hx => ?_
        have e9 := e7.trans e8
        refine ⟨_, rfl, ea_cons (K := K) (d := tI (neededM d r)) (ds := [.int k]) (ev_tupN (ds := dI (neededM d r)) (en_sorted (ns := (r.filter fun m => !decide (m ∈ d.sets) && !decide (m ∈ d.needs)) ++ d.needs) (ea_cons (Ev.is (EvN.ev (en_catM (em_v hH hx) (em_N (en_list (ea_cons (ev_ixT (j := 1) (d := tI d.needs) (ev_v (.t (tu.same e9))) ev_int rfl) ea_nil) (.inl rfl))) ?_)) ?_) ea_nil) ?_ fun ks pm so => sort_ms ?_ (mk_ms 5 _).1 (fun m => ?_) pm so)) (ea_cons (ev_v (.t (.int _))) ea_nil) H7 (Same.refl _) _ fun vs H8 e10 hvs => ?_⟩
        · rw [dI, dI, List.length_map, List.length_map]; omega
        · show PyData.list _ = PyData.list _
          rw [dI, dI, dI, List.map_append]
        · rw [List.length_append]; omega
        · rw [List.nodup_append]
          refine ⟨hr'.nodup.filter _, hdo.needs.nodup, fun a ha b hb e => ?_⟩
          subst e
          have := (List.mem_filter.mp ha).2
          simp_all
        · unfold neededM
          rw [mem_mk, List.mem_append, List.mem_filter, Bool.and_eq_true, Bool.or_eq_true, Bool.and_eq_true]
          simp only [decide_eq_true_eq, Bool.not_eq_true', decide_eq_false_iff_not]
          constructor
          · rintro ⟨_, z⟩
            by_cases hn : m ∈ d.needs
            · exact .inr hn
            · exact .inl ⟨(z.resolve_right hn).1, (z.resolve_right hn).2, hn⟩
          · rintro (⟨z, u, _⟩ | z)
            · exact ⟨(hr'.mono h5).2 m z, .inl ⟨z, u⟩⟩
            · exact ⟨hdo.needs.2 m z, .inr z⟩
        · obtain ⟨x1, x2, rfl, hx1, hx2⟩ := hvs.two
          obtain rfl := hx2.int_inv
          have e11 := e9.trans e10
          refine ⟨p, x1, y.marks.length, k, T, neededM d r, B, rfl, (e.trans e11) _ _ hT, hx1, needed_ms hr' hdn h5, h5, k1, b0, hB, fun o2 H9 e12 ho2 => ?_⟩
          have e13 := e11.trans e12
          have hcost := hdn.cost
          have Bcost : ∀ j, o2 = some j → Bd (B + 99) (some (j + d.cost)) := fun j hj x hx => by
            have := ho2 j hj
            cases hx
            omega
          refine z_seq (q_if0 (b := o2.isSome && leastB (o2.map fun j => j + d.cost) o) (eb_and (a := o2.isSome) (b := leastB (o2.map fun j => j + d.cost) o) (eb_test (K := K) (Ev.is (ev_notN (ev_v (.t (oV_tp o2)))) (by cases o2 <;> rfl))) fun hs => eb_B (K := K) ?_) (fun hb H10 e14 => ?_) fun hb H10 e14 => ?_)
          · cases o2 with
            | none => cases hs
            | some j => exact ev_call (some (j + d.cost), o) (ea_cons (ev_add (ev_v (.t (.int j))) (ev_ixT (j := 4) (ev_v (.t (tu.same e13))) ev_int rfl)) (ea_cons (ev_v (.t (oV_tp o))) ea_nil)) True.intro
          · cases o2 with
            | none => cases hb
            | some j =>
              refine z_seq (q_set (K := K) (d := .int (j + d.cost)) (ev_add (ev_v (.t (.int j))) (ev_ixT (j := 4) (ev_v (.t ((tu.same e13).same e14))) ev_int rfl)) fun v H11 e15 hv => ?_)
              obtain rfl := hv.int_inv
              exact ⟨e3.trans (e13.trans (e14.trans e15)), some (j + d.cost), _, _, _, _, rfl, Bcost j rfl⟩
          · exact ⟨e3.trans (e13.trans e14), o, _, _, _, _, rfl, ho⟩
      · exact ⟨e3.trans e7, o, _, _, _, _, rfl, ho⟩
    · obtain ⟨e3, o, a, b, c, d', rfl, ho⟩ := pr
      exact ⟨_, rfl, q0 o H3 ((e1.trans e2).trans e3) ho⟩

/-! how far a table may still fall -/
def phi : Option Int → Nat
  | none => 10000
  | some v => v.toNat
def fin1 : Option Int → Nat
  | none => 0
  | some _ => 1
def Phi (R : List (List Int)) (T : List Int → Option Int) : Nat := (R.map fun r => phi (T r)).sum
def finN (R : List (List Int)) (T : List Int → Option Int) : Nat := (R.map fun r => fin1 (T r)).sum
def TOk (R : List (List Int)) (T : List Int → Option Int) : Prop := ∀ r ∈ R, Bd (99 * finN R T) (T r)
def updT (T : List Int → Option Int) (r : List Int) (o : Option Int) : List Int → Option Int := fun s => if s = r then o else T s
theorem fin_le : ∀ (R : List (List Int)) (T : List Int → Option Int), finN R T ≤ R.length
  | [], _ => Nat.le_refl _
  | r :: R, T => by
    have := fin_le R T
    have h1 : fin1 (T r) ≤ 1 := by cases T r <;> simp [fin1]
    unfold finN at this ⊢
    rw [List.map_cons, List.sum_cons, List.length_cons]
    omega
theorem table_step {R : List (List Int)} {T : List Int → Option Int} {r : List Int} {o : Option Int} (nd : R.Nodup) (hl : R.length ≤ 32) (hr : r ∈ R) (ok : TOk R T) (ho : Bd (99 * finN R T + 99) o) (hlt : leastB o (T r) = true) : TOk R (updT T r o) ∧ Phi R (updT T r o) < Phi R T := by
  have hf := sum_upd (g := fun s => fin1 (T s)) (g' := fun s => fin1 (updT T r o s)) nd hr fun s hs => by unfold updT; simp only [if_neg hs]
  have hp := sum_upd (g := fun s => phi (T s)) (g' := fun s => phi (updT T r o s)) nd hr fun s hs => by unfold updT; simp only [if_neg hs]
  have e : updT T r o r = o := by unfold updT; rw [if_pos rfl]
  have hfl := fin_le R T
  rw [e] at hf hp
  have hf' : finN R (updT T r o) + fin1 (T r) = finN R T + fin1 o := hf
  have hp' : Phi R (updT T r o) + phi (T r) = Phi R T + phi o := hp
  cases o with
  | none => cases hlt
  | some v =>
    have hv := ho v rfl
    cases hT : T r with
    | none =>
      rw [hT] at hf' hp'
      have hf2 : finN R (updT T r (some v)) = finN R T + 1 := by simpa [fin1] using hf'
      refine ⟨fun s hs x hx => ?_, ?_⟩
      · rw [hf2]
        unfold updT at hx
        by_cases es : s = r
        · rw [if_pos es] at hx
          cases hx
          omega
        · rw [if_neg es] at hx
          have := ok s hs x hx
          omega
      · simp only [phi] at hp'
        omega
    | some u =>
      rw [hT] at hf' hp' hlt
      have hlt' : v < u := of_decide_eq_true hlt
      have hu := ok r hr u hT
      have hf2 : finN R (updT T r (some v)) = finN R T := by simpa [fin1] using hf'
      refine ⟨fun s hs x hx => ?_, ?_⟩
      · rw [hf2]
        unfold updT at hx
        by_cases es : s = r
        · rw [if_pos es] at hx
          cases hx
          omega
        · rw [if_neg es] at hx
          exact ok s hs x hx
      · simp only [phi] at hp'
        omega
/-- keys of a table, in order -/
theorem keys_data {H : Hp} {f : List Int → V} : ∀ {R : List (List Int)} {bs : List Addr}, IsKeys H (tab R f) bs → TpAll K H (bs.map V.ref) (R.map tI)
  | [], _, h => by cases h; exact .nil
  | r :: R, _, h => by
    cases h with
    | cons h t => exact .cons (.tup (by rw [← kI_kV]; exact h) (TpAll.ofInts r)) (keys_data t)
theorem en_keys {σ : L2.St} {H : Hp} {p : Addr} {R : List (List Int)} {f : List Int → V} {i : Nat} (hp : H p = some (.dT (tab R f))) (si : σ[i]? = some (some (.ref p)) := by rfl) : EvN K (tCB (fun xs H Q => ∃ d kvs, xs = [V.ref d] ∧ Rd H d (.dT kvs) ∧ ∀ p bs, H p = none → IsKeys H kvs bs → Q (.ref p) (upd H p (.lst (bs.map V.ref)))) (tCons (tVar i) tNil)) σ H (R.map tI) := fun H1 e Q q =>
  ⟨_, si, p, _, rfl, .inl (e _ _ hp), fun l bs hl hk => q l _ _ hl (Same.new hl) upd_same ((keys_data hk).same (Same.new hl))⟩
abbrev s__law_table : Stmt := topS 45
abbrev N__law_table : List Str := ["_law_t", "_law_wide", "_law_table_here", "_law_row", "_law_goes", "_law_far_here"]
theorem sc__law_table : FnScope N__law_table ["_law_t", "_law_wide"] (defScope s__law_table) := ⟨rfl, rfl, rfl, by decide +kernel, rfl, by decide +kernel, by decide +kernel⟩
def spTable (K : PySem.W.Frag) : Sp := fun vs H Q _ => ∃ (v : V) (y : Yard) (k : Nat), vs = [v, .int k] ∧ Ap K H v y.dat ∧ y.Ok ∧ 1 ≤ k ∧ ∀ p (T : List Int → Option Int) H', H p = none → Same H H' → H' p = some (.dT (tab (rowsL y.marks.length k) fun r => oV (T r))) → Q (.ref p) H'
theorem ok__law_table (F : Df K mg "_law_table" s__law_table) (M : Mg mg) (C__law_asked : Cl P w K mg base 3 "_law_asked" (spAsked K)) (C__law_has : Cl P w K mg base 1 "_law_has" (spHas K)) (C__law_least : Cl P w K mg base 1 "_law_least" (spLeast K)) (C__law_rows : Cl P w K mg base 2 "_law_rows" (spRows K)) : Cl P w K mg base 4 "_law_table" (spTable K) := by
  refine cl_of F sc__law_table (fun _ _ _ _ _ _ us hl => match us, hl with | [_, _], _ => rfl) (fun vs H Q E h => ?_) (fun f cdv A outer s H vs Q E hr h => ?_)
  · obtain ⟨_, _, _, rfl, _⟩ := h
    rfl
  · have nd := sc__law_table.nd
    obtain ⟨v1, y, k, rfl, h1, ok, k1, q0⟩ := h
    have h5 := ok.m5
    have hrl := rows_len (n := y.marks.length) (k := k) h5
    have hrn := rows_nd y.marks.length k
    refine ⟨_, (pss_cons (ps_set (i := 2) nd rfl (by first | exact Or.inl rfl | exact Or.inr rfl) pe_dnewT)
      (pss_cons (ps_for PassesOwn.never rfl (k_list K (pe_cl C__law_rows hr (by decide) (by rfl) (pa_cons (pe_callB (k_len K) (by rfl) M.b_len (by decide +kernel) (pa_cons (pe_ix (k_ixT K) (pv 0) pe_int (fun _ _ => rfl)) pa_nil)) (pa_cons (pv 1) pa_nil)))) (pg_name (i := 3) nd rfl (by first | exact Or.inl rfl | exact Or.inr rfl))
        (pss_one (ps_dput (hu_of hr) (pv 2) (pv 3) (pe_ifExp (pt_val (pe_cl C__law_has hr (by decide) (by rfl) (pa_cons (pe_ix (k_ixT K) (pv 0) pe_int (fun _ _ => rfl)) (pa_cons (pv 3) pa_nil)))) pe_int pe_non) rfl)))
      (pss_cons (ps_set (i := 4) nd rfl (by first | exact Or.inl rfl | exact Or.inr rfl) pe_bl)
      (pss_cons (ps_while PassesOwn.never (pt_val (pv 4))
        (pss_cons (ps_set (i := 4) nd rfl (by first | exact Or.inl rfl | exact Or.inr rfl) pe_bl)
        (pss_one (ps_for PassesOwn.never rfl (k_list K (pe_callTy (call_list_dT rfl) (by rfl) M.b_list (by decide +kernel) (pa_cons (pv 2) pa_nil))) (pg_name (i := 3) nd rfl (by first | exact Or.inl rfl | exact Or.inr rfl))
          (pss_cons (ps_set (i := 5) nd rfl (by first | exact Or.inl rfl | exact Or.inr rfl) (pe_cl C__law_asked hr (by decide) (by rfl) (pa_cons (pv 0) (pa_cons (pv 2) (pa_cons (pv 3) (pa_cons (pv 1) pa_nil))))))
          (pss_one (ps_if (PW.pt (pw_and (pt_not (pt_val (pe_cl C__law_has hr (by decide) (by rfl) (pa_cons (pe_ix (k_ixT K) (pv 0) pe_int (fun _ _ => rfl)) (pa_cons (pv 3) pa_nil))))) (pw_and1 (pt_val (pe_cl C__law_least hr (by decide) (by rfl) (pa_cons (pv 5) (pa_cons (pe_dget (hu_of hr) (pv 2) (pv 3) (fun _ _ => rfl)) pa_nil)))))))
            (pss_cons (ps_dput (hu_of hr) (pv 2) (pv 3) (pv 5) rfl)
            (pss_one (ps_set (i := 4) nd rfl (by first | exact Or.inl rfl | exact Or.inr rfl) pe_bl)))
            pss_nil)))))))
      (pss_one (ps_ret (pv 2))))))), ?_⟩
    refine show tSeq _ _ _ _ _ from fun p hp => ?_
    have e1 := Same.new (o := .dT []) hp
    let T0 : List Int → Option Int := fun r => if hasB y.start r = true then some 0 else none
    have rowlen : ∀ r ∈ rowsL y.marks.length k, r.length ≤ 5 := fun r hr => by have := (mem_rows.mp hr).1.len; omega
    refine q_forLN (K := K) (tl := tCall (spRows K) [] E0 (tCons (tCB (rLenQ K) (tCons (tOp (rIxT K) (tVar 0) (tC (.int 0))) tNil)) (tCons (tVar 1) tNil))) (ds := (rowsL y.marks.length k).map tI) (en_call (y.marks.length, k) (ea_cons (Ev.is (ev_len (ea_cons (ev_ixT (j := 0) (ev_v (h1.same e1)) ev_int rfl) ea_nil) (.inl rfl)) (by rw [List.length_map])) (ea_cons (ev_v (.t (.int _))) ea_nil)) h5) (fun a xs i σ' H' => (H' a = some (.lst xs) ∧ TpAll K H' xs ((rowsL y.marks.length k).map tI)) ∧ a ≠ p ∧ ∃ b, σ' = [some v1, some (.int k), some (.ref p), b, none, none] ∧ Same H H' ∧ H' p = some (.dT (tab ((rowsL y.marks.length k).take i) fun r => oV (T0 r))))
      (fun a xs H2 ha e2 hH hx => ⟨⟨hH, hx⟩, fun z => (by rw [z, upd_same] at ha; cases ha), none, rfl, e1.trans e2, e2 _ _ upd_same⟩) (fun a xs i σ' H' pr => pr.1) (fun a xs i z v σ' H' hi pr tv => ?_) fun a xs σ' H' pr => ?_
    · obtain ⟨⟨hH, hx⟩, nap, b, rfl, sm, hQ⟩ := pr
      rw [List.getElem?_map] at hi
      obtain ⟨r, hr', rfl⟩ := Option.map_eq_some_iff.mp hi
      have hrm := List.mem_of_getElem? hr'
      have hr5 := rowlen r hrm
      refine z_seq (q_dput (K := K) (d := oD (T0 r)) hQ (by rw [tab_len, List.length_take]; omega) (ev_if (b := hasB y.start r) (eb_B (K := K) (ev_call (false, y.start, r) (ea_cons (ev_ixT (j := 2) (ev_v (h1.same sm)) ev_int rfl) (ea_cons (ev_v (.t tv)) ea_nil)) (by dsimp only; omega))) (fun hb => ?_) fun hb => ?_) (ev_v (.t tv)) fun v' H2 e2 hv' => ?_)
      · rw [show T0 r = some 0 from if_pos hb]; exact ev_int
      · rw [show T0 r = none from if_neg (by rw [hb]; decide)]; exact ev_non
      · rw [tab_put_out (f := fun r => oV (T0 r)) (oD_inv hv') (notin_take hrn hr')]
        have tm : Tm H2 (upd H2 p (.dT (tab ((rowsL y.marks.length k).take i ++ [r]) fun r => oV (T0 r)))) := Tm.updD (e2 _ _ hQ)
        refine ⟨⟨?_, (hx.same e2).tm tm⟩, nap, _, rfl, Same.mut (sm.trans e2) hp, ?_⟩
        · rw [upd_ne nap]; exact e2 _ _ hH
        · rw [upd_same, List.take_add_one, hr']; rfl
    · obtain ⟨_, _, b, rfl, sm, hQ⟩ := pr
      rw [List.length_map, List.take_length] at hQ
      have ok0 : TOk (rowsL y.marks.length k) T0 := fun r hr x hx => by
        have : x = 0 := by
          by_cases hb : hasB y.start r = true
          · rw [show T0 r = some 0 from if_pos hb] at hx
            exact (Option.some.inj hx).symm
          · rw [show T0 r = none from if_neg hb] at hx
            cases hx
        subst this
        exact ⟨Int.le_refl _, by omega⟩
      refine q_set (K := K) ev_bl fun v H2 e2 hv => ?_
      obtain rfl := hv.bl_inv
      refine ⟨fun m σ' H' => ∃ (g : Bool) (T : List Int → Option Int) (a c : Option V), σ' = [some v1, some (.int k), some (.ref p), a, some (.bl g), c] ∧ Same H H' ∧ H' p = some (.dT (tab (rowsL y.marks.length k) fun r => oV (T r))) ∧ TOk (rowsL y.marks.length k) T ∧ m = Phi (rowsL y.marks.length k) T + (if g = true then 1 else 0), ⟨_, true, T0, b, none, rfl, sm.trans e2, e2 _ _ hQ, ok0, rfl⟩, ?_⟩
      rintro m σ' H' ⟨g, T, a, c, rfl, sm, hQ, tok, rfl⟩
      refine eb_B (K := K) (ev_v (.t (.bl g))) H' (Same.refl H') _ fun H3 e3 => ?_
      cases g with
      | false => exact iteF ⟨_, rfl, q0 p T H3 hp (sm.trans e3) (e3 _ _ hQ)⟩
      | true =>
        refine iteT ⟨fun σ' H' => ∃ m', m' < Phi (rowsL y.marks.length k) T + 1 ∧ ∃ (g : Bool) (T : List Int → Option Int) (a c : Option V), σ' = [some v1, some (.int k), some (.ref p), a, some (.bl g), c] ∧ Same H H' ∧ H' p = some (.dT (tab (rowsL y.marks.length k) fun r => oV (T r))) ∧ TOk (rowsL y.marks.length k) T ∧ m' = Phi (rowsL y.marks.length k) T + (if g = true then 1 else 0), fun _ _ z => z, ?_⟩
        refine q_set (K := K) ev_bl fun v H4 e4 hv => ?_
        obtain rfl := hv.bl_inv
        have s4 := (sm.trans e3).trans e4
        have hQ4 := e4 _ _ (e3 _ _ hQ)
        refine z_seq (q_forLN (K := K) (en_keys (K := K) hQ4) (fun l xs i σ' H' => (H' l = some (.lst xs) ∧ TpAll K H' xs ((rowsL y.marks.length k).map tI)) ∧ l ≠ p ∧ ∃ (g : Bool) (T' : List Int → Option Int) (a c : Option V), σ' = [some v1, some (.int k), some (.ref p), a, some (.bl g), c] ∧ Same H H' ∧ H' p = some (.dT (tab (rowsL y.marks.length k) fun r => oV (T' r))) ∧ TOk (rowsL y.marks.length k) T' ∧ ((g = false ∧ Phi (rowsL y.marks.length k) T' ≤ Phi (rowsL y.marks.length k) T) ∨ Phi (rowsL y.marks.length k) T' < Phi (rowsL y.marks.length k) T))
          (fun l xs H5 hl e5 hH hx => ⟨⟨hH, hx⟩, fun z => (by rw [z, hQ4] at hl; cases hl), false, T, a, c, rfl, s4.trans e5, e5 _ _ hQ4, tok, .inl ⟨rfl, Nat.le_refl _⟩⟩) (fun l xs i σ' H' pr => pr.1) (fun l xs i z v σ' H5 hi pr tv => ?_) fun l xs σ' H5 pr => ?_)
        · obtain ⟨⟨hH, hx⟩, nlp, g, T', a, c, rfl, sm5, hQ5, tok5, hphi⟩ := pr
          rw [List.getElem?_map] at hi
          obtain ⟨r, hr', rfl⟩ := Option.map_eq_some_iff.mp hi
          have hrm := List.mem_of_getElem? hr'
          have hr5 := rowlen r hrm
          refine ⟨_, rfl, _, rfl, _, rfl, _, rfl, v1, p, v, y, k, T', r, 99 * finN (rowsL y.marks.length k) T', rfl, h1.same sm5, ok, hQ5, .t tv, (mem_rows.mp hrm).1, k1, by omega, tok5, fun o H6 e6 ho => ?_⟩
          unfold gName
          dsimp only [List.set]
          refine z_seq (q_if0 (b := !hasB y.start r && leastB o (T' r)) (eb_and (a := !hasB y.start r) (b := leastB o (T' r)) (eb_not (eb_B (K := K) (ev_call (false, y.start, r) (ea_cons (ev_ixT (j := 2) (ev_v (h1.same (sm5.trans e6))) ev_int rfl) (ea_cons (ev_v (.t (tv.same e6))) ea_nil)) (by dsimp only; omega)))) fun _ => eb_B (K := K) (ev_call (o, T' r) (ea_cons (ev_v (.t (oV_tp o))) (ea_cons (ev_dget (v := oV (T' r)) (.inl (e6 _ _ hQ5)) (ev_v (.t (tv.same e6))) (tab_in (f := fun r => oV (T' r)) hrm) fun _ => oV_tp _) ea_nil)) True.intro)) (fun hb H7 e7 => ?_) fun hb H7 e7 => ?_)
          · have hlt := (Bool.and_eq_true_iff.mp hb).2
            obtain ⟨tok6, hphi6⟩ := table_step hrn hrl hrm tok5 ho hlt
            have e67 := e6.trans e7
            refine q_dput (K := K) (e67 _ _ hQ5) (by rw [tab_len]; omega) (ev_v (.t (oV_tp o))) (ev_v (.t (tv.same e67))) fun v' H8 e8 hv' => ?_
            rw [oD_inv hv', tab_put_in _ hrm, tab_congr (g := fun s => oV (updT T' r o s)) (fun s _ => by unfold updT; by_cases es : s = r <;> simp only [es, if_true, if_false])]
            have e68 := e67.trans e8
            have tm : Tm H8 (upd H8 p (.dT (tab (rowsL y.marks.length k) fun s => oV (updT T' r o s)))) := Tm.updD (e68 _ _ hQ5)
            refine z_seq (q_set (K := K) ev_bl fun v9 H9 e9 hv9 => ?_)
            obtain rfl := hv9.bl_inv
            refine ⟨⟨e9 _ _ ?_, (((hx.same e68).tm tm)).same e9⟩, nlp, true, updT T' r o, _, _, rfl, (Same.mut (sm5.trans e68) hp).trans e9, e9 _ _ upd_same, tok6, .inr ?_⟩
            · rw [upd_ne nlp]; exact e68 _ _ hH
            · rcases hphi with ⟨_, z⟩ | z <;> omega
          · have e67 := e6.trans e7
            exact ⟨⟨e67 _ _ hH, hx.same e67⟩, nlp, g, T', _, _, rfl, sm5.trans e67, e67 _ _ hQ5, tok5, hphi⟩
        · obtain ⟨_, _, g, T', a, c, rfl, sm5, hQ5, tok5, hphi⟩ := pr
          refine ⟨Phi (rowsL y.marks.length k) T' + (if g = true then 1 else 0), ?_, g, T', a, c, rfl, sm5, hQ5, tok5, rfl⟩
          cases g with
          | false =>
            rw [if_neg (by decide)]
            rcases hphi with ⟨_, z⟩ | z <;> omega
          | true =>
            rw [if_pos rfl]
            rcases hphi with ⟨z, _⟩ | z
            · cases z
            · omega
end
end WB

/-! what a paper shows; the law's papers -/
namespace WB
open PySem PySem.Spec PyProof.Rows L2
theorem has_trans {s ms ks : List Int} (h : hasB s ms = true) (h2 : hasB ms ks = true) : hasB s ks = true := has_iff.mpr fun m hm => has_iff.mp h m (has_iff.mp h2 m hm)
theorem one_iff {rows : List (List Int)} {s : List Int} : oneB rows s = true ↔ ∃ r ∈ rows, hasB s r = true := by
  unfold oneB
  rw [List.any_eq_true]
theorem after_lo {s : List Int} {d : Deed} {m : Int} (h : m ∈ afterM s d) : (m ∈ s ∨ m ∈ d.sets) ∧ m ∉ d.strikes := by
  have := (mk_ms 5 _).2 m h
  exact (mem_after this.1 this.2).mp h
theorem shown_none {y : Yard} {word : Str} {pp : Paper} (ok : y.Ok) (h : dueB y word pp = true) : ∃ I : List Int → Prop, Keeps y I ∧ ∀ s, Ms y.marks.length s → I s → hasB s y.wish = false := by
  have nev : ∀ rows, neverB y rows = true → ∃ I : List Int → Prop, Keeps y I ∧ ∀ s, Ms y.marks.length s → I s → hasB s y.wish = false := fun rows hn => by
    unfold neverB at hn
    rw [Bool.and_eq_true, Bool.and_eq_true, List.all_eq_true] at hn
    obtain ⟨h1, h2, h3⟩ := hn
    refine ⟨fun s => oneB rows s = false, ⟨by simpa using h1, fun s d hd hs hm hh => ?_⟩, fun s hm hs => ?_⟩
    · have hs : oneB rows s = false := hs
      refine Bool.eq_false_iff.mpr fun hc => ?_
      obtain ⟨r, hr, hhr⟩ := one_iff.mp hc
      have bad : ∀ r' ∈ rows, hasB s r' = true → False := fun r' hr' z => by
        have hs : oneB rows s = false := hs
        rw [one_iff.mpr ⟨r', hr', z⟩] at hs; cases hs
      have hmem := has_iff.mp hhr
      cases hb : bringsB d r with
      | true =>
        have hq := List.all_eq_true.mp (h3 r hr) d hd
        rw [hb] at hq
        obtain ⟨r', hr', hh'⟩ := one_iff.mp (show oneB rows (neededM d r) = true by simpa using hq)
        refine bad r' hr' (has_trans (has_iff.mpr fun m hm => ?_) hh')
        unfold neededM at hm
        rw [mem_mk, Bool.or_eq_true, Bool.and_eq_true] at hm
        simp only [decide_eq_true_eq, Bool.not_eq_true', decide_eq_false_iff_not] at hm
        rcases hm.2 with ⟨z, u⟩ | z
        · exact (after_lo (hmem m z)).1.resolve_right u
        · exact has_iff.mp hh m z
      | false =>
        unfold bringsB at hb
        have hst : (r.any fun m => decide (m ∈ d.strikes)) = false := List.any_eq_false.mpr fun m hm => by
          have := (after_lo (hmem m hm)).2
          simpa using this
        rw [hst] at hb
        have hse : (r.any fun m => decide (m ∈ d.sets)) = false := by simpa using hb
        refine bad r hr (has_iff.mpr fun m hm => (after_lo (hmem m hm)).1.resolve_right ?_)
        have := List.any_eq_false.mp hse m hm
        simpa using this
    · refine Bool.eq_false_iff.mpr fun hc => ?_
      obtain ⟨r, hr, hhr⟩ := one_iff.mp h2
      have hs : oneB rows s = false := hs
      rw [one_iff.mpr ⟨r, hr, has_trans hc hhr⟩] at hs
      cases hs
  have clo : ∀ ss, closedB y ss = true → ∃ I : List Int → Prop, Keeps y I ∧ ∀ s, Ms y.marks.length s → I s → hasB s y.wish = false := fun ss hn => by
    unfold closedB at hn
    rw [Bool.and_eq_true, decide_eq_true_eq, List.all_eq_true] at hn
    obtain ⟨h1, h2⟩ := hn
    refine ⟨fun s => s ∈ ss, ⟨h1, fun s d hd hs hm hh => ?_⟩, fun s hm hs => ?_⟩
    · have := List.all_eq_true.mp (Bool.and_eq_true_iff.mp (h2 s hs)).2 d hd
      rw [hh] at this
      simpa using this
    · simpa using (Bool.and_eq_true_iff.mp (h2 s hs)).1
  have wei : ∀ ws, weighedB y ws = true → ∃ I : List Int → Prop, Keeps y I ∧ ∀ s, Ms y.marks.length s → I s → hasB s y.wish = false := fun ws hn => by
    unfold weighedB at hn
    rw [Bool.and_eq_true, Bool.and_eq_true, decide_eq_true_eq, decide_eq_true_eq, List.all_eq_true] at hn
    obtain ⟨h1, h2, h3⟩ := hn
    refine ⟨fun s => weightI ws y.start ≤ weightI ws s, ⟨Int.le_refl _, fun s d hd hs hm hh => ?_⟩, fun s hm hs => ?_⟩
    · have hf := of_decide_eq_true (h2 d hd)
      have := fall_max (ws := ws) hm (ok.deeds d hd) ok.m5 hh
      omega
    · refine Bool.eq_false_iff.mpr fun hc => ?_
      have := top_max (y := y) (ws := ws) (h1 ▸ hm) hc
      omega
  cases pp with
  | rows rs =>
    unfold dueB at h
    rcases (Bool.or_eq_true_iff.mp h) with z | z
    · exact nev rs (Bool.and_eq_true_iff.mp z).2
    · exact clo rs (Bool.and_eq_true_iff.mp z).2
  | nums ws =>
    unfold dueB at h
    exact wei ws (Bool.and_eq_true_iff.mp h).2
section
variable {K : PySem.W.Frag} {d : Addr} {σ : L2.St} {H : Hp} {ta tb te : TE} {t : TA} {D : Ends} {L L1 L2' : List PyData → Prop}
theorem ret_pair (hd : Dice d H) (h : DA K d t σ H (fun ds => ∃ word pp, ds = [.str word, Paper.dat pp] ∧ PaperOk word pp)) (k : ∀ a b word pp H', Kp d H H' → H' a = some (.tup [.str word, .ref b]) → Aq K d H' (.ref b) (Paper.dat pp) → PaperOk word pp → D.rt (.ref a) H') : tRet (tTup t) D σ H :=
  h H (Kp.refl hd) _ fun vs ds H1 k1 hvs ⟨word, pp, e, hpp⟩ => by
    subst e
    obtain ⟨v, u, rfl, hv, hu⟩ := hvs.two
    obtain rfl := hv.1.str_inv
    have hb : ∃ b, u = .ref b := by
      cases pp with
      | rows rs => obtain ⟨b, _, e, _⟩ := Ap.lst_inv (show Ap K H1 u (.list (rs.map tI)) from hu.1); exact ⟨b, e⟩
      | nums ws => obtain ⟨b, _, e, _⟩ := Ap.lst_inv (show Ap K H1 u (.list (dI ws)) from hu.1); exact ⟨b, e⟩
    obtain ⟨b, rfl⟩ := hb
    exact ⟨Nat.le_of_lt (small1000 (by show 2 ≤ 1000; decide)), fun a ha => k a b word pp _ (k1.then (Same.new ha)) upd_same (hu.same (Same.new ha)) hpp⟩
theorem dn_listOf (h : DP K d ta σ H (fun x => ∃ ds, x = .tuple ds ∧ L ds)) : DN K d (tCB (rListQ K) (tCons ta tNil)) σ H L := fun H1 k Q qq =>
  h H1 k _ fun v dd H2 k2 hv ⟨ds, e, hL⟩ => by
    subst e
    obtain ⟨a, xs, rfl, hq, hx⟩ := hv.1.tup_inv
    exact ⟨a, xs, rfl, .inr hq, fun l hl => qq l xs ds _ (k2.free hl) (k2.then (Same.new hl)) upd_same (hx.same (Same.new hl)) hL⟩
/-- a tracked list -/
def DM (K : PySem.W.Frag) (d : Addr) (te : TE) (σ : L2.St) (H : Hp) (P : List PyData → Prop) : Prop := ∀ H1, Kp d H H1 → ∀ Q : VK, (∀ p xs ds H2, p ≠ d → Kp d H1 H2 → H2 p = some (.lst xs) → TpAll K H2 xs ds → P ds → Q (.ref p) H2) → te σ H1 Q
theorem DN.dm (h : DN K d te σ H L) : DM K d te σ H L := fun H1 k Q qq => h H1 k Q fun p xs ds H2 hp k2 hH hx hL => qq p xs ds H2 (k.d2.ne hp) k2 hH hx hL
theorem dm_v {i : Nat} {p : Addr} {xs : List V} {ds : List PyData} (n : p ≠ d) (hH : H p = some (.lst xs)) (hx : TpAll K H xs ds) (hL : L ds) (h : σ[i]? = some (some (.ref p)) := by rfl) : DM K d (tVar i) σ H L := fun H1 k Q qq => ⟨_, h, qq p xs ds H1 n (Kp.refl k.d2) (k.st _ _ n hH) (hx.kp k) hL⟩
theorem dn_cat (ha : DM K d ta σ H L1) (hb : DM K d tb σ H L2') (hl : ∀ a b, L1 a → L2' b → a.length + b.length ≤ 1000 ∧ L (a ++ b)) : DN K d (tOp rCat ta tb) σ H L := fun H1 k Q qq =>
  ha H1 k _ fun p xs ds H2 np k2 h2 hx l1 => hb H2 (k.trans k2) _ fun r ys es H3 nr k3 h3 hy l2 =>
    ⟨p, r, xs, ys, rfl, rfl, k3.st _ _ np h2, h3, by rw [hx.len, hy.len]; exact Nat.le_of_lt (small1000 (hl _ _ l1 l2).1), fun l hlf => qq l _ _ _ ((k2.trans k3).free hlf) ((k2.trans k3).then (Same.new hlf)) upd_same (((hx.kp k3).same (Same.new hlf)).app (hy.same (Same.new hlf))) (hl _ _ l1 l2).2⟩
/-- [0] * 0 or 1 -/
theorem dn_rep (hb : DP K d tb σ H (IsI fun m => 0 ≤ m ∧ m ≤ 1)) : DN K d (tOp rRep (tLst (tCons (tC (.int 0)) tNil)) tb) σ H (fun ds => ∃ ns, ds = dI ns ∧ ns.length ≤ 1) := fun H1 k Q qq =>
  ⟨Nat.le_of_lt (small1000 (by show 1 ≤ 1000; decide)), fun p hp => by
    have k2 : Kp d H1 (upd H1 p (.lst [V.int 0])) := Kp.of (Same.new hp) k.d2
    refine hb _ (k.trans k2) _ fun v dd H3 k3 hv ⟨m, e, m0, m1⟩ => ?_
    subst e
    obtain rfl := hv.1.int_inv
    refine ⟨p, m, [.int 0], rfl, rfl, k3.st _ _ (k.d2.ne hp) upd_same, by omega, by omega, ?_, fun l hl => ?_⟩
    · show 1 * m.toNat ≤ sizeLine
      exact Nat.le_of_lt (small1000 (by omega))
    · have : (List.replicate m.toNat [V.int 0]).flatten = (List.replicate m.toNat (0 : Int)).map V.int := by
        rw [List.map_replicate]
        clear m0 m1 hv
        induction m.toNat with
        | zero => rfl
        | succ n ih => rw [List.replicate_succ, List.replicate_succ, List.flatten_cons, ih]; rfl
      refine qq l _ (dI (List.replicate m.toNat 0)) _ (k2.free (k3.free hl)) ((k2.trans k3).then (Same.new hl)) upd_same (by rw [this]; exact TpAll.ofInts _) ⟨_, rfl, by rw [List.length_replicate]; omega⟩⟩
/-- the keys whose value is none -/
theorem en_open {p : Addr} {R : List (List Int)} {T : List Int → Option Int} {i j : Nat} (hij : i ≠ j) (hp : H p = some (.dT (tab R fun r => oV (T r)))) (hl : R.length ≤ 1000) (si : σ[i]? = some (some (.ref p))) (sj : j < σ.length) :
    EvN K (tLockE (tLc (iKeys (tVar i)) (gName j) (tTest (tOp (fun x y H Q => y = .non ∧ Q (.bl (decide (x = .non))) H) (tDGet (tVar i) (tVar j)) (tC .non))) (tVar j) [j])) σ H ((R.filter fun r => decide (T r = none)).map tI) := fun H1 e Q q => by
  have hp1 := e _ _ hp
  refine ⟨p, _, hp1, True.intro, fun od => ?_⟩
  refine ⟨_, si, p, od, rfl, .inr ⟨_, upd_same, fun D hD => ?_⟩⟩
  have nDp : D ≠ p := fun z => by rw [z, upd_same] at hD; cases hD
  have sfr : ∀ b o, b ≠ p → H1 b = some o → upd H1 p (.frz od (.dT (tab R fun r => oV (T r)))) b = some o := fun b o nb hb => by rw [upd_ne nb]; exact hb
  have hD1 : H1 D = none := by rw [upd_ne nDp] at hD; exact hD
  have back : ∀ {H' : Hp}, Same (upd H1 p (.frz od (.dT (tab R fun r => oV (T r))))) H' → Same H1 (upd H' p (.dT (tab R fun r => oV (T r)))) := fun {H'} s b o hb => by
    by_cases eb : b = p
    · subst eb
      rw [upd_same, ← hp1, hb]
    · rw [upd_ne eb]
      exact s _ _ (sfr b o eb hb)
  have hw0 : ∀ x : V, wipe ((wipe σ [j]).set j (some x)) [j] = wipe σ [j] := fun x => by
    show (((σ.set j none).set j (some x)).set j none) = σ.set j none
    rw [List.set_set, List.set_set]
  refine lc_it (walk_keysT (d := p) (o := od) (kvs := tab R fun r => oV (T r))) (fun n H' => ∃ acc, Same (upd H1 p (.frz od (.dT (tab R fun r => oV (T r))))) H' ∧ H' D = some (.lst acc) ∧ TpAll K H' acc (((R.take n).filter fun r => decide (T r = none)).map tI)) ⟨[], Same.new hD, upd_same, .nil⟩ (fun n H' _ ⟨_, s, _⟩ => s _ _ upd_same) (fun n x H' H2 hn pr y => ?_) fun H' ⟨acc, s, eD, ta⟩ => ?_
  · obtain ⟨rfl, ky, v, q', hk, rfl, hq⟩ := y
    obtain ⟨acc, s, eD, ta⟩ := pr
    unfold tab at hk
    rw [List.getElem?_map] at hk
    obtain ⟨r, hr, e2⟩ := Option.map_eq_some_iff.mp hk
    cases e2
    rw [kI_kV] at hq
    have hrm := List.mem_of_getElem? hr
    have hts : R.take (n + 1) = R.take n ++ [r] := by rw [List.take_add_one, hr]; rfl
    have hkey : Ap K H2 (.ref q') (tI r) := .t (.tup hq (TpAll.ofInts r))
    have s0 : ((wipe σ [j]).set j (some (.ref q')))[i]? = some (some (.ref p)) := by
      show ((σ.set j none).set j (some (V.ref q')))[i]? = _
      rw [List.set_set, List.getElem?_set_ne (fun z => hij z.symm)]
      exact si
    have s1 : ((wipe σ [j]).set j (some (.ref q')))[j]? = some (some (.ref q')) := by
      show ((σ.set j none).set j (some (V.ref q')))[j]? = _
      rw [List.set_set, List.getElem?_set_self sj]
    refine ⟨hw0 _, eb_test (K := K) (b := decide (T r = none)) (Ev.is (ev_isN (d := oD (T r)) (ev_dget (v := oV (T r)) (ns := r) (.inr ⟨od, s _ _ upd_same⟩) (ev_v hkey s1) (tab_in (f := fun r => oV (T r)) hrm) (fun _ => oV_tp _) s0)) (by cases T r <;> rfl)) H2 (Same.refl _) _ fun H3 e3 => ?_⟩
    by_cases hT : T r = none
    · rw [decide_eq_true hT]
      refine iteT ⟨_, s1, acc, e3 _ _ eD, ?_, _, Same.mut (s.trans e3) hD, upd_same, ?_⟩
      · rw [ta.len, List.length_map]
        refine Nat.lt_of_le_of_lt (List.length_filter_le _ _) ?_
        rw [List.length_take]
        exact small1000 (by omega)
      · rw [hts, List.filter_append, List.map_append]
        have m : Tm H3 (upd H3 D (.lst (acc ++ [V.ref q']))) := Tm.updL (e3 _ _ eD)
        have : ([r].filter fun r => decide (T r = none)) = [r] := by simp [hT]
        rw [this]
        exact ((ta.same e3).tm m).app (.cons (((hkey.tp rfl).same e3).tm m) .nil)
    · rw [decide_eq_false hT]
      refine iteF ⟨acc, s.trans e3, e3 _ _ eD, ?_⟩
      rw [hts, List.filter_append]
      have : ([r].filter fun r => decide (T r = none)) = [] := by simp [hT]
      rw [this, List.append_nil]
      exact ta.same e3
  · rw [tab_len, List.take_length] at ta
    have hpz : H' p = some (.frz od (.dT (tab R fun r => oV (T r)))) := s _ _ upd_same
    refine ⟨hpz, q D acc _ hD1 (back s) ?_ ?_⟩
    · rw [upd_ne nDp]; exact eD
    · exact ta.tm (Tm.upd hpz fun _ z => nomatch z)
end
end WB

/-! the law's papers -/
namespace WB
open PySem PySem.Spec PyProof.Rows L2
section
variable {P : Program} {w : World} {K : PySem.W.Frag} {mg : Str → Option Value} {base : Heap}
abbrev s__law_paper : Stmt := topS 53
abbrev N__law_paper : List Str := ["_law_d", "_law_t", "_law_way", "_law_many", "_law_table_here", "_law_rows_here", "_law_row", "_law_fresh", "_law_spots", "_law_state", "_law_set_somewhere", "_law_deed", "_law_weights_here", "_law_mark", "_law_word"]
theorem sc__law_paper : FnScope N__law_paper ["_law_d", "_law_t"] (defScope s__law_paper) := ⟨rfl, rfl, rfl, by decide +kernel, rfl, by decide +kernel, by decide +kernel⟩
def spPaper (K : PySem.W.Frag) : Sp := fun vs H Q _ => ∃ (d : Addr) (u : V) (y : Yard), vs = [.ref d, u] ∧ Dice d H ∧ Aq K d H u y.dat ∧ y.Ok ∧ ∀ a b word pp H', Kp d H H' → H' a = some (.tup [.str word, .ref b]) → Aq K d H' (.ref b) (Paper.dat pp) → PaperOk word pp → Q (.ref a) H'
theorem perm_tI {zs : List PyData} {rs : List (List Int)} (h : zs.Perm (rs.map tI)) : ∃ rs' : List (List Int), zs = rs'.map tI ∧ rs'.Perm rs := perm_map_inv h
theorem ok__law_paper (F : Df K mg "_law_paper" s__law_paper) (M : Mg mg) (C__law_off : Cl P w K mg base 1 "_law_off" (spOff K)) (C__law_some : Cl P w K mg base 2 "_law_some" (spSome K)) (C__law_mixed : Cl P w K mg base 2 "_law_mixed" (spMixed K)) (C__law_changed : Cl P w K mg base 2 "_law_changed" (spChanged K))
    (C__law_table : Cl P w K mg base 4 "_law_table" (spTable K)) (C__law_states : Cl P w K mg base 2 "_law_states" (spStates K)) (C__law_weights : Cl P w K mg base 2 "_law_weights" (spWts K)) : Cl P w K mg base 5 "_law_paper" (spPaper K) := by
  refine cl_of F sc__law_paper (fun _ _ _ _ _ _ us hl => match us, hl with | [_, _], _ => rfl) (fun vs H Q E h => ?_) (fun f cdv A outer s H vs Q E hr h => ?_)
  · obtain ⟨_, _, _, rfl, _⟩ := h
    rfl
  · have nd := sc__law_paper.nd
    obtain ⟨d, u, y, rfl, hd, hu, ok, q0⟩ := h
    have h5 := ok.m5
    have h10 := ok.d10
    refine ⟨_, (pss_cons (ps_set (i := 2) nd rfl (by first | exact Or.inl rfl | exact Or.inr rfl) (pe_cl C__law_off hr (by decide) (by rfl) (pa_cons (pv 0) (pa_cons pe_int pa_nil))))
      (pss_cons (ps_set (i := 3) nd rfl (by first | exact Or.inl rfl | exact Or.inr rfl) (pe_callB (k_len K) (by rfl) M.b_len (by decide +kernel) (pa_cons (pe_ix (k_ixT K) (pv 1) pe_int (fun _ _ => rfl)) pa_nil)))
      (pss_cons (ps_if (pt_cmpR op_lt (pv 2) pe_int (nomark _))
        (pss_cons (ps_set (i := 4) nd rfl (by first | exact Or.inl rfl | exact Or.inr rfl) (pe_cl C__law_table hr (by decide) (by rfl) (pa_cons (pv 1) (pa_cons (pe_callB (call_min2 rfl) (by rfl) M.b_min (by decide +kernel) (pa_cons (pv 3) (pa_cons (pe_op op_add pe_int (pe_cl C__law_off hr (by decide) (by rfl) (pa_cons (pv 0) (pa_cons pe_int pa_nil)))) pa_nil))) pa_nil))))
        (pss_cons (ps_set (i := 5) nd rfl (by first | exact Or.inl rfl | exact Or.inr rfl) (pe_cl C__law_mixed hr (by decide) (by rfl) (pa_cons (pv 0) (pa_cons (pe_lock (pe_lc (own := [("_law_row", 6)]) (g := gName 6) (by rfl) nd (pi_keys (pv 4)) (blkOk_by (N := N__law_paper) (sc := defScope s__law_paper) (by decide +kernel)) (fun _ _ _ _ _ => pg_name (i := 6) nd rfl (by first | exact Or.inl rfl | exact Or.inr rfl)) (fun _ _ _ _ _ => pts_one (pt_cmpR op_isN (pe_dget (hu_of hr) (pv 4) (pv 6) (fun _ _ => rfl)) pe_non (nomark _))) (fun _ _ _ _ _ => (pv 6)))) pa_nil))))
        (pss_cons (ps_set (i := 7) nd rfl (by first | exact Or.inl rfl | exact Or.inr rfl) (pe_callTy (k_tupOf K) (by rfl) M.b_tuple (by decide +kernel) (pa_cons (pe_cl C__law_mixed hr (by decide) (by rfl) (pa_cons (pv 0) (pa_cons (pe_callTy (k_listOf K) (by rfl) M.b_list (by decide +kernel) (pa_cons (pe_cl C__law_some hr (by decide) (by rfl) (pa_cons (pv 0) (pa_cons (pv 3) (pa_cons pe_int pa_nil)))) pa_nil)) pa_nil))) pa_nil)))
        (pss_one (ps_ret (pe_tup (pa_cons pe_str (pa_cons (pe_cl C__law_changed hr (by decide) (by rfl) (pa_cons (pv 0) (pa_cons (pe_ifExp (pt_cmpR op_lt (pv 2) pe_int (nomark _)) (pv 5) (pe_lst (pa_cons (pv 7) pa_nil))) (pa_cons (pv 7) pa_nil)))) pa_nil))))))))
        pss_nil)
      (pss_cons (ps_if (pt_cmpR op_lt (pv 2) pe_int (nomark _))
        (pss_cons (ps_setLc (i := 8) (own := [("_law_state", 9)]) (g := gName 9) (by rfl) nd rfl (by first | exact rfl) (sw_true rfl rfl rfl (by decide +kernel)) (k_list K (pe_cl C__law_states hr (by decide) (by rfl) (pa_cons (pv 1) pa_nil))) (blkOk_by (N := N__law_paper) (sc := defScope s__law_paper) (by decide +kernel)) (fun _ _ _ _ _ => pg_name (i := 9) nd rfl (by first | exact Or.inl rfl | exact Or.inr rfl)) (fun _ _ _ _ _ => pts_one (PW.pt (pw_or (pt_cmpR (k_neD K hr.units) (pv 9) (pe_ix (k_ixT K) (pv 1) pe_int (fun _ _ => rfl)) (nomark _)) (pw_or1 (pt_cmpR op_gt (pe_cl C__law_off hr (by decide) (by rfl) (pa_cons (pv 0) (pa_cons pe_int pa_nil))) pe_int (nomark _)))))) (fun _ _ _ _ _ => (pv 9)))
        (pss_one (ps_ret (pe_tup (pa_cons pe_str (pa_cons (pe_cl C__law_changed hr (by decide) (by rfl) (pa_cons (pv 0) (pa_cons (pe_cl C__law_mixed hr (by decide) (by rfl) (pa_cons (pv 0) (pa_cons (pv 8) pa_nil))) (pa_cons (pe_cl C__law_some hr (by decide) (by rfl) (pa_cons (pv 0) (pa_cons (pv 3) (pa_cons (pv 3) pa_nil)))) pa_nil)))) pa_nil))))))
        pss_nil)
      (pss_cons (ps_if (pt_cmpR op_eq (pv 2) pe_int (nomark _))
        (pss_one (ps_ret (pe_tup (pa_cons pe_str (pa_cons (pe_op op_cat (pe_cl C__law_weights hr (by decide) (by rfl) (pa_cons (pv 0) (pa_cons (pv 1) pa_nil))) (pe_op op_rep (pe_lst (pa_cons pe_int pa_nil)) (pe_callTy call_int1 (by rfl) M.b_int (by decide +kernel) (pa_cons (pe_cmpR op_eq (pe_cl C__law_off hr (by decide) (by rfl) (pa_cons (pv 0) (pa_cons pe_int pa_nil))) pe_int (nomark _)) pa_nil)))) pa_nil)))))
        pss_nil)
      (pss_cons (ps_set (i := 10) nd rfl (by first | exact Or.inl rfl | exact Or.inr rfl) (pe_callTy (k_listOf K) (by rfl) M.b_list (by decide +kernel) (pa_cons (pe_ix (k_ixT K) (pv 1) pe_int (fun _ _ => rfl)) pa_nil)))
      (pss_cons (ps_for PassesOwn.never rfl (k_tup K (pe_ix (k_ixT K) (pv 1) pe_int (fun _ _ => rfl))) (pg_name (i := 11) nd rfl (by first | exact Or.inl rfl | exact Or.inr rfl))
        (pss_one (ps_set (i := 10) nd rfl (by first | exact Or.inl rfl | exact Or.inr rfl) (pe_op op_cat (pv 10) (pe_callTy (k_listOf K) (by rfl) M.b_list (by decide +kernel) (pa_cons (pe_ix (k_ixT K) (pv 11) pe_int (fun _ _ => rfl)) pa_nil))))))
      (pss_cons (ps_setLc (i := 12) (own := [("_law_mark", 13)]) (g := gName 13) (by rfl) nd rfl (by first | exact rfl) (sw_true rfl rfl rfl (by decide +kernel)) (pi_range1 (by rfl) M.b_range (pa_cons (pv 3) pa_nil)) (blkOk_by (N := N__law_paper) (sc := defScope s__law_paper) (by decide +kernel)) (fun _ _ _ _ _ => pg_name (i := 13) nd rfl (by first | exact Or.inl rfl | exact Or.inr rfl)) (fun _ _ _ _ _ => pts_nil) (fun _ _ _ _ _ => (pe_op op_sub (pe_op op_sub (pe_callTy call_int1 (by rfl) M.b_int (by decide +kernel) (pa_cons (pe_cmpR (k_in K) (pv 13) (pv 10) (by rfl)) pa_nil)) pe_int) (pe_op op_mul (pe_cl C__law_off hr (by decide) (by rfl) (pa_cons (pv 0) (pa_cons pe_int pa_nil))) (pe_callTy call_int1 (by rfl) M.b_int (by decide +kernel) (pa_cons (pe_cmpR (k_notIn K) (pv 13) (pv 10) (by rfl)) pa_nil))))))
      (pss_cons (ps_if (pt_cmpR op_eq (pv 2) pe_int (nomark _))
        (pss_one (ps_setLc (i := 12) (own := [("_law_mark", 13)]) (g := gName 13) (by rfl) nd rfl (by first | exact rfl) (sw_true rfl rfl rfl (by decide +kernel)) (pi_range1 (by rfl) M.b_range (pa_cons (pv 3) pa_nil)) (blkOk_by (N := N__law_paper) (sc := defScope s__law_paper) (by decide +kernel)) (fun _ _ _ _ _ => pg_name (i := 13) nd rfl (by first | exact Or.inl rfl | exact Or.inr rfl)) (fun _ _ _ _ _ => pts_nil) (fun _ _ _ _ _ => (pe_op op_sub (pe_callTy call_int1 (by rfl) M.b_int (by decide +kernel) (pa_cons (pe_cmpR (k_in K) (pv 13) (pe_ix (k_ixT K) (pv 1) pe_int (fun _ _ => rfl)) (by rfl)) pa_nil)) (pe_op op_mul (pe_callTy call_int1 (by rfl) M.b_int (by decide +kernel) (pa_cons (pe_cmpR (k_in K) (pv 13) (pe_ix (k_ixT K) (pv 1) pe_int (fun _ _ => rfl)) (by rfl)) pa_nil)) (pe_cl C__law_off hr (by decide) (by rfl) (pa_cons (pv 0) (pa_cons pe_int pa_nil))))))))
        pss_nil)
      (pss_cons (ps_set (i := 14) nd rfl (by first | exact Or.inl rfl | exact Or.inr rfl) (pe_ix (k_ixL K) (pe_lst (pa_cons pe_str (pa_cons pe_str (pa_cons pe_str (pa_cons pe_str (pa_cons pe_str (pa_cons pe_str pa_nil))))))) (pe_cl C__law_off hr (by decide) (by rfl) (pa_cons (pv 0) (pa_cons pe_int pa_nil))) (fun _ _ => rfl)))
      (pss_one (ps_ret (pe_tup (pa_cons (pv 14) (pa_cons (pe_op op_cat (pv 12) (pe_op op_rep (pe_lst (pa_cons pe_int pa_nil)) (pe_callTy call_int1 (by rfl) M.b_int (by decide +kernel) (pa_cons (pe_cmpR op_eq (pe_cl C__law_off hr (by decide) (by rfl) (pa_cons (pv 0) (pa_cons pe_int pa_nil))) pe_int (nomark _)) pa_nil)))) pa_nil))))))))))))))), ?_⟩
    refine dq_set (K := K) hd (dp_offC (by decide) (by decide)) fun v dd H1 k1 hv ⟨way, e, w0, w10⟩ => ?_
    subst e
    obtain rfl := hv.1.int_inv
    have hu1 := hu.kp k1
    refine q_set (K := K) (d := .int y.marks.length) (Ev.is (ev_len (ea_cons (ev_ixT (j := 0) (ev_v hu1.1) ev_int rfl) ea_nil) (.inl rfl)) (by rw [List.length_map])) fun v H2 e2 hv => ?_
    obtain rfl := hv.int_inv
    have k2 := k1.then e2
    have hu2 := hu.kp k2
    have mixRows : ∀ {σ : L2.St} {H' : Hp} {te : TE} {E : XK} {n : Nat}, σ[0]? = some (some (.ref d)) → DP K d te σ H' (fun x => ∃ rs : List (List Int), x = .list (rs.map tI) ∧ rs.length ≤ 400 ∧ ∀ r ∈ rs, Ms n r) → DP K d (tCall (spMixed K) [] E (tCons (tVar 0) (tCons te tNil))) σ H' (fun x => ∃ rs : List (List Int), x = .list (rs.map tI) ∧ rs.length ≤ 400 ∧ ∀ r ∈ rs, Ms n r) := fun s0 h =>
      dp_call ((da_one h).mono fun ds ⟨x, e, rs, ex, hl, hm⟩ => ⟨rs.map tI, by rw [e, ex], ⟨by rw [List.length_map]; omega, fun z hz => by obtain ⟨r, _, rfl⟩ := List.mem_map.mp hz; exact ⟨rfl, (sh_tI r).mono (by decide)⟩⟩, fun dd ⟨ys, e2, py⟩ => by
        obtain ⟨rs', rfl, pr⟩ := perm_tI py
        exact ⟨rs', e2, by rw [pr.length_eq]; exact hl, fun r hr => hm r (pr.mem_iff.mp hr)⟩⟩) s0
    refine q_if0 (b := decide (way < 3)) (eb_test (K := K) (ev_lt (ev_v (.t (.int _))) ev_int)) (fun _ H3 e3 => ?_) fun _ H3 e3 => ?_
    · have k3 := k2.then e3
      have hu3 := hu.kp k3
      refine ⟨_, rfl, dp_min2 (K := K) (p := fun m => m = (y.marks.length : Int)) (q := fun m => 1 ≤ m ∧ m ≤ 3) (r := fun m => 1 ≤ m ∧ m ≤ 5) (dp_ev (dd := .int y.marks.length) (fun H4 k4 => ev_v (.t (.int _))) rfl ⟨_, rfl, rfl⟩) (dp_add (p := fun m => m = 1) (q := Rg 3) (dp_int ⟨1, rfl, rfl⟩) (dp_offC (by decide) (by decide)) fun i j h1 ⟨h2, h3⟩ => ⟨by omega, by omega⟩) (fun i j h1 ⟨h2, h3⟩ => by have := ok.m1; exact ⟨by omega, by omega⟩) H3 (Kp.refl k3.d2) _ fun v dd H4 k4 hv ⟨m, e, m1, m5⟩ => ?_⟩
      subst e
      obtain rfl := hv.1.int_inv
      obtain ⟨kw, rfl⟩ : ∃ kw : Nat, m = (kw : Int) := ⟨m.toNat, by omega⟩
      refine ⟨u, y, kw, rfl, (hu3.kp k4).1, ok, by omega, fun p T H5 hp e5 hT => ?_⟩
      have k5 := (k3.trans k4).then e5
      have npd := (k3.trans k4).d2.ne hp
      have hu5 := hu.kp k5
      have hrl := rows_len (n := y.marks.length) (k := kw) h5
      have hfl : ((rowsL y.marks.length kw).filter fun r => decide (T r = none)).length ≤ (rowsL y.marks.length kw).length := List.length_filter_le _ _
      refine show tSeq _ _ _ _ _ from dq_set (K := K) (P := fun x => ∃ rs : List (List Int), x = .list (rs.map tI) ∧ rs.length ≤ 400 ∧ ∀ r ∈ rs, Ms y.marks.length r) (σ := [some (.ref d), some u, some (.int way), some (.int y.marks.length), some (.ref p), none, none, none, none, none, none, none, none, none, none]) k5.d2 (mixRows rfl ((dn_en (P := fun ds => ds = ((rowsL y.marks.length kw).filter fun r => decide (T r = none)).map tI) (fun H6 k6 => en_open (by decide) (k6.st _ _ npd hT) (by omega) rfl (by show 6 < 15; decide)) rfl).dp fun ds e => ⟨(rowsL y.marks.length kw).filter fun r => decide (T r = none), by rw [e], by omega, fun r hr => (mem_rows.mp (List.mem_filter.mp hr).1).1⟩)) fun v5 dd H6 k6 hv5 ⟨rs, e, hrs, hrm⟩ => ?_
      subst e
      refine dq_set (K := K) (P := fun x => ∃ fr, x = tI fr ∧ RowOk fr) k6.d2 (dp_tupOf (dp_call ((da_one ((dn_listOf (L := fun ds => ∃ ns, ds = dI ns ∧ Ms y.marks.length ns) ((dp_some (n := y.marks.length) h5 (dp_ev (dd := .int y.marks.length) (fun H7 k7 => ev_v (.t (.int _))) rfl rfl) (dp_int ⟨3, rfl, by decide, by decide⟩)).mono fun x ⟨ns, e, hn⟩ => ⟨dI ns, e, ns, rfl, hn⟩)).dp (P := fun x => ∃ ns, x = .list (dI ns) ∧ Ms y.marks.length ns) fun ds ⟨ns, e, hn⟩ => ⟨ns, by rw [e], hn⟩)).mono fun ds ⟨x, e, ns, ex, hn⟩ => ⟨dI ns, by rw [e, ex], ⟨by have := hn.len; rw [List.length_map]; omega, fun z hz => by obtain ⟨i, _, rfl⟩ := List.mem_map.mp hz; exact ⟨rfl, (sh_int i).mono (by decide)⟩⟩, fun dd ⟨ys, e2, py⟩ => ?_⟩))) fun v7 dd H7 k7 hv7 ⟨fr, e, hfr⟩ => ?_
      · obtain ⟨fr, rfl, pr⟩ := perm_map_inv py
        exact ⟨_, e2, fr, rfl, (pr.nodup_iff).mpr hn.nodup, fun m hm => (hn.mono h5).2 m (pr.mem_iff.mp hm)⟩
      · subst e
        refine ret_pair (K := K) k7.d2 ((da_two (P1 := fun x => x = .str "never") (P2 := fun x => ∃ rs : List (List Int), x = .list (rs.map tI) ∧ RowsOk rs) (dp_str rfl) (dp_call ((da_two (P1 := fun x => ∃ rs : List (List Int), x = .list (rs.map tI) ∧ rs.length ≤ 400 ∧ ∀ r ∈ rs, RowOk r) (P2 := fun x => x = tI fr) (dp_if (pb := fun _ => True) (db_eb (b := decide (way < 2)) (fun H8 k8 => eb_test (K := K) (ev_lt (ev_v (.t (.int _))) ev_int)) True.intro) (fun _ => dp_v (hv5.kp k7) ⟨rs, rfl, hrs, fun r hr => (hrm r hr).row h5⟩) fun _ => (dn_lst (L := fun ds => ds = [tI fr]) ((da_one (P1 := fun x => x = tI fr) (dp_v hv7 rfl)).mono fun ds ⟨x, e, ex⟩ => by rw [e, ex]) fun ds e => by subst e; exact ⟨rfl, by simp⟩).dp fun ds e => ⟨[fr], by rw [e]; rfl, by simp, fun r hr => List.mem_singleton.mp hr ▸ hfr⟩) (dp_v hv7 rfl)).mono fun ds ⟨x, y', e, ⟨rs', ex, hl, hm⟩, ey⟩ => ⟨(rs', fr), by rw [e, ex, ey], hl, fun dd ⟨rs2, e2, hl2, hm2⟩ => ⟨rs2, e2, hl2, fun r hr => (hm2 r hr).elim (hm r) fun z => z ▸ hfr⟩⟩))).mono fun ds ⟨x, y', e, ex, rs', ey, hok⟩ => ⟨"never", .rows rs', by rw [e, ex, ey]; rfl, .inl ⟨rfl, hok⟩⟩) fun a b word pp H8 k8 hH8 hb hpk => q0 a b word pp H8 (((k5.trans k6).trans k7).trans k8) hH8 hb hpk
    · refine q_if0 (b := decide (way < 5)) (eb_test (K := K) (ev_lt (ev_v (.t (.int _))) ev_int)) (fun _ H4 e4 => ?_) fun _ H4 e4 => ?_
      · have k4 := (k2.then e3).then e4
        have hu4 := hu.kp k4
        refine dq_setN (K := K) (L := fun ds => ∃ rs : List (List Int), ds = rs.map tI ∧ rs.length ≤ 32 ∧ ∀ s ∈ rs, Ms y.marks.length s) k4.d2 (dn_lcL (R := fun zs => ∃ rs : List (List Int), zs = rs.map tI ∧ rs.length ≤ 32 ∧ ∀ s ∈ rs, Ms y.marks.length s) (fun H5 k5 Q' qq => ⟨_, rfl, u, y, rfl, (hu4.kp k5).1, ok, fun p xs L H6 hp e6 hH hx inv hcl => qq (.ref p) (.list (L.map tI)) H6 (Kp.of e6 k5.d2) (Aq.l (k5.d2.ne hp) hH hx) ⟨_, rfl, L, rfl, ms_count h5 inv.nd inv.ms, inv.ms⟩⟩) (fun x => rfl) fun zs ⟨L, e, hL, hm⟩ => ⟨by rw [e, List.length_map]; omega, fun i ds => ∃ rs : List (List Int), ds = rs.map tI ∧ rs.length ≤ i ∧ ∀ s ∈ rs, Ms y.marks.length s, ⟨[], rfl, Nat.le_refl _, fun s hs => by simp at hs⟩, fun i z x ds H' hz k' hx ⟨rs, e2, hl, hm2⟩ => ?_, fun ds ⟨rs, e2, hl, hm2⟩ => ⟨rs, e2, by rw [e, List.length_map] at hl; omega, hm2⟩⟩) fun p xs ds H5 hp k5 hH hx ⟨rs, e, hrl, hrm⟩ => ?_
        · rw [e, List.getElem?_map] at hz
          obtain ⟨st, hst, rfl⟩ := Option.map_eq_some_iff.mp hz
          refine turn_any (db_or (p1 := fun _ => True) (p2 := fun _ => True) (db_test (p := fun _ => True) (dp_ev (dd := .bool (!PyData.eqv (tI st) (tI y.start))) (fun H7 k7 => ev_neD (ev_v (hx.kp k7).1) (ev_ixT (j := 2) (ev_v ((hu4.kp k').kp k7).1) ev_int rfl) (sh_tI _).ok (sh_tI _).ok) rfl ⟨_, rfl, True.intro⟩)) (db_test (p := fun _ => True) (dp_gt (p := Rg 4) (q := fun _ => True) (dp_offC (by decide) (by decide)) (dp_int ⟨_, rfl, True.intro⟩))) (fun _ => True.intro) fun _ _ _ => True.intro) (dp_v hx ⟨rfl, rs ++ [st], by rw [e2, List.map_append]; rfl, by rw [List.length_append]; simp; omega, fun s hs => ?_⟩) ⟨rs, e2, by omega, hm2⟩
          rcases List.mem_append.mp hs with z | z
          · exact hm2 s z
          · exact List.mem_singleton.mp z ▸ hm st (List.mem_of_getElem? hst)
        · subst e
          have nq := k4.d2.ne hp
          refine ret_pair (K := K) k5.d2 ((da_two (P1 := fun x => x = .str "closed") (P2 := fun x => ∃ rs : List (List Int), x = .list (rs.map tI) ∧ SetsOk rs) (dp_str rfl) (dp_call ((da_two (P1 := fun x => ∃ rs : List (List Int), x = .list (rs.map tI) ∧ rs.length ≤ 400 ∧ ∀ r ∈ rs, Ms y.marks.length r) (P2 := IsMs y.marks.length) (mixRows rfl (dp_v (Aq.l nq hH hx) ⟨rs, rfl, by omega, hrm⟩)) (dp_some (n := y.marks.length) h5 (dp_ev (dd := .int y.marks.length) (fun H7 k7 => ev_v (.t (.int _))) rfl rfl) (dp_ev (dd := .int y.marks.length) (fun H7 k7 => ev_v (.t (.int _))) rfl ⟨_, rfl, by omega, by omega⟩))).mono fun ds ⟨x, y', e, ⟨rs', ex, hl, hm⟩, ns, ey, hn⟩ => ⟨(rs', ns), by rw [e, ex, ey], hl, fun dd ⟨rs2, e2, hl2, hm2⟩ => ⟨rs2, e2, hl2, fun r hr => (hm2 r hr).elim (fun z => (hm r z).mono h5) fun z => z ▸ hn.mono h5⟩⟩))).mono fun ds ⟨x, y', e, ex, rs', ey, hok⟩ => ⟨"closed", .rows rs', by rw [e, ex, ey]; rfl, .inr ⟨rfl, hok⟩⟩) fun a b word pp H8 k8 hH8 hb hpk => q0 a b word pp H8 ((k4.trans k5).trans k8) hH8 hb hpk
      · have rep : ∀ {σ : L2.St} {H' : Hp} {n : Int}, 0 < n → n < 1000000 → σ[0]? = some (some (.ref d)) → DM K d (tOp rRep (tLst (tCons (tC (.int 0)) tNil)) (tCB (fun xs H Q => (∃ i, xs = [V.int i] ∧ Q (.int i) H) ∨ ∃ k, xs = [V.bl k] ∧ Q (.int (if k then 1 else 0)) H) (tCons (tOp rEq (tCall (spOff K) [] E0 (tCons (tVar 0) (tCons (tC (.int n)) tNil))) (tC (.int 0))) tNil))) σ H' (fun ds => ∃ ns, ds = dI ns ∧ ns.length ≤ 1) := fun {σ H' n} n0 n1 s0 => (dn_rep (dp_intB (pb := fun _ => True) (dp_eqI (p := Rg n) (q := fun _ => True) (dp_offC n0 n1 s0) (dp_int ⟨_, rfl, True.intro⟩)) fun b _ => ⟨_, rfl, by cases b <;> decide, by cases b <;> decide⟩)).dm
        have joinL : ∀ (a b : List PyData), (∃ ns, a = dI ns ∧ ns.length ≤ 5) → (∃ ns, b = dI ns ∧ ns.length ≤ 1) → a.length + b.length ≤ 1000 ∧ ∃ ns, a ++ b = dI ns ∧ ns.length ≤ 1000 := fun a b ⟨n1, e1, l1⟩ ⟨n2, e2, l2⟩ => by
          subst e1 e2
          exact ⟨by rw [List.length_map, List.length_map]; omega, n1 ++ n2, by rw [dI, dI, dI, List.map_append], by rw [List.length_append]; omega⟩
        refine q_if0 (b := decide (way = 5)) (eb_test (K := K) (ev_eqI (ev_v (.t (.int _))) ev_int)) (fun _ H5 e5 => ?_) fun _ H5 e5 => ?_
        · have k5 := ((k2.then e3).then e4).then e5
          have hu5' := hu.kp k5
          refine ret_pair (K := K) k5.d2 ((da_two (P1 := fun x => x = .str "weighed") (P2 := fun x => ∃ ns, x = .list (dI ns) ∧ ns.length ≤ 1000) (dp_str rfl) ((dn_cat (L1 := fun ds => ∃ ns, ds = dI ns ∧ ns.length ≤ 5) (L2' := fun ds => ∃ ns, ds = dI ns ∧ ns.length ≤ 1) (L := fun ds => ∃ ns, ds = dI ns ∧ ns.length ≤ 1000) (DN.dm fun H6 k6 Q' qq => ⟨_, rfl, _, rfl, d, u, y, rfl, k6.d2, hu5'.kp k6, ok, fun p xs ns H7 hp k7 hH hx hl => qq p xs (dI ns) H7 hp k7 hH hx ⟨ns, rfl, by omega⟩⟩) (rep (by decide) (by decide) rfl) joinL).dp fun ds ⟨ns, e, hl⟩ => ⟨ns, by rw [e], hl⟩)).mono fun ds ⟨x, y', e, ex, ns, ey, hl⟩ => ⟨"weighed", .nums ns, by rw [e, ex, ey]; rfl, by decide, by decide, hl⟩) fun a b word pp H8 k8 hH8 hb hpk => q0 a b word pp H8 (k5.trans k8) hH8 hb hpk
        · have k5 := ((k2.then e3).then e4).then e5
          have hu5' := hu.kp k5
          have hsl := ok.start.len
          refine q_setN (K := K) (ds := dI y.start) (en_list (ea_cons (ev_ixT (j := 2) (d := tI y.start) (ev_v hu5'.1) ev_int rfl) ea_nil) (.inl rfl)) fun p xs H6 hp e6 hH hx => ?_
          refine q_forT (K := K) (ev_ixT (j := 1) (ev_v (hu5'.same e6).1) ev_int rfl) (fun H7 i σ' H' => Same H6 H7 ∧ Same H7 H' ∧ ∃ p xs ns a, σ' = [some (.ref d), some u, some (.int way), some (.int y.marks.length), none, none, none, none, none, none, some (.ref p), a, none, none, none] ∧ p ≠ d ∧ H' p = some (.lst xs) ∧ TpAll K H' xs (dI ns) ∧ ns.length ≤ 5 + 5 * i) (fun H7 e7 => ⟨e7, Same.refl _, p, xs, y.start, none, rfl, k5.d2.ne hp, e7 _ _ hH, hx.same e7, by omega⟩) (fun _ _ _ _ pr => pr.2.1) (fun H7 i z v σ' H8 e7 hi pr tv => ?_) fun H7 σ' H8 e7 pr => ?_
          · obtain ⟨e7, e8, p, xs, ns, a, rfl, npd, hH, hx, hl⟩ := pr
            rw [List.getElem?_map] at hi
            obtain ⟨dd, hdd, rfl⟩ := Option.map_eq_some_iff.mp hi
            have hil := (List.getElem?_eq_some_iff.mp hdd).1
            have hset := (ok.deeds dd (List.mem_of_getElem? hdd)).sets.len
            have k8 := ((k5.then e6).then e7).then e8
            refine z_seq (q_setN (K := K) (ds := dI ns ++ dI dd.sets) (en_catM (em_v hH hx) (em_N (en_list (ea_cons (ev_ixT (j := 2) (d := tI dd.sets) (ev_v (.t tv)) ev_int rfl) ea_nil) (.inl rfl))) (by rw [List.length_map, List.length_map]; omega)) fun p' xs' H9 hp' e9 hH' hx' => ?_)
            exact ⟨e7, e8.trans e9, p', xs', ns ++ dd.sets, _, rfl, k8.d2.ne hp', hH', (by rw [dI, List.map_append]; exact hx'), by rw [List.length_append]; omega⟩
          · obtain ⟨e7, e8, p, xs, ns, a, rfl, npd, hH, hx, hl⟩ := pr
            have k8 := ((k5.then e6).then e7).then e8
            have hu8 := hu.kp k8
            have hS : Aq K d H8 (.ref p) (.list (dI ns)) := Aq.l npd hH hx
            have inS : ∀ {σ : L2.St} {H' : Hp} {i : Nat}, Kp d H8 H' → σ[10]? = some (some (.ref p)) → σ[13]? = some (some (.int (i : Nat))) → DP K d (tOp (rIn K false) (tVar 13) (tVar 10)) σ H' (IsB fun _ => True) ∧ DP K d (tOp (rIn K true) (tVar 13) (tVar 10)) σ H' (IsB fun _ => True) := fun {σ H' i} kk s10 s13 =>
              ⟨dp_ev (dd := .bool (decide ((i : Int) ∈ ns))) (fun H9 k9 => ev_inS (l := true) (ev_v (.t (.int _)) s13) (ev_v ((hS.kp kk).kp k9).1 s10)) rfl ⟨_, rfl, True.intro⟩, dp_ev (dd := .bool (!decide ((i : Int) ∈ ns))) (fun H9 k9 => ev_niS (l := true) (ev_v (.t (.int _)) s13) (ev_v ((hS.kp kk).kp k9).1 s10)) rfl ⟨_, rfl, True.intro⟩⟩
            have b01 : ∀ {σ : L2.St} {H' : Hp} {te : TE}, DP K d te σ H' (IsB fun _ => True) → DP K d (tCB (fun xs H Q => (∃ i, xs = [V.int i] ∧ Q (.int i) H) ∨ ∃ k, xs = [V.bl k] ∧ Q (.int (if k then 1 else 0)) H) (tCons te tNil)) σ H' (IsI fun m => 0 ≤ m ∧ m ≤ 1) := fun h => dp_intB (pb := fun _ => True) h fun b _ => ⟨_, rfl, by cases b <;> decide, by cases b <;> decide⟩
            refine dq_setN (K := K) (L := fun ds => ∃ ms, ds = dI ms ∧ ms.length = y.marks.length) k8.d2 (dn_lcR (n := y.marks.length) (fun i ds => ∃ ms, ds = dI ms ∧ ms.length = i) (fun H9 k9 => ea_cons (ev_v (.t (.int _))) ea_nil) (by omega) ⟨[], rfl, rfl⟩ (fun x => rfl) fun i ds H' hi k' ⟨ms, e, hml⟩ => turn_all ((dp_sub (p := fun _ => True) (q := fun _ => True) (r := fun _ => True) (dp_sub (p := fun m => 0 ≤ m ∧ m ≤ 1) (q := fun _ => True) (b01 (inS k' rfl rfl).1) (dp_int ⟨_, rfl, True.intro⟩) fun _ _ _ _ => True.intro) (dp_mul (p := Rg 2) (q := fun m => 0 ≤ m ∧ m ≤ 1) (dp_offC (by decide) (by decide)) (b01 (inS k' rfl rfl).2) (fun i j ⟨h1, h2⟩ _ => .inl ⟨by omega, by omega⟩) fun _ _ _ _ => True.intro) fun _ _ _ _ => True.intro).mono fun dd ⟨m, e2, _⟩ => ⟨by rw [e2]; rfl, ms ++ [m], by rw [e, e2, dI, dI, List.map_append]; rfl, by rw [List.length_append, hml]; rfl⟩)) fun p2 xs2 ds H9 hp2 k9 hH2 hx2 ⟨ms, e, hml⟩ => ?_
            subst e
            have np2 := k8.d2.ne hp2
            have hu9 := hu8.kp k9
            refine q_ifJ (b := decide (way = 6)) (fun σ' H' => ∃ p3 xs3 ms b, σ' = [some (.ref d), some u, some (.int way), some (.int y.marks.length), none, none, none, none, none, none, some (.ref p), a, some (.ref p3), b, none] ∧ Kp d H9 H' ∧ p3 ≠ d ∧ H' p3 = some (.lst xs3) ∧ TpAll K H' xs3 (dI ms) ∧ ms.length = y.marks.length) (eb_test (K := K) (ev_eqI (ev_v (.t (.int _))) ev_int)) (fun _ H10 e10 N hN => ?_) (fun _ H10 e10 => ⟨p2, xs2, ms, none, rfl, Kp.of e10 k9.d2, np2, e10 _ _ hH2, hx2.same e10, hml⟩) fun σ' H10 hC => ?_
            · have k10 := Kp.of e10 k9.d2
              have hu10 := hu9.kp k10
              have inT : ∀ {σ : L2.St} {H' : Hp} {i j : Nat} {ns : List Int}, Kp d H10 H' → σ[1]? = some (some u) → σ[13]? = some (some (.int (i : Nat))) → ([PyData.tuple (y.marks.map .str), .tuple (y.deeds.map Deed.dat), tI y.start, tI y.wish])[j]? = some (tI ns) → DP K d (tOp (rIn K false) (tVar 13) (tOp (rIxT K) (tVar 1) (tC (.int (j : Nat))))) σ H' (IsB fun _ => True) := fun {σ H' i j ns} kk s1 s13 hj =>
                dp_ev (dd := .bool (decide ((i : Int) ∈ ns))) (fun H9 k9 => ev_inT (ev_v (.t (.int _)) s13) (ev_ixT (j := j) (ev_v ((hu10.kp kk).kp k9).1 s1) ev_int hj)) rfl ⟨_, rfl, True.intro⟩
              have := dn_lcR (K := K) (d := d) (n := y.marks.length) (ta := tCons (tVar 3) tNil) (j := 13) (vs := [13]) (tt := tYes) (te := tOp (rI0 fun i j => .int (i - j)) (tCB (fun xs H Q => (∃ i, xs = [V.int i] ∧ Q (.int i) H) ∨ ∃ k, xs = [V.bl k] ∧ Q (.int (if k then 1 else 0)) H) (tCons (tOp (rIn K false) (tVar 13) (tOp (rIxT K) (tVar 1) (tC (.int 2)))) tNil)) (tOp (rI CMul fun i j => .int (i * j)) (tCB (fun xs H Q => (∃ i, xs = [V.int i] ∧ Q (.int i) H) ∨ ∃ k, xs = [V.bl k] ∧ Q (.int (if k then 1 else 0)) H) (tCons (tOp (rIn K false) (tVar 13) (tOp (rIxT K) (tVar 1) (tC (.int 3)))) tNil)) (tCall (spOff K) [] E0 (tCons (tVar 0) (tCons (tC (.int 3)) tNil))))) (σ := [some (.ref d), some u, some (.int way), some (.int y.marks.length), none, none, none, none, none, none, some (.ref p), a, some (.ref p2), none, none]) (H := H10) (fun i ds => ∃ ms, ds = dI ms ∧ ms.length = i) (fun H9 k9 => ea_cons (ev_v (.t (.int _))) ea_nil) (by omega) ⟨[], rfl, rfl⟩ (fun x => rfl) fun i ds H' hi k' ⟨ms, e, hml⟩ => turn_all ((dp_sub (p := fun m => 0 ≤ m ∧ m ≤ 1) (q := fun _ => True) (r := fun _ => True) (b01 (inT (j := 2) k' rfl rfl rfl)) (dp_mul (p := fun m => 0 ≤ m ∧ m ≤ 1) (q := Rg 3) (b01 (inT (j := 3) k' rfl rfl rfl)) (dp_offC (by decide) (by decide)) (fun i j ⟨h1, h2⟩ _ => .inl ⟨by omega, by omega⟩) fun _ _ _ _ => True.intro) fun _ _ _ _ => True.intro).mono fun dd ⟨m, e2, _⟩ => ⟨by rw [e2]; rfl, ms ++ [m], by rw [e, e2, dI, dI, List.map_append]; rfl, by rw [List.length_append, hml]; rfl⟩)
              refine this H10 (Kp.refl k10.d2) _ fun p3 xs3 ds H11 hp3 k11 hH3 hx3 ⟨ms3, e, hm3⟩ => hN _ _ ⟨p3, xs3, ms3, none, rfl, k10.trans k11, k10.d2.ne hp3, hH3, e ▸ hx3, hm3⟩
            · obtain ⟨p3, xs3, ms3, b, rfl, k10, np3, hH3, hx3, hm3⟩ := hC
              refine dq_set (K := K) (P := fun x => ∃ s : Str, x = .str s ∧ s ≠ "never" ∧ s ≠ "closed") k10.d2 (dp_pick (n := 6) (da_all (dp_str ⟨_, rfl, by decide, by decide⟩) (da_all (dp_str ⟨_, rfl, by decide, by decide⟩) (da_all (dp_str ⟨_, rfl, by decide, by decide⟩) (da_all (dp_str ⟨_, rfl, by decide, by decide⟩) (da_all (dp_str ⟨_, rfl, by decide, by decide⟩) (da_all (dp_str ⟨_, rfl, by decide, by decide⟩) da_end)))))) (dp_offC (by decide) (by decide)) (by decide)) fun v14 dd H11 k11 hv14 ⟨sw, e, sw1, sw2⟩ => ?_
              subst e
              refine ret_pair (K := K) k11.d2 ((da_two (P1 := fun x => x = .str sw) (P2 := fun x => ∃ ns, x = .list (dI ns) ∧ ns.length ≤ 1000) (dp_v hv14 rfl) ((dn_cat (L1 := fun ds => ∃ ns, ds = dI ns ∧ ns.length ≤ 5) (L2' := fun ds => ∃ ns, ds = dI ns ∧ ns.length ≤ 1) (L := fun ds => ∃ ns, ds = dI ns ∧ ns.length ≤ 1000) (dm_v np3 (k11.st _ _ np3 hH3) (hx3.kp k11) ⟨ms3, rfl, by omega⟩) (rep (by decide) (by decide) rfl) joinL).dp fun ds ⟨ns, e, hl⟩ => ⟨ns, by rw [e], hl⟩)).mono fun ds ⟨x, y', e, ex, ns, ey, hl⟩ => ⟨sw, .nums ns, by rw [e, ex, ey]; rfl, sw1, sw2, hl⟩) fun a b word pp H12 k12 hH12 hb hpk => q0 a b word pp H12 ((((k8.trans k9).trans k10).trans k11).trans k12) hH12 hb hpk
end
end WB

/-! the law -/
namespace WB
open PySem PySem.Spec PyProof.Rows L2
def d1B (y : Yard) (word : Str) : Paper → Bool
  | .rows rs => (decide (word = "never") && neverB y rs) || (decide (word = "closed") && closedB y rs)
  | .nums _ => false
def d2B (y : Yard) (word : Str) : Paper → Bool
  | .rows _ => false
  | .nums ws => decide (word = "weighed") && weighedB y ws
theorem due_is (y : Yard) (word : Str) (pp : Paper) : (d1B y word pp || d2B y word pp) = dueB y word pp := by
  cases pp with
  | rows rs => exact Bool.or_false _
  | nums ws => exact Bool.false_or _
def lstP : Paper → List PyData
  | .rows rs => rs.map tI
  | .nums ws => dI ws
theorem dat_lst (pp : Paper) : pp.dat = .list (lstP pp) := by cases pp <;> rfl
theorem shaped_P (pp : Paper) : SeqAt.shaped pp.dat = true := by
  cases pp with
  | rows rs => exact (sh_rows rs).ok
  | nums ws => exact (sh_lI ws).ok
theorem eqv_P (pp : Paper) : PyData.eqv pp.dat pp.dat = true := by
  cases pp with
  | rows rs => show PyData.eqv (.list (rs.map tI)) (.list (rs.map tI)) = true; rw [eqv_rows]; simp
  | nums ws => show PyData.eqv (.list (dI ws)) (.list (dI ws)) = true; rw [eqv_lI]; simp
section
variable {P : Program} {w : World} {K : PySem.W.Frag} {mg : Str → Option Value} {base : Heap}
abbrev s_law : Stmt := topS 54
abbrev N_law : List Str := ["_law_script", "_law_d", "_law_turn", "_law_t", "_law_word", "_law_some_here", "_law_due", "_law_handed"]
theorem sc_law : FnScope N_law ["_law_script"] (defScope s_law) := ⟨rfl, rfl, rfl, by decide +kernel, rfl, by decide +kernel, by decide +kernel⟩
def spLaw (K : PySem.W.Frag) : Sp := fun vs H Q _ => ∃ (a : Addr) (ns : List Int), vs = [.ref a] ∧ SqL K H a (ns.map V.int) ∧ ns.length ≤ 63 ∧ ∀ H', Q (.bl true) H'
theorem ok_law {f0 : Addr} {fd0 : FuncData} (F : Fun K "law" "law" s_law f0 fd0) (M : Mg mg) (C__law_off : Cl P w K mg base 1 "_law_off" (spOff K)) (C__law_dice : Cl P w K mg base 1 "_law_dice" (spDice K)) (C__law_yard : Cl P w K mg base 4 "_law_yard" (spYard K)) (C__law_paper : Cl P w K mg base 5 "_law_paper" (spPaper K))
    (C__law_is_never : Cl P w K mg base 3 "_law_is_never" (spNever K)) (C__law_is_closed : Cl P w K mg base 2 "_law_is_closed" (spClosed K)) (C__law_is_weighed : Cl P w K mg base 2 "_law_is_weighed" (spWeighed K)) (C__law_alike : Cl P w K mg base 1 "_law_alike" (spAlike K)) (C_shows_none : Cl P w K mg base 6 "shows_none" (spShows K)) (C__law_cost : Cl P w K mg base 3 "_law_cost" (spCost K)) :
    FnOk P w K mg base CX0 7 f0 fd0 ["_law_script"] (spLaw K) := by
  refine F.ok sc_law (fun vs H Q E h => ?_) (fun cdv A outer s H vs Q E hr h => ?_)
  · obtain ⟨_, _, rfl, _⟩ := h
    rfl
  · have nd := sc_law.nd
    obtain ⟨a0, ns, rfl, hS, hl, q0⟩ := h
    refine ⟨_, (pss_cons (ps_set (i := 1) nd rfl (by first | exact Or.inl rfl | exact Or.inr rfl) (pe_cl C__law_dice hr (by decide) (by rfl) (pa_cons (pv 0) (pa_cons pe_int pa_nil))))
      (pss_cons (ps_for PassesOwn.never rfl (pi_range1 (by rfl) M.b_range (pa_cons pe_int pa_nil)) (pg_name (i := 2) nd rfl (by first | exact Or.inl rfl | exact Or.inr rfl))
        (pss_cons (ps_set (i := 3) nd rfl (by first | exact Or.inl rfl | exact Or.inr rfl) (pe_cl C__law_yard hr (by decide) (by rfl) (pa_cons (pv 1) (pa_cons pe_int (pa_cons (pe_ix (k_ixL K) (pe_lst (pa_cons pe_int (pa_cons pe_int pa_nil))) (pe_cl C__law_off hr (by decide) (by rfl) (pa_cons (pv 1) (pa_cons pe_int pa_nil))) (fun _ _ => rfl)) pa_nil)))))
        (pss_cons (ps_asg (pe_cl C__law_paper hr (by decide) (by rfl) (pa_cons (pv 1) (pa_cons (pv 3) pa_nil))) (k_gtup K (n := 2) rfl (pgs_cons (pg_name (i := 4) nd rfl (by first | exact Or.inl rfl | exact Or.inr rfl)) (pgs_cons (pg_name (i := 5) nd rfl (by first | exact Or.inl rfl | exact Or.inr rfl)) pgs_nil))))
        (pss_cons (ps_set (i := 6) nd rfl (by first | exact Or.inl rfl | exact Or.inr rfl) (pe_or (pe_and (pe_cmpR op_eq (pv 4) pe_str (nomark _)) (pe_one (pe_cl C__law_is_never hr (by decide) (by rfl) (pa_cons (pv 3) (pa_cons (pv 5) pa_nil))))) (pe_one (pe_and (pe_cmpR op_eq (pv 4) pe_str (nomark _)) (pe_one (pe_cl C__law_is_closed hr (by decide) (by rfl) (pa_cons (pv 3) (pa_cons (pv 5) pa_nil))))))))
        (pss_cons (ps_set (i := 6) nd rfl (by first | exact Or.inl rfl | exact Or.inr rfl) (pe_or (pv 6) (pe_one (pe_and (pe_cmpR op_eq (pv 4) pe_str (nomark _)) (pe_one (pe_cl C__law_is_weighed hr (by decide) (by rfl) (pa_cons (pv 3) (pa_cons (pv 5) pa_nil))))))))
        (pss_cons (ps_set (i := 7) nd rfl (by first | exact Or.inl rfl | exact Or.inr rfl) (pe_callTy (k_listOf K) (by rfl) M.b_list (by decide +kernel) (pa_cons (pv 5) pa_nil)))
        (pss_cons (ps_if (PW.pt (pw_or (pt_not (pt_val (pe_cl C__law_alike hr (by decide) (by rfl) (pa_cons (pe_cl C_shows_none hr (by decide) (by rfl) (pa_cons (pv 3) (pa_cons (pe_tup (pa_cons (pv 4) (pa_cons (pv 7) pa_nil))) pa_nil))) (pa_cons (pv 6) pa_nil))))) (pw_or1 (pt_cmpR (k_neD K hr.units) (pv 7) (pv 5) (nomark _)))))
          (pss_one (ps_ret pe_bl))
          pss_nil)
        (pss_one (ps_if (PW.pt (pw_and (pt_val (pv 6)) (pw_and1 (pt_cmpR op_notN (pe_cl C__law_cost hr (by decide) (by rfl) (pa_cons (pv 3) pa_nil)) pe_non (nomark _)))))
          (pss_one (ps_ret pe_bl))
          pss_nil)))))))))
      (pss_one (ps_ret pe_bl)))), ?_⟩
    refine ⟨_, rfl, .ref a0, ns, rfl, .l hS (TpAll.ofInts _), by omega, fun d H1 e1 hd1 => ?_⟩
    refine show tSeq _ _ _ _ _ from q_forR (K := K) (n := 4) (σ := [some (.ref a0), some (.ref d), none, none, none, none, none, none]) (ea_cons ev_int ea_nil) (by decide) (fun _ i σ' H' => Dice d H' ∧ ∃ a b c dd e f, σ' = [some (.ref a0), some (.ref d), a, b, c, dd, e, f]) (fun H2 e2 => ⟨hd1.same e2, none, none, none, none, none, none, rfl⟩) (fun H2 i σ' H3 e2 hi pr => ?_) fun H2 σ' H3 e2 pr => ?_
    · obtain ⟨hd3, a, b, c, dd, e, f, rfl⟩ := pr
      refine dq_set (K := K) (P := fun x => ∃ y : Yard, x = y.dat ∧ y.Ok) hd3 (dp_call ((da_two (P1 := fun x => x = .int 5) (P2 := fun x => ∃ n : Nat, x = .int n ∧ 3 ≤ n ∧ n ≤ 10) (dp_int rfl) (dp_pick (n := 2) (da_all (dp_int ⟨3, rfl, by decide, by decide⟩) (da_all (dp_int ⟨10, rfl, by decide, by decide⟩) da_end)) (dp_offC (by decide) (by decide)) (by decide))).mono fun ds ⟨x, y, e, ex, n, ey, h3, h10⟩ => ⟨(5, n), by rw [e, ex, ey]; rfl, ⟨⟨(by decide : 1 ≤ 5), (by decide : 5 ≤ 5)⟩, h3, h10⟩, fun dd h => h⟩)) fun v3 dd H4 k4 hv3 ⟨y, e, ok⟩ => ?_
      subst e
      refine ⟨_, rfl, _, rfl, d, v3, y, rfl, k4.d2, hv3, ok, fun pa pb word pp H5 k5 hA hB hpk => ⟨pa, _, rfl, .inl (.inl hA), rfl, _, _, rfl, _, _, rfl, rfl, ?_⟩⟩
      have hv5 := hv3.kp k5
      have hd5 := k5.d2
      dsimp only [List.set]
      refine q_set (K := K) (d := .bool (d1B y word pp)) ?_ fun v6 H6 e6 hv6 => ?_
      · cases pp with
        | rows rs =>
          refine ev_orV (K := K) (a := decide (word = "never") && neverB y rs) (b := decide (word = "closed") && closedB y rs) (ev_andV (ev_eqS (ev_v (.t (.str _))) ev_str) fun h => ev_call (y, rs) (ea_cons (ev_v hv5.1) (ea_cons (ev_v hB.1) ea_nil)) ⟨ok, ?_⟩) fun _ => ev_andV (ev_eqS (ev_v (.t (.str _))) ev_str) fun h => ev_call (y, rs) (ea_cons (ev_v hv5.1) (ea_cons (ev_v hB.1) ea_nil)) ⟨ok, ?_⟩
          · have h := of_decide_eq_true h
            rcases hpk with z | z
            · exact z.2
            · rw [h] at z
              exact absurd z.1 (by decide)
          · have h := of_decide_eq_true h
            rcases hpk with z | z
            · rw [h] at z
              exact absurd z.1 (by decide)
            · exact z.2
        | nums ws =>
          exact ev_orV (K := K) (a := false) (b := false) (Ev.is (ev_andV (a := false) (b := false) (Ev.is (ev_eqS (ev_v (.t (.str _))) ev_str) (by rw [decide_eq_false hpk.1])) fun z => nomatch z) rfl) fun _ => Ev.is (ev_andV (a := false) (b := false) (Ev.is (ev_eqS (ev_v (.t (.str _))) ev_str) (by rw [decide_eq_false hpk.2.1])) fun z => nomatch z) rfl
      · obtain rfl := hv6.bl_inv
        have hv6' := hv5.same e6
        have hB6 := hB.same e6
        refine q_set (K := K) (d := .bool (dueB y word pp)) (Ev.is (ev_orV (a := d1B y word pp) (b := d2B y word pp) (ev_v (.t (.bl _))) fun _ => ?_) (by rw [due_is])) fun v7 H7 e7 hv7 => ?_
        · cases pp with
          | rows rs =>
            refine Ev.is (ev_andV (a := false) (b := false) (Ev.is (ev_eqS (ev_v (.t (.str _))) ev_str) ?_) fun z => nomatch z) rfl
            rcases hpk with z | z <;> rw [z.1] <;> rfl
          | nums ws => exact ev_andV (a := decide (word = "weighed")) (b := weighedB y ws) (ev_eqS (ev_v (.t (.str _))) ev_str) fun h => ev_call (y, ws) (ea_cons (ev_v hv6'.1) (ea_cons (ev_v hB6.1) ea_nil)) ⟨ok, hpk.2.2⟩
        · obtain rfl := hv7.bl_inv
          have hv7' := hv6'.same e7
          have hB7 := hB6.same e7
          refine q_setN (K := K) (ds := lstP pp) (en_list (ea_cons (ev_v (dat_lst pp ▸ hB7.1)) ea_nil) (.inr rfl)) fun p xs H8 hp e8 hH hx => ?_
          have hv8 := hv7'.same e8
          have hB8 := hB7.same e8
          have hh8 : Ap K H8 (.ref p) pp.dat := dat_lst pp ▸ .l (.inl (.inl hH)) hx
          have shows : ∀ {σ : L2.St} {E : XK}, σ[3]? = some (some v3) → σ[4]? = some (some (.str word)) → σ[7]? = some (some (.ref p)) → Ev K (tCall (spShows K) [] E (tCons (tVar 3) (tCons (tTup (tCons (tVar 4) (tCons (tVar 7) tNil))) tNil))) σ H8 (.bool (dueB y word pp)) := fun s3 s4 s7 H9 e9 Q' qq =>
            ⟨_, s3, _, s4, _, s7, Nat.le_of_lt (small1000 (by show 2 ≤ 1000; decide)), fun l hl => ⟨v3, .ref l, y, l, p, word, pp, rfl, ((hv8.1.same e9).same (Same.new hl)), rfl, .inl (.inl upd_same), (hh8.same e9).same (Same.new hl), ok, hpk, fun H' e' => qq _ H' ((Same.new hl).trans e') (.t (.bl _))⟩⟩
          refine q_no (EvB.is (eb_or (a := false) (b := false) (EvB.is (eb_not (a := true) (eb_B (K := K) (Ev.is (ev_call (dueB y word pp, dueB y word pp) (ea_cons (shows rfl rfl rfl) (ea_cons (ev_v (.t (.bl _))) ea_nil)) True.intro) (by simp)))) rfl) fun _ => eb_test (K := K) (Ev.is (ev_neD (ev_v hh8) (ev_v hB8.1) (shaped_P pp) (shaped_P pp)) (by rw [eqv_P]; rfl))) rfl) fun H9 e9 => ?_
          have hv9 := hv8.same e9
          refine z_seq (q_no (EvB.is (eb_and (a := dueB y word pp) (b := false) (eb_B (K := K) (ev_v (.t (.bl _)))) fun h => ?_) (by rw [Bool.and_false])) fun H10 e10 => ⟨hd5.same (((((e6.trans e7).trans e8).trans e9)).trans e10), _, _, _, _, _, _, rfl⟩)
          obtain ⟨I, hk, hw⟩ := shown_none ok h
          exact eb_test (K := K) (Ev.is (ev_notN (d := .none) fun H11 e11 Q' qq => ⟨_, rfl, v3, y, I, rfl, (hv9.1.same e11), ok, hk, hw, fun H' e' => qq _ H' e' (.t .non)⟩) rfl)
    · obtain ⟨hd3, a, b, c, dd, e, f, rfl⟩ := pr
      exact s_ret (K := K) ev_bl fun v H5 e5 hv => by
        obtain rfl := hv.bl_inv
        exact q0 H5
end
end WB

/-! what the top has written -/
namespace WB
open PySem PySem.Spec PyProof.Rows L2
theorem df_mk {K : PySem.W.Frag} {h : Heap} {mg : Str → Option Value} (X : K.In h) (G : h.Ns mainGlobals mg) {st : Stmt} {x : Str} {f : Addr} {od an : Option Addr} {sl : Array (Option Value)} {oc kV dc pm cd ct : Value}
    (a : PySem.W.nsIn K mainGlobals x = some (some (.ref f))) (l : K.lookup f = some ⟨oc, od, .func (PySem.W.fnOf x x (defArgs st) (defBody st) (defScope st) .none kV dc pm an cd ct), sl⟩) (c : PySem.W.codeIn K cd x = true) (k : PySem.W.keepIn K (.ref f) = true) : Df K mg x st := ⟨f, _, fun_mk l c k, PySem.W.mg_of X G a⟩
theorem all_mk {l : PySem.W.OpenLaw} {w : World} {K : PySem.W.Frag} {h : Heap} {mg : Str → Option Value} {fa f0 : Addr} (X : K.In h) (G : h.Ns mainGlobals mg) (hfa : mg "law" = some (.ref fa))
    {od0 an0 : Option Addr} {sl0 : Array (Option Value)} {oc0 kV0 dc0 pm0 cd0 ct0 : Value}
    {f1 : Addr} {od1 an1 : Option Addr} {sl1 : Array (Option Value)} {oc1 kV1 dc1 pm1 cd1 ct1 : Value}
    {f2 : Addr} {od2 an2 : Option Addr} {sl2 : Array (Option Value)} {oc2 kV2 dc2 pm2 cd2 ct2 : Value}
    {f3 : Addr} {od3 an3 : Option Addr} {sl3 : Array (Option Value)} {oc3 kV3 dc3 pm3 cd3 ct3 : Value}
    {f4 : Addr} {od4 an4 : Option Addr} {sl4 : Array (Option Value)} {oc4 kV4 dc4 pm4 cd4 ct4 : Value}
    {f5 : Addr} {od5 an5 : Option Addr} {sl5 : Array (Option Value)} {oc5 kV5 dc5 pm5 cd5 ct5 : Value}
    {f6 : Addr} {od6 an6 : Option Addr} {sl6 : Array (Option Value)} {oc6 kV6 dc6 pm6 cd6 ct6 : Value}
    {f7 : Addr} {od7 an7 : Option Addr} {sl7 : Array (Option Value)} {oc7 kV7 dc7 pm7 cd7 ct7 : Value}
    {f8 : Addr} {od8 an8 : Option Addr} {sl8 : Array (Option Value)} {oc8 kV8 dc8 pm8 cd8 ct8 : Value}
    {f9 : Addr} {od9 an9 : Option Addr} {sl9 : Array (Option Value)} {oc9 kV9 dc9 pm9 cd9 ct9 : Value}
    {f10 : Addr} {od10 an10 : Option Addr} {sl10 : Array (Option Value)} {oc10 kV10 dc10 pm10 cd10 ct10 : Value}
    {f11 : Addr} {od11 an11 : Option Addr} {sl11 : Array (Option Value)} {oc11 kV11 dc11 pm11 cd11 ct11 : Value}
    {f12 : Addr} {od12 an12 : Option Addr} {sl12 : Array (Option Value)} {oc12 kV12 dc12 pm12 cd12 ct12 : Value}
    {f13 : Addr} {od13 an13 : Option Addr} {sl13 : Array (Option Value)} {oc13 kV13 dc13 pm13 cd13 ct13 : Value}
    {f14 : Addr} {od14 an14 : Option Addr} {sl14 : Array (Option Value)} {oc14 kV14 dc14 pm14 cd14 ct14 : Value}
    {f15 : Addr} {od15 an15 : Option Addr} {sl15 : Array (Option Value)} {oc15 kV15 dc15 pm15 cd15 ct15 : Value}
    {f16 : Addr} {od16 an16 : Option Addr} {sl16 : Array (Option Value)} {oc16 kV16 dc16 pm16 cd16 ct16 : Value}
    {f17 : Addr} {od17 an17 : Option Addr} {sl17 : Array (Option Value)} {oc17 kV17 dc17 pm17 cd17 ct17 : Value}
    {f18 : Addr} {od18 an18 : Option Addr} {sl18 : Array (Option Value)} {oc18 kV18 dc18 pm18 cd18 ct18 : Value}
    {f19 : Addr} {od19 an19 : Option Addr} {sl19 : Array (Option Value)} {oc19 kV19 dc19 pm19 cd19 ct19 : Value}
    {f20 : Addr} {od20 an20 : Option Addr} {sl20 : Array (Option Value)} {oc20 kV20 dc20 pm20 cd20 ct20 : Value}
    {f21 : Addr} {od21 an21 : Option Addr} {sl21 : Array (Option Value)} {oc21 kV21 dc21 pm21 cd21 ct21 : Value}
    {f22 : Addr} {od22 an22 : Option Addr} {sl22 : Array (Option Value)} {oc22 kV22 dc22 pm22 cd22 ct22 : Value}
    {f23 : Addr} {od23 an23 : Option Addr} {sl23 : Array (Option Value)} {oc23 kV23 dc23 pm23 cd23 ct23 : Value}
    {f24 : Addr} {od24 an24 : Option Addr} {sl24 : Array (Option Value)} {oc24 kV24 dc24 pm24 cd24 ct24 : Value}
    {f25 : Addr} {od25 an25 : Option Addr} {sl25 : Array (Option Value)} {oc25 kV25 dc25 pm25 cd25 ct25 : Value}
    {f26 : Addr} {od26 an26 : Option Addr} {sl26 : Array (Option Value)} {oc26 kV26 dc26 pm26 cd26 ct26 : Value}
    {f27 : Addr} {od27 an27 : Option Addr} {sl27 : Array (Option Value)} {oc27 kV27 dc27 pm27 cd27 ct27 : Value}
    {f28 : Addr} {od28 an28 : Option Addr} {sl28 : Array (Option Value)} {oc28 kV28 dc28 pm28 cd28 ct28 : Value}
    {f29 : Addr} {od29 an29 : Option Addr} {sl29 : Array (Option Value)} {oc29 kV29 dc29 pm29 cd29 ct29 : Value}
    {f30 : Addr} {od30 an30 : Option Addr} {sl30 : Array (Option Value)} {oc30 kV30 dc30 pm30 cd30 ct30 : Value}
    {f31 : Addr} {od31 an31 : Option Addr} {sl31 : Array (Option Value)} {oc31 kV31 dc31 pm31 cd31 ct31 : Value}
    {f32 : Addr} {od32 an32 : Option Addr} {sl32 : Array (Option Value)} {oc32 kV32 dc32 pm32 cd32 ct32 : Value}
    {f33 : Addr} {od33 an33 : Option Addr} {sl33 : Array (Option Value)} {oc33 kV33 dc33 pm33 cd33 ct33 : Value}
    {f34 : Addr} {od34 an34 : Option Addr} {sl34 : Array (Option Value)} {oc34 kV34 dc34 pm34 cd34 ct34 : Value}
    {f35 : Addr} {od35 an35 : Option Addr} {sl35 : Array (Option Value)} {oc35 kV35 dc35 pm35 cd35 ct35 : Value}
    {f36 : Addr} {od36 an36 : Option Addr} {sl36 : Array (Option Value)} {oc36 kV36 dc36 pm36 cd36 ct36 : Value}
    {f37 : Addr} {od37 an37 : Option Addr} {sl37 : Array (Option Value)} {oc37 kV37 dc37 pm37 cd37 ct37 : Value}
    {f38 : Addr} {od38 an38 : Option Addr} {sl38 : Array (Option Value)} {oc38 kV38 dc38 pm38 cd38 ct38 : Value}
    {f39 : Addr} {od39 an39 : Option Addr} {sl39 : Array (Option Value)} {oc39 kV39 dc39 pm39 cd39 ct39 : Value}
    {f40 : Addr} {od40 an40 : Option Addr} {sl40 : Array (Option Value)} {oc40 kV40 dc40 pm40 cd40 ct40 : Value}
    {f41 : Addr} {od41 an41 : Option Addr} {sl41 : Array (Option Value)} {oc41 kV41 dc41 pm41 cd41 ct41 : Value}
    {f42 : Addr} {od42 an42 : Option Addr} {sl42 : Array (Option Value)} {oc42 kV42 dc42 pm42 cd42 ct42 : Value}
    {tMARKS : Tok}
    {tDEEDS : Tok}
    {tCOST : Tok}
    {tLETTERS : Tok}
    {tSMALL : Tok}
    (a0 : PySem.W.nsIn K mainGlobals "law" = some (some (.ref f0))) (l0 : K.lookup f0 = some ⟨oc0, od0, .func (PySem.W.fnOf "law" "law" (defArgs s_law) (defBody s_law) (defScope s_law) .none kV0 dc0 pm0 an0 cd0 ct0), sl0⟩) (c0 : PySem.W.codeIn K cd0 "law" = true) (k0 : PySem.W.keepIn K (.ref f0) = true)
    (a1 : PySem.W.nsIn K mainGlobals "_law_off" = some (some (.ref f1))) (l1 : K.lookup f1 = some ⟨oc1, od1, .func (PySem.W.fnOf "_law_off" "_law_off" (defArgs s__law_off) (defBody s__law_off) (defScope s__law_off) .none kV1 dc1 pm1 an1 cd1 ct1), sl1⟩) (c1 : PySem.W.codeIn K cd1 "_law_off" = true) (k1 : PySem.W.keepIn K (.ref f1) = true)
    (a2 : PySem.W.nsIn K mainGlobals "_law_dice" = some (some (.ref f2))) (l2 : K.lookup f2 = some ⟨oc2, od2, .func (PySem.W.fnOf "_law_dice" "_law_dice" (defArgs s__law_dice) (defBody s__law_dice) (defScope s__law_dice) .none kV2 dc2 pm2 an2 cd2 ct2), sl2⟩) (c2 : PySem.W.codeIn K cd2 "_law_dice" = true) (k2 : PySem.W.keepIn K (.ref f2) = true)
    (a3 : PySem.W.nsIn K mainGlobals "_law_some" = some (some (.ref f3))) (l3 : K.lookup f3 = some ⟨oc3, od3, .func (PySem.W.fnOf "_law_some" "_law_some" (defArgs s__law_some) (defBody s__law_some) (defScope s__law_some) .none kV3 dc3 pm3 an3 cd3 ct3), sl3⟩) (c3 : PySem.W.codeIn K cd3 "_law_some" = true) (k3 : PySem.W.keepIn K (.ref f3) = true)
    (a4 : PySem.W.nsIn K mainGlobals "_law_mixed" = some (some (.ref f4))) (l4 : K.lookup f4 = some ⟨oc4, od4, .func (PySem.W.fnOf "_law_mixed" "_law_mixed" (defArgs s__law_mixed) (defBody s__law_mixed) (defScope s__law_mixed) .none kV4 dc4 pm4 an4 cd4 ct4), sl4⟩) (c4 : PySem.W.codeIn K cd4 "_law_mixed" = true) (k4 : PySem.W.keepIn K (.ref f4) = true)
    (a5 : PySem.W.nsIn K mainGlobals "_law_names" = some (some (.ref f5))) (l5 : K.lookup f5 = some ⟨oc5, od5, .func (PySem.W.fnOf "_law_names" "_law_names" (defArgs s__law_names) (defBody s__law_names) (defScope s__law_names) .none kV5 dc5 pm5 an5 cd5 ct5), sl5⟩) (c5 : PySem.W.codeIn K cd5 "_law_names" = true) (k5 : PySem.W.keepIn K (.ref f5) = true)
    (a6 : PySem.W.nsIn K mainGlobals "_law_parts" = some (some (.ref f6))) (l6 : K.lookup f6 = some ⟨oc6, od6, .func (PySem.W.fnOf "_law_parts" "_law_parts" (defArgs s__law_parts) (defBody s__law_parts) (defScope s__law_parts) .none kV6 dc6 pm6 an6 cd6 ct6), sl6⟩) (c6 : PySem.W.codeIn K cd6 "_law_parts" = true) (k6 : PySem.W.keepIn K (.ref f6) = true)
    (a7 : PySem.W.nsIn K mainGlobals "_law_price" = some (some (.ref f7))) (l7 : K.lookup f7 = some ⟨oc7, od7, .func (PySem.W.fnOf "_law_price" "_law_price" (defArgs s__law_price) (defBody s__law_price) (defScope s__law_price) .none kV7 dc7 pm7 an7 cd7 ct7), sl7⟩) (c7 : PySem.W.codeIn K cd7 "_law_price" = true) (k7 : PySem.W.keepIn K (.ref f7) = true)
    (a8 : PySem.W.nsIn K mainGlobals "_law_yard" = some (some (.ref f8))) (l8 : K.lookup f8 = some ⟨oc8, od8, .func (PySem.W.fnOf "_law_yard" "_law_yard" (defArgs s__law_yard) (defBody s__law_yard) (defScope s__law_yard) .none kV8 dc8 pm8 an8 cd8 ct8), sl8⟩) (c8 : PySem.W.codeIn K cd8 "_law_yard" = true) (k8 : PySem.W.keepIn K (.ref f8) = true)
    (a9 : PySem.W.nsIn K mainGlobals "_law_changed" = some (some (.ref f9))) (l9 : K.lookup f9 = some ⟨oc9, od9, .func (PySem.W.fnOf "_law_changed" "_law_changed" (defArgs s__law_changed) (defBody s__law_changed) (defScope s__law_changed) .none kV9 dc9 pm9 an9 cd9 ct9), sl9⟩) (c9 : PySem.W.codeIn K cd9 "_law_changed" = true) (k9 : PySem.W.keepIn K (.ref f9) = true)
    (a10 : PySem.W.nsIn K mainGlobals "_law_every" = some (some (.ref f10))) (l10 : K.lookup f10 = some ⟨oc10, od10, .func (PySem.W.fnOf "_law_every" "_law_every" (defArgs s__law_every) (defBody s__law_every) (defScope s__law_every) .none kV10 dc10 pm10 an10 cd10 ct10), sl10⟩) (c10 : PySem.W.codeIn K cd10 "_law_every" = true) (k10 : PySem.W.keepIn K (.ref f10) = true)
    (a11 : PySem.W.nsIn K mainGlobals "_law_told" = some (some (.ref f11))) (l11 : K.lookup f11 = some ⟨oc11, od11, .func (PySem.W.fnOf "_law_told" "_law_told" (defArgs s__law_told) (defBody s__law_told) (defScope s__law_told) .none kV11 dc11 pm11 an11 cd11 ct11), sl11⟩) (c11 : PySem.W.codeIn K cd11 "_law_told" = true) (k11 : PySem.W.keepIn K (.ref f11) = true)
    (a12 : PySem.W.nsIn K mainGlobals "_law_least" = some (some (.ref f12))) (l12 : K.lookup f12 = some ⟨oc12, od12, .func (PySem.W.fnOf "_law_least" "_law_least" (defArgs s__law_least) (defBody s__law_least) (defScope s__law_least) .none kV12 dc12 pm12 an12 cd12 ct12), sl12⟩) (c12 : PySem.W.codeIn K cd12 "_law_least" = true) (k12 : PySem.W.keepIn K (.ref f12) = true)
    (a13 : PySem.W.nsIn K mainGlobals "_law_asked" = some (some (.ref f13))) (l13 : K.lookup f13 = some ⟨oc13, od13, .func (PySem.W.fnOf "_law_asked" "_law_asked" (defArgs s__law_asked) (defBody s__law_asked) (defScope s__law_asked) .none kV13 dc13 pm13 an13 cd13 ct13), sl13⟩) (c13 : PySem.W.codeIn K cd13 "_law_asked" = true) (k13 : PySem.W.keepIn K (.ref f13) = true)
    (a14 : PySem.W.nsIn K mainGlobals "_law_has" = some (some (.ref f14))) (l14 : K.lookup f14 = some ⟨oc14, od14, .func (PySem.W.fnOf "_law_has" "_law_has" (defArgs s__law_has) (defBody s__law_has) (defScope s__law_has) .none kV14 dc14 pm14 an14 cd14 ct14), sl14⟩) (c14 : PySem.W.codeIn K cd14 "_law_has" = true) (k14 : PySem.W.keepIn K (.ref f14) = true)
    (a15 : PySem.W.nsIn K mainGlobals "_law_rows" = some (some (.ref f15))) (l15 : K.lookup f15 = some ⟨oc15, od15, .func (PySem.W.fnOf "_law_rows" "_law_rows" (defArgs s__law_rows) (defBody s__law_rows) (defScope s__law_rows) .none kV15 dc15 pm15 an15 cd15 ct15), sl15⟩) (c15 : PySem.W.codeIn K cd15 "_law_rows" = true) (k15 : PySem.W.keepIn K (.ref f15) = true)
    (a16 : PySem.W.nsIn K mainGlobals "_law_table" = some (some (.ref f16))) (l16 : K.lookup f16 = some ⟨oc16, od16, .func (PySem.W.fnOf "_law_table" "_law_table" (defArgs s__law_table) (defBody s__law_table) (defScope s__law_table) .none kV16 dc16 pm16 an16 cd16 ct16), sl16⟩) (c16 : PySem.W.codeIn K cd16 "_law_table" = true) (k16 : PySem.W.keepIn K (.ref f16) = true)
    (a17 : PySem.W.nsIn K mainGlobals "_law_after" = some (some (.ref f17))) (l17 : K.lookup f17 = some ⟨oc17, od17, .func (PySem.W.fnOf "_law_after" "_law_after" (defArgs s__law_after) (defBody s__law_after) (defScope s__law_after) .none kV17 dc17 pm17 an17 cd17 ct17), sl17⟩) (c17 : PySem.W.codeIn K cd17 "_law_after" = true) (k17 : PySem.W.keepIn K (.ref f17) = true)
    (a18 : PySem.W.nsIn K mainGlobals "_law_states" = some (some (.ref f18))) (l18 : K.lookup f18 = some ⟨oc18, od18, .func (PySem.W.fnOf "_law_states" "_law_states" (defArgs s__law_states) (defBody s__law_states) (defScope s__law_states) .none kV18 dc18 pm18 an18 cd18 ct18), sl18⟩) (c18 : PySem.W.codeIn K cd18 "_law_states" = true) (k18 : PySem.W.keepIn K (.ref f18) = true)
    (a19 : PySem.W.nsIn K mainGlobals "_law_weights" = some (some (.ref f19))) (l19 : K.lookup f19 = some ⟨oc19, od19, .func (PySem.W.fnOf "_law_weights" "_law_weights" (defArgs s__law_weights) (defBody s__law_weights) (defScope s__law_weights) .none kV19 dc19 pm19 an19 cd19 ct19), sl19⟩) (c19 : PySem.W.codeIn K cd19 "_law_weights" = true) (k19 : PySem.W.keepIn K (.ref f19) = true)
    (a20 : PySem.W.nsIn K mainGlobals "_law_paper" = some (some (.ref f20))) (l20 : K.lookup f20 = some ⟨oc20, od20, .func (PySem.W.fnOf "_law_paper" "_law_paper" (defArgs s__law_paper) (defBody s__law_paper) (defScope s__law_paper) .none kV20 dc20 pm20 an20 cd20 ct20), sl20⟩) (c20 : PySem.W.codeIn K cd20 "_law_paper" = true) (k20 : PySem.W.keepIn K (.ref f20) = true)
    (a21 : PySem.W.nsIn K mainGlobals "_law_one" = some (some (.ref f21))) (l21 : K.lookup f21 = some ⟨oc21, od21, .func (PySem.W.fnOf "_law_one" "_law_one" (defArgs s__law_one) (defBody s__law_one) (defScope s__law_one) .none kV21 dc21 pm21 an21 cd21 ct21), sl21⟩) (c21 : PySem.W.codeIn K cd21 "_law_one" = true) (k21 : PySem.W.keepIn K (.ref f21) = true)
    (a22 : PySem.W.nsIn K mainGlobals "_law_is_never" = some (some (.ref f22))) (l22 : K.lookup f22 = some ⟨oc22, od22, .func (PySem.W.fnOf "_law_is_never" "_law_is_never" (defArgs s__law_is_never) (defBody s__law_is_never) (defScope s__law_is_never) .none kV22 dc22 pm22 an22 cd22 ct22), sl22⟩) (c22 : PySem.W.codeIn K cd22 "_law_is_never" = true) (k22 : PySem.W.keepIn K (.ref f22) = true)
    (a23 : PySem.W.nsIn K mainGlobals "_law_is_closed" = some (some (.ref f23))) (l23 : K.lookup f23 = some ⟨oc23, od23, .func (PySem.W.fnOf "_law_is_closed" "_law_is_closed" (defArgs s__law_is_closed) (defBody s__law_is_closed) (defScope s__law_is_closed) .none kV23 dc23 pm23 an23 cd23 ct23), sl23⟩) (c23 : PySem.W.codeIn K cd23 "_law_is_closed" = true) (k23 : PySem.W.keepIn K (.ref f23) = true)
    (a24 : PySem.W.nsIn K mainGlobals "_law_weight" = some (some (.ref f24))) (l24 : K.lookup f24 = some ⟨oc24, od24, .func (PySem.W.fnOf "_law_weight" "_law_weight" (defArgs s__law_weight) (defBody s__law_weight) (defScope s__law_weight) .none kV24 dc24 pm24 an24 cd24 ct24), sl24⟩) (c24 : PySem.W.codeIn K cd24 "_law_weight" = true) (k24 : PySem.W.keepIn K (.ref f24) = true)
    (a25 : PySem.W.nsIn K mainGlobals "_law_is_weighed" = some (some (.ref f25))) (l25 : K.lookup f25 = some ⟨oc25, od25, .func (PySem.W.fnOf "_law_is_weighed" "_law_is_weighed" (defArgs s__law_is_weighed) (defBody s__law_is_weighed) (defScope s__law_is_weighed) .none kV25 dc25 pm25 an25 cd25 ct25), sl25⟩) (c25 : PySem.W.codeIn K cd25 "_law_is_weighed" = true) (k25 : PySem.W.keepIn K (.ref f25) = true)
    (a26 : PySem.W.nsIn K mainGlobals "_law_alike" = some (some (.ref f26))) (l26 : K.lookup f26 = some ⟨oc26, od26, .func (PySem.W.fnOf "_law_alike" "_law_alike" (defArgs s__law_alike) (defBody s__law_alike) (defScope s__law_alike) .none kV26 dc26 pm26 an26 cd26 ct26), sl26⟩) (c26 : PySem.W.codeIn K cd26 "_law_alike" = true) (k26 : PySem.W.keepIn K (.ref f26) = true)
    (a27 : PySem.W.nsIn K mainGlobals "is_name" = some (some (.ref f27))) (l27 : K.lookup f27 = some ⟨oc27, od27, .func (PySem.W.fnOf "is_name" "is_name" (defArgs s_is_name) (defBody s_is_name) (defScope s_is_name) .none kV27 dc27 pm27 an27 cd27 ct27), sl27⟩) (c27 : PySem.W.codeIn K cd27 "is_name" = true) (k27 : PySem.W.keepIn K (.ref f27) = true)
    (a28 : PySem.W.nsIn K mainGlobals "are_marks" = some (some (.ref f28))) (l28 : K.lookup f28 = some ⟨oc28, od28, .func (PySem.W.fnOf "are_marks" "are_marks" (defArgs s_are_marks) (defBody s_are_marks) (defScope s_are_marks) .none kV28 dc28 pm28 an28 cd28 ct28), sl28⟩) (c28 : PySem.W.codeIn K cd28 "are_marks" = true) (k28 : PySem.W.keepIn K (.ref f28) = true)
    (a29 : PySem.W.nsIn K mainGlobals "is_deed" = some (some (.ref f29))) (l29 : K.lookup f29 = some ⟨oc29, od29, .func (PySem.W.fnOf "is_deed" "is_deed" (defArgs s_is_deed) (defBody s_is_deed) (defScope s_is_deed) .none kV29 dc29 pm29 an29 cd29 ct29), sl29⟩) (c29 : PySem.W.codeIn K cd29 "is_deed" = true) (k29 : PySem.W.keepIn K (.ref f29) = true)
    (a30 : PySem.W.nsIn K mainGlobals "need_yard" = some (some (.ref f30))) (l30 : K.lookup f30 = some ⟨oc30, od30, .func (PySem.W.fnOf "need_yard" "need_yard" (defArgs s_need_yard) (defBody s_need_yard) (defScope s_need_yard) .none kV30 dc30 pm30 an30 cd30 ct30), sl30⟩) (c30 : PySem.W.codeIn K cd30 "need_yard" = true) (k30 : PySem.W.keepIn K (.ref f30) = true)
    (a31 : PySem.W.nsIn K mainGlobals "has" = some (some (.ref f31))) (l31 : K.lookup f31 = some ⟨oc31, od31, .func (PySem.W.fnOf "has" "has" (defArgs s_has) (defBody s_has) (defScope s_has) .none kV31 dc31 pm31 an31 cd31 ct31), sl31⟩) (c31 : PySem.W.codeIn K cd31 "has" = true) (k31 : PySem.W.keepIn K (.ref f31) = true)
    (a32 : PySem.W.nsIn K mainGlobals "holds_one" = some (some (.ref f32))) (l32 : K.lookup f32 = some ⟨oc32, od32, .func (PySem.W.fnOf "holds_one" "holds_one" (defArgs s_holds_one) (defBody s_holds_one) (defScope s_holds_one) .none kV32 dc32 pm32 an32 cd32 ct32), sl32⟩) (c32 : PySem.W.codeIn K cd32 "holds_one" = true) (k32 : PySem.W.keepIn K (.ref f32) = true)
    (a33 : PySem.W.nsIn K mainGlobals "brought" = some (some (.ref f33))) (l33 : K.lookup f33 = some ⟨oc33, od33, .func (PySem.W.fnOf "brought" "brought" (defArgs s_brought) (defBody s_brought) (defScope s_brought) .none kV33 dc33 pm33 an33 cd33 ct33), sl33⟩) (c33 : PySem.W.codeIn K cd33 "brought" = true) (k33 : PySem.W.keepIn K (.ref f33) = true)
    (a34 : PySem.W.nsIn K mainGlobals "is_never" = some (some (.ref f34))) (l34 : K.lookup f34 = some ⟨oc34, od34, .func (PySem.W.fnOf "is_never" "is_never" (defArgs s_is_never) (defBody s_is_never) (defScope s_is_never) .none kV34 dc34 pm34 an34 cd34 ct34), sl34⟩) (c34 : PySem.W.codeIn K cd34 "is_never" = true) (k34 : PySem.W.keepIn K (.ref f34) = true)
    (a35 : PySem.W.nsIn K mainGlobals "behind" = some (some (.ref f35))) (l35 : K.lookup f35 = some ⟨oc35, od35, .func (PySem.W.fnOf "behind" "behind" (defArgs s_behind) (defBody s_behind) (defScope s_behind) .none kV35 dc35 pm35 an35 cd35 ct35), sl35⟩) (c35 : PySem.W.codeIn K cd35 "behind" = true) (k35 : PySem.W.keepIn K (.ref f35) = true)
    (a36 : PySem.W.nsIn K mainGlobals "is_closed" = some (some (.ref f36))) (l36 : K.lookup f36 = some ⟨oc36, od36, .func (PySem.W.fnOf "is_closed" "is_closed" (defArgs s_is_closed) (defBody s_is_closed) (defScope s_is_closed) .none kV36 dc36 pm36 an36 cd36 ct36), sl36⟩) (c36 : PySem.W.codeIn K cd36 "is_closed" = true) (k36 : PySem.W.keepIn K (.ref f36) = true)
    (a37 : PySem.W.nsIn K mainGlobals "fall_of" = some (some (.ref f37))) (l37 : K.lookup f37 = some ⟨oc37, od37, .func (PySem.W.fnOf "fall_of" "fall_of" (defArgs s_fall_of) (defBody s_fall_of) (defScope s_fall_of) .none kV37 dc37 pm37 an37 cd37 ct37), sl37⟩) (c37 : PySem.W.codeIn K cd37 "fall_of" = true) (k37 : PySem.W.keepIn K (.ref f37) = true)
    (a38 : PySem.W.nsIn K mainGlobals "top_of" = some (some (.ref f38))) (l38 : K.lookup f38 = some ⟨oc38, od38, .func (PySem.W.fnOf "top_of" "top_of" (defArgs s_top_of) (defBody s_top_of) (defScope s_top_of) .none kV38 dc38 pm38 an38 cd38 ct38), sl38⟩) (c38 : PySem.W.codeIn K cd38 "top_of" = true) (k38 : PySem.W.keepIn K (.ref f38) = true)
    (a39 : PySem.W.nsIn K mainGlobals "is_weighed" = some (some (.ref f39))) (l39 : K.lookup f39 = some ⟨oc39, od39, .func (PySem.W.fnOf "is_weighed" "is_weighed" (defArgs s_is_weighed) (defBody s_is_weighed) (defScope s_is_weighed) .none kV39 dc39 pm39 an39 cd39 ct39), sl39⟩) (c39 : PySem.W.codeIn K cd39 "is_weighed" = true) (k39 : PySem.W.keepIn K (.ref f39) = true)
    (a40 : PySem.W.nsIn K mainGlobals "shows_none" = some (some (.ref f40))) (l40 : K.lookup f40 = some ⟨oc40, od40, .func (PySem.W.fnOf "shows_none" "shows_none" (defArgs s_shows_none) (defBody s_shows_none) (defScope s_shows_none) .none kV40 dc40 pm40 an40 cd40 ct40), sl40⟩) (c40 : PySem.W.codeIn K cd40 "shows_none" = true) (k40 : PySem.W.keepIn K (.ref f40) = true)
    (a41 : PySem.W.nsIn K mainGlobals "_law_far" = some (some (.ref f41))) (l41 : K.lookup f41 = some ⟨oc41, od41, .func (PySem.W.fnOf "_law_far" "_law_far" (defArgs s__law_far) (defBody s__law_far) (defScope s__law_far) .none kV41 dc41 pm41 an41 cd41 ct41), sl41⟩) (c41 : PySem.W.codeIn K cd41 "_law_far" = true) (k41 : PySem.W.keepIn K (.ref f41) = true)
    (a42 : PySem.W.nsIn K mainGlobals "_law_cost" = some (some (.ref f42))) (l42 : K.lookup f42 = some ⟨oc42, od42, .func (PySem.W.fnOf "_law_cost" "_law_cost" (defArgs s__law_cost) (defBody s__law_cost) (defScope s__law_cost) .none kV42 dc42 pm42 an42 cd42 ct42), sl42⟩) (c42 : PySem.W.codeIn K cd42 "_law_cost" = true) (k42 : PySem.W.keepIn K (.ref f42) = true)
    (b_len : PySem.W.nsIn K mainGlobals "len" = some none)
    (b_sorted : PySem.W.nsIn K mainGlobals "sorted" = some none)
    (b_list : PySem.W.nsIn K mainGlobals "list" = some none)
    (b_tuple : PySem.W.nsIn K mainGlobals "tuple" = some none)
    (b_range : PySem.W.nsIn K mainGlobals "range" = some none)
    (b_enumerate : PySem.W.nsIn K mainGlobals "enumerate" = some none)
    (b_sum : PySem.W.nsIn K mainGlobals "sum" = some none)
    (b_max : PySem.W.nsIn K mainGlobals "max" = some none)
    (b_min : PySem.W.nsIn K mainGlobals "min" = some none)
    (b_abs : PySem.W.nsIn K mainGlobals "abs" = some none)
    (b_int : PySem.W.nsIn K mainGlobals "int" = some none)
    (b_bool : PySem.W.nsIn K mainGlobals "bool" = some none)
    (b_isinstance : PySem.W.nsIn K mainGlobals "isinstance" = some none)
    (g_MARKS : PySem.W.nsIn K mainGlobals "MARKS" = some (some (.int 10 tMARKS)))
    (g_DEEDS : PySem.W.nsIn K mainGlobals "DEEDS" = some (some (.int 16 tDEEDS)))
    (g_COST : PySem.W.nsIn K mainGlobals "COST" = some (some (.int 99 tCOST)))
    (g_LETTERS : PySem.W.nsIn K mainGlobals "LETTERS" = some (some (.int 6 tLETTERS)))
    (g_SMALL : PySem.W.nsIn K mainGlobals "SMALL" = some (some (.str "abcdefghijklmnopqrstuvwxyz" tSMALL))) :
    ∃ fd : FuncData, (∀ (s : Shared) (v : Value), BindsTo s fd ⟨[v], []⟩ [("_law_script", v)]) ∧ ∀ base : Heap, K.In base → base.Ns mainGlobals mg → FnOk l.prog w K mg base CX0 7 fa fd ["_law_script"] (spLaw K) := by
  have e := hfa.symm.trans (PySem.W.mg_of X G a0)
  cases e
  have M : Mg mg := ⟨PySem.W.mg_none_of X G b_len, PySem.W.mg_none_of X G b_sorted, PySem.W.mg_none_of X G b_list, PySem.W.mg_none_of X G b_tuple, PySem.W.mg_none_of X G b_range, PySem.W.mg_none_of X G b_enumerate, PySem.W.mg_none_of X G b_sum, PySem.W.mg_none_of X G b_max, PySem.W.mg_none_of X G b_min, PySem.W.mg_none_of X G b_abs, PySem.W.mg_none_of X G b_int, PySem.W.mg_none_of X G b_bool, PySem.W.mg_none_of X G b_isinstance, ⟨_, PySem.W.mg_of X G g_MARKS⟩, ⟨_, PySem.W.mg_of X G g_DEEDS⟩, ⟨_, PySem.W.mg_of X G g_COST⟩, ⟨_, PySem.W.mg_of X G g_LETTERS⟩, ⟨_, PySem.W.mg_of X G g_SMALL⟩⟩
  refine ⟨PySem.W.fnOf "law" "law" (defArgs s_law) (defBody s_law) (defScope s_law) .none kV0 dc0 pm0 an0 cd0 ct0, fun s v => .of_eq rfl, fun base _ _ => ?_⟩
  have C__law_off := ok__law_off (P := l.prog) (w := w) (base := base) (df_mk X G a1 l1 c1 k1) M
  have C__law_dice := ok__law_dice (P := l.prog) (w := w) (base := base) (df_mk X G a2 l2 c2 k2) M
  have C__law_some := ok__law_some (P := l.prog) (w := w) (base := base) (df_mk X G a3 l3 c3 k3) M C__law_off
  have C__law_mixed := ok__law_mixed (P := l.prog) (w := w) (base := base) (df_mk X G a4 l4 c4 k4) M C__law_off
  have C__law_names := ok__law_names (P := l.prog) (w := w) (base := base) (df_mk X G a5 l5 c5 k5) M C__law_off C__law_mixed
  have C__law_parts := ok__law_parts (P := l.prog) (w := w) (base := base) (df_mk X G a6 l6 c6 k6) M C__law_off C__law_some
  have C__law_price := ok__law_price (P := l.prog) (w := w) (base := base) (df_mk X G a7 l7 c7 k7) M C__law_off
  have C__law_yard := ok__law_yard (P := l.prog) (w := w) (base := base) (df_mk X G a8 l8 c8 k8) M C__law_off C__law_some C__law_names C__law_parts C__law_price C__law_mixed
  have C__law_changed := ok__law_changed (P := l.prog) (w := w) (base := base) (df_mk X G a9 l9 c9 k9) M C__law_off
  have C__law_every := ok__law_every (P := l.prog) (w := w) (base := base) (df_mk X G a10 l10 c10 k10) M
  have C__law_told := ok__law_told (P := l.prog) (w := w) (base := base) (df_mk X G a11 l11 c11 k11) M C__law_every
  have C__law_least := ok__law_least (P := l.prog) (w := w) (base := base) (df_mk X G a12 l12 c12 k12) M
  have C__law_asked := ok__law_asked (P := l.prog) (w := w) (base := base) (df_mk X G a13 l13 c13 k13) M C__law_told C__law_least
  have C__law_has := ok__law_has (P := l.prog) (w := w) (base := base) (df_mk X G a14 l14 c14 k14) M
  have C__law_rows := ok__law_rows (P := l.prog) (w := w) (base := base) (df_mk X G a15 l15 c15 k15) M C__law_every
  have C__law_table := ok__law_table (P := l.prog) (w := w) (base := base) (df_mk X G a16 l16 c16 k16) M C__law_asked C__law_has C__law_least C__law_rows
  have C__law_after := ok__law_after (P := l.prog) (w := w) (base := base) (df_mk X G a17 l17 c17 k17) M
  have C__law_states := ok__law_states (P := l.prog) (w := w) (base := base) (df_mk X G a18 l18 c18 k18) M C__law_after C__law_has
  have C__law_weights := ok__law_weights (P := l.prog) (w := w) (base := base) (df_mk X G a19 l19 c19 k19) M C__law_off
  have C__law_paper := ok__law_paper (P := l.prog) (w := w) (base := base) (df_mk X G a20 l20 c20 k20) M C__law_off C__law_some C__law_mixed C__law_changed C__law_table C__law_states C__law_weights
  have C__law_one := ok__law_one (P := l.prog) (w := w) (base := base) (df_mk X G a21 l21 c21 k21) M C__law_has
  have C__law_is_never := ok__law_is_never (P := l.prog) (w := w) (base := base) (df_mk X G a22 l22 c22 k22) M C__law_one
  have C__law_is_closed := ok__law_is_closed (P := l.prog) (w := w) (base := base) (df_mk X G a23 l23 c23 k23) M C__law_has C__law_after
  have C__law_weight := ok__law_weight (P := l.prog) (w := w) (base := base) (df_mk X G a24 l24 c24 k24) M
  have C__law_is_weighed := ok__law_is_weighed (P := l.prog) (w := w) (base := base) (df_mk X G a25 l25 c25 k25) M C__law_has C__law_after C__law_every C__law_weight
  have C__law_alike := ok__law_alike (P := l.prog) (w := w) (base := base) (df_mk X G a26 l26 c26 k26) M
  have C_is_name := ok_is_name (P := l.prog) (w := w) (base := base) (df_mk X G a27 l27 c27 k27) M
  have C_are_marks := ok_are_marks (P := l.prog) (w := w) (base := base) (df_mk X G a28 l28 c28 k28) M
  have C_is_deed := ok_is_deed (P := l.prog) (w := w) (base := base) (df_mk X G a29 l29 c29 k29) M C_is_name C_are_marks
  have C_need_yard := ok_need_yard (P := l.prog) (w := w) (base := base) (df_mk X G a30 l30 c30 k30) M C_is_name C_are_marks C_is_deed
  have C_has := ok_has (P := l.prog) (w := w) (base := base) (df_mk X G a31 l31 c31 k31) M
  have C_holds_one := ok_holds_one (P := l.prog) (w := w) (base := base) (df_mk X G a32 l32 c32 k32) M C_has
  have C_brought := ok_brought (P := l.prog) (w := w) (base := base) (df_mk X G a33 l33 c33 k33) M
  have C_is_never := ok_is_never (P := l.prog) (w := w) (base := base) (df_mk X G a34 l34 c34 k34) M C_holds_one C_brought
  have C_behind := ok_behind (P := l.prog) (w := w) (base := base) (df_mk X G a35 l35 c35 k35) M
  have C_is_closed := ok_is_closed (P := l.prog) (w := w) (base := base) (df_mk X G a36 l36 c36 k36) M C_has C_behind
  have C_fall_of := ok_fall_of (P := l.prog) (w := w) (base := base) (df_mk X G a37 l37 c37 k37) M
  have C_top_of := ok_top_of (P := l.prog) (w := w) (base := base) (df_mk X G a38 l38 c38 k38) M C_need_yard
  have C_is_weighed := ok_is_weighed (P := l.prog) (w := w) (base := base) (df_mk X G a39 l39 c39 k39) M C_fall_of C_top_of
  have C_shows_none := ok_shows_none (P := l.prog) (w := w) (base := base) (df_mk X G a40 l40 c40 k40) M C_need_yard C_is_never C_is_closed C_is_weighed
  have C__law_far := ok__law_far (P := l.prog) (w := w) (base := base) (df_mk X G a41 l41 c41 k41) M C__law_after C__law_has C__law_least
  have C__law_cost := ok__law_cost (P := l.prog) (w := w) (base := base) (df_mk X G a42 l42 c42 k42) M C__law_far C__law_states
  exact ok_law (fun_mk (st := s_law) l0 c0 k0) M C__law_off C__law_dice C__law_yard C__law_paper C__law_is_never C__law_is_closed C__law_is_weighed C__law_alike C_shows_none C__law_cost
end WB

open PySem PySem.W PyProof.Rows
set_option Elab.async false
set_option maxRecDepth 100000 in
set_option maxHeartbeats 0 in
theorem PySem.Challenge.cw_wishbound_k25_whole_papers_looked_at_holds : PySem.Challenge.rw_wishbound_k25_whole_papers_looked_at.Holds := by
  w_on; o_law; k_head; (case hw => w_witness2)
  k_fill
  refine L2.walk_of (l := PySem.Challenge.rw_wishbound_k25_whole_papers_looked_at) (n := 63) (k := 7) (x := "_law_script") (CX := fun _ => L2.CX0) (sp := fun w => WB.spLaw _) rfl (by decide) rfl ⟨rfl, by decide, by decide⟩ (fun w h Y => PySem.W.kIn_of Y) ?F (fun _ _ a ns hl _ hS => ⟨a, ns, rfl, hS, hl, fun _ => rfl⟩) (fun _ _ _ _ _ h => h)
  case F =>
    intro w mg fa h KX G hmg
    refine' WB.all_mk KX G hmg ?a0 ?l0 ?c0 ?k0 ?a1 ?l1 ?c1 ?k1 ?a2 ?l2 ?c2 ?k2 ?a3 ?l3 ?c3 ?k3 ?a4 ?l4 ?c4 ?k4 ?a5 ?l5 ?c5 ?k5 ?a6 ?l6 ?c6 ?k6 ?a7 ?l7 ?c7 ?k7 ?a8 ?l8 ?c8 ?k8 ?a9 ?l9 ?c9 ?k9 ?a10 ?l10 ?c10 ?k10 ?a11 ?l11 ?c11 ?k11 ?a12 ?l12 ?c12 ?k12 ?a13 ?l13 ?c13 ?k13 ?a14 ?l14 ?c14 ?k14 ?a15 ?l15 ?c15 ?k15 ?a16 ?l16 ?c16 ?k16 ?a17 ?l17 ?c17 ?k17 ?a18 ?l18 ?c18 ?k18 ?a19 ?l19 ?c19 ?k19 ?a20 ?l20 ?c20 ?k20 ?a21 ?l21 ?c21 ?k21 ?a22 ?l22 ?c22 ?k22 ?a23 ?l23 ?c23 ?k23 ?a24 ?l24 ?c24 ?k24 ?a25 ?l25 ?c25 ?k25 ?a26 ?l26 ?c26 ?k26 ?a27 ?l27 ?c27 ?k27 ?a28 ?l28 ?c28 ?k28 ?a29 ?l29 ?c29 ?k29 ?a30 ?l30 ?c30 ?k30 ?a31 ?l31 ?c31 ?k31 ?a32 ?l32 ?c32 ?k32 ?a33 ?l33 ?c33 ?k33 ?a34 ?l34 ?c34 ?k34 ?a35 ?l35 ?c35 ?k35 ?a36 ?l36 ?c36 ?k36 ?a37 ?l37 ?c37 ?k37 ?a38 ?l38 ?c38 ?k38 ?a39 ?l39 ?c39 ?k39 ?a40 ?l40 ?c40 ?k40 ?a41 ?l41 ?c41 ?k41 ?a42 ?l42 ?c42 ?k42 ?b_len ?b_sorted ?b_list ?b_tuple ?b_range ?b_enumerate ?b_sum ?b_max ?b_min ?b_abs ?b_int ?b_bool ?b_isinstance ?g_MARKS ?g_DEEDS ?g_COST ?g_LETTERS ?g_SMALL
    (case a0 => k_is)
    (case l0 => k_is)
    (case c0 => k_is)
    (case k0 => k_is)
    (case a1 => k_is)
    (case l1 => k_is)
    (case c1 => k_is)
    (case k1 => k_is)
    (case a2 => k_is)
    (case l2 => k_is)
    (case c2 => k_is)
    (case k2 => k_is)
    (case a3 => k_is)
    (case l3 => k_is)
    (case c3 => k_is)
    (case k3 => k_is)
    (case a4 => k_is)
    (case l4 => k_is)
    (case c4 => k_is)
    (case k4 => k_is)
    (case a5 => k_is)
    (case l5 => k_is)
    (case c5 => k_is)
    (case k5 => k_is)
    (case a6 => k_is)
    (case l6 => k_is)
    (case c6 => k_is)
    (case k6 => k_is)
    (case a7 => k_is)
    (case l7 => k_is)
    (case c7 => k_is)
    (case k7 => k_is)
    (case a8 => k_is)
    (case l8 => k_is)
    (case c8 => k_is)
    (case k8 => k_is)
    (case a9 => k_is)
    (case l9 => k_is)
    (case c9 => k_is)
    (case k9 => k_is)
    (case a10 => k_is)
    (case l10 => k_is)
    (case c10 => k_is)
    (case k10 => k_is)
    (case a11 => k_is)
    (case l11 => k_is)
    (case c11 => k_is)
    (case k11 => k_is)
    (case a12 => k_is)
    (case l12 => k_is)
    (case c12 => k_is)
    (case k12 => k_is)
    (case a13 => k_is)
    (case l13 => k_is)
    (case c13 => k_is)
    (case k13 => k_is)
    (case a14 => k_is)
    (case l14 => k_is)
    (case c14 => k_is)
    (case k14 => k_is)
    (case a15 => k_is)
    (case l15 => k_is)
    (case c15 => k_is)
    (case k15 => k_is)
    (case a16 => k_is)
    (case l16 => k_is)
    (case c16 => k_is)
    (case k16 => k_is)
    (case a17 => k_is)
    (case l17 => k_is)
    (case c17 => k_is)
    (case k17 => k_is)
    (case a18 => k_is)
    (case l18 => k_is)
    (case c18 => k_is)
    (case k18 => k_is)
    (case a19 => k_is)
    (case l19 => k_is)
    (case c19 => k_is)
    (case k19 => k_is)
    (case a20 => k_is)
    (case l20 => k_is)
    (case c20 => k_is)
    (case k20 => k_is)
    (case a21 => k_is)
    (case l21 => k_is)
    (case c21 => k_is)
    (case k21 => k_is)
    (case a22 => k_is)
    (case l22 => k_is)
    (case c22 => k_is)
    (case k22 => k_is)
    (case a23 => k_is)
    (case l23 => k_is)
    (case c23 => k_is)
    (case k23 => k_is)
    (case a24 => k_is)
    (case l24 => k_is)
    (case c24 => k_is)
    (case k24 => k_is)
    (case a25 => k_is)
    (case l25 => k_is)
    (case c25 => k_is)
    (case k25 => k_is)
    (case a26 => k_is)
    (case l26 => k_is)
    (case c26 => k_is)
    (case k26 => k_is)
    (case a27 => k_is)
    (case l27 => k_is)
    (case c27 => k_is)
    (case k27 => k_is)
    (case a28 => k_is)
    (case l28 => k_is)
    (case c28 => k_is)
    (case k28 => k_is)
    (case a29 => k_is)
    (case l29 => k_is)
    (case c29 => k_is)
    (case k29 => k_is)
    (case a30 => k_is)
    (case l30 => k_is)
    (case c30 => k_is)
    (case k30 => k_is)
    (case a31 => k_is)
    (case l31 => k_is)
    (case c31 => k_is)
    (case k31 => k_is)
    (case a32 => k_is)
    (case l32 => k_is)
    (case c32 => k_is)
    (case k32 => k_is)
    (case a33 => k_is)
    (case l33 => k_is)
    (case c33 => k_is)
    (case k33 => k_is)
    (case a34 => k_is)
    (case l34 => k_is)
    (case c34 => k_is)
    (case k34 => k_is)
    (case a35 => k_is)
    (case l35 => k_is)
    (case c35 => k_is)
    (case k35 => k_is)
    (case a36 => k_is)
    (case l36 => k_is)
    (case c36 => k_is)
    (case k36 => k_is)
    (case a37 => k_is)
    (case l37 => k_is)
    (case c37 => k_is)
    (case k37 => k_is)
    (case a38 => k_is)
    (case l38 => k_is)
    (case c38 => k_is)
    (case k38 => k_is)
    (case a39 => k_is)
    (case l39 => k_is)
    (case c39 => k_is)
    (case k39 => k_is)
    (case a40 => k_is)
    (case l40 => k_is)
    (case c40 => k_is)
    (case k40 => k_is)
    (case a41 => k_is)
    (case l41 => k_is)
    (case c41 => k_is)
    (case k41 => k_is)
    (case a42 => k_is)
    (case l42 => k_is)
    (case c42 => k_is)
    (case k42 => k_is)
    (case b_len => k_is)
    (case b_sorted => k_is)
    (case b_list => k_is)
    (case b_tuple => k_is)
    (case b_range => k_is)
    (case b_enumerate => k_is)
    (case b_sum => k_is)
    (case b_max => k_is)
    (case b_min => k_is)
    (case b_abs => k_is)
    (case b_int => k_is)
    (case b_bool => k_is)
    (case b_isinstance => k_is)
    (case g_MARKS => k_is)
    (case g_DEEDS => k_is)
    (case g_COST => k_is)
    (case g_LETTERS => k_is)
    (case g_SMALL => k_is)

import PyProof.Rows.All
import Wide.All
import OpenK.AllK
import Wide.FinOn
import HandS.ForMost
import HandS.Walk
import HandS.Zip
import HandS.TupAny
import HandS.TupMul
import HandS.Conv
import HandS.Style
import HandS.IsInst
import HandS.Star
import HandS.ClsMeth
import HandS.SortKw
import HandS.TupSets
import HandS.DictComp
import HandS.Lambda
import HandS.GenList
import HandS.HeadWalk
import HandS.HeadHook4
import HandS.Codes
import HandS.HeadNt
import KE.KStateDown
import HandS.Head0
import HandS.Head1
import HandS.Head2
import HandS.Strs
import HandS.SlotsOwn
import HandS.SortInts
import PyProof.Rows.SortShellAny
import KE.GoesMore
import KE.GoesZip
import HandS.DictTup
import KE.SortKeyHeap
import PyProof.Rows.CallKwBuiltin
import PySem.Challenge.RW_chosenmoves_k94_whole_cyclic_groups_deci
/-! text KA -/
set_option Elab.async false
set_option linter.all false
set_option maxRecDepth 100000
set_option maxHeartbeats 2000000
/-! The data layer: what a value denotes over a stable part of the heap, a run as a map of plain data. -/
namespace K9
open PySem PySem.Spec PyProof.Rows L2 LamX
/-- plain data; ins: an instance of the class number c, its fields in order -/
inductive D where
  | non | bl (b : Bool) | int (i : Int) | str (s : Str)
  | tup (ds : List D) | lst (ds : List D)
  | tk (ds : List D) | tz (ds : List D)
  | ins (c : Nat) (fs : List (Str × D))
/-- the written part, the classes' addresses, the tables of code objects -/
structure Wd where
  K : PySem.W.Frag
  cl : Nat → Addr
  T : List (Addr × Str)
mutual
def Den (W : Wd) (B : Hp) : D → V → Prop
  | .non, v => v = .non
  | .bl b, v => v = .bl b
  | .int i, v => v = .int i
  | .str s, v => v = .str s
  | .tup ds, v => ∃ a vs, v = .ref a ∧ SqT W.K B a vs ∧ DenL W B ds vs
  | .lst ds, v => ∃ a vs, v = .ref a ∧ SqL W.K B a vs ∧ DenL W B ds vs
  | .ins c fs, v => ∃ a dx gs, v = .ref a ∧ B a = some (.ins (W.cl c) dx gs) ∧ DenF W B fs gs
  | .tk ds, v => ∃ a vs, v = .ref a ∧ B a = some (.tup vs) ∧ DenL W B ds vs
  | .tz ds, v => ∃ a vs, v = .ref a ∧ (∃ ob : Obj, B a = some (.frz ob (.tup vs)) ∧ ob.cls = .type "tuple" ∧ ob.dict = none) ∧ DenL W B ds vs
def DenL (W : Wd) (B : Hp) : List D → List V → Prop
  | [], vs => vs = []
  | d :: ds, vs => ∃ v r, vs = v :: r ∧ Den W B d v ∧ DenL W B ds r
def DenF (W : Wd) (B : Hp) : List (Str × D) → List (Str × V) → Prop
  | [], gs => gs = []
  | (f, d) :: fs, gs => ∃ v r, gs = (f, v) :: r ∧ Den W B d v ∧ DenF W B fs r
end
section
variable {W : Wd} {B B' H H' : Hp}
theorem SqT.up {K : PySem.W.Frag} {a : Addr} {xs : List V} (e : Same B B') (h : SqT K B a xs) : SqT K B' a xs := by
  rcases h with (h | ⟨o, h⟩) | h
  · exact .inl (.inl (e _ _ h))
  · exact .inl (.inr ⟨o, e _ _ h⟩)
  · exact .inr h
mutual
theorem Den.up (e : Same B B') : ∀ (d : D) (v : V), Den W B d v → Den W B' d v
  | .non, _, h => by unfold Den at h ⊢; exact h
  | .bl b, _, h => by unfold Den at h ⊢; exact h
  | .int i, _, h => by unfold Den at h ⊢; exact h
  | .str s, _, h => by unfold Den at h ⊢; exact h
  | .tup ds, v, h => by
    unfold Den at h ⊢
    obtain ⟨a, vs, h1, h2, h3⟩ := h
    exact ⟨a, vs, h1, SqT.up e h2, DenL.up e ds vs h3⟩
  | .lst ds, v, h => by
    unfold Den at h ⊢
    obtain ⟨a, vs, h1, h2, h3⟩ := h
    exact ⟨a, vs, h1, e.seq h2, DenL.up e ds vs h3⟩
  | .ins c fs, v, h => by
    unfold Den at h ⊢
    obtain ⟨a, dx, gs, h1, h2, h3⟩ := h
    exact ⟨a, dx, gs, h1, e _ _ h2, DenF.up e fs gs h3⟩
  | .tk ds, v, h => by
    unfold Den at h ⊢
    obtain ⟨a, vs, h1, h2, h3⟩ := h
    exact ⟨a, vs, h1, e _ _ h2, DenL.up e ds vs h3⟩
  | .tz ds, v, h => by
    unfold Den at h ⊢
    obtain ⟨a, vs, h1, ⟨ob, h2, h4⟩, h3⟩ := h
    exact ⟨a, vs, h1, ⟨ob, e _ _ h2, h4⟩, DenL.up e ds vs h3⟩
theorem DenL.up (e : Same B B') : ∀ (ds : List D) (vs : List V), DenL W B ds vs → DenL W B' ds vs
  | [], _, h => by unfold DenL at h ⊢; exact h
  | d :: ds, vs, h => by
    unfold DenL at h ⊢
    obtain ⟨v, r, h1, h2, h3⟩ := h
    exact ⟨v, r, h1, Den.up e d v h2, DenL.up e ds r h3⟩
theorem DenF.up (e : Same B B') : ∀ (fs : List (Str × D)) (gs : List (Str × V)), DenF W B fs gs → DenF W B' fs gs
  | [], _, h => by unfold DenF at h ⊢; exact h
  | (f, d) :: fs, gs, h => by
    unfold DenF at h ⊢
    obtain ⟨v, r, h1, h2, h3⟩ := h
    exact ⟨v, r, h1, Den.up e d v h2, DenF.up e fs r h3⟩
end
theorem Den.int_ {i : Int} : Den W B (.int i) (.int i) := by unfold Den; rfl
theorem Den.bl_ {b : Bool} : Den W B (.bl b) (.bl b) := by unfold Den; rfl
theorem Den.str_ {s : Str} : Den W B (.str s) (.str s) := by unfold Den; rfl
theorem Den.non_ : Den W B .non .non := by unfold Den; rfl
theorem Den.int_eq {i : Int} {v : V} (h : Den W B (.int i) v) : v = .int i := by unfold Den at h; exact h
theorem Den.bl_eq {b : Bool} {v : V} (h : Den W B (.bl b) v) : v = .bl b := by unfold Den at h; exact h
theorem Den.str_eq {s : Str} {v : V} (h : Den W B (.str s) v) : v = .str s := by unfold Den at h; exact h
theorem Den.non_eq {v : V} (h : Den W B .non v) : v = .non := by unfold Den at h; exact h
theorem Den.tup_iff {ds : List D} {v : V} : Den W B (.tup ds) v ↔ ∃ a vs, v = .ref a ∧ SqT W.K B a vs ∧ DenL W B ds vs := by
  constructor
  · intro h; unfold Den at h; exact h
  · intro h; unfold Den; exact h
theorem Den.lst_iff {ds : List D} {v : V} : Den W B (.lst ds) v ↔ ∃ a vs, v = .ref a ∧ SqL W.K B a vs ∧ DenL W B ds vs := by
  constructor
  · intro h; unfold Den at h; exact h
  · intro h; unfold Den; exact h
theorem Den.ins_iff {c : Nat} {fs : List (Str × D)} {v : V} : Den W B (.ins c fs) v ↔ ∃ a dx gs, v = .ref a ∧ B a = some (.ins (W.cl c) dx gs) ∧ DenF W B fs gs := by
  constructor
  · intro h; unfold Den at h; exact h
  · intro h; unfold Den; exact h
theorem Den.tk_iff {ds : List D} {v : V} : Den W B (.tk ds) v ↔ ∃ a vs, v = .ref a ∧ B a = some (.tup vs) ∧ DenL W B ds vs := by
  constructor
  · intro h; unfold Den at h; exact h
  · intro h; unfold Den; exact h
theorem Den.tz_iff {ds : List D} {v : V} : Den W B (.tz ds) v ↔ ∃ a vs, v = .ref a ∧ (∃ ob : Obj, B a = some (.frz ob (.tup vs)) ∧ ob.cls = .type "tuple" ∧ ob.dict = none) ∧ DenL W B ds vs := by
  constructor
  · intro h; unfold Den at h; exact h
  · intro h; unfold Den; exact h
theorem Den.of_tz {ds : List D} {v : V} (h : Den W B (.tz ds) v) : Den W B (.tup ds) v := by
  obtain ⟨a, vs, h1, ⟨ob, h2, _⟩, h3⟩ := Den.tz_iff.mp h
  exact Den.tup_iff.mpr ⟨a, vs, h1, .inl (.inr ⟨ob, h2⟩), h3⟩
theorem Den.of_tk {ds : List D} {v : V} (h : Den W B (.tk ds) v) : Den W B (.tup ds) v := by
  obtain ⟨a, vs, h1, h2, h3⟩ := Den.tk_iff.mp h
  exact Den.tup_iff.mpr ⟨a, vs, h1, .inl (.inl h2), h3⟩
theorem DenL.nil_ : DenL W B [] [] := by unfold DenL; rfl
theorem DenL.nil_eq {vs : List V} (h : DenL W B [] vs) : vs = [] := by unfold DenL at h; exact h
theorem DenL.cons_ {d : D} {ds : List D} {v : V} {vs : List V} (h : Den W B d v) (t : DenL W B ds vs) : DenL W B (d :: ds) (v :: vs) := by
  unfold DenL; exact ⟨v, vs, rfl, h, t⟩
theorem DenL.cons_iff {d : D} {ds : List D} {vs : List V} : DenL W B (d :: ds) vs ↔ ∃ v r, vs = v :: r ∧ Den W B d v ∧ DenL W B ds r := by
  constructor
  · intro h; unfold DenL at h; exact h
  · intro h; unfold DenL; exact h
theorem DenL.len : ∀ {ds : List D} {vs : List V}, DenL W B ds vs → vs.length = ds.length
  | [], _, h => by rw [DenL.nil_eq h]; rfl
  | d :: ds, vs, h => by
    obtain ⟨v, r, rfl, _, t⟩ := DenL.cons_iff.mp h
    rw [List.length_cons, List.length_cons, DenL.len t]
theorem DenL.get : ∀ {ds : List D} {vs : List V} {i : Nat} {d : D}, DenL W B ds vs → ds[i]? = some d → ∃ v, vs[i]? = some v ∧ Den W B d v
  | [], _, _, _, _, e => by simp at e
  | c :: ds, vs, 0, d, h, e => by
    obtain ⟨v, r, rfl, hv, t⟩ := DenL.cons_iff.mp h
    rw [List.getElem?_cons_zero] at e
    cases e
    exact ⟨v, rfl, hv⟩
  | c :: ds, vs, i + 1, d, h, e => by
    obtain ⟨v, r, rfl, hv, t⟩ := DenL.cons_iff.mp h
    rw [List.getElem?_cons_succ] at e
    obtain ⟨u, h1, h2⟩ := DenL.get t e
    exact ⟨u, by rw [List.getElem?_cons_succ]; exact h1, h2⟩
theorem DenL.getV : ∀ {ds : List D} {vs : List V} {i : Nat} {v : V}, DenL W B ds vs → vs[i]? = some v → ∃ d, ds[i]? = some d ∧ Den W B d v := by
  intro ds vs i v h e
  have hl := h.len
  have hi : i < vs.length := (List.getElem?_eq_some_iff.mp e).1
  have hd : i < ds.length := by omega
  obtain ⟨u, h1, h2⟩ := DenL.get h (List.getElem?_eq_getElem hd)
  rw [e] at h1
  cases h1
  exact ⟨_, List.getElem?_eq_getElem hd, h2⟩
theorem DenL.app : ∀ {ds es : List D} {vs ws : List V}, DenL W B ds vs → DenL W B es ws → DenL W B (ds ++ es) (vs ++ ws)
  | [], _, vs, _, h, k => by rw [DenL.nil_eq h]; exact k
  | d :: ds, es, vs, ws, h, k => by
    obtain ⟨v, r, rfl, hv, t⟩ := DenL.cons_iff.mp h
    exact DenL.cons_ hv (DenL.app t k)
theorem DenL.take_ : ∀ {ds : List D} {vs : List V} (n : Nat), DenL W B ds vs → DenL W B (ds.take n) (vs.take n)
  | _, _, 0, _ => DenL.nil_
  | [], vs, n + 1, h => by rw [DenL.nil_eq h]; exact DenL.nil_
  | d :: ds, vs, n + 1, h => by
    obtain ⟨v, r, rfl, hv, t⟩ := DenL.cons_iff.mp h
    exact DenL.cons_ hv (DenL.take_ n t)
theorem DenL.drop_ : ∀ {ds : List D} {vs : List V} (n : Nat), DenL W B ds vs → DenL W B (ds.drop n) (vs.drop n)
  | _, _, 0, h => h
  | [], vs, n + 1, h => by rw [DenL.nil_eq h]; exact DenL.nil_
  | d :: ds, vs, n + 1, h => by
    obtain ⟨v, r, rfl, hv, t⟩ := DenL.cons_iff.mp h
    exact DenL.drop_ n t
theorem DenL.set_ : ∀ {ds : List D} {vs : List V} {d : D} {v : V} (i : Nat), DenL W B ds vs → Den W B d v → DenL W B (ds.set i d) (vs.set i v)
  | [], vs, _, _, _, h, _ => by rw [DenL.nil_eq h]; exact DenL.nil_
  | c :: ds, vs, d, v, 0, h, k => by
    obtain ⟨u, r, rfl, hv, t⟩ := DenL.cons_iff.mp h
    exact DenL.cons_ k t
  | c :: ds, vs, d, v, i + 1, h, k => by
    obtain ⟨u, r, rfl, hv, t⟩ := DenL.cons_iff.mp h
    exact DenL.cons_ hv (DenL.set_ i t k)
theorem DenL.rev_ : ∀ {ds : List D} {vs : List V}, DenL W B ds vs → DenL W B ds.reverse vs.reverse
  | [], vs, h => by rw [DenL.nil_eq h]; exact DenL.nil_
  | d :: ds, vs, h => by
    obtain ⟨v, r, rfl, hv, t⟩ := DenL.cons_iff.mp h
    rw [List.reverse_cons, List.reverse_cons]
    exact DenL.app (DenL.rev_ t) (DenL.cons_ hv DenL.nil_)
theorem DenL.replicate_ {d : D} {v : V} (h : Den W B d v) : ∀ n, DenL W B (List.replicate n d) (List.replicate n v)
  | 0 => DenL.nil_
  | n + 1 => DenL.cons_ h (DenL.replicate_ h n)
theorem DenL.ints : ∀ {ns : List Int} {vs : List V}, DenL W B (ns.map D.int) vs → vs = ns.map V.int
  | [], vs, h => DenL.nil_eq h
  | n :: ns, vs, h => by
    obtain ⟨v, r, rfl, hv, t⟩ := DenL.cons_iff.mp h
    rw [Den.int_eq hv, DenL.ints t]
    rfl
theorem DenL.ints_ : ∀ (ns : List Int), DenL W B (ns.map D.int) (ns.map V.int)
  | [] => DenL.nil_
  | _ :: ns => DenL.cons_ Den.int_ (DenL.ints_ ns)
theorem DenL.bls : ∀ {ns : List Bool} {vs : List V}, DenL W B (ns.map D.bl) vs → vs = ns.map V.bl
  | [], vs, h => DenL.nil_eq h
  | n :: ns, vs, h => by
    obtain ⟨v, r, rfl, hv, t⟩ := DenL.cons_iff.mp h
    rw [Den.bl_eq hv, DenL.bls t]
    rfl
theorem DenF.nil_ : DenF W B [] [] := by unfold DenF; rfl
theorem DenF.nil_eq {vs : List (Str × V)} (h : DenF W B [] vs) : vs = [] := by unfold DenF at h; exact h
theorem DenF.cons_ {f : Str} {d : D} {ds : List (Str × D)} {v : V} {vs : List (Str × V)} (h : Den W B d v) (t : DenF W B ds vs) : DenF W B ((f, d) :: ds) ((f, v) :: vs) := by
  unfold DenF; exact ⟨v, vs, rfl, h, t⟩
theorem DenF.cons_iff {f : Str} {d : D} {ds : List (Str × D)} {vs : List (Str × V)} : DenF W B ((f, d) :: ds) vs ↔ ∃ v r, vs = (f, v) :: r ∧ Den W B d v ∧ DenF W B ds r := by
  constructor
  · intro h; unfold DenF at h; exact h
  · intro h; unfold DenF; exact h
theorem DenF.look : ∀ {fs : List (Str × D)} {gs : List (Str × V)} {f : Str} {d : D}, DenF W B fs gs → fs.lookup f = some d → ∃ v, gs.lookup f = some v ∧ Den W B d v
  | [], _, _, _, _, e => by simp at e
  | (g, c) :: fs, gs, f, d, h, e => by
    obtain ⟨v, r, rfl, hv, t⟩ := DenF.cons_iff.mp h
    rw [List.lookup_cons] at e ⊢
    cases q : f == g with
    | true =>
      rw [q] at e
      cases e
      exact ⟨v, rfl, hv⟩
    | false =>
      rw [q] at e
      exact DenF.look t e
theorem DenF.lookN : ∀ {fs : List (Str × D)} {gs : List (Str × V)} {f : Str}, DenF W B fs gs → fs.lookup f = none → gs.lookup f = none
  | [], gs, _, h, _ => by rw [DenF.nil_eq h]; rfl
  | (g, c) :: fs, gs, f, h, e => by
    obtain ⟨v, r, rfl, hv, t⟩ := DenF.cons_iff.mp h
    rw [List.lookup_cons] at e ⊢
    cases q : f == g with
    | true =>
      rw [q] at e
      cases e
    | false =>
      rw [q] at e
      exact DenF.lookN t e
theorem DenF.len : ∀ {fs : List (Str × D)} {gs : List (Str × V)}, DenF W B fs gs → gs.length = fs.length
  | [], gs, h => by rw [DenF.nil_eq h]; rfl
  | (g, c) :: fs, gs, h => by
    obtain ⟨v, r, rfl, hv, t⟩ := DenF.cons_iff.mp h
    rw [List.length_cons, List.length_cons, DenF.len t]
/-- a field stored, as putF -/
def putD (f : Str) (d : D) : List (Str × D) → List (Str × D)
  | [] => [(f, d)]
  | (g, c) :: r => if g = f then (g, d) :: r else (g, c) :: putD f d r
end
end K9
/-! text H1 -/
set_option Elab.async false
set_option linter.all false
set_option maxRecDepth 100000
set_option maxHeartbeats 0
set_option autoImplicit false
/-! the text; the head: its facts, its hook, its run -/
namespace K9
open PySem PySem.Spec PyProof.Rows L2 LamX
abbrev ti (xs : List Int) : D := .tup (xs.map D.int)
def top (i : Nat) : Stmt := PySem.Challenge.pw_chosenmoves_k94_whole_cyclic_groups_deci.main.body.getD i (.Pass ⟨0, 0, 0, 0⟩)
def itm (i j : Nat) : Stmt := (C8.clsBody (top i)).getD j (.Pass ⟨0, 0, 0, 0⟩)
def shelf : List (Str × List (List Int)) := [("c1", [[0]]), ("c2", [[1, 0]]), ("c3", [[1, 2, 0]]), ("c4", [[1, 2, 3, 0]]), ("v4", [[1, 0, 2, 3], [0, 1, 3, 2]]), ("c5", [[1, 2, 3, 4, 0]]), ("s3", [[1, 2, 0], [1, 0, 2]]), ("c6", [[1, 2, 3, 4, 5, 0]]), ("c7", [[1, 2, 3, 4, 5, 6, 0]]), ("c8", [[1, 2, 3, 4, 5, 6, 7, 0]]), ("d4", [[1, 2, 3, 0], [0, 3, 2, 1]]), ("q8", [[2, 3, 1, 0, 7, 6, 4, 5], [4, 5, 6, 7, 1, 0, 3, 2]]), ("c9", [[1, 2, 3, 4, 5, 6, 7, 8, 0]]), ("a4", [[1, 2, 0, 3], [1, 0, 3, 2]]), ("s4", [[1, 2, 3, 0], [1, 0, 2, 3]])]
abbrev entD (e : Str × List (List Int)) : D := .tup [.str e.1, .tup (e.2.map ti)]
def shelfD : D := .tup (shelf.map entD)
def dT (x : Str) (i : Nat) : He5.DefA := ⟨fun K => He.ga K x, x, x, defArgs (top i), defBody (top i), defScope (top i), [], []⟩
def dM (C m q : Str) (i j : Nat) : He5.DefA := ⟨fun K => He.ma K (He.ga K C) m, m, q, defArgs (itm i j), defBody (itm i j), defScope (itm i j), [], []⟩
def dC (C m q : Str) (i j : Nat) : He5.DefA := ⟨fun K => He5.wf K (He.ga K C) "classmethod" m, m, q, defArgs (itm i j), defBody (itm i j), defScope (itm i j), [], []⟩
def dfA : He.Defn := ("light_inputs", none)
def dfB : He.Defn := ("_law_inputs", none)
def defsL0 : List He5.DefA := [dT "check_shape" 17, dT "check_input" 18, dT "weight" 19, dT "lies_under" 20, dT "count_inputs" 21, dT "light_inputs" 22, dT "inputs_of" 23, dT "reached" 30, dT "generating_members" 31, dT "is_associative" 32, dT "table_fault" 33, dT "generated" 35, dT "commutator_subgroup" 36, dT "lower_row" 38, dT "subgroup_at" 39, dT "check_table" 41, dT "counted" 42, dT "clash" 45, dT "decides" 46, dT "coefficient_choices" 47, dT "check_count" 48, dT "searched_entries" 49, dT "chart_by_row" 50, dT "deciding_chart" 51, dT "product_below" 53, dT "coefficients" 54, dT "obstacle" 56, dT "is_programmable" 57, dT "check_moves" 59, dT "followed" 60]
def defsL1 : List He5.DefA := [dT "closed_moves" 61, dT "group_of_moves" 62, dT "shelf_names" 65, dT "shelf_group" 66, dT "least_group" 68, dT "is_step" 70, dT "_law_numbers" 73, dT "_law_same" 74, dT "_law_chart_is" 75, dT "_law_weight" 76, dT "_law_inputs" 77, dT "_law_order" 78, dT "_law_no_clash" 79, dT "_law_draw" 80, dT "_law_counted" 81, dT "_law_drawn_counts" 82, dT "_law_first_clash" 83, dT "_law_least_holds" 84, dT "_law_adding" 85, dT "law" 86, dM "Group" "__init__" "Group.__init__" 34 0, dM "Group" "__len__" "Group.__len__" 34 2, dM "Group" "__contains__" "Group.__contains__" 34 3, dM "Group" "check" "Group.check" 34 6, dM "Group" "commutator" "Group.commutator" 34 10, dM "Chart" "__init__" "Chart.__init__" 27 0, dM "Program" "__init__" "Program.__init__" 71 0, dM "Program" "__call__" "Program.__call__" 71 3, dM "Program" "chart" "Program.chart" 71 10, dC "Group" "cyclic" "Group.cyclic" 34 1]
def defsL : List He5.DefA := defsL0 ++ defsL1
def gloL0 : List Str := ["check_shape", "check_input", "weight", "lies_under", "count_inputs", "light_inputs", "inputs_of", "reached", "generating_members", "is_associative", "table_fault", "generated", "commutator_subgroup", "lower_row", "subgroup_at", "check_table", "counted", "clash", "decides", "coefficient_choices", "check_count", "searched_entries", "chart_by_row", "deciding_chart", "product_below", "coefficients", "obstacle", "is_programmable", "check_moves", "followed"]
def gloL1 : List Str := ["closed_moves", "group_of_moves", "shelf_names", "shelf_group", "least_group", "is_step", "_law_numbers", "_law_same", "_law_chart_is", "_law_weight", "_law_inputs", "_law_order", "_law_no_clash", "_law_draw", "_law_counted", "_law_drawn_counts", "_law_first_clash", "_law_least_holds", "_law_adding", "law", "Group", "Chart", "Program", "SHELF"]
def gloL : List Str := gloL0 ++ gloL1
/-! ### data that the top has made -/
mutual
def denB (K : PySem.W.Frag) : D → Value → Bool
  | .str s, v => (match v with
    | .str t _ => decide (s = t)
    | _ => false)
  | .int i, v => (match v with
    | .int j _ => decide (i = j)
    | _ => false)
  | .tup ds, v => (match v with
    | .ref a => (match K.lookup a with
      | some ⟨.type c, _, .seq its _, _⟩ => decide (c = "tuple") && (decide (its.size ≤ sizeLine) && denLB K ds its.toList)
      | _ => false)
    | _ => false)
  | _, _ => false
def denLB (K : PySem.W.Frag) : List D → List Value → Bool
  | [], us => us.isEmpty
  | d :: ds, us => (match us with
    | u :: us => denB K d u && denLB K ds us
    | [] => false)
end
/-! ### the facts -/
def faL0 : List He.Fa := [.glo "check_shape", .glo "check_input", .glo "weight", .glo "lies_under", .glo "count_inputs", .glo "light_inputs", .glo "inputs_of", .glo "reached", .glo "generating_members", .glo "is_associative", .glo "table_fault", .glo "generated", .glo "commutator_subgroup", .glo "lower_row", .glo "subgroup_at", .glo "check_table", .glo "counted", .glo "clash", .glo "decides", .glo "coefficient_choices", .glo "check_count", .glo "searched_entries", .glo "chart_by_row", .glo "deciding_chart", .glo "product_below", .glo "coefficients", .glo "obstacle", .glo "is_programmable", .glo "check_moves", .glo "followed"]
def faL1 : List He.Fa := [.glo "closed_moves", .glo "group_of_moves", .glo "shelf_names", .glo "shelf_group", .glo "least_group", .glo "is_step", .glo "_law_numbers", .glo "_law_same", .glo "_law_chart_is", .glo "_law_weight", .glo "_law_inputs", .glo "_law_order", .glo "_law_no_clash", .glo "_law_draw", .glo "_law_counted", .glo "_law_drawn_counts", .glo "_law_first_clash", .glo "_law_least_holds", .glo "_law_adding", .glo "law", .glo "Group", .glo "Chart", .glo "Program", .glo "SHELF", .free "len", .free "range", .free "all", .free "sum", .free "sorted", .free "tuple"]
def faL2 : List He.Fa := [.free "list", .free "int", .free "bool", .free "str", .free "set", .free "zip", .free "enumerate", .free "max", .free "min", .free "abs", .free "isinstance", .int "MOST_PLACES" 12, .int "MOST_MEMBERS" 60, .int "MOST_CHARTS" 1024, .cls "Group", .cls "Chart", .cls "Program", .noat "Group" "rows", .noat "Group" "size", .noat "Group" "inverses", .noat "Chart" "group", .noat "Chart" "shape", .noat "Chart" "entries", .noat "Program" "group", .noat "Program" "shape", .noat "Program" "steps", .meth "Group" "check", .meth "Group" "commutator", .meth "Program" "chart", .meth "Group" "__len__"]
def faL3 : List He.Fa := [.meth "Group" "__contains__", .meth "Program" "__call__", .mkr "Group", .mkr "Chart", .mkr "Program"]
def faL : List He.Fa := faL0 ++ (faL1 ++ (faL2 ++ (faL3)))
def exB (K : PySem.W.Frag) : Bool := denB K shelfD (.ref (He.ga K "SHELF")) && (PySem.W.fnIn K (He.ma K (He.ga K "Program") "__call__") && (PySem.W.readsIn K (He.ga K "Group") (.type "type") && (He5.wrapB K (He.ga K "Group") "classmethod" "classmethod.__get__" "cyclic" && (PySem.W.fnIn K (He5.wf K (He.ga K "Group") "classmethod" "cyclic") && !decide ((He.cT K dfA).2 = (He.cT K dfB).2)))))
/-- which addresses are looked at -/
def fA {β : Type} : List Addr → (List Addr → β) → β
  | [], k => k []
  | a :: r, k => HandSHeadRun.frNat a fun a => fA r fun r => k (a :: r)
def rfs (g : Addr → Option Obj) (a : Addr) : List Addr := match g a with
  | some o => He.refsO o
  | none => []
def clsL : List Str := ["Group", "Chart", "Program"]
def mthL : List (Str × Str) := [("Group", "__init__"), ("Group", "__len__"), ("Group", "__contains__"), ("Group", "check"), ("Group", "commutator"), ("Group", "cyclic"), ("Chart", "__init__"), ("Program", "__init__"), ("Program", "__call__"), ("Program", "chart")]
def asN (g : Addr → Option Obj) : List Addr :=
  fA (gloL.map (He.ga (He.frG g [mainGlobals]))) fun gl =>
  fA (clsL.map (He.ga (He.frG g [mainGlobals]))) fun cs =>
  fA (cs.flatMap (rfs g)) fun ns =>
  fA (mthL.map fun p => He.ma (He.frG g (cs ++ ns)) (He.ga (He.frG g [mainGlobals]) p.1) p.2) fun ms =>
  fA [He5.wf (He.frG g (cs ++ (ns ++ ms))) (He.ga (He.frG g [mainGlobals]) "Group") "classmethod" "cyclic"] fun wf =>
  fA ((gl ++ (ms ++ wf)).flatMap (rfs g)) fun co =>
  fA [He.ga (He.frG g [mainGlobals]) "SHELF"] fun s0 =>
  fA (s0.flatMap (rfs g)) fun s1 =>
  fA (s1.flatMap (rfs g)) fun s2 =>
  fA (s2.flatMap (rfs g)) fun s3 =>
  mainGlobals :: PySem.cStatics :: (gl ++ (ns ++ (ms ++ (wf ++ (co ++ (s2 ++ s3))))))
section
variable (as : (Addr → Option Obj) → List Addr) (fa : List He.Fa) (fn : List He5.DefA) (tf : List He.Defn) (ex : PySem.W.Frag → Bool)
def obG (g : Addr → Option Obj) : He.AlD × Bool := fA (as g) fun as => (He5.obsA fa fn (He.frT g as), ex (He.frT g as) && He.tabsB g tf (He.frT g as))
theorem fA_eq {β : Type} : ∀ (l : List Addr) (k : List Addr → β), fA l k = k l
  | [], k => rfl
  | a :: r, k => by
    unfold fA
    rw [HandSHeadRun.frNat_eq, fA_eq r]
theorem tab_at {g : Addr → Option Obj} {tf : List He.Defn} {K : PySem.W.Frag} (h : He.tabsB g tf K = true) {p : He.Defn} (hp : p ∈ tf) : PySem.W.codeHdIn K (He.cT K p).1 (He.cT K p).2 = true ∧ g (He.cT K p).2 = some { cls := .none, data := .fields #[] } := by
  have k := He.ba (List.all_eq_true.mp h p hp)
  refine ⟨k.1, ?_⟩
  have k2 := k.2
  generalize g (He.cT K p).2 = z at k2
  match z, k2 with
  | some o, k2 => exact congrArg some (He.emptyTab_eq k2)
/-- what the hook tells of a part of the heap -/
structure SaysG (h : Heap) (K : PySem.W.Frag) : Prop where
  a : He5.SaysA fa fn K
  ex : ex K = true
  tab : ∀ p ∈ tf, (PySem.W.codeHdIn K (He.cT K p).1 (He.cT K p).2 = true ∧ K.lookup (He.cT K p).2 = none) ∧ h.get? (He.cT K p).2 = some { cls := .none, data := .fields #[] }
theorem saysG_of {h : Heap} (e : obG as fa fn tf ex h.get? = (He5.valA fn, true)) : SaysG fa fn tf ex h (He.frT h.get? (as h.get?)) := by
  unfold obG at e
  rw [fA_eq] at e
  have e2 := He.ba (congrArg Prod.snd e)
  refine ⟨congrArg Prod.fst e, e2.1, fun p hp => ?_⟩
  have k := tab_at e2.2 hp
  exact ⟨⟨k.1, He.frT_none k.2 rfl⟩, k.2⟩
def hkG : PySem.W.Hook where
  α := He.AlD × Bool
  obs := fun s => obG as fa fn tf ex s.heap.get?
  val := fun _ => (He5.valA fn, true)
  says := fun _ h => ∃ K : PySem.W.Frag, K.In h ∧ SaysG fa fn tf ex h K
  of := fun _ _ e => ⟨_, He.frT_in, saysG_of as fa fn tf ex e⟩
  keeps := fun _ _ _ ⟨K, hK, c⟩ k => ⟨K, PySem.W.Frag.In.keeps hK k, ⟨c.a, c.ex, fun p hp => ⟨(c.tab p hp).1, k _ _ (c.tab p hp).2⟩⟩⟩
theorem obG_eq {g : Addr → Option Obj} {s : Shared} (h : ∀ a, g a = s.heap.get? a) : obG as fa fn tf ex g = (hkG as fa fn tf ex).obs s := by
  have e : g = s.heap.get? := funext h
  rw [e] <;> rfl
end
end K9
/-! the head's run -/
namespace K94H
open PySem PySem.W PySem.Calls PyProof.Rows
abbrev R : OpenRow := OpenLaw.row PySem.Challenge.rw_chosenmoves_k94_whole_cyclic_groups_deci
abbrev qv : Program := view R.prog [86]
def nm1 : List PySem.Str := ["_wall", "MovesError", "BadGroup", "BadMoves", "NotMember", "BadShape", "BadInput", "BadStep", "BadChart", "Mismatch", "TooLarge", "BadTable", "BadName", "UnknownName", "MOST_PLACES", "check_shape", "check_input", "weight", "lies_under", "count_inputs", "light_inputs", "inputs_of", "position", "check_same", "Chart", "MOST_MEMBERS", "reached", "generating_members"]
def nm2 : List PySem.Str := ["is_associative", "table_fault", "Group", "generated", "commutator_subgroup", "lower_row", "subgroup_at", "check_table", "counted", "MOST_CHARTS", "clash", "decides", "coefficient_choices", "check_count", "searched_entries", "chart_by_row", "deciding_chart", "product_below", "coefficients", "obstacle", "is_programmable", "check_moves", "followed", "closed_moves", "group_of_moves"]
def nm3 : List PySem.Str := ["SHELF", "shelf_names", "shelf_group", "least_group", "is_step", "Program", "_law_numbers", "_law_same", "_law_chart_is", "_law_weight", "_law_inputs", "_law_order", "_law_no_clash", "_law_draw", "_law_counted", "_law_drawn_counts", "_law_first_clash", "_law_least_holds", "_law_adding"]
def names : List PySem.Str := nm1 ++ (nm2 ++ nm3)
abbrev hk : PySem.W.Hook := K9.hkG K9.asN K9.faL K9.defsL [K9.dfA, K9.dfB] K9.exB
def ob (s : PySem.W.SharedT) : hk.α := K9.obG K9.asN K9.faL K9.defsL [K9.dfA, K9.dfB] K9.exB (HandSHeadRun.getT s)
theorem ob_eq (s : PySem.W.SharedT) : ob s = hk.obs s.abs := K9.obG_eq K9.asN K9.faL K9.defsL [K9.dfA, K9.dfB] K9.exB (HandSHeadRun.getT_eq s)
theorem run (w : World) : HandSHeadRun.RunEq R qv hk ob 15000 names w := by
  intro os
  kernel_rfl
end K94H
/-! text KB -/
set_option Elab.async false
set_option linter.all false
set_option maxRecDepth 100000
set_option maxHeartbeats 2000000
set_option autoImplicit false
namespace K9
open PySem PySem.Spec PyProof.Rows L2 LamX
/-- the heap H and its stable part B -/
structure Pr (W : Wd) (B H : Hp) : Prop where
  sub : Same B H
  tab : ∀ a ps, H a = some (.tbl ps) → B a = none
  tabs : Tabs W.T H
/-- from (B, H) to (B', H'): what stood stands, the stable part has grown by new things alone -/
structure Ext (W : Wd) (B H B' H' : Hp) : Prop where
  hh : ExtN H H'
  bb : Same B B'
  ok : Pr W B' H'
  fr : ∀ a o, B a = none → H a = some o → (∀ ps, o ≠ .tbl ps) → B' a = none
section
variable {W : Wd} {B H B1 H1 B2 H2 : Hp}
theorem Ext.refl (p : Pr W B H) : Ext W B H B H := ⟨ExtN.refl H, Same.refl B, p, fun _ _ h _ _ => h⟩
theorem Ext.trans (a : Ext W B H B1 H1) (b : Ext W B1 H1 B2 H2) : Ext W B H B2 H2 :=
  ⟨a.hh.trans b.hh, a.bb.trans b.bb, b.ok, fun c o h1 h2 h3 => b.fr c o (a.fr c o h1 h2 h3) (a.hh c o h2 h3) h3⟩
theorem Pr.none_ (p : Pr W B H) {a : Addr} (h : H a = none) : B a = none := p.sub.free h
theorem lst_ne {xs : List V} : ∀ ps, HO.lst xs ≠ .tbl ps := fun _ z => by cases z
theorem tup_ne {xs : List V} : ∀ ps, HO.tup xs ≠ .tbl ps := fun _ z => by cases z
theorem ins_ne {C dx : Addr} {fs : List (Str × V)} : ∀ ps, HO.ins C dx fs ≠ .tbl ps := fun _ z => by cases z
theorem own_ne {x : Addr} : ∀ ps, HO.own x ≠ .tbl ps := fun _ z => by cases z
theorem dT_ne {kvs : List (List Key × V)} : ∀ ps, HO.dT kvs ≠ .tbl ps := fun _ z => by cases z
/-- nothing but a table may stand there -/
def Fre (H : Hp) (p : Addr) : Prop := ∀ o, H p = some o → ∃ ps, o = .tbl ps
theorem Fre.of {H : Hp} {p : Addr} (h : H p = none) : Fre H p := fun o e => by rw [h] at e; cases e
theorem Fre.back {H H' : Hp} {p : Addr} (e : ExtN H H') (h : Fre H' p) : Fre H p := fun o q => by
  cases o with
  | tbl ps => exact ⟨ps, rfl⟩
  | _ => exact h _ (e p _ q fun ps z => by cases z)
theorem Fre.ne {H : Hp} {p b : Addr} {o : HO} (h : Fre H p) (e : H b = some o) (n : ∀ ps, o ≠ .tbl ps) : b ≠ p := fun z => by
  subst z
  obtain ⟨ps, q⟩ := h o e
  exact n ps q
theorem same_new {H : Hp} {p : Addr} {o : HO} (h : H p = none) : Same H (upd H p o) := fun b x e => by
  rw [upd_ne (ne_of_none e h)]
  exact e
theorem extN_new {H : Hp} {p : Addr} {o : HO} (h : H p = none) : ExtN H (upd H p o) := ExtN.of (same_new h)
/-- a new thing, stable from now on -/
theorem Ext.new {p : Addr} {o : HO} (P : Pr W B H) (h : H p = none) (no : ∀ ps, o ≠ .tbl ps) : Ext W B H (upd B p o) (upd H p o) := by
  have hb := P.none_ h
  refine ⟨extN_new h, same_new hb, ⟨fun b x e => ?_, fun a ps e => ?_, P.tabs.ext (same_new h)⟩, fun a x e1 e2 _ => ?_⟩
  · by_cases q : b = p
    · rw [q, upd_same] at e ⊢
      exact e
    · rw [upd_ne q] at e ⊢
      exact P.sub _ _ e
  · by_cases q : a = p
    · rw [q, upd_same] at e
      exact absurd (Option.some.inj e) (no ps)
    · rw [upd_ne q] at e ⊢
      exact P.tab _ _ e
  · rw [upd_ne (ne_of_none e2 h)]
    exact e1
/-- a new thing, not stable -/
theorem Ext.newM {p : Addr} {o : HO} (P : Pr W B H) (h : H p = none) (no : ∀ ps, o ≠ .tbl ps) : Ext W B H B (upd H p o) := by
  refine ⟨extN_new h, Same.refl B, ⟨fun b x e => ?_, fun a ps e => ?_, P.tabs.ext (same_new h)⟩, fun a x e1 _ _ => e1⟩
  · rw [upd_ne (ne_of_none (P.sub _ _ e) h)]
    exact P.sub _ _ e
  · by_cases q : a = p
    · rw [q, upd_same] at e
      exact absurd (Option.some.inj e) (no ps)
    · rw [upd_ne q] at e
      exact P.tab _ _ e
theorem tabs_write {T : List (Addr × Str)} {p : Addr} {o u : HO} (t : Tabs T H) (hp : H p = some o) (n1 : ∀ ps, o ≠ .tbl ps) (n2 : ∀ c q, o ≠ CodeO c q) : Tabs T (upd H p u) := fun x hx => by
  obtain ⟨ps, h1, h2, h3⟩ := t x hx
  refine ⟨ps, ?_, h2, fun pos cv hc => ?_⟩
  · rw [upd_ne (fun z => n1 ps (by rw [z, hp] at h1; exact Option.some.inj h1))]
    exact h1
  · obtain ⟨c, e1, e2⟩ := h3 pos cv hc
    refine ⟨c, e1, ?_⟩
    rw [upd_ne (fun z => n2 c x.2 (by rw [z, hp] at e2; rw [z]; exact Option.some.inj e2))]
    exact e2
/-- what is not stable is written -/
theorem Pr.write {p : Addr} {o u : HO} (P : Pr W B H) (hp : H p = some o) (hb : B p = none) (n1 : ∀ ps, o ≠ .tbl ps) (n2 : ∀ c q, o ≠ CodeO c q) (n3 : ∀ ps, u ≠ .tbl ps) : Pr W B (upd H p u) := by
  refine ⟨fun b x e => ?_, fun a ps e => ?_, tabs_write P.tabs hp n1 n2⟩
  · rw [upd_ne (ne_of_none e hb)]
    exact P.sub _ _ e
  · by_cases q : a = p
    · rw [q, upd_same] at e
      exact absurd (Option.some.inj e) (n3 ps)
    · rw [upd_ne q] at e
      exact P.tab _ _ e
/-- .. from a start at which it did not stand -/
theorem Ext.write {p : Addr} {o u : HO} (e : Ext W B H B1 H1) (h0 : Fre H p) (hp : H1 p = some o) (hb : B1 p = none) (n1 : ∀ ps, o ≠ .tbl ps) (n2 : ∀ c q, o ≠ CodeO c q) (n3 : ∀ ps, u ≠ .tbl ps) : Ext W B H B1 (upd H1 p u) :=
  ⟨fun b x h n => by rw [upd_ne (h0.ne h n)]; exact e.hh b x h n, e.bb, e.ok.write hp hb n1 n2 n3, e.fr⟩
/-- what is not stable becomes so, from a start at which it did not stand -/
theorem Pr.freeze {p : Addr} {o : HO} (P : Pr W B H) (hp : H p = some o) (n : ∀ ps, o ≠ .tbl ps) : Pr W (upd B p o) H := by
  refine ⟨fun b x e => ?_, fun a ps e => ?_, P.tabs⟩
  · by_cases q : b = p
    · rw [q, upd_same] at e
      rw [q, hp]
      exact e
    · rw [upd_ne q] at e
      exact P.sub _ _ e
  · rw [upd_ne (fun z => n ps (by rw [z, hp] at e; exact Option.some.inj e))]
    exact P.tab _ _ e
theorem Ext.freeze {p : Addr} {o : HO} (e : Ext W B H B1 H1) (h0 : Fre H p) (hp : H1 p = some o) (hb : B1 p = none) (n : ∀ ps, o ≠ .tbl ps) : Ext W B H (upd B1 p o) H1 :=
  ⟨e.hh, e.bb.trans (same_new hb), e.ok.freeze hp n, fun a x h1 h2 h3 => by rw [upd_ne (h0.ne h2 h3)]; exact e.fr a x h1 h2 h3⟩
theorem seqN {K : PySem.W.Frag} {H H' : Hp} {a : Addr} {xs : List V} (e : ExtN H H') (h : SqL K H a xs) : SqL K H' a xs := by
  rcases h with (h | ⟨o, h⟩) | h
  · exact .inl (.inl (e _ _ h lst_ne))
  · exact .inl (.inr ⟨o, e _ _ h fun ps z => by cases z⟩)
  · exact .inr h
theorem seqTN {K : PySem.W.Frag} {H H' : Hp} {a : Addr} {xs : List V} (e : ExtN H H') (h : SqT K H a xs) : SqT K H' a xs := by
  rcases h with (h | ⟨o, h⟩) | h
  · exact .inl (.inl (e _ _ h tup_ne))
  · exact .inl (.inr ⟨o, e _ _ h fun ps z => by cases z⟩)
  · exact .inr h
end
/-! ### slots -/
/-- what a slot holds: nothing known; data; a list of the run's own; a list that is only read; an instance of the run's own -/
inductive Sl where
  | no | val (d : D) | mu (ds : List D) | rd (ds : List D) | obj (x : Addr) (c : Nat) (fs : List (Str × D)) | cv (v : V) | dt (kvs : List (List Key × V))
abbrev Sto := List Sl
def Sl.isOwn : Sl → Bool
  | .mu _ => true
  | .obj _ _ _ => true
  | .dt _ => true
  | _ => false
/-- H0: the heap at the run's start -/
def SlOk (W : Wd) (H0 B H : Hp) : Sl → Option V → Prop
  | .no, _ => True
  | .cv v, o => o = some v
  | .dt kvs, o => ∃ p, o = some (.ref p) ∧ H p = some (.dT kvs) ∧ B p = none ∧ Fre H0 p
  | .val d, o => ∃ v, o = some v ∧ Den W B d v
  | .mu ds, o => ∃ p vs, o = some (.ref p) ∧ H p = some (.lst vs) ∧ B p = none ∧ Fre H0 p ∧ DenL W B ds vs
  | .rd ds, o => ∃ p vs, o = some (.ref p) ∧ SqL W.K H0 p vs ∧ DenL W B ds vs
  | .obj x c fs, o => ∃ dx gs, o = some (.ref x) ∧ H x = some (.ins (W.cl c) dx gs) ∧ B x = none ∧ Fre H0 x ∧ DenF W B fs gs
structure Slots (W : Wd) (H0 B H : Hp) (σ : L2.St) (δ : Sto) : Prop where
  at_ : ∀ (i : Nat) (s : Sl), δ[i]? = some s → ∃ o, σ[i]? = some o ∧ SlOk W H0 B H s o
  inj : ∀ (i j : Nat) (s u : Sl) (p : Addr), δ[i]? = some s → δ[j]? = some u → s.isOwn = true → u.isOwn = true → σ[i]? = some (some (.ref p)) → σ[j]? = some (some (.ref p)) → i = j
section
variable {W : Wd} {H0 B H B1 H1 : Hp} {σ : L2.St} {δ : Sto}
theorem SlOk.ext (e : Ext W B H B1 H1) : ∀ {s : Sl} {o : Option V}, SlOk W H0 B H s o → SlOk W H0 B1 H1 s o
  | .no, _, _ => trivial
  | .cv _, _, h => h
  | .dt kvs, _, ⟨p, h1, h2, h3, h4⟩ => ⟨p, h1, e.hh _ _ h2 dT_ne, e.fr _ _ h3 h2 dT_ne, h4⟩
  | .val d, _, ⟨v, h1, h2⟩ => ⟨v, h1, Den.up e.bb d v h2⟩
  | .mu ds, _, ⟨p, vs, h1, h2, h3, h4, h5⟩ => ⟨p, vs, h1, e.hh _ _ h2 lst_ne, e.fr _ _ h3 h2 lst_ne, h4, DenL.up e.bb ds vs h5⟩
  | .rd ds, _, ⟨p, vs, h1, h2, h3⟩ => ⟨p, vs, h1, h2, DenL.up e.bb ds vs h3⟩
  | .obj x c fs, _, ⟨dx, gs, h1, h2, h3, h4, h5⟩ => ⟨dx, gs, h1, e.hh _ _ h2 ins_ne, e.fr _ _ h3 h2 ins_ne, h4, DenF.up e.bb fs gs h5⟩
theorem Slots.ext (s : Slots W H0 B H σ δ) (e : Ext W B H B1 H1) : Slots W H0 B1 H1 σ δ :=
  ⟨fun i x h => let ⟨o, h1, h2⟩ := s.at_ i x h; ⟨o, h1, SlOk.ext e h2⟩, s.inj⟩
theorem Slots.lt (s : Slots W H0 B H σ δ) {i : Nat} {x : Sl} (h : δ[i]? = some x) : i < σ.length := by
  obtain ⟨o, h1, _⟩ := s.at_ i x h
  exact (List.getElem?_eq_some_iff.mp h1).1
/-- a slot is given data -/
theorem Slots.set_val (s : Slots W H0 B H σ δ) {i : Nat} {d : D} {v : V} (hv : Den W B d v) : Slots W H0 B H (σ.set i (some v)) (δ.set i (.val d)) := by
  refine ⟨fun j x h => ?_, fun j k x y p h1 h2 o1 o2 e1 e2 => ?_⟩
  · by_cases q : i = j
    · subst q
      by_cases hl : i < δ.length
      · rw [List.getElem?_set_self hl] at h
        cases h
        have hl2 := s.lt (List.getElem?_eq_getElem hl)
        exact ⟨some v, List.getElem?_set_self hl2, v, rfl, hv⟩
      · rw [List.getElem?_eq_none (by rw [List.length_set]; omega)] at h
        cases h
    · rw [List.getElem?_set_ne q] at h ⊢
      exact s.at_ j x h
  · have n1 : i ≠ j := fun q => by
      subst q
      by_cases hl : i < δ.length
      · rw [List.getElem?_set_self hl] at h1
        cases h1
        cases o1
      · rw [List.getElem?_eq_none (by rw [List.length_set]; omega)] at h1
        cases h1
    have n2 : i ≠ k := fun q => by
      subst q
      by_cases hl : i < δ.length
      · rw [List.getElem?_set_self hl] at h2
        cases h2
        cases o2
      · rw [List.getElem?_eq_none (by rw [List.length_set]; omega)] at h2
        cases h2
    rw [List.getElem?_set_ne n1] at h1 e1
    rw [List.getElem?_set_ne n2] at h2 e2
    exact s.inj j k x y p h1 h2 o1 o2 e1 e2
/-- the address of an own thing -/
theorem Slots.own_at (s : Slots W H0 B H σ δ) {i : Nat} {x : Sl} (h : δ[i]? = some x) (o : x.isOwn = true) : ∃ p u, σ[i]? = some (some (.ref p)) ∧ H p = some u ∧ (∀ ps, u ≠ .tbl ps) ∧ (∀ c q, u ≠ CodeO c q) ∧ B p = none ∧ Fre H0 p := by
  obtain ⟨v, h1, h2⟩ := s.at_ i x h
  cases x with
  | mu ds =>
    obtain ⟨p, vs, e1, e2, e3, e4, _⟩ := h2
    exact ⟨p, _, by rw [h1, e1], e2, lst_ne, fun c q z => (by unfold CodeO at z; cases z), e3, e4⟩
  | obj p c fs =>
    obtain ⟨dx, gs, e1, e2, e3, e4, _⟩ := h2
    exact ⟨p, _, by rw [h1, e1], e2, ins_ne, fun c q z => (by unfold CodeO at z; cases z), e3, e4⟩
  | dt kvs =>
    obtain ⟨p, e1, e2, e3, e4⟩ := h2
    exact ⟨p, _, by rw [h1, e1], e2, dT_ne, fun c q z => (by unfold CodeO at z; cases z), e3, e4⟩
  | _ => cases o
/-- a slot is given an own thing -/
theorem Slots.set_ownA (s : Slots W H0 B H σ δ) {i : Nat} {x : Sl} {p : Addr} {u : HO} (hx : SlOk W H0 B (upd H p u) x (some (.ref p))) (ox : x.isOwn = true)
    (away : ∀ (j : Nat) (y : Sl) (q : Addr), i ≠ j → δ[j]? = some y → y.isOwn = true → σ[j]? = some (some (.ref q)) → q ≠ p) : Slots W H0 B (upd H p u) (σ.set i (some (.ref p))) (δ.set i x) := by
  refine ⟨fun j y h => ?_, fun j k y z q h1 h2 o1 o2 e1 e2 => ?_⟩
  · by_cases hj : i = j
    · subst hj
      by_cases hl : i < δ.length
      · rw [List.getElem?_set_self hl] at h
        cases h
        have hl2 := s.lt (List.getElem?_eq_getElem hl)
        exact ⟨some (.ref p), List.getElem?_set_self hl2, hx⟩
      · rw [List.getElem?_eq_none (by rw [List.length_set]; omega)] at h
        cases h
    · rw [List.getElem?_set_ne hj] at h ⊢
      obtain ⟨o, e1, e2⟩ := s.at_ j y h
      refine ⟨o, e1, ?_⟩
      cases y with
      | mu ds =>
        obtain ⟨q, vs, a1, a2, a3, a4, a5⟩ := e2
        exact ⟨q, vs, a1, by rw [upd_ne (away j _ q hj h rfl (by rw [e1, a1]))]; exact a2, a3, a4, a5⟩
      | obj q c fs =>
        obtain ⟨dx, gs, a1, a2, a3, a4, a5⟩ := e2
        exact ⟨dx, gs, a1, by rw [upd_ne (away j _ q hj h rfl (by rw [e1, a1]))]; exact a2, a3, a4, a5⟩
      | dt kvs =>
        obtain ⟨q, a1, a2, a3, a4⟩ := e2
        exact ⟨q, a1, by rw [upd_ne (away j _ q hj h rfl (by rw [e1, a1]))]; exact a2, a3, a4⟩
      | no => trivial
      | cv v => exact e2
      | val d => exact e2
      | rd ds => exact e2
  · by_cases hj : i = j
    · by_cases hk : i = k
      · exact hj.symm.trans hk
      · subst hj
        rw [List.getElem?_set_ne hk] at h2 e2
        have hl : i < σ.length := by
          by_cases hl : i < σ.length
          · exact hl
          · rw [List.getElem?_eq_none (by rw [List.length_set]; omega)] at e1
            cases e1
        rw [List.getElem?_set_self hl] at e1
        cases e1
        exact absurd rfl (away k _ _ hk h2 o2 e2)
    · by_cases hk : i = k
      · subst hk
        rw [List.getElem?_set_ne hj] at h1 e1
        have hl : i < σ.length := by
          by_cases hl : i < σ.length
          · exact hl
          · rw [List.getElem?_eq_none (by rw [List.length_set]; omega)] at e2
            cases e2
        rw [List.getElem?_set_self hl] at e2
        cases e2
        exact absurd rfl (away j _ _ hj h1 o1 e1)
      · rw [List.getElem?_set_ne hj] at h1 e1
        rw [List.getElem?_set_ne hk] at h2 e2
        exact s.inj j k _ _ q h1 h2 o1 o2 e1 e2
theorem Slots.set_own (s : Slots W H0 B H σ δ) {i : Nat} {x : Sl} {p : Addr} {u : HO} (hx : SlOk W H0 B (upd H p u) x (some (.ref p))) (ox : x.isOwn = true)
    (hn : ∃ y, δ[i]? = some y ∧ y.isOwn = true ∧ σ[i]? = some (some (.ref p))) : Slots W H0 B (upd H p u) (σ.set i (some (.ref p))) (δ.set i x) :=
  s.set_ownA hx ox fun j y q hj h o e z => by
    subst z
    obtain ⟨y', h', o', e'⟩ := hn
    exact hj (s.inj i j y' y q h' h o' o e' e)
/-- a new one, the heap as it was ahead at H1 -/
theorem Slots.set_new {B2 H1 : Hp} (s : Slots W H0 B H σ δ) (s1 : Slots W H0 B2 H1 σ δ) {i : Nat} {x : Sl} {p : Addr} (hx : SlOk W H0 B H x (some (.ref p))) (ox : x.isOwn = true) (n : Fre H1 p) : Slots W H0 B H (σ.set i (some (.ref p))) (δ.set i x) := by
  cases hp : H p with
  | none =>
    cases x with
    | mu ds =>
      obtain ⟨q, vs, a1, a2, _⟩ := hx
      cases a1
      rw [hp] at a2
      cases a2
    | obj q c fs =>
      obtain ⟨dx, gs, a1, a2, _⟩ := hx
      cases a1
      rw [hp] at a2
      cases a2
    | dt kvs =>
      obtain ⟨q, a1, a2, _⟩ := hx
      cases a1
      rw [hp] at a2
      cases a2
    | _ => cases ox
  | some u =>
    have eu : upd H p u = H := by
      funext b
      by_cases q : b = p
      · rw [q, upd_same, hp]
      · rw [upd_ne q]
    have h2 := s.set_ownA (i := i) (x := x) (p := p) (u := u) (by rw [eu]; exact hx) ox fun j y q hj h o e z => by
      subst z
      obtain ⟨p', u', e1, e2, e3, _⟩ := s1.own_at h o
      rw [e] at e1
      cases e1
      exact absurd rfl (n.ne e2 e3)
    rw [eu] at h2
    exact h2
/-- less is known -/
theorem Slots.forget (s : Slots W H0 B H σ δ) (i : Nat) : Slots W H0 B H σ (δ.set i .no) := by
  have at2 : ∀ {j : Nat} {y : Sl}, (δ.set i .no)[j]? = some y → (i = j ∧ y = .no ∧ j < δ.length) ∨ (i ≠ j ∧ δ[j]? = some y) := fun {j y} h => by
    by_cases q : i = j
    · subst q
      by_cases hl : i < δ.length
      · rw [List.getElem?_set_self hl] at h
        cases h
        exact .inl ⟨rfl, rfl, hl⟩
      · rw [List.getElem?_eq_none (by rw [List.length_set]; omega)] at h
        cases h
    · rw [List.getElem?_set_ne q] at h
      exact .inr ⟨q, h⟩
  refine ⟨fun j y h => ?_, fun j k y z q h1 h2 o1 o2 e1 e2 => ?_⟩
  · rcases at2 h with ⟨rfl, rfl, hl⟩ | ⟨_, h⟩
    · have hl2 := s.lt (List.getElem?_eq_getElem hl)
      exact ⟨_, List.getElem?_eq_getElem hl2, trivial⟩
    · exact s.at_ j y h
  · rcases at2 h1 with ⟨_, rfl, _⟩ | ⟨_, h1⟩
    · cases o1
    · rcases at2 h2 with ⟨_, rfl, _⟩ | ⟨_, h2⟩
      · cases o2
      · exact s.inj j k y z q h1 h2 o1 o2 e1 e2
end
end K9
/-! text KC -/
set_option Elab.async false
set_option linter.all false
set_option maxRecDepth 100000
set_option maxHeartbeats 2000000
set_option autoImplicit false
namespace K9
open PySem PySem.Spec PyProof.Rows L2 LamX
/-- the run's state: H0 its start -/
structure At (W : Wd) (H0 B H : Hp) (σ : L2.St) (δ : Sto) : Prop where
  pr : Pr W B H
  h0 : ExtN H0 H
  sl : Slots W H0 B H σ δ
/-- what is handed over: data; a list that may be read; a list or tuple that may be read -/
inductive AD where
  | v (d : D) | l (ds : List D) | s (ds : List D) | r (v : V)
def ArgOk (W : Wd) (B H : Hp) : AD → V → Prop
  | .v d, x => Den W B d x
  | .r v, x => x = v
  | .l ds, x => ∃ p vs, x = .ref p ∧ SqL W.K H p vs ∧ DenL W B ds vs
  | .s ds, x => ∃ p vs, x = .ref p ∧ (SqL W.K H p vs ∨ SqT W.K H p vs) ∧ DenL W B ds vs
def ArgsOk (W : Wd) (B H : Hp) : List AD → List V → Prop
  | [], xs => xs = []
  | a :: as, xs => ∃ x r, xs = x :: r ∧ ArgOk W B H a x ∧ ArgsOk W B H as r
/-- an expression's value -/
def EA (W : Wd) (t : TE) (δ : Sto) (a : AD) : Prop := ∀ (H0 B H : Hp) (σ : L2.St), At W H0 B H σ δ → ∀ Q : VK, (∀ v B' H', Ext W B H B' H' → ArgOk W B' H' a v → Q v H') → t σ H Q
abbrev Ex (W : Wd) (t : TE) (δ : Sto) (d : D) : Prop := EA W t δ (.v d)
/-- its value is a new list, not yet stable -/
def ExF (W : Wd) (t : TE) (δ : Sto) (ds : List D) : Prop := ∀ (H0 B H : Hp) (σ : L2.St), At W H0 B H σ δ → ∀ Q : VK, (∀ p vs B' H', Ext W B H B' H' → Fre H p → H' p = some (.lst vs) → B' p = none → DenL W B' ds vs → Q (.ref p) H') → t σ H Q
def ExT (W : Wd) (t : TT) (δ : Sto) (b : Bool) : Prop := ∀ (H0 B H : Hp) (σ : L2.St), At W H0 B H σ δ → ∀ Q : Bool → Hp → Prop, (∀ B' H', Ext W B H B' H' → Q b H') → t σ H Q
def ExA (W : Wd) (t : TA) (δ : Sto) (as : List AD) : Prop := ∀ (H0 B H : Hp) (σ : L2.St), At W H0 B H σ δ → ∀ Q : List V → Hp → Prop, (∀ xs B' H', Ext W B H B' H' → ArgsOk W B' H' as xs → Q xs H') → t σ H Q
/-- an operator, a call by values -/
def OG (W : Wd) (r : R2) (a b : AD) (d : D) : Prop := ∀ (B H : Hp) (x y : V), Pr W B H → ArgOk W B H a x → ArgOk W B H b y → ∀ Q : VK, (∀ v B' H', Ext W B H B' H' → Den W B' d v → Q v H') → r x y H Q
def RG (W : Wd) (r : List V → Hp → VK → Prop) (as : List AD) (d : D) : Prop := ∀ (B H : Hp) (xs : List V), Pr W B H → ArgsOk W B H as xs → ∀ Q : VK, (∀ v B' H', Ext W B H B' H' → Den W B' d v → Q v H') → r xs H Q
/-- .. with a new list as the answer -/
def OGF (W : Wd) (r : R2) (a b : AD) (ds : List D) : Prop := ∀ (B H : Hp) (x y : V), Pr W B H → ArgOk W B H a x → ArgOk W B H b y → ∀ Q : VK, (∀ p vs B' H', Ext W B H B' H' → Fre H p → H' p = some (.lst vs) → B' p = none → DenL W B' ds vs → Q (.ref p) H') → r x y H Q
def RGF (W : Wd) (r : List V → Hp → VK → Prop) (as : List AD) (ds : List D) : Prop := ∀ (B H : Hp) (xs : List V), Pr W B H → ArgsOk W B H as xs → ∀ Q : VK, (∀ p vs B' H', Ext W B H B' H' → Fre H p → H' p = some (.lst vs) → B' p = none → DenL W B' ds vs → Q (.ref p) H') → r xs H Q
section
variable {W : Wd} {H0 B H B1 H1 : Hp} {σ : L2.St} {δ : Sto}
theorem At.ext (a : At W H0 B H σ δ) (e : Ext W B H B1 H1) : At W H0 B1 H1 σ δ := ⟨e.ok, a.h0.trans e.hh, a.sl.ext e⟩
theorem ArgOk.ext (e : Ext W B H B1 H1) : ∀ {a : AD} {x : V}, ArgOk W B H a x → ArgOk W B1 H1 a x
  | .v d, x, h => Den.up e.bb d x h
  | .r _, _, h => h
  | .l ds, x, ⟨p, vs, h1, h2, h3⟩ => ⟨p, vs, h1, seqN e.hh h2, DenL.up e.bb ds vs h3⟩
  | .s ds, x, ⟨p, vs, h1, h2, h3⟩ => ⟨p, vs, h1, h2.imp (seqN e.hh) (seqTN e.hh), DenL.up e.bb ds vs h3⟩
theorem ArgOk.den {d : D} {x : V} (h : ArgOk W B H (.v d) x) : Den W B d x := h
theorem ArgOk.int {i : Int} {x : V} (h : ArgOk W B H (.v (.int i)) x) : x = .int i := Den.int_eq (B := B) (W := W) h
theorem ArgOk.bl {i : Bool} {x : V} (h : ArgOk W B H (.v (.bl i)) x) : x = .bl i := Den.bl_eq (B := B) (W := W) h
theorem ArgOk.str {i : Str} {x : V} (h : ArgOk W B H (.v (.str i)) x) : x = .str i := Den.str_eq (B := B) (W := W) h
theorem ArgOk.non {x : V} (h : ArgOk W B H (.v .non) x) : x = .non := Den.non_eq (B := B) (W := W) h
theorem ArgOk.tup {ds : List D} {x : V} (P : Pr W B H) (h : ArgOk W B H (.v (.tup ds)) x) : ∃ a vs, x = .ref a ∧ SqT W.K H a vs ∧ DenL W B ds vs := by
  obtain ⟨a, vs, h1, h2, h3⟩ := Den.tup_iff.mp h.den
  exact ⟨a, vs, h1, SqT.up P.sub h2, h3⟩
theorem ArgsOk.ext (e : Ext W B H B1 H1) : ∀ {as : List AD} {xs : List V}, ArgsOk W B H as xs → ArgsOk W B1 H1 as xs
  | [], _, h => h
  | _ :: _, _, ⟨x, r, h1, h2, h3⟩ => ⟨x, r, h1, ArgOk.ext e h2, ArgsOk.ext e h3⟩
theorem ArgsOk.len : ∀ {as : List AD} {xs : List V}, ArgsOk W B H as xs → xs.length = as.length
  | [], _, h => by rw [show _ = [] from h]; rfl
  | _ :: _, _, ⟨x, r, h1, h2, h3⟩ => by rw [h1, List.length_cons, List.length_cons, ArgsOk.len h3]
theorem Den.readL {ds : List D} {x : V} (P : Pr W B H) (h : Den W B (.lst ds) x) : ArgOk W B H (.l ds) x := by
  obtain ⟨a, vs, h1, h2, h3⟩ := Den.lst_iff.mp h
  exact ⟨a, vs, h1, P.sub.seq h2, h3⟩
theorem Den.readS {ds : List D} {x : V} (P : Pr W B H) (h : Den W B (.lst ds) x ∨ Den W B (.tup ds) x) : ArgOk W B H (.s ds) x := by
  rcases h with h | h
  · obtain ⟨a, vs, h1, h2, h3⟩ := Den.lst_iff.mp h
    exact ⟨a, vs, h1, .inl (P.sub.seq h2), h3⟩
  · obtain ⟨a, vs, h1, h2, h3⟩ := Den.tup_iff.mp h
    exact ⟨a, vs, h1, .inr (SqT.up P.sub h2), h3⟩
end
section
variable {W : Wd} {δ : Sto}
/-! ### between the kinds -/
theorem EA.toL {t : TE} {ds : List D} (h : Ex W t δ (.lst ds)) : EA W t δ (.l ds) := fun H0 B H σ a Q q => h H0 B H σ a Q fun v B' H' e d => q v B' H' e (Den.readL e.ok d)
theorem EA.toS {t : TE} {ds : List D} (h : Ex W t δ (.lst ds)) : EA W t δ (.s ds) := fun H0 B H σ a Q q => h H0 B H σ a Q fun v B' H' e d => q v B' H' e (Den.readS e.ok (.inl d))
theorem EA.tupS {t : TE} {ds : List D} (h : Ex W t δ (.tup ds)) : EA W t δ (.s ds) := fun H0 B H σ a Q q => h H0 B H σ a Q fun v B' H' e d => q v B' H' e (Den.readS e.ok (.inr d))
theorem EA.lS {t : TE} {ds : List D} (h : EA W t δ (.l ds)) : EA W t δ (.s ds) := fun H0 B H σ a Q q => h H0 B H σ a Q fun v B' H' e ⟨p, vs, h1, h2, h3⟩ => q v B' H' e ⟨p, vs, h1, .inl h2, h3⟩
theorem ExF.ex {t : TE} {ds : List D} (h : ExF W t δ ds) : Ex W t δ (.lst ds) := fun H0 B H σ a Q q => h H0 B H σ a Q fun p vs B' H' e n hp hb d => by
  refine q _ _ _ (e.freeze n hp hb lst_ne) (Den.lst_iff.mpr ⟨p, vs, rfl, .inl (.inl upd_same), DenL.up (same_new hb) _ _ d⟩)
theorem ExF.l {t : TE} {ds : List D} (h : ExF W t δ ds) : EA W t δ (.l ds) := fun H0 B H σ a Q q => h H0 B H σ a Q fun p vs B' H' e n hp hb d => q _ _ _ e ⟨p, vs, rfl, .inl (.inl hp), d⟩
theorem EA.tk {t : TE} {ds : List D} (h : Ex W t δ (.tk ds)) : Ex W t δ (.tup ds) := fun H0 B H σ a Q q => h H0 B H σ a Q fun v B' H' e d => q v B' H' e (Den.of_tk d.den)
/-! ### names, constants -/
theorem ea_var {i : Nat} {d : D} (h : δ[i]? = some (.val d)) : Ex W (tVar i) δ d := fun H0 B H σ a Q q => by
  obtain ⟨o, h1, v, h2, h3⟩ := a.sl.at_ i _ h
  exact ⟨v, by rw [h1, h2], q v B H (Ext.refl a.pr) h3⟩
theorem ea_cv {i : Nat} {v : V} (h : δ[i]? = some (.cv v)) : EA W (tVar i) δ (.r v) := fun H0 B H σ a Q q => by
  obtain ⟨o, h1, h2⟩ := a.sl.at_ i _ h
  exact ⟨v, by rw [h1, show o = some v from h2], q v B H (Ext.refl a.pr) rfl⟩
theorem ea_c {v : V} : EA W (tC v) δ (.r v) := fun H0 B H σ a Q q => q _ B H (Ext.refl a.pr) rfl
theorem ea_mu {i : Nat} {ds : List D} (h : δ[i]? = some (.mu ds)) : EA W (tVar i) δ (.l ds) := fun H0 B H σ a Q q => by
  obtain ⟨o, h1, p, vs, h2, h3, h4, h5, h6⟩ := a.sl.at_ i _ h
  exact ⟨.ref p, by rw [h1, h2], q _ B H (Ext.refl a.pr) ⟨p, vs, rfl, .inl (.inl h3), h6⟩⟩
theorem ea_rd {i : Nat} {ds : List D} (h : δ[i]? = some (.rd ds)) : EA W (tVar i) δ (.l ds) := fun H0 B H σ a Q q => by
  obtain ⟨o, h1, p, vs, h2, h3, h4⟩ := a.sl.at_ i _ h
  exact ⟨.ref p, by rw [h1, h2], q _ B H (Ext.refl a.pr) ⟨p, vs, rfl, seqN a.h0 h3, h4⟩⟩
theorem ex_int {i : Int} : Ex W (tC (.int i)) δ (.int i) := fun H0 B H σ a Q q => q _ B H (Ext.refl a.pr) (show Den W B (.int i) _ from Den.int_)
theorem ex_str {i : Str} : Ex W (tC (.str i)) δ (.str i) := fun H0 B H σ a Q q => q _ B H (Ext.refl a.pr) (show Den W B (.str i) _ from Den.str_)
theorem ex_bl {i : Bool} : Ex W (tC (.bl i)) δ (.bl i) := fun H0 B H σ a Q q => q _ B H (Ext.refl a.pr) (show Den W B (.bl i) _ from Den.bl_)
theorem ex_non : Ex W (tC .non) δ .non := fun H0 B H σ a Q q => q _ B H (Ext.refl a.pr) (show Den W B .non _ from Den.non_)
/-! ### operators -/
theorem ex_op {r : R2} {ta tb : TE} {a b : AD} {d : D} (g : OG W r a b d) (ha : EA W ta δ a) (hb : EA W tb δ b) : Ex W (tOp r ta tb) δ d := fun H0 B H σ s Q q =>
  ha H0 B H σ s _ fun x B1 H1 e1 ax => hb H0 B1 H1 σ (s.ext e1) _ fun y B2 H2 e2 ay => g B2 H2 x y e2.ok (ax.ext e2) ay Q fun v B3 H3 e3 dv => q v B3 H3 ((e1.trans e2).trans e3) dv
theorem exf_op {r : R2} {ta tb : TE} {a b : AD} {ds : List D} (g : OGF W r a b ds) (ha : EA W ta δ a) (hb : EA W tb δ b) : ExF W (tOp r ta tb) δ ds := fun H0 B H σ s Q q =>
  ha H0 B H σ s _ fun x B1 H1 e1 ax => hb H0 B1 H1 σ (s.ext e1) _ fun y B2 H2 e2 ay => g B2 H2 x y e2.ok (ax.ext e2) ay Q fun p vs B3 H3 e3 n hp hb d =>
    q p vs B3 H3 ((e1.trans e2).trans e3) (n.back (e1.trans e2).hh) hp hb d
theorem og_ii {f : Int → Int → Int} {i j : Int} : OG W (rI0 fun i j => .int (f i j)) (.v (.int i)) (.v (.int j)) (.int (f i j)) := fun B H x y P hx hy Q q =>
  ⟨i, j, hx.int, hy.int, q _ B H (Ext.refl P) (show Den W B (.int (f i j)) _ from Den.int_)⟩
theorem og_ib {f : Int → Int → Bool} {i j : Int} : OG W (rI0 fun i j => .bl (f i j)) (.v (.int i)) (.v (.int j)) (.bl (f i j)) := fun B H x y P hx hy Q q =>
  ⟨i, j, hx.int, hy.int, q _ B H (Ext.refl P) (show Den W B (.bl (f i j)) _ from Den.bl_)⟩
theorem og_iC {C : Int → Int → Prop} {f : Int → Int → Int} {i j : Int} (h : C i j) : OG W (rI C fun i j => .int (f i j)) (.v (.int i)) (.v (.int j)) (.int (f i j)) := fun B H x y P hx hy Q q =>
  ⟨i, j, hx.int, hy.int, h, q _ B H (Ext.refl P) (show Den W B (.int (f i j)) _ from Den.int_)⟩
/-- scalars -/
def D.sc : D → Option V
  | .non => some .non
  | .bl b => some (.bl b)
  | .int i => some (.int i)
  | .str s => some (.str s)
  | _ => none
theorem Den.sc {B : Hp} {d : D} {v x : V} (h : Den W B d x) (e : d.sc = some v) : x = v := by
  cases d with
  | non => cases e; exact Den.non_eq h
  | bl b => cases e; exact Den.bl_eq h
  | int b => cases e; exact Den.int_eq h
  | str b => cases e; exact Den.str_eq h
  | _ => cases e
theorem og_eq {a b : D} {x y : V} (hx : a.sc = some x) (hy : b.sc = some y) (h : scal x y = true) : OG W rEq (.v a) (.v b) (.bl (decide (x = y))) := fun B H u v P hu hv Q q => by
  rw [Den.sc hu.den hx, Den.sc hv.den hy]
  exact ⟨h, q _ B H (Ext.refl P) (show Den W B (.bl _) _ from Den.bl_)⟩
theorem og_ne {a b : D} {x y : V} (hx : a.sc = some x) (hy : b.sc = some y) (h : scal x y = true) : OG W rNe (.v a) (.v b) (.bl (!decide (x = y))) := fun B H u v P hu hv Q q => by
  rw [Den.sc hu.den hx, Den.sc hv.den hy]
  exact ⟨h, q _ B H (Ext.refl P) (show Den W B (.bl _) _ from Den.bl_)⟩
theorem dec_int {i j : Int} : decide (V.int i = V.int j) = decide (i = j) := by
  by_cases h : i = j
  · subst h; simp
  · have : ¬ V.int i = V.int j := fun z => h (V.int.inj z)
    rw [decide_eq_false h, decide_eq_false this]
theorem dec_str {i j : Str} : decide (V.str i = V.str j) = decide (i = j) := by
  by_cases h : i = j
  · subst h; simp
  · have : ¬ V.str i = V.str j := fun z => h (V.str.inj z)
    rw [decide_eq_false h, decide_eq_false this]
theorem dec_bl {i j : Bool} : decide (V.bl i = V.bl j) = decide (i = j) := by
  by_cases h : i = j
  · subst h; simp
  · have : ¬ V.bl i = V.bl j := fun z => h (V.bl.inj z)
    rw [decide_eq_false h, decide_eq_false this]
theorem og_eqI {i j : Int} : OG W rEq (.v (.int i)) (.v (.int j)) (.bl (decide (i = j))) := by
  rw [← dec_int]
  exact og_eq rfl rfl rfl
theorem og_neI {i j : Int} : OG W rNe (.v (.int i)) (.v (.int j)) (.bl (!decide (i = j))) := by
  rw [← dec_int]
  exact og_ne rfl rfl rfl
theorem og_eqS {i j : Str} : OG W rEq (.v (.str i)) (.v (.str j)) (.bl (decide (i = j))) := by
  rw [← dec_str]
  exact og_eq rfl rfl rfl
theorem og_neS {i j : Str} : OG W rNe (.v (.str i)) (.v (.str j)) (.bl (!decide (i = j))) := by
  rw [← dec_str]
  exact og_ne rfl rfl rfl
theorem og_eqB {i j : Bool} : OG W rEq (.v (.bl i)) (.v (.bl j)) (.bl (decide (i = j))) := by
  rw [← dec_bl]
  exact og_eq rfl rfl rfl
theorem og_neB {i j : Bool} : OG W rNe (.v (.bl i)) (.v (.bl j)) (.bl (!decide (i = j))) := by
  rw [← dec_bl]
  exact og_ne rfl rfl rfl
/-- is this None -/
def D.isNon : D → Bool
  | .non => true
  | _ => false
theorem Den.isNon {B : Hp} {d : D} {x : V} (h : Den W B d x) : decide (x = .non) = d.isNon := by
  cases d with
  | non => rw [Den.non_eq h]; rfl
  | bl b => rw [Den.bl_eq h]; rfl
  | int b => rw [Den.int_eq h]; rfl
  | str b => rw [Den.str_eq h]; rfl
  | tup ds =>
    obtain ⟨a, vs, e, _⟩ := Den.tup_iff.mp h
    rw [e]
    rfl
  | lst ds =>
    obtain ⟨a, vs, e, _⟩ := Den.lst_iff.mp h
    rw [e]
    rfl
  | ins c fs =>
    obtain ⟨a, dx, gs, e, _⟩ := Den.ins_iff.mp h
    rw [e]
    rfl
  | tk ds =>
    obtain ⟨a, vs, e, _⟩ := Den.tk_iff.mp h
    rw [e]
    rfl
  | tz ds =>
    obtain ⟨a, vs, e, _⟩ := Den.tz_iff.mp h
    rw [e]
    rfl
theorem og_isN {d : D} : OG W (fun x y H Q => y = .non ∧ Q (.bl (decide (x = .non))) H) (.v d) (.v .non) (.bl d.isNon) := fun B H x y P hx hy Q q =>
  ⟨hy.non, by rw [Den.isNon hx.den]; exact q _ B H (Ext.refl P) (show Den W B (.bl _) _ from Den.bl_)⟩
theorem og_notN {d : D} : OG W (fun x y H Q => y = .non ∧ Q (.bl (!decide (x = .non))) H) (.v d) (.v .non) (.bl (!d.isNon)) := fun B H x y P hx hy Q q =>
  ⟨hy.non, by rw [Den.isNon hx.den]; exact q _ B H (Ext.refl P) (show Den W B (.bl _) _ from Den.bl_)⟩
/-! ### tests -/
theorem ext_val {t : TE} {b : Bool} (h : Ex W t δ (.bl b)) : ExT W (tB t) δ b := fun H0 B H σ a Q q => h H0 B H σ a _ fun v B' H' e d => ⟨b, d.bl, q B' H' e⟩
theorem ext_test {t : TE} {b : Bool} (h : Ex W t δ (.bl b)) : ExT W (tTest t) δ b := fun H0 B H σ a Q q => h H0 B H σ a _ fun v B' H' e d => ⟨b, d.bl, q B' H' e⟩
theorem ext_not {t : TT} {b : Bool} (h : ExT W t δ b) : ExT W (tNot t) δ (!b) := fun H0 B H σ a Q q => h H0 B H σ a _ fun B' H' e => q B' H' e
theorem ext_and {ta tb : TT} {a b : Bool} (ha : ExT W ta δ a) (hb : a = true → ExT W tb δ b) : ExT W (tAnd ta tb) δ (a && b) := fun H0 B H σ s Q q => ha H0 B H σ s _ fun B1 H1 e1 => by
  cases a with
  | false => exact q B1 H1 e1
  | true => exact hb rfl H0 B1 H1 σ (s.ext e1) Q fun B2 H2 e2 => q B2 H2 (e1.trans e2)
theorem ext_or {ta tb : TT} {a b : Bool} (ha : ExT W ta δ a) (hb : a = false → ExT W tb δ b) : ExT W (tOr ta tb) δ (a || b) := fun H0 B H σ s Q q => ha H0 B H σ s _ fun B1 H1 e1 => by
  cases a with
  | true => exact q B1 H1 e1
  | false => exact hb rfl H0 B1 H1 σ (s.ext e1) Q fun B2 H2 e2 => q B2 H2 (e1.trans e2)
theorem ext_yes : ExT W tYes δ true := fun H0 B H σ a Q q => q B H (Ext.refl a.pr)
theorem ex_andV {ta tb : TE} {a : Bool} {d : D} (ha : Ex W ta δ (.bl a)) (hb : a = true → Ex W tb δ d) (hd : a = false → d = .bl false) : Ex W (tAndV ta tb) δ d := fun H0 B H σ s Q q => ha H0 B H σ s _ fun v B1 H1 e1 dv => by
  refine ⟨a, dv.bl, ?_⟩
  cases a with
  | false =>
    rw [if_neg Bool.false_ne_true]
    rw [hd rfl] at q
    exact q _ B1 H1 e1 (show Den W B1 (.bl false) _ from Den.bl_)
  | true =>
    rw [if_pos rfl]
    exact hb rfl H0 B1 H1 σ (s.ext e1) Q fun v B2 H2 e2 d2 => q v B2 H2 (e1.trans e2) d2
theorem ex_orV {ta tb : TE} {a : Bool} {d : D} (ha : Ex W ta δ (.bl a)) (hb : a = false → Ex W tb δ d) (hd : a = true → d = .bl true) : Ex W (tOrV ta tb) δ d := fun H0 B H σ s Q q => ha H0 B H σ s _ fun v B1 H1 e1 dv => by
  refine ⟨a, dv.bl, ?_⟩
  cases a with
  | true =>
    rw [if_pos rfl]
    rw [hd rfl] at q
    exact q _ B1 H1 e1 (show Den W B1 (.bl true) _ from Den.bl_)
  | false =>
    rw [if_neg Bool.false_ne_true]
    exact hb rfl H0 B1 H1 σ (s.ext e1) Q fun v B2 H2 e2 d2 => q v B2 H2 (e1.trans e2) d2
theorem ex_notV {t : TE} {b : Bool} (h : Ex W t δ (.bl b)) : Ex W (tNotV t) δ (.bl (!b)) := fun H0 B H σ a Q q => h H0 B H σ a _ fun v B' H' e d => ⟨b, d.bl, q _ B' H' e (show Den W B' (.bl _) _ from Den.bl_)⟩
theorem ex_if {t : TT} {ta tb : TE} {c : Bool} {a : AD} (h : ExT W t δ c) (h1 : c = true → EA W ta δ a) (h2 : c = false → EA W tb δ a) : EA W (tIf t ta tb) δ a := fun H0 B H σ s Q q => h H0 B H σ s _ fun B1 H1 e1 => by
  cases c with
  | true => exact h1 rfl H0 B1 H1 σ (s.ext e1) Q fun v B2 H2 e2 d2 => q v B2 H2 (e1.trans e2) d2
  | false => exact h2 rfl H0 B1 H1 σ (s.ext e1) Q fun v B2 H2 e2 d2 => q v B2 H2 (e1.trans e2) d2
theorem ex_chainI {f g : Int → Int → Bool} {ta tb tc : TE} {i j k : Int} (ha : Ex W ta δ (.int i)) (hb : Ex W tb δ (.int j)) (hc : Ex W tc δ (.int k)) :
    Ex W (tChain (rI0 fun i j => .bl (f i j)) (rI0 fun i j => .bl (g i j)) ta tb tc) δ (.bl (f i j && g j k)) := fun H0 B H σ s Q q =>
  ha H0 B H σ s _ fun x B1 H1 e1 ax => hb H0 B1 H1 σ (s.ext e1) _ fun y B2 H2 e2 ay => by
    refine ⟨i, j, (ax.ext e2).int, ay.int, f i j, rfl, ?_⟩
    cases z : f i j with
    | false =>
      rw [if_neg Bool.false_ne_true]
      rw [z] at q
      exact q _ B2 H2 (e1.trans e2) (show Den W B2 (.bl false) _ from Den.bl_)
    | true =>
      rw [if_pos rfl]
      rw [z] at q
      refine hc H0 B2 H2 σ (s.ext (e1.trans e2)) _ fun w B3 H3 e3 aw => ⟨j, k, (ay.ext e3).int, aw.int, ?_⟩
      exact q _ B3 H3 ((e1.trans e2).trans e3) (show Den W B3 (.bl (g j k)) _ from Den.bl_)
/-! ### arguments, calls -/
theorem exa_nil : ExA W tNil δ [] := fun H0 B H σ a Q q => q _ B H (Ext.refl a.pr) rfl
theorem exa_cons {ta : TE} {t : TA} {a : AD} {as : List AD} (ha : EA W ta δ a) (ht : ExA W t δ as) : ExA W (tCons ta t) δ (a :: as) := fun H0 B H σ s Q q =>
  ha H0 B H σ s _ fun x B1 H1 e1 ax => ht H0 B1 H1 σ (s.ext e1) _ fun xs B2 H2 e2 axs => q _ B2 H2 (e1.trans e2) ⟨x, xs, rfl, ax.ext e2, axs⟩
theorem ex_cb {r : List V → Hp → VK → Prop} {t : TA} {as : List AD} {d : D} (g : RG W r as d) (ht : ExA W t δ as) : Ex W (tCB r t) δ d := fun H0 B H σ s Q q =>
  ht H0 B H σ s _ fun xs B1 H1 e1 ax => g B1 H1 xs e1.ok ax Q fun v B2 H2 e2 d2 => q v B2 H2 (e1.trans e2) d2
theorem exf_cb {r : List V → Hp → VK → Prop} {t : TA} {as : List AD} {ds : List D} (g : RGF W r as ds) (ht : ExA W t δ as) : ExF W (tCB r t) δ ds := fun H0 B H σ s Q q =>
  ht H0 B H σ s _ fun xs B1 H1 e1 ax => g B1 H1 xs e1.ok ax Q fun p vs B2 H2 e2 n hp hb d2 => q p vs B2 H2 (e1.trans e2) (n.back e1.hh) hp hb d2
theorem ArgsOk.one {B H : Hp} {a : AD} {xs : List V} (h : ArgsOk W B H [a] xs) : ∃ x, xs = [x] ∧ ArgOk W B H a x := by
  obtain ⟨x, r, e, h1, h2⟩ := h
  have : r = [] := h2
  subst this
  exact ⟨x, e, h1⟩
theorem ArgsOk.two {B H : Hp} {a b : AD} {xs : List V} (h : ArgsOk W B H [a, b] xs) : ∃ x y, xs = [x, y] ∧ ArgOk W B H a x ∧ ArgOk W B H b y := by
  obtain ⟨x, r, e, h1, h2⟩ := h
  obtain ⟨y, rfl, h3⟩ := ArgsOk.one h2
  exact ⟨x, y, e, h1, h3⟩
/-- the promise of a def by a relation of its arguments and its answer -/
abbrev FP := List AD → D → Prop
def spOf (W : Wd) (R : FP) : Sp := fun vs H Q _ => ∃ B as d, Pr W B H ∧ ArgsOk W B H as vs ∧ R as d ∧ ∀ v B' H', Ext W B H B' H' → Den W B' d v → Q v H'
theorem ex_call {R : FP} {E : XK} {t : TA} {as : List AD} {d : D} (hR : R as d) (ht : ExA W t δ as) : Ex W (tCall (spOf W R) [] E t) δ d := fun H0 B H σ s Q q =>
  ht H0 B H σ s _ fun xs B1 H1 e1 ax => ⟨B1, as, d, e1.ok, by rw [List.append_nil]; exact ax, hR, fun v B2 H2 e2 d2 => q v B2 H2 (e1.trans e2) d2⟩
theorem ex_meth {R : FP} {E : XK} {c : Nat} {m : Str} {ta : TE} {t : TA} {as : List AD} {fs : List (Str × D)} {d : D} (ha : Ex W ta δ (.ins c fs)) (hm : fs.lookup m = none) (hR : R (.v (.ins c fs) :: as) d) (ht : ExA W t δ as) :
    Ex W (tMeth (W.cl c) m (spOf W R) [] E ta t) δ d := fun H0 B H σ s Q q =>
  ha H0 B H σ s _ fun x B1 H1 e1 ax => by
    obtain ⟨p, dx, gs, rfl, hp, hf⟩ := Den.ins_iff.mp ax.den
    refine ⟨p, dx, gs, rfl, e1.ok.sub _ _ hp, DenF.lookN hf hm, ?_⟩
    exact ht H0 B1 H1 σ (s.ext e1) _ fun xs B2 H2 e2 axs => ⟨B2, .v (.ins c fs) :: as, d, e2.ok, ⟨.ref p, xs, by rw [List.append_nil], ax.ext e2, axs⟩, hR, fun v B3 H3 e3 d3 => q v B3 H3 ((e1.trans e2).trans e3) d3⟩
theorem ex_fld {c : Nat} {f : Str} {ta : TE} {fs : List (Str × D)} {d : D} (cl : Cls W.K (W.cl c)) (na : NoAttr W.K (W.cl c) f) (ha : Ex W ta δ (.ins c fs)) (hl : fs.lookup f = some d) : Ex W (tFld W.K ta f) δ d := fun H0 B H σ s Q q =>
  ha H0 B H σ s _ fun x B1 H1 e1 ax => by
    obtain ⟨p, dx, gs, rfl, hp, hf⟩ := Den.ins_iff.mp ax.den
    obtain ⟨v, h1, h2⟩ := DenF.look hf hl
    exact ⟨p, _, dx, gs, v, rfl, e1.ok.sub _ _ hp, cl, na, h1, q v B1 H1 e1 h2⟩
/-- self.f while self is being made -/
theorem ex_fldO {i c : Nat} {x : Addr} {f : Str} {fs : List (Str × D)} {d : D} (cl : Cls W.K (W.cl c)) (na : NoAttr W.K (W.cl c) f) (hi : δ[i]? = some (.obj x c fs)) (hl : fs.lookup f = some d) : Ex W (tFld W.K (tVar i) f) δ d := fun H0 B H σ s Q q => by
  obtain ⟨o, h1, dx, gs, h2, h3, h4, h5, h6⟩ := s.sl.at_ i _ hi
  obtain ⟨v, k1, k2⟩ := DenF.look h6 hl
  exact ⟨.ref x, by rw [h1, h2], x, _, dx, gs, v, rfl, h3, cl, na, k1, q v B H (Ext.refl s.pr) k2⟩
/-! ### items -/
theorem atI_den {B : Hp} {ds : List D} {vs : List V} {k : Int} {d : D} (h : DenL W B ds vs) (e : atI ds k = some d) : ∃ v, atI vs k = some v ∧ Den W B d v := by
  unfold atI at e ⊢
  rw [h.len]
  cases q : ixN ds.length k with
  | none => rw [q] at e; cases e
  | some j =>
    rw [q] at e
    exact h.get e
theorem og_ixT {ds : List D} {k : Int} {d : D} (e : atI ds k = some d) : OG W (rIxT W.K) (.v (.tup ds)) (.v (.int k)) d := fun B H x y P hx hy Q q => by
  obtain ⟨p, vs, rfl, h2, h3⟩ := Den.tup_iff.mp hx.den
  obtain ⟨v, h4, h5⟩ := atI_den h3 e
  exact ⟨p, vs, k, v, rfl, hy.int, SqT.up P.sub h2, h4, q v B H (Ext.refl P) h5⟩
theorem og_ixL {ds : List D} {k : Int} {d : D} (e : atI ds k = some d) : OG W (rIxL W.K) (.l ds) (.v (.int k)) d := fun B H x y P hx hy Q q => by
  obtain ⟨p, vs, rfl, h2, h3⟩ := hx
  obtain ⟨v, h4, h5⟩ := atI_den h3 e
  exact ⟨p, vs, k, v, rfl, hy.int, h2, h4, q v B H (Ext.refl P) h5⟩
theorem og_ixS {ds : List D} {k : Int} {d : D} (e : atI ds k = some d) : OG W (rIx W.K) (.s ds) (.v (.int k)) d := fun B H x y P hx hy Q q => by
  obtain ⟨p, vs, rfl, h2, h3⟩ := hx
  obtain ⟨v, h4, h5⟩ := atI_den h3 e
  rcases h2 with h2 | h2
  · exact .inl ⟨p, vs, k, v, rfl, hy.int, h2, h4, q v B H (Ext.refl P) h5⟩
  · exact .inr (.inl ⟨p, vs, k, v, rfl, hy.int, h2, h4, q v B H (Ext.refl P) h5⟩)
/-! ### displays -/
/-- the plain data of arguments -/
theorem ArgsOk.den {B H : Hp} : ∀ {ds : List D} {xs : List V}, ArgsOk W B H (ds.map AD.v) xs → DenL W B ds xs
  | [], _, h => by rw [show _ = [] from h]; exact DenL.nil_
  | _ :: _, _, ⟨x, r, h1, h2, h3⟩ => by rw [h1]; exact DenL.cons_ h2 (ArgsOk.den h3)
theorem ex_tup {t : TA} {ds : List D} (hl : ds.length ≤ sizeLine) (ht : ExA W t δ (ds.map AD.v)) : Ex W (tTup t) δ (.tup ds) := fun H0 B H σ s Q q =>
  ht H0 B H σ s _ fun xs B1 H1 e1 ax => by
    have h := ArgsOk.den ax
    refine ⟨by rw [h.len]; exact hl, fun p hp => ?_⟩
    have e2 := Ext.new (o := .tup xs) e1.ok hp tup_ne
    exact q _ _ _ (e1.trans e2) (Den.tup_iff.mpr ⟨p, xs, rfl, .inl (.inl upd_same), DenL.up e2.bb _ _ h⟩)
theorem exf_lst {t : TA} {ds : List D} (hl : ds.length ≤ sizeLine) (ht : ExA W t δ (ds.map AD.v)) : ExF W (tLst t) δ ds := fun H0 B H σ s Q q =>
  ht H0 B H σ s _ fun xs B1 H1 e1 ax => by
    have h := ArgsOk.den ax
    refine ⟨by rw [h.len]; exact hl, fun p hp => ?_⟩
    have e2 := Ext.newM (o := .lst xs) e1.ok hp lst_ne
    exact q p xs B1 _ (e1.trans e2) ((Fre.of hp).back e1.hh) upd_same (e1.ok.none_ hp) h
end
end K9
/-! text KD -/
set_option Elab.async false
set_option linter.all false
set_option maxRecDepth 100000
set_option maxHeartbeats 2000000
set_option autoImplicit false
namespace K9
open PySem PySem.Spec PyProof.Rows L2 LamX
/-! ### walks -/
structure Wk (W : Wd) (H0 B1 : Hp) (J : It) (xs : List D) : Prop where
  go : ∀ i B H, i < xs.length → Same B1 B → Pr W B H → ExtN H0 H → J.go i H
  stop : ∀ B H, Same B1 B → Pr W B H → ExtN H0 H → J.stop xs.length H
  yld : ∀ i B H x H', i < xs.length → Same B1 B → Pr W B H → ExtN H0 H → J.yld i H x H' → ∃ B' d, xs[i]? = some d ∧ Ext W B H B' H' ∧ Den W B' d x
def EW (W : Wd) (wi : TI) (δ : Sto) (xs : List D) : Prop := ∀ (H0 B H : Hp) (σ : L2.St), At W H0 B H σ δ → ∀ R : It → Hp → Prop, (∀ J B' H', Ext W B H B' H' → Wk W H0 B' J xs → R J H') → wi σ H R
/-- a target: δ to δ', the slots vs alone -/
def GX (W : Wd) (g : TG) (d : D) (vs : List Nat) (δ δ' : Sto) : Prop := ∀ (H0 B H : Hp) (σ : L2.St) (v : V), At W H0 B H σ δ → Den W B d v → ∀ Q : L2.St → Hp → Prop, (∀ σ', Slots W H0 B H σ' δ' → wipe σ' vs = wipe σ vs → Q σ' H) → g v σ H Q
section
variable {W : Wd} {δ δ' : Sto} {H0 B H : Hp}
theorem wipe_set {σ : L2.St} {i : Nat} {v : Option V} : ∀ {vs : List Nat}, i ∈ vs → wipe (σ.set i v) vs = wipe σ vs
  | [], h => by simp at h
  | j :: vs, h => by
    unfold wipe
    by_cases hi : i ∈ vs
    · rw [wipe_set hi]
    · have hj : i = j := by
        rcases List.mem_cons.mp h with e | e
        · exact e
        · exact absurd e hi
      subst hj
      have out : ∀ (vs : List Nat) (σ : L2.St), i ∉ vs → wipe (σ.set i v) vs = (wipe σ vs).set i v := by
        intro vs
        induction vs with
        | nil => intro σ _; rfl
        | cons k vs ih =>
          intro σ h
          unfold wipe
          have h1 : i ≠ k := fun z => h (by rw [z]; exact List.mem_cons_self)
          rw [ih σ (fun z => h (List.mem_cons_of_mem _ z)), List.set_comm _ _ h1]
      rw [out vs σ hi, List.set_set]
theorem wipe_idem {vs : List Nat} : ∀ (us : List Nat) (σ : L2.St), (∀ u ∈ us, u ∈ vs) → wipe (wipe σ us) vs = wipe σ vs
  | [], σ, _ => rfl
  | u :: us, σ, h => by
    show wipe ((wipe σ us).set u none) vs = wipe σ vs
    rw [wipe_set (h u List.mem_cons_self)]
    exact wipe_idem us σ fun u hu => h u (List.mem_cons_of_mem _ hu)
theorem gx_name {i : Nat} {d : D} {vs : List Nat} (hi : i ∈ vs) : GX W (gName i) d vs δ (δ.set i (.val d)) := fun H0 B H σ v a hv Q q => q _ (a.sl.set_val hv) (wipe_set hi)
/-- targets one by one -/
def GXs (W : Wd) (g : TGs) (ds : List D) (vs : List Nat) (δ δ' : Sto) : Prop := ∀ (H0 B H : Hp) (σ : L2.St) (xs : List V), At W H0 B H σ δ → DenL W B ds xs → ∀ Q : L2.St → Hp → Prop, (∀ σ', Slots W H0 B H σ' δ' → wipe σ' vs = wipe σ vs → Q σ' H) → g xs σ H Q
theorem gxs_nil {vs : List Nat} : GXs W gNil [] vs δ δ := fun H0 B H σ xs a hx Q q => ⟨DenL.nil_eq hx, q σ a.sl rfl⟩
theorem gxs_cons {g : TG} {gs : TGs} {d : D} {ds : List D} {vs : List Nat} {δ1 : Sto} (h1 : GX W g d vs δ δ1) (h2 : GXs W gs ds vs δ1 δ') : GXs W (gCons g gs) (d :: ds) vs δ δ' := fun H0 B H σ xs a hx Q q => by
  obtain ⟨v, r, rfl, hv, hr⟩ := DenL.cons_iff.mp hx
  refine ⟨v, r, rfl, h1 H0 B H σ v a hv _ fun σ1 s1 w1 => ?_⟩
  exact h2 H0 B H σ1 r ⟨a.pr, a.h0, s1⟩ hr Q fun σ2 s2 w2 => q σ2 s2 (w2.trans w1)
theorem gx_tup {gs : TGs} {ds : List D} {n : Nat} {vs : List Nat} (hn : ds.length = n) (h : GXs W gs ds vs δ δ') : GX W (gTup W.K n gs) (.tup ds) vs δ δ' := fun H0 B H σ v a hv Q q => by
  obtain ⟨p, xs, rfl, h2, h3⟩ := Den.tup_iff.mp hv
  exact ⟨p, xs, rfl, SqT.up a.pr.sub h2, by rw [h3.len]; exact hn, h H0 B H σ xs a h3 Q q⟩
theorem gx_two {i j : Nat} {a b : D} {vs : List Nat} (hi : i ∈ vs) (hj : j ∈ vs) : GX W (gTup W.K 2 (gCons (gName i) (gCons (gName j) gNil))) (.tup [a, b]) vs δ ((δ.set i (.val a)).set j (.val b)) :=
  gx_tup rfl (gxs_cons (gx_name hi) (gxs_cons (gx_name hj) gxs_nil))
theorem ew_list {tl : TE} {xs : List D} (h : Ex W tl δ (.lst xs)) : EW W (iList W.K tl) δ xs := fun H0 B H σ a R r => h H0 B H σ a _ fun v B1 H1 e1 hv => by
  obtain ⟨p, vs, rfl, hp, hd⟩ := Den.lst_iff.mp hv.den
  refine ⟨p, rfl, ⟨vs, e1.ok.sub.seq hp⟩, r _ B1 H1 e1 ⟨fun i B2 H2 hi hs P _ => ?_, fun B2 H2 hs P _ => ?_, fun i B2 H2 x H3 hi hs P _ hy => ?_⟩⟩
  · have : i < vs.length := by rw [hd.len]; exact hi
    exact ⟨vs, vs[i], P.sub.seq (hs.seq hp), List.getElem?_eq_getElem this⟩
  · exact ⟨vs, P.sub.seq (hs.seq hp), by rw [hd.len]; exact Nat.le_refl _⟩
  · obtain ⟨rfl, hx⟩ := hy
    obtain ⟨d, h1, h2⟩ := hd.getV (hx vs (P.sub.seq (hs.seq hp)))
    exact ⟨B2, d, h1, Ext.refl P, Den.up hs _ _ h2⟩
theorem ew_rd {i : Nat} {xs : List D} (h : δ[i]? = some (.rd xs)) : EW W (iList W.K (tVar i)) δ xs := fun H0 B H σ a R r => by
  obtain ⟨o, h1, p, vs, rfl, hp, hd⟩ := a.sl.at_ i _ h
  refine ⟨.ref p, h1, p, rfl, ⟨vs, seqN a.h0 hp⟩, r _ B H (Ext.refl a.pr) ⟨fun i B2 H2 hi hs P h0 => ?_, fun B2 H2 hs P h0 => ?_, fun i B2 H2 x H3 hi hs P h0 hy => ?_⟩⟩
  · have : i < vs.length := by rw [hd.len]; exact hi
    exact ⟨vs, vs[i], seqN h0 hp, List.getElem?_eq_getElem this⟩
  · exact ⟨vs, seqN h0 hp, by rw [hd.len]; exact Nat.le_refl _⟩
  · obtain ⟨rfl, hx⟩ := hy
    obtain ⟨d, h1, h2⟩ := hd.getV (hx vs (seqN h0 hp))
    exact ⟨B2, d, h1, Ext.refl P, Den.up hs _ _ h2⟩
theorem ew_tup {tl : TE} {xs : List D} (h : Ex W tl δ (.tup xs)) : EW W (iTup W.K tl) δ xs := fun H0 B H σ a R r => h H0 B H σ a _ fun v B1 H1 e1 hv => by
  obtain ⟨p, vs, rfl, hp, hd⟩ := Den.tup_iff.mp hv.den
  have up : ∀ {B2 H2 : Hp}, Same B1 B2 → Pr W B2 H2 → SqT W.K H2 p vs := fun hs P => SqT.up P.sub (SqT.up hs hp)
  refine ⟨p, rfl, ⟨vs, SqT.up e1.ok.sub hp⟩, r _ B1 H1 e1 ⟨fun i B2 H2 hi hs P _ => ?_, fun B2 H2 hs P _ => ?_, fun i B2 H2 x H3 hi hs P _ hy => ?_⟩⟩
  · have : i < vs.length := by rw [hd.len]; exact hi
    exact ⟨vs, vs[i], up hs P, List.getElem?_eq_getElem this⟩
  · exact ⟨vs, up hs P, by rw [hd.len]; exact Nat.le_refl _⟩
  · obtain ⟨rfl, hx⟩ := hy
    obtain ⟨d, h1, h2⟩ := hd.getV (hx vs (up hs P))
    exact ⟨B2, d, h1, Ext.refl P, Den.up hs _ _ h2⟩
/-- lo, lo + 1, .. -/
def rng (lo : Int) (n : Nat) : List D := (List.range n).map fun k => D.int (lo + (k : Nat))
theorem rng_len {lo : Int} {n : Nat} : (rng lo n).length = n := by unfold rng; rw [List.length_map, List.length_range]
theorem rng_get {lo : Int} {n i : Nat} (h : i < n) : (rng lo n)[i]? = some (.int (lo + (i : Nat))) := by
  unfold rng
  rw [List.getElem?_map, List.getElem?_range h]
  rfl
theorem wk_rng {H0 B1 : Hp} {lo : Int} {n : Nat} : Wk W H0 B1 (Itr lo n) (rng lo n) :=
  ⟨fun i B H hi _ _ _ => by rw [rng_len] at hi; exact hi, fun B H _ _ _ => by rw [rng_len]; exact Nat.le_refl _, fun i B H x H' hi _ P _ hy => by
    obtain ⟨rfl, rfl⟩ := hy
    rw [rng_len] at hi
    exact ⟨B, _, rng_get hi, Ext.refl P, Den.int_⟩⟩
theorem ew_range1 {ta : TA} {j : Int} (h : ExA W ta δ [.v (.int j)]) (h1 : -(2 ^ 62) ≤ j) (h2 : j < 2 ^ 62) : EW W (iRng1 ta) δ (rng 0 j.toNat) := fun H0 B H σ a R r => h H0 B H σ a _ fun xs B1 H1 e1 hx => by
  obtain ⟨x, rfl, hx'⟩ := hx.one
  rw [hx'.int]
  exact ⟨j, rfl, h1, h2, r _ B1 H1 e1 wk_rng⟩
theorem ew_range2 {ta : TA} {i j : Int} (h : ExA W ta δ [.v (.int i), .v (.int j)]) (h1 : -(2 ^ 62) ≤ i ∧ i < 2 ^ 62 ∧ -(2 ^ 62) ≤ j ∧ j < 2 ^ 62) : EW W (iRng2 ta) δ (rng i (j - i).toNat) := fun H0 B H σ a R r => h H0 B H σ a _ fun xs B1 H1 e1 hx => by
  obtain ⟨x, y, rfl, hx', hy'⟩ := hx.two
  rw [hx'.int, hy'.int]
  exact ⟨i, j, rfl, h1, r _ B1 H1 e1 wk_rng⟩
/-- pairs -/
def zipD (xs ys : List D) : List D := (xs.zip ys).map fun p => .tup [p.1, p.2]
theorem wk_pair {H0 B1 : Hp} {J : It} {xs ys : List D} {vs us : List V} (hx : DenL W B1 xs vs) (hy : DenL W B1 ys us)
    (go : ∀ i B H, Same B1 B → Pr W B H → i < vs.length → i < us.length → J.go i H) (stop : ∀ B H, Same B1 B → Pr W B H → ∀ i, i = min vs.length us.length → J.stop i H)
    (yld : ∀ i B H v H', Same B1 B → Pr W B H → J.yld i H v H' → ∃ T x y, v = .ref T ∧ H T = none ∧ H' = upd H T (.tup [x, y]) ∧ vs[i]? = some x ∧ us[i]? = some y) : Wk W H0 B1 J (zipD xs ys) := by
  have hl : (zipD xs ys).length = min vs.length us.length := by unfold zipD; rw [List.length_map, List.length_zip, hx.len, hy.len]
  refine ⟨fun i B H hi hs P _ => ?_, fun B H hs P _ => ?_, fun i B H v H' hi hs P _ hv => ?_⟩
  · rw [hl] at hi
    exact go i B H hs P (by omega) (by omega)
  · exact stop B H hs P _ hl
  · obtain ⟨T, x, y, rfl, hT, rfl, h1, h2⟩ := yld i B H v H' hs P hv
    obtain ⟨d1, k1, k2⟩ := hx.getV h1
    obtain ⟨d2, k3, k4⟩ := hy.getV h2
    have e := Ext.new (o := .tup [x, y]) P hT tup_ne
    refine ⟨_, .tup [d1, d2], ?_, e, Den.tup_iff.mpr ⟨T, [x, y], rfl, .inl (.inl upd_same), DenL.cons_ (Den.up (hs.trans e.bb) _ _ k2) (DenL.cons_ (Den.up (hs.trans e.bb) _ _ k4) DenL.nil_)⟩⟩
    unfold zipD
    rw [List.getElem?_map, List.getElem?_zip_eq_some (z := (d1, d2)) |>.mpr ⟨k1, k3⟩]
    rfl
theorem ew_zipT {ta : TA} {xs ys : List D} (h : ExA W ta δ [.v (.tup xs), .v (.tup ys)]) : EW W (RZ.iZipA W.K ta) δ (zipD xs ys) := fun H0 B H σ a R r => h H0 B H σ a _ fun zs B1 H1 e1 hz => by
  obtain ⟨x, y, rfl, hx, hy⟩ := hz.two
  obtain ⟨p, vs, rfl, hp, hd⟩ := Den.tup_iff.mp hx.den
  obtain ⟨q, us, rfl, hq, hd2⟩ := Den.tup_iff.mp hy.den
  refine ⟨p, q, vs, us, rfl, .inr ⟨SqT.up e1.ok.sub hp, SqT.up e1.ok.sub hq, r _ B1 H1 e1 (wk_pair hd hd2 (fun i B H hs P h1 h2 => ?_) (fun B H hs P i hi => ?_) fun i B H v H' hs P hv => ?_)⟩⟩
  · exact ⟨vs, us, vs[i], us[i], SqT.up P.sub (SqT.up hs hp), SqT.up P.sub (SqT.up hs hq), List.getElem?_eq_getElem h1, List.getElem?_eq_getElem h2⟩
  · exact ⟨vs, us, SqT.up P.sub (SqT.up hs hp), SqT.up P.sub (SqT.up hs hq), by omega⟩
  · obtain ⟨T, x, y, h1, h2, h3, h4, h5⟩ := hv
    exact ⟨T, x, y, h1, h2, h3, h4 vs (SqT.up P.sub (SqT.up hs hp)), h5 us (SqT.up P.sub (SqT.up hs hq))⟩
/-- enumerate -/
def enumD (xs : List D) : List D := zipD (rng 0 xs.length) xs
theorem ew_enumL {ta : TA} {xs : List D} (h : ExA W ta δ [.v (.lst xs)]) : EW W (iEnum W.K ta) δ (enumD xs) := fun H0 B H σ a R r => h H0 B H σ a _ fun zs B1 H1 e1 hz => by
  obtain ⟨x, rfl, hx⟩ := hz.one
  obtain ⟨p, vs, rfl, hp, hd⟩ := Den.lst_iff.mp hx.den
  have up : ∀ {B2 H2 : Hp}, Same B1 B2 → Pr W B2 H2 → SqL W.K H2 p vs := fun hs P => P.sub.seq (hs.seq hp)
  have hr : DenL W B1 (rng 0 xs.length) ((List.range xs.length).map fun k => V.int (0 + (k : Nat))) := by
    unfold rng
    have := DenL.ints_ (W := W) (B := B1) ((List.range xs.length).map fun k => (0 + (k : Nat) : Int))
    rw [List.map_map, List.map_map] at this
    exact this
  have hrl : ((List.range xs.length).map fun k => V.int (0 + (k : Nat))).length = vs.length := by rw [List.length_map, List.length_range, hd.len]
  refine ⟨p, vs, rfl, up (Same.refl _) e1.ok, r _ B1 H1 e1 (wk_pair hr hd (fun i B H hs P h1 h2 => ?_) (fun B H hs P i hi => ?_) fun i B H v H' hs P hv => ?_)⟩
  · exact ⟨vs, vs[i], up hs P, List.getElem?_eq_getElem h2⟩
  · exact ⟨vs, up hs P, by omega⟩
  · obtain ⟨T, x, h1, h2, h3, h4⟩ := hv
    have h5 := h4 vs (up hs P)
    have hi : i < vs.length := (List.getElem?_eq_some_iff.mp h5).1
    refine ⟨T, .int (i : Nat), x, h1, h2, h3, ?_, h5⟩
    rw [List.getElem?_map, List.getElem?_range (by rw [← hd.len]; exact hi)]
    show some (V.int (0 + (i : Int))) = _
    rw [Int.zero_add]
/-! ### list comprehensions -/
def wipeD (δ : Sto) : List Nat → Sto
  | [] => δ
  | v :: vs => (wipeD δ vs).set v .no
theorem at_wipe {σ : L2.St} (a : At W H0 B H σ δ) : ∀ vs : List Nat, At W H0 B H (wipe σ vs) (wipeD δ vs)
  | [] => a
  | v :: vs => by
    have a1 := at_wipe a vs
    refine ⟨a1.pr, a1.h0, ?_⟩
    unfold wipe wipeD
    generalize wipe σ vs = σ1 at a1
    generalize wipeD δ vs = δ1 at a1
    have s := a1.sl
    have at2 : ∀ {j : Nat} {y : Sl}, (δ1.set v .no)[j]? = some y → (v = j ∧ y = .no ∧ j < δ1.length) ∨ (v ≠ j ∧ δ1[j]? = some y) := fun {j y} h => by
      by_cases q : v = j
      · subst q
        by_cases hl : v < δ1.length
        · rw [List.getElem?_set_self hl] at h
          cases h
          exact .inl ⟨rfl, rfl, hl⟩
        · rw [List.getElem?_eq_none (by rw [List.length_set]; omega)] at h
          cases h
      · rw [List.getElem?_set_ne q] at h
        exact .inr ⟨q, h⟩
    refine ⟨fun j y h => ?_, fun j k y z q h1 h2 o1 o2 e1 e2 => ?_⟩
    · rcases at2 h with ⟨rfl, rfl, hl⟩ | ⟨hj, h⟩
      · have hl2 := s.lt (List.getElem?_eq_getElem hl)
        exact ⟨none, List.getElem?_set_self hl2, trivial⟩
      · rw [List.getElem?_set_ne hj]
        exact s.at_ j y h
    · rcases at2 h1 with ⟨_, rfl, _⟩ | ⟨hj, h1⟩
      · cases o1
      · rcases at2 h2 with ⟨_, rfl, _⟩ | ⟨hk, h2⟩
        · cases o2
        · rw [List.getElem?_set_ne hj] at e1
          rw [List.getElem?_set_ne hk] at e2
          exact s.inj j k y z q h1 h2 o1 o2 e1 e2
/-- the list at D as it grows -/
structure Grow (W : Wd) (B H : Hp) (D : Addr) (ds : List K9.D) : Prop where
  ex : ∃ vs, H D = some (.lst vs) ∧ DenL W B ds vs
  nb : B D = none
theorem exf_lc {wi : TI} {g : TG} {tt : TT} {te : TE} {vs : List Nat} {xs : List D} (p : D → Bool) (f : D → D) (hw : EW W wi δ xs)
    (hs : ∀ x, x ∈ xs → ∃ δ1, GX W g x vs (wipeD δ vs) δ1 ∧ ExT W tt δ1 (p x) ∧ (p x = true → Ex W te δ1 (f x))) (hz : xs.length ≤ sizeLine) : ExF W (tLc wi g tt te vs) δ ((xs.filter p).map f) := fun H0 B H σ a Q q =>
  hw H0 B H σ a _ fun J B1 H1 e1 wk A hA => by
    have a1 := a.ext e1
    have n1 : B1 A = none := e1.ok.none_ hA
    have e2 := Ext.newM (o := .lst []) e1.ok hA lst_ne
    -- the invariant: B2 grows, the list holds what is made
    refine ⟨fun i m H2 => m = xs.length - i ∧ i ≤ xs.length ∧ ∃ B2, Ext W B H B2 H2 ∧ Same B1 B2 ∧ ExtN H1 H2 ∧ Grow W B2 H2 A (((xs.take i).filter p).map f), ⟨xs.length, rfl, Nat.zero_le _, B1, e1.trans e2, Same.refl _, e2.hh, ⟨⟨[], upd_same, DenL.nil_⟩, n1⟩⟩, ?_⟩
    rintro i m H2 ⟨rfl, hi, B2, e, sb, x2, gr⟩
    have a2 : At W H0 B2 H2 σ δ := a.ext e
    by_cases hlt : i < xs.length
    · refine .inr ⟨wk.go i B2 H2 hlt sb e.ok a2.h0, fun H3 => i + 1 ≤ xs.length ∧ ∃ B3, Ext W B H B3 H3 ∧ Same B1 B3 ∧ ExtN H1 H3 ∧ Grow W B3 H3 A (((xs.take (i + 1)).filter p).map f), fun H3 h3 => ⟨xs.length - (i + 1), by omega, rfl, h3.1, h3.2⟩, fun v H3 hy => ?_⟩
      obtain ⟨B3, d, hd, e3, hv⟩ := wk.yld i B2 H2 v H3 hlt sb e.ok a2.h0 hy
      obtain ⟨δ1, hg, ht, he⟩ := hs d (List.mem_of_getElem? hd)
      have a3 : At W H0 B3 H3 σ δ := a2.ext e3
      obtain ⟨⟨vs2, g1, g2⟩, g3⟩ := gr
      have et : xs.take (i + 1) = xs.take i ++ [d] := by
        rw [List.take_add_one, hd]
        rfl
      refine hg H0 B3 H3 _ v (at_wipe a3 vs) hv _ fun σ2 s2 w2 => ?_
      have ws : wipe (wipe σ vs) vs = wipe σ vs := wipe_idem vs σ fun _ h => h
      refine ⟨w2.trans ws, ?_⟩
      refine ht H0 B3 H3 σ2 ⟨a3.pr, a3.h0, s2⟩ _ fun B4 H4 e4 => ?_
      have e14 := (e.trans e3).trans e4
      have x4 : ExtN H1 H4 := (x2.trans e3.hh).trans e4.hh
      have s4 : Same B1 B4 := (sb.trans e3.bb).trans e4.bb
      cases hb : p d with
      | false =>
        rw [if_neg Bool.false_ne_true]
        refine ⟨hlt, B4, e14, s4, x4, ⟨vs2, e4.hh _ _ (e3.hh _ _ g1 lst_ne) lst_ne, ?_⟩, e4.fr _ _ (e3.fr _ _ g3 g1 lst_ne) (e3.hh _ _ g1 lst_ne) lst_ne⟩
        rw [et, List.filter_append, List.filter_cons_of_neg (by rw [hb]; exact Bool.false_ne_true), List.filter_nil, List.append_nil]
        exact DenL.up (e3.bb.trans e4.bb) _ _ g2
      | true =>
        rw [if_pos rfl]
        refine he hb H0 B4 H4 σ2 ⟨e4.ok, a3.h0.trans e4.hh, s2.ext e4⟩ _ fun y B5 H5 e5 hy5 => ?_
        have k1 : H5 A = some (.lst vs2) := e5.hh _ _ (e4.hh _ _ (e3.hh _ _ g1 lst_ne) lst_ne) lst_ne
        have k2 : B5 A = none := e5.fr _ _ (e4.fr _ _ (e3.fr _ _ g3 g1 lst_ne) (e3.hh _ _ g1 lst_ne) lst_ne) (e4.hh _ _ (e3.hh _ _ g1 lst_ne) lst_ne) lst_ne
        have hl : vs2.length ≤ i := by
          rw [g2.len, List.length_map]
          refine Nat.le_trans (List.length_filter_le _ _) ?_
          rw [List.length_take]
          omega
        have fA : Fre H A := (Fre.of hA).back e1.hh
        refine ⟨vs2, k1, by omega, hlt, B5, (e14.trans e5).write fA k1 k2 lst_ne (fun c q z => by unfold CodeO at z; cases z) lst_ne, s4.trans e5.bb, fun b o h n => ?_, ⟨_, upd_same, ?_⟩, k2⟩
        · rw [upd_ne ((Fre.of hA).ne h n)]
          exact (x4.trans e5.hh) b o h n
        · rw [et, List.filter_append, List.filter_cons_of_pos hb, List.filter_nil, List.map_append]
          exact DenL.app (DenL.up ((e3.bb.trans e4.bb).trans e5.bb) _ _ g2) (DenL.cons_ hy5.den DenL.nil_)
    · have ei : i = xs.length := by omega
      subst ei
      obtain ⟨⟨vs2, g1, g2⟩, g3⟩ := gr
      rw [List.take_length] at g2
      exact .inl ⟨wk.stop B2 H2 sb e.ok a2.h0, q A vs2 B2 H2 e ((Fre.of hA).back e1.hh) g1 g3 g2⟩
/-- without a test -/
theorem exf_lc1 {wi : TI} {g : TG} {te : TE} {vs : List Nat} {xs : List D} (f : D → D) (hw : EW W wi δ xs)
    (hs : ∀ x, x ∈ xs → ∃ δ1, GX W g x vs (wipeD δ vs) δ1 ∧ Ex W te δ1 (f x)) (hz : xs.length ≤ sizeLine) : ExF W (tLc wi g tYes te vs) δ (xs.map f) := by
  have h := exf_lc (W := W) (δ := δ) (tt := tYes) (te := te) (g := g) (vs := vs) (fun _ => true) f hw (fun x hx => by
    obtain ⟨δ1, h1, h2⟩ := hs x hx
    exact ⟨δ1, h1, ext_yes, fun _ => h2⟩) hz
  rw [List.filter_eq_self.mpr (fun _ _ => rfl)] at h
  exact h
end
end K9
/-! text KF -/
set_option Elab.async false
set_option linter.all false
set_option maxRecDepth 100000
set_option maxHeartbeats 2000000
set_option autoImplicit false
namespace K9
open PySem PySem.Spec PyProof.Rows L2 LamX
/-! ### statements -/
inductive Out where
  | nx (δ : Sto) | rt (d : D) | bk (δ : Sto) | ct (δ : Sto)
/-- what is wanted behind: B0 H0 the run's start, Bc the stable part ahead of the statement -/
def Fin (W : Wd) (B0 H0 Bc : Hp) (D : Ends) : Out → Prop
  | .nx δ => ∀ σ B H, Ext W B0 H0 B H → Same Bc B → Slots W H0 B H σ δ → D.nx σ H
  | .rt d => ∀ v B H, Ext W B0 H0 B H → Same Bc B → Den W B d v → D.rt v H
  | .bk δ => ∀ σ B H, Ext W B0 H0 B H → Same Bc B → Slots W H0 B H σ δ → D.bk σ H
  | .ct δ => ∀ σ B H, Ext W B0 H0 B H → Same Bc B → Slots W H0 B H σ δ → D.ct σ H
def SX (W : Wd) (t : TS) (δ : Sto) (o : Out) : Prop := ∀ (B0 H0 : Hp) (D : Ends) (σ : L2.St) (B H : Hp), Ext W B0 H0 B H → Slots W H0 B H σ δ → Fin W B0 H0 B D o → t D σ H
section
variable {W : Wd} {δ δ' : Sto} {o : Out}
theorem Fin.up {B0 H0 B B1 : Hp} {D : Ends} (s : Same B B1) : ∀ {o : Out}, Fin W B0 H0 B D o → Fin W B0 H0 B1 D o
  | .nx _, h => fun σ B2 H2 e s2 sl => h σ B2 H2 e (s.trans s2) sl
  | .rt _, h => fun v B2 H2 e s2 d => h v B2 H2 e (s.trans s2) d
  | .bk _, h => fun σ B2 H2 e s2 sl => h σ B2 H2 e (s.trans s2) sl
  | .ct _, h => fun σ B2 H2 e s2 sl => h σ B2 H2 e (s.trans s2) sl
theorem Ext.at_ {B0 H0 B H : Hp} {σ : L2.St} (e : Ext W B0 H0 B H) (s : Slots W H0 B H σ δ) : At W H0 B H σ δ := ⟨e.ok, e.hh, s⟩
theorem sx_nil (h : o = .nx δ) : SX W tNext δ o := fun B0 H0 D σ B H e s f => by
  subst h
  exact f σ B H e (Same.refl B) s
theorem sx_pass (h : o = .nx δ) : SX W tNext δ o := sx_nil h
theorem sx_seq {t u : TS} (h1 : SX W t δ (.nx δ')) (h2 : SX W u δ' o) : SX W (tSeq t u) δ o := fun B0 H0 D σ B H e s f =>
  h1 B0 H0 { D with nx := u D } σ B H e s fun σ1 B1 H1 e1 s1 sl => h2 B0 H0 D σ1 B1 H1 e1 sl (f.up s1)
theorem sx_seq_rt {t u : TS} {d : D} (h1 : SX W t δ (.rt d)) : SX W (tSeq t u) δ (.rt d) := fun B0 H0 D σ B H e s f => h1 B0 H0 { D with nx := u D } σ B H e s f
theorem sx_seq_bk {t u : TS} (h1 : SX W t δ (.bk δ')) : SX W (tSeq t u) δ (.bk δ') := fun B0 H0 D σ B H e s f => h1 B0 H0 { D with nx := u D } σ B H e s f
theorem sx_seq_ct {t u : TS} (h1 : SX W t δ (.ct δ')) : SX W (tSeq t u) δ (.ct δ') := fun B0 H0 D σ B H e s f => h1 B0 H0 { D with nx := u D } σ B H e s f
theorem sx_if {c : TT} {t u : TS} {b : Bool} (hc : ExT W c δ b) (h1 : b = true → SX W t δ o) (h2 : b = false → SX W u δ o) : SX W (tIfS c t u) δ o := fun B0 H0 D σ B H e s f =>
  hc H0 B H σ (e.at_ s) _ fun B1 H1 e1 => by
    cases b with
    | true => exact h1 rfl B0 H0 D σ B1 H1 (e.trans e1) (s.ext e1) (f.up e1.bb)
    | false => exact h2 rfl B0 H0 D σ B1 H1 (e.trans e1) (s.ext e1) (f.up e1.bb)
theorem sx_ret {te : TE} {d d' : D} (h : Ex W te δ d') (hd : d' = d) : SX W (tRet te) δ (.rt d) := fun B0 H0 D σ B H e s f =>
  h H0 B H σ (e.at_ s) _ fun v B1 H1 e1 hv => by
    subst hd
    exact f v B1 H1 (e.trans e1) e1.bb hv.den
theorem sx_drop {te : TE} {d : D} (h : Ex W te δ d) (ho : o = .nx δ) : SX W (tDrop te) δ o := fun B0 H0 D σ B H e s f =>
  h H0 B H σ (e.at_ s) _ fun v B1 H1 e1 hv => by
    subst ho
    exact f σ B1 H1 (e.trans e1) e1.bb (s.ext e1)
/-- x = e -/
theorem sx_set {te : TE} {i : Nat} {d : D} (h : Ex W te δ d) (ho : o = .nx (δ.set i (.val d))) : SX W (tAsg te (gName i)) δ o := fun B0 H0 D σ B H e s f =>
  h H0 B H σ (e.at_ s) _ fun v B1 H1 e1 hv => by
    subst ho
    exact f _ B1 H1 (e.trans e1) e1.bb ((s.ext e1).set_val hv.den)
/-- x = a new list -/
theorem sx_setM {te : TE} {i : Nat} {ds : List D} (h : ExF W te δ ds) (ho : o = .nx (δ.set i (.mu ds))) : SX W (tAsg te (gName i)) δ o := fun B0 H0 D σ B H e s f =>
  h H0 B H σ (e.at_ s) _ fun p vs B1 H1 e1 n hp hb hd => by
    subst ho
    exact f _ B1 H1 (e.trans e1) e1.bb ((s.ext e1).set_new s ⟨p, vs, rfl, hp, hb, n.back e.hh, hd⟩ rfl n)
theorem set_self {σ : L2.St} {i : Nat} {v : Option V} (h : σ[i]? = some v) : σ.set i v = σ := by
  apply List.ext_getElem?
  intro j
  by_cases q : i = j
  · subst q
    rw [List.getElem?_set_self (List.getElem?_eq_some_iff.mp h).1, h]
  · rw [List.getElem?_set_ne q]
/-- a list of the run's own changed -/
theorem mu_write {B0 H0 B H : Hp} {σ : L2.St} {i : Nat} {ds ds' : List D} {p : Addr} {vs vs' : List V} (e : Ext W B0 H0 B H) (s : Slots W H0 B H σ δ) (hi : δ[i]? = some (.mu ds)) (hσ : σ[i]? = some (some (.ref p))) (hp : H p = some (.lst vs)) (hb : B p = none) (h0 : Fre H0 p)
    (hd : DenL W B ds' vs') : Ext W B0 H0 B (upd H p (.lst vs')) ∧ Slots W H0 B (upd H p (.lst vs')) σ (δ.set i (.mu ds')) := by
  refine ⟨e.write h0 hp hb lst_ne (fun c q z => by unfold CodeO at z; cases z) lst_ne, ?_⟩
  have h := s.set_own (i := i) (x := .mu ds') (p := p) (u := .lst vs') ⟨p, vs', rfl, upd_same, hb, h0, hd⟩ rfl ⟨_, hi, rfl, hσ⟩
  rw [set_self hσ] at h
  exact h
theorem sx_append {te : TE} {i : Nat} {ds : List D} {d : D} (hi : δ[i]? = some (.mu ds)) (h : Ex W te δ d) (hl : ds.length < sizeLine) (ho : o = .nx (δ.set i (.mu (ds ++ [d])))) : SX W (tDrop (tBM W.K "list" rAppend (tVar i) (tCons te tNil))) δ o := fun B0 H0 D σ B H e s f => by
  subst ho
  obtain ⟨ov, h1, p, vs, rfl, h3, h4, h5, h6⟩ := s.at_ i _ hi
  refine ⟨.ref p, h1, .inl ⟨rfl, vs, .inl (.inl h3)⟩, ?_⟩
  refine h H0 B H σ (e.at_ s) _ fun y B1 H1 e1 hy => ?_
  have k1 := e1.hh _ _ h3 lst_ne
  have k2 := e1.fr _ _ h4 h3 lst_ne
  refine ⟨p, vs, y, rfl, rfl, k1, by rw [h6.len]; exact hl, ?_⟩
  obtain ⟨w1, w2⟩ := mu_write (e.trans e1) (s.ext e1) hi h1 k1 k2 h5 (DenL.app (DenL.up e1.bb _ _ h6) (DenL.cons_ hy.den DenL.nil_))
  exact f σ B1 _ w1 e1.bb w2
theorem sx_reverse {i : Nat} {ds : List D} (hi : δ[i]? = some (.mu ds)) (ho : o = .nx (δ.set i (.mu ds.reverse))) : SX W (tDrop (tBM0 W.K "list" rReverse (tVar i))) δ o := fun B0 H0 D σ B H e s f => by
  subst ho
  obtain ⟨ov, h1, p, vs, rfl, h3, h4, h5, h6⟩ := s.at_ i _ hi
  refine ⟨.ref p, h1, .inl ⟨rfl, vs, .inl (.inl h3)⟩, p, vs, rfl, rfl, h3, ?_⟩
  obtain ⟨w1, w2⟩ := mu_write e s hi h1 h3 h4 h5 (DenL.rev_ h6)
  exact f σ B _ w1 (Same.refl B) w2
theorem sx_insert {ta tb : TE} {i : Nat} {ds : List D} {k : Int} {d : D} (hi : δ[i]? = some (.mu ds)) (ha : Ex W ta δ (.int k)) (h : Ex W tb δ d) (hl : ds.length < sizeLine) (h0 : 0 ≤ k) (h63 : k < 2 ^ 63) (ho : o = .nx (δ.set i (.mu (ds.take k.toNat ++ [d] ++ ds.drop k.toNat)))) :
    SX W (tDrop (tBM W.K "list" (fun x vs H Q => ∃ (l : Addr) (xs : List V) (i : Int) (y : V), x = .ref l ∧ vs = [.int i, y] ∧ H l = some (.lst xs) ∧ xs.length < sizeLine ∧ 0 ≤ i ∧ i < 2 ^ 63 ∧
    Q .non (upd H l (.lst (xs.take i.toNat ++ [y] ++ xs.drop i.toNat)))) (tVar i) (tCons ta (tCons tb tNil)))) δ o := fun B0 H0 D σ B H e s f => by
  subst ho
  obtain ⟨ov, h1, p, vs, rfl, h3, h4, h5, h6⟩ := s.at_ i _ hi
  refine ⟨.ref p, h1, .inl ⟨rfl, vs, .inl (.inl h3)⟩, ?_⟩
  refine ha H0 B H σ (e.at_ s) _ fun x B1 H1 e1 hx => ?_
  refine h H0 B1 H1 σ ((e.at_ s).ext e1) _ fun y B2 H2 e2 hy => ?_
  have e12 := e1.trans e2
  have k1 := e12.hh _ _ h3 lst_ne
  have k2 := e12.fr _ _ h4 h3 lst_ne
  refine ⟨p, vs, k, y, rfl, by rw [hx.int], k1, by rw [h6.len]; exact hl, h0, h63, ?_⟩
  have h7 := DenL.up e12.bb _ _ h6
  obtain ⟨w1, w2⟩ := mu_write (e.trans e12) (s.ext e12) hi h1 k1 k2 h5 (DenL.app (DenL.app (DenL.take_ k.toNat h7) (DenL.cons_ hy.den DenL.nil_)) (DenL.drop_ k.toNat h7))
  exact f σ B2 _ w1 e12.bb w2
/-- target = xs.pop() -/
theorem sx_pop {g : TG} {i : Nat} {ds : List D} {d : D} {vs : List Nat} (hi : δ[i]? = some (.mu (ds ++ [d]))) (hg : GX W g d vs (δ.set i (.mu ds)) δ') (ho : o = .nx δ') : SX W (tAsg (tBM0 W.K "list" rPop (tVar i)) g) δ o := fun B0 H0 D σ B H e s f => by
  subst ho
  obtain ⟨ov, h1, p, us, rfl, h3, h4, h5, h6⟩ := s.at_ i _ hi
  have hlen : us.length = ds.length + 1 := by rw [h6.len, List.length_append]; rfl
  obtain ⟨y, hy, hd⟩ := h6.get (i := ds.length) (d := d) (by rw [List.getElem?_append_right (Nat.le_refl _), Nat.sub_self]; rfl)
  have h7 : DenL W B ds us.dropLast := by
    have := DenL.take_ ds.length h6
    rw [List.take_left'] at this
    · rw [List.dropLast_eq_take, hlen, Nat.add_sub_cancel]
      exact this
    · rfl
  refine ⟨.ref p, h1, .inl ⟨rfl, us, .inl (.inl h3)⟩, p, us, y, rfl, rfl, h3, by rw [hlen, Nat.add_sub_cancel]; exact hy, ?_⟩
  obtain ⟨w1, w2⟩ := mu_write e s hi h1 h3 h4 h5 h7
  exact hg H0 B _ σ y (w1.at_ w2) hd _ fun σ' s' _ => f σ' B _ w1 (Same.refl B) s'
/-- xs[k] = e -/
theorem sx_setitem {te ti : TE} {i j : Nat} {ds : List D} {d : D} {k : Int} (hi : δ[i]? = some (.mu ds)) (h : Ex W te δ d) (hk : Ex W ti δ (.int k)) (hj : ixN ds.length k = some j) (ho : o = .nx (δ.set i (.mu (ds.set j d)))) : SX W (tAsg te (gSub (tVar i) ti rSetL)) δ o := fun B0 H0 D σ B H e s f => by
  subst ho
  obtain ⟨ov, h1, p, us, rfl, h3, h4, h5, h6⟩ := s.at_ i _ hi
  refine h H0 B H σ (e.at_ s) _ fun y B1 H1 e1 hy => ?_
  refine ⟨.ref p, h1, ?_⟩
  refine hk H0 B1 H1 σ ((e.at_ s).ext e1) _ fun x B2 H2 e2 hx => ?_
  have e12 := e1.trans e2
  have k1 := e12.hh _ _ h3 lst_ne
  have k2 := e12.fr _ _ h4 h3 lst_ne
  refine ⟨p, us, k, j, rfl, hx.int, k1, by rw [h6.len]; exact hj, ?_⟩
  obtain ⟨w1, w2⟩ := mu_write (e.trans e12) (s.ext e12) hi h1 k1 k2 h5 (DenL.set_ j (DenL.up e12.bb _ _ h6) (hy.ext e2).den)
  exact f σ B2 _ w1 e12.bb w2
/-- x op= e -/
theorem sx_aug {i : Nat} {te : TE} {ti : TIp} {a b d : D} (hi : δ[i]? = some (.val a)) (h : Ex W te δ b) (hg : OG W ti (.v a) (.v b) d) (ho : o = .nx (δ.set i (.val d))) : SX W (tAug i te ti) δ o := fun B0 H0 D σ B H e s f => by
  subst ho
  obtain ⟨ov, h1, x, rfl, hx⟩ := s.at_ i _ hi
  refine ⟨x, h1, ?_⟩
  refine h H0 B H σ (e.at_ s) _ fun y B1 H1 e1 hy => ?_
  refine hg B1 H1 x y e1.ok (ArgOk.ext (a := .v a) e1 hx) hy _ fun v B2 H2 e2 hv => ?_
  exact f _ B2 H2 ((e.trans e1).trans e2) (e1.bb.trans e2.bb) ((s.ext (e1.trans e2)).set_val hv)
/-- target = e, any target -/
theorem sx_asg {te : TE} {g : TG} {d : D} {vs : List Nat} (h : Ex W te δ d) (hg : GX W g d vs δ δ') (ho : o = .nx δ') : SX W (tAsg te g) δ o := fun B0 H0 D σ B H e s f => by
  subst ho
  refine h H0 B H σ (e.at_ s) _ fun y B1 H1 e1 hy => ?_
  exact hg H0 B1 H1 σ y ((e.at_ s).ext e1) hy.den _ fun σ' s' _ => f σ' B1 H1 (e.trans e1) e1.bb s'
theorem DenF.put {B : Hp} {f : Str} {d : D} {v : V} (hv : Den W B d v) : ∀ {fs : List (Str × D)} {gs : List (Str × V)}, DenF W B fs gs → DenF W B (putD f d fs) (putF f v gs)
  | [], gs, h => by rw [DenF.nil_eq h]; exact DenF.cons_ hv DenF.nil_
  | (g, c) :: fs, gs, h => by
    obtain ⟨u, r, rfl, hu, t⟩ := DenF.cons_iff.mp h
    unfold putD putF
    by_cases q : g = f
    · rw [if_pos q, if_pos q]
      exact DenF.cons_ hv t
    · rw [if_neg q, if_neg q]
      exact DenF.cons_ hu (DenF.put hv t)
/-- self.f = e while self is being made -/
theorem sx_fld {i c : Nat} {x : Addr} {f : Str} {tv : TE} {fs : List (Str × D)} {d : D} (cl : Cls W.K (W.cl c)) (na : NoAttr W.K (W.cl c) f) (hi : δ[i]? = some (.obj x c fs)) (h : Ex W tv δ d) (hl : fs.length < 1000) (ho : o = .nx (δ.set i (.obj x c (putD f d fs)))) : SX W (sFld W.K (tVar i) tv f) δ o := fun B0 H0 D σ B H e s fi => by
  subst ho
  obtain ⟨ov, h1, dx, gs, rfl, h3, h4, h5, h6⟩ := s.at_ i _ hi
  refine h H0 B H σ (e.at_ s) _ fun y B1 H1 e1 hy => ?_
  have k1 := e1.hh _ _ h3 ins_ne
  have k2 := e1.fr _ _ h4 h3 ins_ne
  have k3 := DenF.up e1.bb _ _ h6
  refine ⟨.ref x, h1, x, _, dx, gs, rfl, k1, cl, na, by rw [k3.len]; exact hl, ?_⟩
  have k4 := DenF.put (f := f) hy.den k3
  have w2 := (s.ext e1).set_own (i := i) (x := .obj x c (putD f d fs)) (p := x) (u := .ins (W.cl c) dx (putF f y gs)) ⟨dx, _, rfl, upd_same, k2, h5, k4⟩ rfl ⟨_, hi, rfl, h1⟩
  rw [set_self h1] at w2
  exact fi σ B1 _ ((e.trans e1).write h5 k1 k2 ins_ne (fun c q z => by unfold CodeO at z; cases z) ins_ne) e1.bb w2
/-- a list of the run's own is changed no more -/
theorem sx_freeze {t : TS} {i : Nat} {ds : List D} (hi : δ[i]? = some (.mu ds)) (h : SX W t (δ.set i (.val (.lst ds))) o) : SX W t δ o := fun B0 H0 D σ B H e s f => by
  obtain ⟨ov, h1, p, us, rfl, h3, h4, h5, h6⟩ := s.at_ i _ hi
  have e2 : Ext W B0 H0 (upd B p (.lst us)) H := e.freeze h5 h3 h4 lst_ne
  have up := same_new (o := .lst us) h4
  have hil : i < δ.length := (List.getElem?_eq_some_iff.mp hi).1
  have s2 : Slots W H0 (upd B p (.lst us)) H σ (δ.set i (.val (.lst ds))) := by
    have at2 : ∀ {j : Nat} {y : Sl}, (δ.set i (.val (.lst ds)))[j]? = some y → (i = j ∧ y = .val (.lst ds)) ∨ (i ≠ j ∧ δ[j]? = some y) := fun {j y} h => by
      by_cases q : i = j
      · subst q
        rw [List.getElem?_set_self hil] at h
        cases h
        exact .inl ⟨rfl, rfl⟩
      · rw [List.getElem?_set_ne q] at h
        exact .inr ⟨q, h⟩
    refine ⟨fun j y hj => ?_, fun j k y z q k1 k2 o1 o2 e1 e2 => ?_⟩
    · rcases at2 hj with ⟨rfl, rfl⟩ | ⟨hne, hj⟩
      · exact ⟨some (.ref p), h1, .ref p, rfl, Den.lst_iff.mpr ⟨p, us, rfl, .inl (.inl upd_same), DenL.up up _ _ h6⟩⟩
      · obtain ⟨ov, k1, k2⟩ := s.at_ j y hj
        refine ⟨ov, k1, ?_⟩
        cases y with
        | no => trivial
        | cv v => exact k2
        | dt kvs =>
          obtain ⟨q, m1, m2, m3, m4⟩ := k2
          refine ⟨q, m1, m2, ?_, m4⟩
          rw [upd_ne fun z => hne (s.inj i j _ _ p hi hj rfl rfl h1 (by rw [k1, m1, z]))]
          exact m3
        | val d =>
          obtain ⟨v, m1, m2⟩ := k2
          exact ⟨v, m1, Den.up up _ _ m2⟩
        | rd ds =>
          obtain ⟨q, ws, m1, m2, m3⟩ := k2
          exact ⟨q, ws, m1, m2, DenL.up up _ _ m3⟩
        | mu ds =>
          obtain ⟨q, ws, m1, m2, m3, m4, m5⟩ := k2
          refine ⟨q, ws, m1, m2, ?_, m4, DenL.up up _ _ m5⟩
          rw [upd_ne fun z => hne (s.inj i j _ _ p hi hj rfl rfl h1 (by rw [k1, m1, z]))]
          exact m3
        | obj q c fs =>
          obtain ⟨dx, ws, m1, m2, m3, m4, m5⟩ := k2
          refine ⟨dx, ws, m1, m2, ?_, m4, DenF.up up _ _ m5⟩
          rw [upd_ne fun z => hne (s.inj i j _ _ p hi hj rfl rfl h1 (by rw [k1, m1, z]))]
          exact m3
    · rcases at2 k1 with ⟨_, rfl⟩ | ⟨_, k1⟩
      · cases o1
      · rcases at2 k2 with ⟨_, rfl⟩ | ⟨_, k2⟩
        · cases o2
        · exact s.inj j k y z q k1 k2 o1 o2 e1 e2
  exact h B0 H0 D σ _ H e2 s2 (f.up up)
/-! ### loops -/
inductive ForR (st : D → Sto → Out → Prop) : List D → Sto → Out → Prop
  | nil {δ : Sto} : ForR st [] δ (.nx δ)
  | nx {x : D} {xs : List D} {δ δ' : Sto} {o : Out} : st x δ (.nx δ') → ForR st xs δ' o → ForR st (x :: xs) δ o
  | ct {x : D} {xs : List D} {δ δ' : Sto} {o : Out} : st x δ (.ct δ') → ForR st xs δ' o → ForR st (x :: xs) δ o
  | bk {x : D} {xs : List D} {δ δ' : Sto} : st x δ (.bk δ') → ForR st (x :: xs) δ (.nx δ')
  | rt {x : D} {xs : List D} {δ : Sto} {d : D} : st x δ (.rt d) → ForR st (x :: xs) δ (.rt d)
/-- a turn of a for -/
def Turn1 (W : Wd) (g : TG) (tb : TS) (x : D) (δ : Sto) (o : Out) : Prop := ∃ δ1 vs, GX W g x vs δ δ1 ∧ SX W tb δ1 o
theorem sx_for {wi : TI} {g : TG} {tb : TS} {xs : List D} (hw : EW W wi δ xs) (hr : ForR (Turn1 W g tb) xs δ o) : SX W (tFor wi g tb) δ o := fun B0 H0 D σ B H e s f =>
  hw H0 B H σ (e.at_ s) _ fun J B1 H1 e1 wk => by
    have fB : Fin W B0 H0 B1 D o := f.up e1.bb
    refine ⟨fun i m σ2 H2 => m = xs.length - i ∧ i ≤ xs.length ∧ ∃ B2 δ2, Ext W B0 H0 B2 H2 ∧ Same B1 B2 ∧ Slots W H0 B2 H2 σ2 δ2 ∧ ForR (Turn1 W g tb) (xs.drop i) δ2 o,
      ⟨xs.length, rfl, Nat.zero_le _, B1, δ, e.trans e1, Same.refl _, s.ext e1, hr⟩, ?_⟩
    rintro i m σ2 H2 ⟨rfl, hi, B2, δ2, ee, sb, sl, hf⟩
    by_cases hlt : i < xs.length
    · refine .inr ⟨wk.go i B2 H2 hlt sb ee.ok ee.hh, fun σ3 H3 => i + 1 ≤ xs.length ∧ ∃ B3 δ3, Ext W B0 H0 B3 H3 ∧ Same B1 B3 ∧ Slots W H0 B3 H3 σ3 δ3 ∧ ForR (Turn1 W g tb) (xs.drop (i + 1)) δ3 o,
        fun σ3 H3 h3 => ⟨xs.length - (i + 1), by omega, rfl, h3.1, h3.2⟩, fun v H3 hy => ?_⟩
      obtain ⟨B3, d, hd, e3, hv⟩ := wk.yld i B2 H2 v H3 hlt sb ee.ok ee.hh hy
      have ed : xs.drop i = d :: xs.drop (i + 1) := by
        rw [List.drop_eq_getElem_cons hlt]
        rw [List.getElem?_eq_getElem hlt] at hd
        rw [Option.some.inj hd]
      rw [ed] at hf
      have ee3 := ee.trans e3
      have sl3 := sl.ext e3
      cases hf with
      | nx h1 h2 =>
        obtain ⟨δ1, vs, hg, hb⟩ := h1
        refine hg H0 B3 H3 σ2 v (ee3.at_ sl3) hv _ fun σ4 s4 _ => ?_
        exact hb B0 H0 _ σ4 B3 H3 ee3 s4 fun σ5 B5 H5 e5 sb5 s5 => ⟨hlt, B5, _, e5, (sb.trans e3.bb).trans sb5, s5, h2⟩
      | ct h1 h2 =>
        obtain ⟨δ1, vs, hg, hb⟩ := h1
        refine hg H0 B3 H3 σ2 v (ee3.at_ sl3) hv _ fun σ4 s4 _ => ?_
        exact hb B0 H0 _ σ4 B3 H3 ee3 s4 fun σ5 B5 H5 e5 sb5 s5 => ⟨hlt, B5, _, e5, (sb.trans e3.bb).trans sb5, s5, h2⟩
      | bk h1 =>
        obtain ⟨δ1, vs, hg, hb⟩ := h1
        refine hg H0 B3 H3 σ2 v (ee3.at_ sl3) hv _ fun σ4 s4 _ => ?_
        exact hb B0 H0 _ σ4 B3 H3 ee3 s4 fun σ5 B5 H5 e5 sb5 s5 => fB σ5 B5 H5 e5 ((sb.trans e3.bb).trans sb5) s5
      | rt h1 =>
        obtain ⟨δ1, vs, hg, hb⟩ := h1
        refine hg H0 B3 H3 σ2 v (ee3.at_ sl3) hv _ fun σ4 s4 _ => ?_
        exact hb B0 H0 _ σ4 B3 H3 ee3 s4 fun v5 B5 H5 e5 sb5 d5 => fB v5 B5 H5 e5 ((sb.trans e3.bb).trans sb5) d5
    · have ei : i = xs.length := by omega
      subst ei
      rw [List.drop_length] at hf
      cases hf with
      | nil => exact .inl ⟨wk.stop B2 H2 sb ee.ok ee.hh, fB σ2 B2 H2 ee sb sl⟩
/-- a while, n turns at most -/
inductive WhR (c : Sto → Bool → Prop) (st : Sto → Out → Prop) : Nat → Sto → Out → Prop
  | done {n : Nat} {δ : Sto} : c δ false → WhR c st n δ (.nx δ)
  | nx {n : Nat} {δ δ' : Sto} {o : Out} : c δ true → st δ (.nx δ') → WhR c st n δ' o → WhR c st (n + 1) δ o
  | ct {n : Nat} {δ δ' : Sto} {o : Out} : c δ true → st δ (.ct δ') → WhR c st n δ' o → WhR c st (n + 1) δ o
  | bk {n : Nat} {δ δ' : Sto} : c δ true → st δ (.bk δ') → WhR c st n δ (.nx δ')
  | rt {n : Nat} {δ : Sto} {d : D} : c δ true → st δ (.rt d) → WhR c st n δ (.rt d)
theorem sx_while {c : TT} {tb : TS} {n : Nat} (hr : WhR (ExT W c) (SX W tb) n δ o) : SX W (tWhile c tb) δ o := fun B0 H0 D σ B H e s f => by
  refine ⟨fun m σ2 H2 => ∃ B2 δ2, Ext W B0 H0 B2 H2 ∧ Same B B2 ∧ Slots W H0 B2 H2 σ2 δ2 ∧ WhR (ExT W c) (SX W tb) m δ2 o, ⟨n, B, δ, e, Same.refl _, s, hr⟩, ?_⟩
  rintro m σ2 H2 ⟨B2, δ2, ee, sb, sl, hw⟩
  cases hw with
  | done hc =>
    refine hc H0 B2 H2 σ2 (ee.at_ sl) _ fun B3 H3 e3 => ?_
    rw [if_neg Bool.false_ne_true]
    exact f σ2 B3 H3 (ee.trans e3) (sb.trans e3.bb) (sl.ext e3)
  | @nx m δ δ3 o hc hb hr =>
    refine hc H0 B2 H2 σ2 (ee.at_ sl) _ fun B3 H3 e3 => ?_
    rw [if_pos rfl]
    refine ⟨fun σ4 H4 => ∃ B4 δ4, Ext W B0 H0 B4 H4 ∧ Same B B4 ∧ Slots W H0 B4 H4 σ4 δ4 ∧ WhR (ExT W c) (SX W tb) m δ4 o, fun σ4 H4 h => ⟨m, Nat.lt_succ_self _, h⟩, ?_⟩
    exact hb B0 H0 _ σ2 B3 H3 (ee.trans e3) (sl.ext e3) fun σ5 B5 H5 e5 sb5 s5 => ⟨B5, _, e5, (sb.trans e3.bb).trans sb5, s5, hr⟩
  | @ct m δ δ3 o hc hb hr =>
    refine hc H0 B2 H2 σ2 (ee.at_ sl) _ fun B3 H3 e3 => ?_
    rw [if_pos rfl]
    refine ⟨fun σ4 H4 => ∃ B4 δ4, Ext W B0 H0 B4 H4 ∧ Same B B4 ∧ Slots W H0 B4 H4 σ4 δ4 ∧ WhR (ExT W c) (SX W tb) m δ4 o, fun σ4 H4 h => ⟨m, Nat.lt_succ_self _, h⟩, ?_⟩
    exact hb B0 H0 _ σ2 B3 H3 (ee.trans e3) (sl.ext e3) fun σ5 B5 H5 e5 sb5 s5 => ⟨B5, _, e5, (sb.trans e3.bb).trans sb5, s5, hr⟩
  | bk hc hb =>
    refine hc H0 B2 H2 σ2 (ee.at_ sl) _ fun B3 H3 e3 => ?_
    rw [if_pos rfl]
    refine ⟨fun _ _ => False, fun _ _ h => h.elim, ?_⟩
    exact hb B0 H0 _ σ2 B3 H3 (ee.trans e3) (sl.ext e3) fun σ5 B5 H5 e5 sb5 s5 => f σ5 B5 H5 e5 ((sb.trans e3.bb).trans sb5) s5
  | rt hc hb =>
    refine hc H0 B2 H2 σ2 (ee.at_ sl) _ fun B3 H3 e3 => ?_
    rw [if_pos rfl]
    refine ⟨fun _ _ => False, fun _ _ h => h.elim, ?_⟩
    exact hb B0 H0 _ σ2 B3 H3 (ee.trans e3) (sl.ext e3) fun v5 B5 H5 e5 sb5 d5 => f v5 B5 H5 e5 ((sb.trans e3.bb).trans sb5) d5
/-! ### a def -/
def AD.sl : AD → Sl
  | .v d => .val d
  | .l ds => .rd ds
  | .s _ => .no
  | .r x => .cv x
def sto0 (n : Nat) (as : List AD) : Sto := as.map AD.sl ++ List.replicate (n - as.length) .no
theorem ArgsOk.get {B H : Hp} : ∀ {as : List AD} {xs : List V} {i : Nat} {a : AD}, ArgsOk W B H as xs → as[i]? = some a → ∃ x, xs[i]? = some x ∧ ArgOk W B H a x
  | [], _, _, _, _, e => by simp at e
  | b :: as, _, 0, a, ⟨x, r, h1, h2, h3⟩, e => by
    rw [List.getElem?_cons_zero] at e
    cases e
    exact ⟨x, by rw [h1]; rfl, h2⟩
  | b :: as, _, i + 1, a, ⟨x, r, h1, h2, h3⟩, e => by
    rw [List.getElem?_cons_succ] at e
    obtain ⟨y, k1, k2⟩ := ArgsOk.get h3 e
    exact ⟨y, by rw [h1, List.getElem?_cons_succ]; exact k1, k2⟩
theorem ad_sl_own (a : AD) : a.sl.isOwn = false := by cases a <;> rfl
theorem slots_start {B H : Hp} {as : List AD} {vs : List V} {N : List Str} (h : ArgsOk W B H as vs) : Slots W H B H (L2.start N vs) (sto0 N.length as) := by
  have hl := h.len
  have key : ∀ (i : Nat) (x : Sl), (sto0 N.length as)[i]? = some x → x.isOwn = false ∧ ∃ o, (L2.start N vs)[i]? = some o ∧ SlOk W H B H x o := fun i x e => by
    unfold sto0 at e
    unfold L2.start
    by_cases hi : i < as.length
    · rw [List.getElem?_append_left (by rw [List.length_map]; exact hi), List.getElem?_map] at e
      rw [List.getElem?_append_left (by rw [List.length_map]; omega), List.getElem?_map]
      rw [List.getElem?_eq_getElem hi] at e
      have e' : as[i].sl = x := Option.some.inj e
      subst e'
      obtain ⟨y, h1, h2⟩ := h.get (List.getElem?_eq_getElem hi)
      refine ⟨ad_sl_own _, some y, by rw [h1]; rfl, ?_⟩
      cases q : as[i] with
      | v d => rw [q] at h2; exact ⟨y, rfl, h2⟩
      | l ds =>
        rw [q] at h2
        obtain ⟨p, us, rfl, k1, k2⟩ := h2
        exact ⟨p, us, rfl, k1, k2⟩
      | s ds => trivial
      | r v =>
        rw [q] at h2
        exact congrArg some h2
    · rw [List.getElem?_append_right (by rw [List.length_map]; omega), List.length_map] at e
      rw [List.getElem?_append_right (by rw [List.length_map]; omega), List.length_map, hl]
      have hlt : i - as.length < N.length - as.length := by
        have := (List.getElem?_eq_some_iff.mp e).1
        rw [List.length_replicate] at this
        exact this
      rw [List.getElem?_replicate, if_pos hlt] at e
      cases e
      exact ⟨rfl, none, by rw [List.getElem?_replicate, if_pos hlt], trivial⟩
  exact ⟨fun i x e => (key i x e).2, fun i j x y p h1 _ o1 _ _ _ => by rw [(key i x h1).1] at o1; cases o1⟩
/-- what a def's body gives -/
def Gives (W : Wd) (t : TS) (δ : Sto) (d : D) : Prop := SX W t δ (.rt d) ∨ ∃ δ', SX W t δ (.nx δ') ∧ d = .non
theorem body_of {t : TS} {R : FP} {N : List Str} {vs : List V} {H : Hp} {Q : VK} {E : XK} (hsp : spOf W R vs H Q E) (h : ∀ as d, R as d → Gives W t (sto0 N.length as) d) : t { nx := fun _ H' => Q .non H', rt := Q } (L2.start N vs) H := by
  obtain ⟨B, as, d, P, ha, hR, q⟩ := hsp
  rcases h as d hR with h | ⟨δ', h, rfl⟩
  · exact h B H _ _ B H (Ext.refl P) (slots_start ha) fun v B' H' e _ hd => q v B' H' e hd
  · exact h B H _ _ B H (Ext.refl P) (slots_start ha) fun σ B' H' e _ _ => q _ B' H' e (show Den W B' .non .non from Den.non_)
theorem sp_len {R : FP} {n : Nat} (h : ∀ as d, R as d → as.length = n) {vs : List V} {H : Hp} {Q : VK} {E : XK} (hsp : spOf W R vs H Q E) : vs.length = n := by
  obtain ⟨B, as, d, P, ha, hR, q⟩ := hsp
  rw [ha.len]
  exact h as d hR
/-! ### __init__ -/
abbrev FI := List AD → List (Str × D) → Prop
def spI (W : Wd) (c : Nat) (R : FI) : Sp := fun vs H2 Q _ => ∃ (B H : Hp) (x dx : Addr) (rest : List V) (as : List AD) (fs : List (Str × D)), vs = .ref x :: rest ∧ H x = none ∧ H dx = none ∧ dx ≠ x ∧ H2 = upd (upd H dx (.own x)) x (.ins (W.cl c) dx []) ∧ Pr W B H ∧ ArgsOk W B H as rest ∧ R as fs ∧
  ∀ (B' H' : Hp) (dy : Addr) (gs : List (Str × V)), Ext W B H B' H' → H' x = some (.ins (W.cl c) dy gs) → B' x = none → DenF W B' fs gs → Q .non H'
theorem ex_make {c : Nat} {R : FI} {E : XK} {t : TA} {as : List AD} {fs : List (Str × D)} (hR : R as fs) (ht : ExA W t δ as) : Ex W (tMake (W.cl c) (spI W c R) [] E t) δ (.ins c fs) := fun H0 B H σ s Q q =>
  ht H0 B H σ s _ fun xs B1 H1 e1 ax x dx hx hdx hne => by
    refine ⟨B1, H1, x, dx, xs, as, fs, by rw [List.append_nil], hx, hdx, hne, rfl, e1.ok, ax, hR, fun B' H' dy gs e hi hb hf => ⟨rfl, ?_⟩⟩
    have n0 : Fre H x := (Fre.of hx).back e1.hh
    exact q _ _ _ ((e1.trans e).freeze n0 hi hb ins_ne) (show Den W _ (.ins c fs) _ from Den.ins_iff.mpr ⟨x, dy, gs, rfl, upd_same, DenF.up (same_new hb) _ _ hf⟩)
theorem init_of {t : TS} {c : Nat} {R : FI} {N : List Str} {vs : List V} {H2 : Hp} {Q : VK} {E : XK} (hsp : spI W c R vs H2 Q E)
    (h : ∀ x as fs, R as fs → ∃ δ', SX W t (.obj x c [] :: sto0 (N.length - 1) as) (.nx δ') ∧ δ'[0]? = some (.obj x c fs)) (hN : 1 ≤ N.length) : t { nx := fun _ H' => Q .non H', rt := Q } (L2.start N vs) H2 := by
  obtain ⟨B, H, x, dx, rest, as, fs, rfl, hx, hdx, hne, rfl, P, ha, hR, q⟩ := hsp
  obtain ⟨δ', h1, h2⟩ := h x as fs hR
  have e1 := Ext.newM (o := .own x) P hdx own_ne
  have hx1 : upd H dx (.own x) x = none := by rw [upd_ne hne.symm]; exact hx
  have e2 := Ext.newM (o := .ins (W.cl c) dx []) e1.ok hx1 ins_ne
  have e := e1.trans e2
  have hB : B x = none := P.none_ hx
  obtain ⟨n0, N', rfl⟩ : ∃ n0 N', N = n0 :: N' := by
    cases N with
    | nil => simp at hN
    | cons n N' => exact ⟨n, N', rfl⟩
  have est : L2.start (n0 :: N') (V.ref x :: rest) = some (.ref x) :: L2.start N' rest := by
    unfold L2.start
    rw [List.map_cons, List.length_cons, List.length_cons, Nat.add_sub_add_right]
    rfl
  have s0 : Slots W H B H (L2.start N' rest) (sto0 N'.length as) := slots_start ha
  have s1 := s0.ext e
  have hown : ∀ (j : Nat) (y : Sl), (sto0 N'.length as)[j]? = some y → y.isOwn = false := fun j y e => by
    unfold sto0 at e
    rcases List.mem_append.mp (List.mem_of_getElem? e) with m | m
    · obtain ⟨a, _, rfl⟩ := List.mem_map.mp m
      exact ad_sl_own a
    · rw [(List.mem_replicate.mp m).2]
      rfl
  have s2 : Slots W H B (upd (upd H dx (.own x)) x (.ins (W.cl c) dx [])) (L2.start (n0 :: N') (V.ref x :: rest)) (.obj x c [] :: sto0 N'.length as) := by
    rw [est]
    refine ⟨fun i y hy => ?_, fun i j y z p h1 h2 o1 o2 _ _ => ?_⟩
    · cases i with
      | zero =>
        rw [List.getElem?_cons_zero] at hy
        cases hy
        exact ⟨_, rfl, dx, [], rfl, upd_same, hB, Fre.of hx, DenF.nil_⟩
      | succ i =>
        rw [List.getElem?_cons_succ] at hy ⊢
        exact s1.at_ i y hy
    · cases i with
      | zero =>
        cases j with
        | zero => rfl
        | succ j =>
          rw [List.getElem?_cons_succ] at h2
          rw [hown j z h2] at o2
          cases o2
      | succ i =>
        rw [List.getElem?_cons_succ] at h1
        rw [hown i y h1] at o1
        cases o1
  rw [show (n0 :: N').length - 1 = N'.length from rfl] at h1
  refine h1 B H _ _ B _ e s2 fun σ B' H' e' _ s' => ?_
  obtain ⟨ov, k1, dy, gs, k2, k3, k4, k5, k6⟩ := s'.at_ 0 _ h2
  exact q B' H' dy gs e' k3 k4 k6
end
end K9
/-! text KG -/
set_option Elab.async false
set_option linter.all false
set_option maxRecDepth 100000
set_option maxHeartbeats 2000000
set_option autoImplicit false
namespace K9
open PySem PySem.Spec PyProof.Rows L2 LamX
section
variable {W : Wd} {δ δ' : Sto} {H0 B H : Hp}
/-! ### values that are lists now -/
def EM (W : Wd) (t : TE) (δ : Sto) (ds : List D) : Prop := ∀ (H0 B H : Hp) (σ : L2.St), At W H0 B H σ δ → ∀ Q : VK, (∀ p vs B' H', Ext W B H B' H' → H' p = some (.lst vs) → DenL W B' ds vs → Q (.ref p) H') → t σ H Q
theorem ExF.m {t : TE} {ds : List D} (h : ExF W t δ ds) : EM W t δ ds := fun H0 B H σ a Q q => h H0 B H σ a Q fun p vs B' H' e n hp hb d => q p vs B' H' e hp d
theorem em_mu {i : Nat} {ds : List D} (h : δ[i]? = some (.mu ds)) : EM W (tVar i) δ ds := fun H0 B H σ a Q q => by
  obtain ⟨o, h1, p, vs, h2, h3, h4, h5, h6⟩ := a.sl.at_ i _ h
  exact ⟨.ref p, by rw [h1, h2], q _ vs B H (Ext.refl a.pr) h3 h6⟩
/-- list + list -/
theorem exf_cat {ta tb : TE} {xs ys : List D} (ha : EM W ta δ xs) (hb : EM W tb δ ys) (hl : xs.length + ys.length ≤ sizeLine) : ExF W (tOp rCat ta tb) δ (xs ++ ys) := fun H0 B H σ s Q q =>
  ha H0 B H σ s _ fun p vs B1 H1 e1 hp d1 => hb H0 B1 H1 σ (s.ext e1) _ fun r us B2 H2 e2 hr d2 => by
    refine ⟨p, r, vs, us, rfl, rfl, e2.hh _ _ hp lst_ne, hr, by rw [d1.len, d2.len]; exact hl, fun l hll => ?_⟩
    have e3 := Ext.newM (o := .lst (vs ++ us)) e2.ok hll lst_ne
    exact q l _ B2 _ ((e1.trans e2).trans e3) ((Fre.of hll).back (e1.trans e2).hh) upd_same (e2.ok.none_ hll) (DenL.app (DenL.up e2.bb _ _ d1) d2)
theorem DenL.rep_ {ds : List D} {vs : List V} (h : DenL W B ds vs) : ∀ n, DenL W B (List.replicate n ds).flatten (List.replicate n vs).flatten
  | 0 => DenL.nil_
  | n + 1 => DenL.app h (DenL.rep_ h n)
/-- list * int -/
theorem exf_rep {ta tb : TE} {xs : List D} {k : Int} (ha : EM W ta δ xs) (hb : Ex W tb δ (.int k)) (h1 : -(2 ^ 63) ≤ k) (h2 : k < 2 ^ 63) (hl : xs.length * k.toNat ≤ sizeLine) : ExF W (tOp rRep ta tb) δ (List.replicate k.toNat xs).flatten := fun H0 B H σ s Q q =>
  ha H0 B H σ s _ fun p vs B1 H1 e1 hp d1 => hb H0 B1 H1 σ (s.ext e1) _ fun y B2 H2 e2 hy => by
    refine ⟨p, k, vs, rfl, hy.int, e2.hh _ _ hp lst_ne, h1, h2, by rw [d1.len]; exact hl, fun l hll => ?_⟩
    have e3 := Ext.newM (o := .lst (List.replicate k.toNat vs).flatten) e2.ok hll lst_ne
    exact q l _ B2 _ ((e1.trans e2).trans e3) ((Fre.of hll).back (e1.trans e2).hh) upd_same (e2.ok.none_ hll) (DenL.rep_ (DenL.up e2.bb _ _ d1) _)
/-- tuple + tuple -/
theorem og_catA {xs ys : List D} (hl : xs.length + ys.length ≤ sizeLine) : OG W (rCatA W.K) (.v (.tup xs)) (.v (.tup ys)) (.tup (xs ++ ys)) := fun B H x y P hx hy Q q => by
  obtain ⟨a, vs, rfl, h2, h3⟩ := Den.tup_iff.mp hx.den
  obtain ⟨b, us, rfl, k2, k3⟩ := Den.tup_iff.mp hy.den
  refine ⟨a, b, vs, us, rfl, rfl, SqT.up P.sub h2, SqT.up P.sub k2, by rw [h3.len, k3.len]; exact hl, fun e => ?_, fun _ e => ?_, fun n1 n2 p hp => ?_⟩
  · have e2 : xs = [] := List.eq_nil_of_length_eq_zero (by rw [← h3.len, e]; rfl)
    subst e2
    exact q _ B H (Ext.refl P) hy
  · have e2 : ys = [] := List.eq_nil_of_length_eq_zero (by rw [← k3.len, e]; rfl)
    subst e2
    rw [List.append_nil] at q
    exact q _ B H (Ext.refl P) hx
  · have e2 := Ext.new (o := .tup (vs ++ us)) P hp tup_ne
    exact q _ _ _ e2 (Den.tup_iff.mpr ⟨p, _, rfl, .inl (.inl upd_same), DenL.up e2.bb _ _ (DenL.app h3 k3)⟩)
/-- tuple * int, 2 at least -/
theorem og_repT {xs : List D} {k : Int} (h0 : xs ≠ []) (h1 : 2 ≤ k) (h2 : k ≤ 1000) (hl : xs.length ≤ 1000) : OG W (rRepT W.K) (.v (.tup xs)) (.v (.int k)) (.tup (List.replicate k.toNat xs).flatten) := fun B H x y P hx hy Q q => by
  obtain ⟨a, vs, rfl, g2, g3⟩ := Den.tup_iff.mp hx.den
  refine ⟨a, k, vs, rfl, hy.int, SqT.up P.sub g2, fun e => h0 (List.eq_nil_of_length_eq_zero (by rw [← g3.len, e]; rfl)), h1, h2, by rw [g3.len]; exact hl, fun p hp => ?_⟩
  have e2 := Ext.new (o := .tup (List.replicate k.toNat vs).flatten) P hp tup_ne
  exact q _ _ _ e2 (Den.tup_iff.mpr ⟨p, _, rfl, .inl (.inl upd_same), DenL.up e2.bb _ _ (DenL.rep_ g3 _)⟩)
/-! ### len, list(..), tuple(..) -/
theorem rg_len {ds : List D} : RG W (fun xs H Q => ∃ p ys, xs = [.ref p] ∧ (SqL W.K H p ys ∨ SqT W.K H p ys) ∧ Q (.int ys.length) H) [.s ds] (.int ds.length) := fun B H xs P hx Q q => by
  obtain ⟨x, rfl, p, vs, rfl, h2, h3⟩ := hx.one
  exact ⟨p, vs, rfl, h2, by rw [h3.len]; exact q _ B H (Ext.refl P) (show Den W B (.int _) _ from Den.int_)⟩
theorem rgf_list {ds : List D} : RGF W (fun xs H Q => ∃ p ys, xs = [.ref p] ∧ (SqL W.K H p ys ∨ SqT W.K H p ys) ∧ ∀ l, H l = none → Q (.ref l) (upd H l (.lst ys))) [.s ds] ds := fun B H xs P hx Q q => by
  obtain ⟨x, rfl, p, vs, rfl, h2, h3⟩ := hx.one
  refine ⟨p, vs, rfl, h2, fun l hl => ?_⟩
  exact q l vs B _ (Ext.newM P hl lst_ne) (Fre.of hl) upd_same (P.none_ hl) h3
theorem rg_tupL {ds : List D} : RG W (fun xs H Q => ∃ p ys, xs = [.ref p] ∧ ((SqL W.K H p ys ∧ ∀ l, H l = none → Q (.ref l) (upd H l (.tup ys))) ∨ (SqT W.K H p ys ∧ Q (.ref p) H))) [.l ds] (.tup ds) := fun B H xs P hx Q q => by
  obtain ⟨x, rfl, p, vs, rfl, h2, h3⟩ := hx.one
  refine ⟨p, vs, rfl, .inl ⟨h2, fun l hl => ?_⟩⟩
  have e := Ext.new (o := .tup vs) P hl tup_ne
  exact q _ _ _ e (Den.tup_iff.mpr ⟨l, vs, rfl, .inl (.inl upd_same), DenL.up e.bb _ _ h3⟩)
theorem rg_tupT {ds : List D} : RG W (fun xs H Q => ∃ p ys, xs = [.ref p] ∧ ((SqL W.K H p ys ∧ ∀ l, H l = none → Q (.ref l) (upd H l (.tup ys))) ∨ (SqT W.K H p ys ∧ Q (.ref p) H))) [.v (.tup ds)] (.tup ds) := fun B H xs P hx Q q => by
  obtain ⟨x, rfl, h1⟩ := hx.one
  obtain ⟨p, vs, rfl, h2, h3⟩ := Den.tup_iff.mp h1.den
  exact ⟨p, vs, rfl, .inr ⟨SqT.up P.sub h2, q _ B H (Ext.refl P) h1⟩⟩
theorem rg_tupL' {ds : List D} : RG W (fun xs H Q => ∃ p ys, xs = [.ref p] ∧ ((SqL W.K H p ys ∧ ∀ l, H l = none → Q (.ref l) (upd H l (.tup ys))) ∨ (SqT W.K H p ys ∧ Q (.ref p) H))) [.l ds] (.tk ds) := fun B H xs P hx Q q => by
  obtain ⟨x, rfl, p, vs, rfl, h2, h3⟩ := hx.one
  refine ⟨p, vs, rfl, .inl ⟨h2, fun l hl => ?_⟩⟩
  have e := Ext.new (o := .tup vs) P hl tup_ne
  exact q _ _ _ e (Den.tk_iff.mpr ⟨l, vs, rfl, upd_same, DenL.up e.bb _ _ h3⟩)
/-- a range as an argument -/
abbrev TRg := L2.St → Hp → (Int → Int → Hp → Prop) → Prop
def ER (W : Wd) (t : TRg) (δ : Sto) (a b : Int) : Prop := ∀ (H0 B H : Hp) (σ : L2.St), At W H0 B H σ δ → ∀ Q : Int → Int → Hp → Prop, (∀ B' H', Ext W B H B' H' → Q a b H') → t σ H Q
theorem er_1 {ta : TE} {n : Int} (h : Ex W ta δ (.int n)) : ER W (tRg1 ta) δ 0 n := fun H0 B H σ s Q q => h H0 B H σ s _ fun v B1 H1 e1 hv => ⟨n, hv.int, q B1 H1 e1⟩
theorem er_2 {ta tb : TE} {m n : Int} (h : Ex W ta δ (.int m)) (h2 : Ex W tb δ (.int n)) : ER W (tRg2 ta tb) δ m n := fun H0 B H σ s Q q => h H0 B H σ s _ fun v B1 H1 e1 hv => h2 H0 B1 H1 σ (s.ext e1) _ fun u B2 H2 e2 hu => ⟨m, n, hv.int, hu.int, q B2 H2 (e1.trans e2)⟩
theorem den_rng {a b : Int} : DenL W B (rng a (b - a).toNat) (rgV a b) := by
  have h := DenL.ints_ (W := W) (B := B) ((List.range (b - a).toNat).map fun k => (a + (k : Nat) : Int))
  rw [List.map_map, List.map_map] at h
  exact h
theorem exf_listRg {t : TRg} {a b : Int} (h : ER W t δ a b) (hr : RgOk a b) : ExF W (tLstRg t) δ (rng a (b - a).toNat) := fun H0 B H σ s Q q => h H0 B H σ s _ fun B1 H1 e1 => ⟨hr, fun l hl =>
  q l _ B1 _ (e1.trans (Ext.newM e1.ok hl lst_ne)) ((Fre.of hl).back e1.hh) upd_same (e1.ok.none_ hl) den_rng⟩
theorem ex_tupRg {t : TRg} {a b : Int} (h : ER W t δ a b) (hr : RgOk a b) : Ex W (tTupRg t) δ (.tup (rng a (b - a).toNat)) := fun H0 B H σ s Q q => h H0 B H σ s _ fun B1 H1 e1 => ⟨hr, fun l hl => by
  have e := Ext.new (o := .tup (rgV a b)) e1.ok hl tup_ne
  exact q _ _ _ (e1.trans e) (Den.tup_iff.mpr ⟨l, _, rfl, .inl (.inl upd_same), den_rng⟩)⟩
theorem ex_tupRg' {t : TRg} {a b : Int} (h : ER W t δ a b) (hr : RgOk a b) : Ex W (tTupRg t) δ (.tk (rng a (b - a).toNat)) := fun H0 B H σ s Q q => h H0 B H σ s _ fun B1 H1 e1 => ⟨hr, fun l hl => by
  have e := Ext.new (o := .tup (rgV a b)) e1.ok hl tup_ne
  exact q _ _ _ (e1.trans e) (Den.tk_iff.mpr ⟨l, _, rfl, upd_same, den_rng⟩)⟩
/-! ### slices -/
def cutL {α : Type} (xs : List α) (lo hi : Option Int) : List α := (xs.drop (HT.sIx xs.length 0 lo)).take (HT.sIx xs.length xs.length hi - HT.sIx xs.length 0 lo)
theorem DenL.cut {ds : List D} {vs : List V} (h : DenL W B ds vs) (lo hi : Option Int) : DenL W B (cutL ds lo hi) (cutV vs lo hi) := by
  unfold cutL cutV
  rw [h.len]
  exact DenL.take_ _ (DenL.drop_ _ h)
def EO (W : Wd) (t : TO) (δ : Sto) (o : Option Int) : Prop := ∀ (H0 B H : Hp) (σ : L2.St), At W H0 B H σ δ → ∀ Q : Option Int → Hp → Prop, (∀ B' H', Ext W B H B' H' → Q o H') → t σ H Q
theorem eo_none : EO W tNoPart δ none := fun H0 B H σ s Q q => q B H (Ext.refl s.pr)
theorem eo_some {t : TE} {i : Int} (h : Ex W t δ (.int i)) : EO W (tPart t) δ (some i) := fun H0 B H σ s Q q => h H0 B H σ s _ fun v B1 H1 e1 hv => ⟨i, hv.int, q B1 H1 e1⟩
theorem exf_sl {te : TE} {tl th : TO} {ds : List D} {lo hi : Option Int} (h : EA W te δ (.l ds)) (hl : EO W tl δ lo) (hh : EO W th δ hi) : ExF W (tSl (rSlL W.K) te tl th) δ (cutL ds lo hi) := fun H0 B H σ s Q q =>
  h H0 B H σ s _ fun x B1 H1 e1 hx => hl H0 B1 H1 σ (s.ext e1) _ fun B2 H2 e2 => hh H0 B2 H2 σ (s.ext (e1.trans e2)) _ fun B3 H3 e3 => by
    have e := (e1.trans e2).trans e3
    obtain ⟨p, vs, rfl, k1, k2⟩ := hx.ext (e2.trans e3)
    refine ⟨p, vs, rfl, k1, fun l hl => ?_⟩
    exact q l _ B3 _ (e.trans (Ext.newM e3.ok hl lst_ne)) ((Fre.of hl).back e.hh) upd_same (e3.ok.none_ hl) (k2.cut lo hi)
theorem ex_slT {te : TE} {tl th : TO} {ds : List D} {lo hi : Option Int} (h : Ex W te δ (.tup ds)) (hl : EO W tl δ lo) (hh : EO W th δ hi) : Ex W (tSl (rSlA W.K) te tl th) δ (.tup (cutL ds lo hi)) := fun H0 B H σ s Q q =>
  h H0 B H σ s _ fun x B1 H1 e1 hx => hl H0 B1 H1 σ (s.ext e1) _ fun B2 H2 e2 => hh H0 B2 H2 σ (s.ext (e1.trans e2)) _ fun B3 H3 e3 => by
    have e := (e1.trans e2).trans e3
    have hx3 := hx.ext (e2.trans e3)
    obtain ⟨p, vs, rfl, k1, k2⟩ := ArgOk.tup e3.ok hx3
    refine ⟨p, vs, rfl, k1, fun w => ?_, fun _ l hl => ?_⟩
    · have ec : cutL ds lo hi = ds := by
        unfold cutL
        rw [← k2.len, w.1, w.2, Nat.sub_zero, List.drop_zero, k2.len, List.take_length]
      rw [ec] at q
      exact q _ B3 H3 e hx3
    · have e4 := Ext.new (o := .tup (cutV vs lo hi)) e3.ok hl tup_ne
      exact q _ _ _ (e.trans e4) (Den.tup_iff.mpr ⟨l, _, rfl, .inl (.inl upd_same), DenL.up e4.bb _ _ (k2.cut lo hi)⟩)
/-! ### in, all, sum, min, max, abs, int -/
def D.flat : D → Bool
  | .non => true
  | .bl _ => true
  | .int _ => true
  | .str _ => true
  | _ => false
def D.val : D → V
  | .bl b => .bl b
  | .int i => .int i
  | .str s => .str s
  | _ => .non
theorem Den.flat {d : D} {v : V} (h : Den W B d v) (f : d.flat = true) : v = d.val ∧ flatV v = true := by
  cases d with
  | non => rw [Den.non_eq h]; exact ⟨rfl, rfl⟩
  | bl b => rw [Den.bl_eq h]; exact ⟨rfl, rfl⟩
  | int b => rw [Den.int_eq h]; exact ⟨rfl, rfl⟩
  | str b => rw [Den.str_eq h]; exact ⟨rfl, rfl⟩
  | _ => cases f
theorem DenL.flats : ∀ {ds : List D} {vs : List V}, DenL W B ds vs → ds.all D.flat = true → vs = ds.map D.val ∧ vs.all flatV = true
  | [], vs, h, _ => by rw [DenL.nil_eq h]; exact ⟨rfl, rfl⟩
  | d :: ds, vs, h, f => by
    obtain ⟨v, r, rfl, hv, t⟩ := DenL.cons_iff.mp h
    rw [List.all_cons, Bool.and_eq_true] at f
    obtain ⟨e1, e2⟩ := Den.flat hv f.1
    obtain ⟨e3, e4⟩ := DenL.flats t f.2
    rw [List.all_cons, e2, e4]
    rw [e3, e1]
    exact ⟨rfl, rfl⟩
theorem og_in {neg : Bool} {d : D} {ds : List D} (f : d.flat = true) (fs : ds.all D.flat = true) : OG W (rIn W.K neg) (.v d) (.s ds) (.bl (if neg then !inV d.val (ds.map D.val) else inV d.val (ds.map D.val))) := fun B H x y P hx hy Q q => by
  obtain ⟨p, vs, rfl, h2, h3⟩ := hy
  obtain ⟨e1, e2⟩ := Den.flat hx.den f
  obtain ⟨e3, e4⟩ := DenL.flats h3 fs
  refine ⟨p, vs, rfl, h2, e2, e4, ?_⟩
  rw [e1, e3]
  exact q _ B H (Ext.refl P) (show Den W B (.bl _) _ from Den.bl_)
theorem rg_all {bs : List Bool} : RG W (rAll W.K) [.l (bs.map D.bl)] (.bl (bs.all id)) := fun B H xs P hx Q q => by
  obtain ⟨x, rfl, p, vs, rfl, h2, h3⟩ := hx.one
  rw [DenL.bls h3] at h2
  exact ⟨p, bs, rfl, h2, q _ B H (Ext.refl P) (show Den W B (.bl _) _ from Den.bl_)⟩
theorem rg_sum {ns : List Int} : RG W (rSum W.K) [.l (ns.map D.int)] (.int ns.sum) := fun B H xs P hx Q q => by
  obtain ⟨x, rfl, p, vs, rfl, h2, h3⟩ := hx.one
  rw [DenL.ints h3] at h2
  exact ⟨p, ns, rfl, h2, q _ B H (Ext.refl P) (show Den W B (.int _) _ from Den.int_)⟩
theorem rg_max {i j : Int} : RG W (fun xs H Q => ∃ i j, xs = [.int i, .int j] ∧ Q (.int (if j > i then j else i)) H) [.v (.int i), .v (.int j)] (.int (if j > i then j else i)) := fun B H xs P hx Q q => by
  obtain ⟨x, y, rfl, h1, h2⟩ := hx.two
  exact ⟨i, j, by rw [h1.int, h2.int], q _ B H (Ext.refl P) (show Den W B (.int _) _ from Den.int_)⟩
theorem rg_min {i j : Int} : RG W (fun xs H Q => ∃ i j, xs = [.int i, .int j] ∧ Q (.int (if j < i then j else i)) H) [.v (.int i), .v (.int j)] (.int (if j < i then j else i)) := fun B H xs P hx Q q => by
  obtain ⟨x, y, rfl, h1, h2⟩ := hx.two
  exact ⟨i, j, by rw [h1.int, h2.int], q _ B H (Ext.refl P) (show Den W B (.int _) _ from Den.int_)⟩
theorem rg_abs {i : Int} : RG W (fun xs H Q => ∃ i, xs = [.int i] ∧ Q (.int (if i < 0 then -i else i)) H) [.v (.int i)] (.int (if i < 0 then -i else i)) := fun B H xs P hx Q q => by
  obtain ⟨x, rfl, h1⟩ := hx.one
  exact ⟨i, by rw [h1.int], q _ B H (Ext.refl P) (show Den W B (.int _) _ from Den.int_)⟩
theorem rg_int {i : Int} : RG W (fun xs H Q => (∃ i, xs = [.int i] ∧ Q (.int i) H) ∨ ∃ k, xs = [.bl k] ∧ Q (.int (if k then 1 else 0)) H) [.v (.int i)] (.int i) := fun B H xs P hx Q q => by
  obtain ⟨x, rfl, h1⟩ := hx.one
  exact .inl ⟨i, by rw [h1.int], q _ B H (Ext.refl P) (show Den W B (.int _) _ from Den.int_)⟩
theorem rg_intB {b : Bool} : RG W (fun xs H Q => (∃ i, xs = [.int i] ∧ Q (.int i) H) ∨ ∃ k, xs = [.bl k] ∧ Q (.int (if k then 1 else 0)) H) [.v (.bl b)] (.int (if b then 1 else 0)) := fun B H xs P hx Q q => by
  obtain ⟨x, rfl, h1⟩ := hx.one
  exact .inr ⟨b, by rw [h1.bl], q _ B H (Ext.refl P) (show Den W B (.int _) _ from Den.int_)⟩
/-! ### data compared -/
mutual
def D.py : D → PyData
  | .non => .none
  | .bl b => .bool b
  | .int i => .int i
  | .str s => .str s
  | .tup ds => .tuple (D.pys ds)
  | .lst ds => .list (D.pys ds)
  | .ins _ _ => .none
  | .tk ds => .tuple (D.pys ds)
  | .tz ds => .tuple (D.pys ds)
def D.pys : List D → List PyData
  | [] => []
  | d :: ds => d.py :: D.pys ds
end
mutual
def D.plain : D → Bool
  | .ins _ _ => false
  | .tup ds => D.plains ds
  | .lst ds => D.plains ds
  | .tk ds => D.plains ds
  | .tz ds => D.plains ds
  | _ => true
def D.plains : List D → Bool
  | [] => true
  | d :: ds => d.plain && D.plains ds
end
mutual
theorem Den.dp (s : Same B H) : ∀ (d : D) (v : V), Den W B d v → d.plain = true → Dp W.K H v d.py
  | .non, v, h, _ => by rw [Den.non_eq h]; unfold D.py; exact .non
  | .bl b, v, h, _ => by rw [Den.bl_eq h]; unfold D.py; exact .bl b
  | .int i, v, h, _ => by rw [Den.int_eq h]; unfold D.py; exact .int i
  | .str i, v, h, _ => by rw [Den.str_eq h]; unfold D.py; exact .str i
  | .tup ds, v, h, p => by
    obtain ⟨a, vs, rfl, h2, h3⟩ := Den.tup_iff.mp h
    unfold D.plain at p
    unfold D.py
    exact .tup (SqT.up s h2) (DenL.dps s ds vs h3 p)
  | .lst ds, v, h, p => by
    obtain ⟨a, vs, rfl, h2, h3⟩ := Den.lst_iff.mp h
    unfold D.plain at p
    unfold D.py
    exact .lst (s.seq h2) (DenL.dps s ds vs h3 p)
  | .ins _ _, _, _, p => by unfold D.plain at p; cases p
  | .tk ds, v, h, p => by
    obtain ⟨a, vs, rfl, h2, h3⟩ := Den.tup_iff.mp (Den.of_tk h)
    unfold D.plain at p
    unfold D.py
    exact .tup (SqT.up s h2) (DenL.dps s ds vs h3 p)
  | .tz ds, v, h, p => by
    obtain ⟨a, vs, rfl, h2, h3⟩ := Den.tup_iff.mp (Den.of_tz h)
    unfold D.plain at p
    unfold D.py
    exact .tup (SqT.up s h2) (DenL.dps s ds vs h3 p)
theorem DenL.dps (s : Same B H) : ∀ (ds : List D) (vs : List V), DenL W B ds vs → D.plains ds = true → DpAll W.K H vs (D.pys ds)
  | [], vs, h, _ => by rw [DenL.nil_eq h]; unfold D.pys; exact .nil
  | d :: ds, vs, h, p => by
    obtain ⟨v, r, rfl, hv, t⟩ := DenL.cons_iff.mp h
    unfold D.plains at p
    rw [Bool.and_eq_true] at p
    unfold D.pys
    exact .cons (Den.dp s d v hv p.1) (DenL.dps s ds r t p.2)
end
theorem og_eqD {a b : D} (pa : a.plain = true) (pb : b.plain = true) (sa : SeqAt.shaped a.py = true) (sb : SeqAt.shaped b.py = true) : OG W (rEqD W.K) (.v a) (.v b) (.bl (PyData.eqv a.py b.py)) := fun B H x y P hx hy Q q =>
  ⟨a.py, b.py, Den.dp P.sub a x hx.den pa, Den.dp P.sub b y hy.den pb, sa, sb, q _ B H (Ext.refl P) (show Den W B (.bl _) _ from Den.bl_)⟩
theorem og_neD {a b : D} (pa : a.plain = true) (pb : b.plain = true) (sa : SeqAt.shaped a.py = true) (sb : SeqAt.shaped b.py = true) : OG W (rNeD W.K) (.v a) (.v b) (.bl (!PyData.eqv a.py b.py)) := fun B H x y P hx hy Q q =>
  ⟨a.py, b.py, Den.dp P.sub a x hx.den pa, Den.dp P.sub b y hy.den pb, sa, sb, q _ B H (Ext.refl P) (show Den W B (.bl _) _ from Den.bl_)⟩
/-- .. a list that is read against a list that is read -/
theorem og_eqDL {as bs : List D} (pa : D.plains as = true) (pb : D.plains bs = true) (sa : SeqAt.shaped (.list (D.pys as)) = true) (sb : SeqAt.shaped (.list (D.pys bs)) = true) : OG W (rEqD W.K) (.l as) (.l bs) (.bl (PyData.eqv (.list (D.pys as)) (.list (D.pys bs)))) := fun B H x y P hx hy Q q => by
  obtain ⟨p, vs, rfl, h2, h3⟩ := hx
  obtain ⟨r, us, rfl, k2, k3⟩ := hy
  exact ⟨.list (D.pys as), .list (D.pys bs), .lst h2 (DenL.dps P.sub _ _ h3 pa), .lst k2 (DenL.dps P.sub _ _ k3 pb), sa, sb, q _ B H (Ext.refl P) (show Den W B (.bl _) _ from Den.bl_)⟩
theorem og_neDL {as bs : List D} (pa : D.plains as = true) (pb : D.plains bs = true) (sa : SeqAt.shaped (.list (D.pys as)) = true) (sb : SeqAt.shaped (.list (D.pys bs)) = true) : OG W (rNeD W.K) (.l as) (.l bs) (.bl (!PyData.eqv (.list (D.pys as)) (.list (D.pys bs)))) := fun B H x y P hx hy Q q => by
  obtain ⟨p, vs, rfl, h2, h3⟩ := hx
  obtain ⟨r, us, rfl, k2, k3⟩ := hy
  exact ⟨.list (D.pys as), .list (D.pys bs), .lst h2 (DenL.dps P.sub _ _ h3 pa), .lst k2 (DenL.dps P.sub _ _ k3 pb), sa, sb, q _ B H (Ext.refl P) (show Den W B (.bl _) _ from Den.bl_)⟩
/-! ### less is known -/
def Le (δ δ' : Sto) : Prop := ∀ (i : Nat) (s : Sl), δ'[i]? = some s → δ[i]? = some s ∨ (s = .no ∧ i < δ.length)
theorem Slots.weak {σ : L2.St} (s : Slots W H0 B H σ δ) (l : Le δ δ') : Slots W H0 B H σ δ' := by
  refine ⟨fun i x h => ?_, fun i j x y p h1 h2 o1 o2 e1 e2 => ?_⟩
  · rcases l i x h with k | ⟨rfl, k⟩
    · exact s.at_ i x k
    · have hl := s.lt (List.getElem?_eq_getElem k)
      exact ⟨_, List.getElem?_eq_getElem hl, trivial⟩
  · rcases l i x h1 with k1 | ⟨rfl, _⟩
    · rcases l j y h2 with k2 | ⟨rfl, _⟩
      · exact s.inj i j x y p k1 k2 o1 o2 e1 e2
      · cases o2
    · cases o1
theorem Le.nil : Le [] [] := fun i s h => .inl h
theorem Le.same {s : Sl} {δ δ' : Sto} (h : Le δ δ') : Le (s :: δ) (s :: δ') := fun i x e => by
  cases i with
  | zero => exact .inl e
  | succ i =>
    rw [List.getElem?_cons_succ] at e ⊢
    rcases h i x e with k | ⟨k1, k2⟩
    · exact .inl k
    · exact .inr ⟨k1, by rw [List.length_cons]; omega⟩
theorem Le.drop {s : Sl} {δ δ' : Sto} (h : Le δ δ') : Le (s :: δ) (.no :: δ') := fun i x e => by
  cases i with
  | zero =>
    rw [List.getElem?_cons_zero] at e
    cases e
    exact .inr ⟨rfl, by rw [List.length_cons]; omega⟩
  | succ i =>
    rw [List.getElem?_cons_succ] at e ⊢
    rcases h i x e with k | ⟨k1, k2⟩
    · exact .inl k
    · exact .inr ⟨k1, by rw [List.length_cons]; omega⟩
/-- behind a statement less is known -/
theorem sx_weak {t : TS} {δ1 : Sto} (h : SX W t δ (.nx δ1)) (l : Le δ1 δ') : SX W t δ (.nx δ') := fun B0 H0 D σ B H e s f => h B0 H0 D σ B H e s fun σ1 B1 H1 e1 s1 sl => f σ1 B1 H1 e1 s1 (sl.weak l)
/-- ahead of it -/
theorem sx_weak0 {t : TS} {δ1 : Sto} {o : Out} (h : SX W t δ1 o) (l : Le δ δ1) : SX W t δ o := fun B0 H0 D σ B H e s f => h B0 H0 D σ B H e (s.weak l) f
/-- a for with a state -/
theorem sx_forS {wi : TI} {g : TG} {tb : TS} {xs : List D} {A : Type} {S : A → Sto} (F : A → D → A) (a : A) (hw : EW W wi (S a) xs) (h : ∀ a x, x ∈ xs → ∃ δ1 vs, GX W g x vs (S a) δ1 ∧ SX W tb δ1 (.nx (S (F a x)))) : SX W (tFor wi g tb) (S a) (.nx (S (xs.foldl F a))) := by
  refine sx_for hw ?_
  have go : ∀ (ys : List D) (a : A), (∀ y ∈ ys, y ∈ xs) → ForR (Turn1 W g tb) ys (S a) (.nx (S (ys.foldl F a))) := by
    intro ys
    induction ys with
    | nil => intro a _; exact .nil
    | cons y ys ih =>
      intro a hy
      exact .nx (h a y (hy y List.mem_cons_self)) (ih (F a y) fun z hz => hy z (List.mem_cons_of_mem _ hz))
  exact go xs a fun _ h => h
/-- .. with a way out -/
theorem sx_forX {wi : TI} {g : TG} {tb : TS} {xs : List D} {A : Type} {S : A → Sto} (F : A → D → A) (a : A) (pre post : List D) (x : D) (d : D) (hx : xs = pre ++ x :: post) (hw : EW W wi (S a) xs) (h : ∀ a x, x ∈ pre → ∃ δ1 vs, GX W g x vs (S a) δ1 ∧ SX W tb δ1 (.nx (S (F a x))))
    (hl : ∃ δ1 vs, GX W g x vs (S (pre.foldl F a)) δ1 ∧ SX W tb δ1 (.rt d)) : SX W (tFor wi g tb) (S a) (.rt d) := by
  refine sx_for hw ?_
  rw [hx]
  have go : ∀ (ys : List D) (a0 : A), (∀ y ∈ ys, y ∈ pre) → ys.foldl F a0 = pre.foldl F a → ForR (Turn1 W g tb) (ys ++ x :: post) (S a0) (.rt d) := by
    intro ys
    induction ys with
    | nil =>
      intro a0 _ e
      have e : a0 = pre.foldl F a := e
      rw [e]
      exact .rt hl
    | cons y ys ih =>
      intro a0 hy e
      exact .nx (h a0 y (hy y List.mem_cons_self)) (ih (F a0 y) (fun z hz => hy z (List.mem_cons_of_mem _ hz)) e)
  exact go pre a (fun _ h => h) rfl
end
end K9
/-! text KH -/
set_option Elab.async false
set_option linter.all false
set_option maxRecDepth 100000
set_option maxHeartbeats 2000000
set_option autoImplicit false
namespace K9
open PySem PySem.Spec PyProof.Rows L2 LamX
section
variable {W : Wd} {δ δ' : Sto} {H0 B H : Hp}
theorem flatMap_take_succ {α β : Type} {xs : List α} {i : Nat} {x : α} (f : α → List β) (h : xs[i]? = some x) : (xs.take (i + 1)).flatMap f = (xs.take i).flatMap f ++ f x := by
  rw [List.take_add_one, h, List.flatMap_append]
  simp
theorem filterMap_take_succ {α β : Type} {xs : List α} {i : Nat} {x : α} (p : α → Bool) (f : α → β) (h : xs[i]? = some x) : ((xs.take (i + 1)).filter p).map f = ((xs.take i).filter p).map f ++ (if p x then [f x] else []) := by
  rw [List.take_add_one, h, List.filter_append, List.map_append]
  congr 1
  show ((([x] : List α).filter p).map f) = _
  cases e : p x with
  | true =>
    rw [List.filter_cons_of_pos e]
    rfl
  | false =>
    rw [List.filter_cons_of_neg (by rw [e]; exact Bool.false_ne_true)]
    rfl
theorem len_fm {α β : Type} {xs : List α} (i : Nat) (p : α → Bool) (f : α → β) : (((xs.take i).filter p).map f).length ≤ i := by
  rw [List.length_map]
  refine Nat.le_trans (List.length_filter_le _ _) ?_
  rw [List.length_take]
  omega
/-- [e for x in .. for y in .. if ..] -/
theorem exf_lc2 {wi wi1 : TI} {ix iy : Nat} {tt1 : TT} {te : TE} {vs vs1 : List Nat} {xs : List D} (ys : D → List D) (p : D → D → Bool) (f : D → D → D) (n1 n2 : Nat) (hw : EW W wi δ xs) (hix : ix ∈ vs) (hiy : iy ∈ vs1)
    (hs : ∀ x, x ∈ xs → EW W wi1 ((wipeD δ vs).set ix (.val x)) (ys x) ∧ ∀ y, y ∈ ys x → ExT W tt1 ((wipeD ((wipeD δ vs).set ix (.val x)) vs1).set iy (.val y)) (p x y) ∧ (p x y = true → Ex W te ((wipeD ((wipeD δ vs).set ix (.val x)) vs1).set iy (.val y)) (f x y)))
    (hn1 : xs.length ≤ n1) (hn2 : ∀ x, x ∈ xs → (ys x).length ≤ n2) (hz : n1 * n2 ≤ sizeLine) : ExF W (tLc2 wi (gName ix) tYes wi1 (gName iy) tt1 te vs vs1) δ (xs.flatMap fun x => ((ys x).filter (p x)).map (f x)) := fun H0 B H σ a Q q =>
  hw H0 B H σ a _ fun J B1 H1 e1 wk A hA => by
    have a1 := a.ext e1
    have n1' : B1 A = none := e1.ok.none_ hA
    have e2 := Ext.newM (o := .lst []) e1.ok hA lst_ne
    have fA : Fre H A := (Fre.of hA).back e1.hh
    let G : D → List D := fun x => ((ys x).filter (p x)).map (f x)
    have gl : ∀ i, ((xs.take i).flatMap G).length ≤ i * n2 := by
      intro i
      have : ∀ zs : List D, (∀ z ∈ zs, z ∈ xs) → (zs.flatMap G).length ≤ zs.length * n2 := by
        intro zs
        induction zs with
        | nil => intro _; simp
        | cons z zs ih =>
          intro hz
          rw [List.flatMap_cons, List.length_append, List.length_cons, Nat.succ_mul]
          have h1 := ih fun w hw => hz w (List.mem_cons_of_mem _ hw)
          have h2 : (G z).length ≤ n2 := by
            show (((ys z).filter (p z)).map (f z)).length ≤ n2
            rw [List.length_map]
            exact Nat.le_trans (List.length_filter_le _ _) (hn2 z (hz z List.mem_cons_self))
          omega
      refine Nat.le_trans (this _ fun z hz => List.mem_of_mem_take hz) (Nat.mul_le_mul_right _ ?_)
      rw [List.length_take]
      omega
    refine ⟨fun i m H2 => m = xs.length - i ∧ i ≤ xs.length ∧ ∃ B2, Ext W B H B2 H2 ∧ Same B1 B2 ∧ ExtN H1 H2 ∧ Grow W B2 H2 A ((xs.take i).flatMap G), ⟨xs.length, rfl, Nat.zero_le _, B1, e1.trans e2, Same.refl _, e2.hh, ⟨⟨[], upd_same, DenL.nil_⟩, n1'⟩⟩, ?_⟩
    rintro i m H2 ⟨rfl, hi, B2, e, sb, x2, gr⟩
    have a2 : At W H0 B2 H2 σ δ := a.ext e
    by_cases hlt : i < xs.length
    · refine .inr ⟨wk.go i B2 H2 hlt sb e.ok a2.h0, fun H3 => i + 1 ≤ xs.length ∧ ∃ B3, Ext W B H B3 H3 ∧ Same B1 B3 ∧ ExtN H1 H3 ∧ Grow W B3 H3 A ((xs.take (i + 1)).flatMap G), fun H3 h3 => ⟨xs.length - (i + 1), by omega, rfl, h3.1, h3.2⟩, fun v H3 hy => ?_⟩
      obtain ⟨B3, d, hd, e3, hv⟩ := wk.yld i B2 H2 v H3 hlt sb e.ok a2.h0 hy
      have hdm : d ∈ xs := List.mem_of_getElem? hd
      obtain ⟨hw1, hs1⟩ := hs d hdm
      obtain ⟨⟨us, g1', g2⟩, g3⟩ := gr
      rw [flatMap_take_succ G hd]
      have ws : wipe (wipe σ vs) vs = wipe σ vs := wipe_idem vs σ fun _ h => h
      -- the store of the inner loop, whenever
      have mk : ∀ B5 H5, Ext W B H B5 H5 → Same B3 B5 → At W H0 B5 H5 ((wipe σ vs).set ix (some v)) ((wipeD δ vs).set ix (.val d)) := fun B5 H5 e5 s5 =>
        let a5 := at_wipe (a.ext e5) vs
        ⟨a5.pr, a5.h0, a5.sl.set_val (Den.up s5 _ _ hv)⟩
      refine ⟨(wipe_set hix).trans ws, ?_⟩
      unfold tYes
      dsimp only
      rw [if_pos rfl]
      generalize hσ : (wipe σ vs).set ix (some v) = σ2 at mk ⊢
      generalize hδ : (wipeD δ vs).set ix (.val d) = δ1 at mk hw1 hs1
      refine hw1 H0 B3 H3 σ2 (mk B3 H3 (e.trans e3) (Same.refl _)) _ fun J1 B4 H4 e4 wk1 => ?_
      have e34 := e3.trans e4
      have k0 : H4 A = some (.lst us) := e34.hh _ _ g1' lst_ne
      have k1 : B4 A = none := e34.fr _ _ g3 g1' lst_ne
      refine ⟨fun j m H5 => m = (ys d).length - j ∧ j ≤ (ys d).length ∧ ∃ B5, Ext W B H B5 H5 ∧ Same B4 B5 ∧ Same B1 B5 ∧ ExtN H1 H5 ∧ Grow W B5 H5 A ((xs.take i).flatMap G ++ (((ys d).take j).filter (p d)).map (f d)),
        ⟨(ys d).length, rfl, Nat.zero_le _, B4, e.trans e34, Same.refl _, sb.trans e34.bb, x2.trans e34.hh, ⟨us, k0, ?_⟩, k1⟩, ?_⟩
      · show DenL W B4 ((xs.take i).flatMap G ++ []) us
        rw [List.append_nil]
        exact DenL.up e34.bb _ _ g2
      rintro j m H5 ⟨rfl, hj, B5, f1, f2, f3, f4, ⟨⟨us5, u1, u2⟩, u3⟩⟩
      have b5 := mk B5 H5 f1 (e4.bb.trans f2)
      by_cases hjl : j < (ys d).length
      · refine .inr ⟨wk1.go j B5 H5 hjl f2 f1.ok b5.h0, fun H6 => j + 1 ≤ (ys d).length ∧ ∃ B6, Ext W B H B6 H6 ∧ Same B4 B6 ∧ Same B1 B6 ∧ ExtN H1 H6 ∧ Grow W B6 H6 A ((xs.take i).flatMap G ++ (((ys d).take (j + 1)).filter (p d)).map (f d)),
          fun H6 h6 => ⟨(ys d).length - (j + 1), by omega, rfl, h6.1, h6.2⟩, fun v1 H6 hy1 => ?_⟩
        obtain ⟨B6, d1, hd1, e6, hv1⟩ := wk1.yld j B5 H5 v1 H6 hjl f2 f1.ok b5.h0 hy1
        obtain ⟨ht1, he1⟩ := hs1 d1 (List.mem_of_getElem? hd1)
        have b6 : At W H0 B6 H6 σ2 δ1 := b5.ext e6
        rw [filterMap_take_succ (p d) (f d) hd1]
        have ws1 : wipe (wipe σ2 vs1) vs1 = wipe σ2 vs1 := wipe_idem vs1 σ2 fun _ h => h
        have b6w := at_wipe b6 vs1
        have b7 : At W H0 B6 H6 ((wipe σ2 vs1).set iy (some v1)) ((wipeD δ1 vs1).set iy (.val d1)) := ⟨b6w.pr, b6w.h0, b6w.sl.set_val hv1⟩
        refine ⟨(wipe_set hiy).trans ws1, ?_⟩
        refine ht1 H0 B6 H6 _ b7 _ fun B7 H7 e7 => ?_
        have e67 := e6.trans e7
        cases hb : p d d1 with
        | false =>
          rw [if_neg Bool.false_ne_true]
          refine ⟨hjl, B7, f1.trans e67, f2.trans e67.bb, f3.trans e67.bb, f4.trans e67.hh, ⟨us5, e67.hh _ _ u1 lst_ne, ?_⟩, e67.fr _ _ u3 u1 lst_ne⟩
          rw [if_neg Bool.false_ne_true, List.append_nil]
          exact DenL.up e67.bb _ _ u2
        | true =>
          rw [if_pos rfl]
          refine he1 hb H0 B7 H7 _ (b7.ext e7) _ fun y B8 H8 e8 hy8 => ?_
          have e68 := e67.trans e8
          have q1 : H8 A = some (.lst us5) := e68.hh _ _ u1 lst_ne
          have q2 : B8 A = none := e68.fr _ _ u3 u1 lst_ne
          have hl : us5.length < sizeLine := by
            rw [u2.len, List.length_append]
            have h1 := gl i
            have h2 := len_fm (xs := ys d) j (p d) (f d)
            have h3 := hn2 d hdm
            have h4 : (i + 1) * n2 ≤ n1 * n2 := Nat.mul_le_mul_right _ (by omega)
            rw [Nat.succ_mul] at h4
            omega
          have wr : Ext W B H B8 (upd H8 A (.lst (us5 ++ [y]))) := (f1.trans e68).write fA q1 q2 lst_ne (fun c q z => by unfold CodeO at z; cases z) lst_ne
          refine ⟨us5, q1, hl, hjl, B8, wr, f2.trans e68.bb, f3.trans e68.bb, fun b o h n => ?_, ⟨_, upd_same, ?_⟩, q2⟩
          · rw [upd_ne ((Fre.of hA).ne h n)]
            exact (f4.trans e68.hh) b o h n
          · rw [if_pos rfl, ← List.append_assoc]
            exact DenL.app (DenL.up e68.bb _ _ u2) (DenL.cons_ hy8.den DenL.nil_)
      · have ej : j = (ys d).length := by omega
        subst ej
        rw [List.take_length] at u2
        exact .inl ⟨wk1.stop B5 H5 f2 f1.ok b5.h0, hlt, B5, f1, f3, f4, ⟨us5, u1, u2⟩, u3⟩
    · have ei : i = xs.length := by omega
      subst ei
      obtain ⟨⟨us, g1', g2⟩, g3⟩ := gr
      rw [List.take_length] at g2
      exact .inl ⟨wk.stop B2 H2 sb e.ok a2.h0, q A us B2 H2 e fA g1' g3 g2⟩
end
end K9
/-! text KI -/
set_option Elab.async false
set_option linter.all false
set_option maxRecDepth 100000
set_option maxHeartbeats 2000000
set_option autoImplicit false
/-! typed comprehensions and loops; isinstance; calls -/
namespace K9
open PySem PySem.Spec PyProof.Rows L2 LamX
section
variable {W : Wd} {δ δ' : Sto} {H0 B H : Hp}
theorem exf_lcT {α : Type} {wi : TI} {g : TG} {tt : TT} {te : TE} {vs : List Nat} {ys : List α} {enc : α → D} (p : α → Bool) (f : α → D) (hw : EW W wi δ (ys.map enc))
    (hs : ∀ x, x ∈ ys → ∃ δ1, GX W g (enc x) vs (wipeD δ vs) δ1 ∧ ExT W tt δ1 (p x) ∧ (p x = true → Ex W te δ1 (f x))) (hz : ys.length ≤ sizeLine) : ExF W (tLc wi g tt te vs) δ ((ys.filter p).map f) := fun H0 B H σ a Q q =>
  hw H0 B H σ a _ fun J B1 H1 e1 wk A hA => by
    have a1 := a.ext e1
    have hlm : ∀ {i : Nat}, i < ys.length → i < (ys.map enc).length := fun h => by rw [List.length_map]; exact h
    have n1 : B1 A = none := e1.ok.none_ hA
    have e2 := Ext.newM (o := .lst []) e1.ok hA lst_ne
    -- the invariant: B2 grows, the list holds what is made
    refine ⟨fun i m H2 => m = ys.length - i ∧ i ≤ ys.length ∧ ∃ B2, Ext W B H B2 H2 ∧ Same B1 B2 ∧ ExtN H1 H2 ∧ Grow W B2 H2 A (((ys.take i).filter p).map f), ⟨ys.length, rfl, Nat.zero_le _, B1, e1.trans e2, Same.refl _, e2.hh, ⟨⟨[], upd_same, DenL.nil_⟩, n1⟩⟩, ?_⟩
    rintro i m H2 ⟨rfl, hi, B2, e, sb, x2, gr⟩
    have a2 : At W H0 B2 H2 σ δ := a.ext e
    by_cases hlt : i < ys.length
    · refine .inr ⟨wk.go i B2 H2 (hlm hlt) sb e.ok a2.h0, fun H3 => i + 1 ≤ ys.length ∧ ∃ B3, Ext W B H B3 H3 ∧ Same B1 B3 ∧ ExtN H1 H3 ∧ Grow W B3 H3 A (((ys.take (i + 1)).filter p).map f), fun H3 h3 => ⟨ys.length - (i + 1), by omega, rfl, h3.1, h3.2⟩, fun v H3 hy => ?_⟩
      obtain ⟨B3, d0, hd0, e3, hv⟩ := wk.yld i B2 H2 v H3 (hlm hlt) sb e.ok a2.h0 hy
      obtain ⟨d, hd, rfl⟩ : ∃ d, ys[i]? = some d ∧ enc d = d0 := by
        rw [List.getElem?_map] at hd0
        exact Option.map_eq_some_iff.mp hd0
      obtain ⟨δ1, hg, ht, he⟩ := hs d (List.mem_of_getElem? hd)
      have a3 : At W H0 B3 H3 σ δ := a2.ext e3
      obtain ⟨⟨vs2, g1, g2⟩, g3⟩ := gr
      have et : ys.take (i + 1) = ys.take i ++ [d] := by
        rw [List.take_add_one, hd]
        rfl
      refine hg H0 B3 H3 _ v (at_wipe a3 vs) hv _ fun σ2 s2 w2 => ?_
      have ws : wipe (wipe σ vs) vs = wipe σ vs := wipe_idem vs σ fun _ h => h
      refine ⟨w2.trans ws, ?_⟩
      refine ht H0 B3 H3 σ2 ⟨a3.pr, a3.h0, s2⟩ _ fun B4 H4 e4 => ?_
      have e14 := (e.trans e3).trans e4
      have x4 : ExtN H1 H4 := (x2.trans e3.hh).trans e4.hh
      have s4 : Same B1 B4 := (sb.trans e3.bb).trans e4.bb
      cases hb : p d with
      | false =>
        rw [if_neg Bool.false_ne_true]
        refine ⟨hlt, B4, e14, s4, x4, ⟨vs2, e4.hh _ _ (e3.hh _ _ g1 lst_ne) lst_ne, ?_⟩, e4.fr _ _ (e3.fr _ _ g3 g1 lst_ne) (e3.hh _ _ g1 lst_ne) lst_ne⟩
        rw [et, List.filter_append, List.filter_cons_of_neg (by rw [hb]; exact Bool.false_ne_true), List.filter_nil, List.append_nil]
        exact DenL.up (e3.bb.trans e4.bb) _ _ g2
      | true =>
        rw [if_pos rfl]
        refine he hb H0 B4 H4 σ2 ⟨e4.ok, a3.h0.trans e4.hh, s2.ext e4⟩ _ fun y B5 H5 e5 hy5 => ?_
        have k1 : H5 A = some (.lst vs2) := e5.hh _ _ (e4.hh _ _ (e3.hh _ _ g1 lst_ne) lst_ne) lst_ne
        have k2 : B5 A = none := e5.fr _ _ (e4.fr _ _ (e3.fr _ _ g3 g1 lst_ne) (e3.hh _ _ g1 lst_ne) lst_ne) (e4.hh _ _ (e3.hh _ _ g1 lst_ne) lst_ne) lst_ne
        have hl : vs2.length ≤ i := by
          rw [g2.len, List.length_map]
          refine Nat.le_trans (List.length_filter_le _ _) ?_
          rw [List.length_take]
          omega
        have fA : Fre H A := (Fre.of hA).back e1.hh
        refine ⟨vs2, k1, by omega, hlt, B5, (e14.trans e5).write fA k1 k2 lst_ne (fun c q z => by unfold CodeO at z; cases z) lst_ne, s4.trans e5.bb, fun b o h n => ?_, ⟨_, upd_same, ?_⟩, k2⟩
        · rw [upd_ne ((Fre.of hA).ne h n)]
          exact (x4.trans e5.hh) b o h n
        · rw [et, List.filter_append, List.filter_cons_of_pos hb, List.filter_nil, List.map_append]
          exact DenL.app (DenL.up ((e3.bb.trans e4.bb).trans e5.bb) _ _ g2) (DenL.cons_ hy5.den DenL.nil_)
    · have ei : i = ys.length := by omega
      subst ei
      obtain ⟨⟨vs2, g1, g2⟩, g3⟩ := gr
      rw [List.take_length] at g2
      exact .inl ⟨by have z := wk.stop B2 H2 sb e.ok a2.h0; rw [List.length_map] at z; exact z, q A vs2 B2 H2 e ((Fre.of hA).back e1.hh) g1 g3 g2⟩
/-- without a test -/
theorem exf_lcT1 {α : Type} {wi : TI} {g : TG} {te : TE} {vs : List Nat} {ys : List α} {enc : α → D} (f : α → D) (hw : EW W wi δ (ys.map enc))
    (hs : ∀ x, x ∈ ys → ∃ δ1, GX W g (enc x) vs (wipeD δ vs) δ1 ∧ Ex W te δ1 (f x)) (hz : ys.length ≤ sizeLine) : ExF W (tLc wi g tYes te vs) δ (ys.map f) := by
  have h := exf_lcT (W := W) (δ := δ) (tt := tYes) (te := te) (g := g) (vs := vs) (fun _ => true) f hw (fun x hx => by
    obtain ⟨δ1, h1, h2⟩ := hs x hx
    exact ⟨δ1, h1, ext_yes, fun _ => h2⟩) hz
  rw [List.filter_eq_self.mpr (fun _ _ => rfl)] at h
  exact h
/-- a for with a state, typed items -/
theorem sx_forT {α : Type} {wi : TI} {g : TG} {tb : TS} {ys : List α} {enc : α → D} {A : Type} {S : A → Sto} (F : A → α → A) (a : A) (hw : EW W wi (S a) (ys.map enc)) (h : ∀ (pre : List α) (x : α) (post : List α), ys = pre ++ x :: post → ∃ δ1 vs, GX W g (enc x) vs (S (pre.foldl F a)) δ1 ∧ SX W tb δ1 (.nx (S (F (pre.foldl F a) x)))) : SX W (tFor wi g tb) (S a) (.nx (S (ys.foldl F a))) := by
  refine sx_for hw ?_
  have go : ∀ (post pre : List α), ys = pre ++ post → ForR (Turn1 W g tb) (post.map enc) (S (pre.foldl F a)) (.nx (S (ys.foldl F a))) := by
    intro post
    induction post with
    | nil =>
      intro pre e
      rw [List.append_nil] at e
      rw [e]
      exact .nil
    | cons y post ih =>
      intro pre e
      refine .nx (h pre y post e) ?_
      have e2 := ih (pre ++ [y]) (by rw [e, List.append_assoc]; rfl)
      rw [List.foldl_append] at e2
      exact e2
  exact go ys [] rfl
/-- .. that is left by a return -/
theorem sx_forTX {α : Type} {wi : TI} {g : TG} {tb : TS} {ys pre post : List α} {x : α} {enc : α → D} {d : D} {A : Type} {S : A → Sto} (F : A → α → A) (a : A) (hx : ys = pre ++ x :: post) (hw : EW W wi (S a) (ys.map enc))
    (h : ∀ (pre1 : List α) (y : α) (post1 : List α), pre = pre1 ++ y :: post1 → ∃ δ1 vs, GX W g (enc y) vs (S (pre1.foldl F a)) δ1 ∧ SX W tb δ1 (.nx (S (F (pre1.foldl F a) y)))) (hl : ∃ δ1 vs, GX W g (enc x) vs (S (pre.foldl F a)) δ1 ∧ SX W tb δ1 (.rt d)) : SX W (tFor wi g tb) (S a) (.rt d) := by
  refine sx_for hw ?_
  have go : ∀ (mid pre1 : List α), pre = pre1 ++ mid → ForR (Turn1 W g tb) ((mid ++ x :: post).map enc) (S (pre1.foldl F a)) (.rt d) := by
    intro mid
    induction mid with
    | nil =>
      intro pre1 e
      rw [List.append_nil] at e
      rw [← e]
      exact .rt hl
    | cons y mid ih =>
      intro pre1 e
      refine .nx (h pre1 y mid e) ?_
      have e2 := ih (pre1 ++ [y]) (by rw [e, List.append_assoc]; rfl)
      rw [List.foldl_append] at e2
      exact e2
  rw [hx]
  exact go pre [] rfl
theorem exf_lc2T {α β : Type} {wi wi1 : TI} {ix iy : Nat} {tt1 : TT} {te : TE} {vs vs1 : List Nat} {xs : List α} {enc : α → D} {enc2 : β → D} (ys : α → List β) (p : α → β → Bool) (f : α → β → D) (n1 n2 : Nat) (hw : EW W wi δ (xs.map enc)) (hix : ix ∈ vs) (hiy : iy ∈ vs1)
    (hs : ∀ x, x ∈ xs → EW W wi1 ((wipeD δ vs).set ix (.val (enc x))) ((ys x).map enc2) ∧ ∀ y, y ∈ ys x → ExT W tt1 ((wipeD ((wipeD δ vs).set ix (.val (enc x))) vs1).set iy (.val (enc2 y))) (p x y) ∧ (p x y = true → Ex W te ((wipeD ((wipeD δ vs).set ix (.val (enc x))) vs1).set iy (.val (enc2 y))) (f x y)))
    (hn1 : xs.length ≤ n1) (hn2 : ∀ x, x ∈ xs → (ys x).length ≤ n2) (hz : n1 * n2 ≤ sizeLine) : ExF W (tLc2 wi (gName ix) tYes wi1 (gName iy) tt1 te vs vs1) δ (xs.flatMap fun x => ((ys x).filter (p x)).map (f x)) := fun H0 B H σ a Q q =>
  hw H0 B H σ a _ fun J B1 H1 e1 wk A hA => by
    have a1 := a.ext e1
    have hlm : ∀ {i : Nat}, i < xs.length → i < (xs.map enc).length := fun h => by rw [List.length_map]; exact h
    have n1' : B1 A = none := e1.ok.none_ hA
    have e2 := Ext.newM (o := .lst []) e1.ok hA lst_ne
    have fA : Fre H A := (Fre.of hA).back e1.hh
    let G : α → List D := fun x => ((ys x).filter (p x)).map (f x)
    have gl : ∀ i, ((xs.take i).flatMap G).length ≤ i * n2 := by
      intro i
      have : ∀ zs : List α, (∀ z ∈ zs, z ∈ xs) → (zs.flatMap G).length ≤ zs.length * n2 := by
        intro zs
        induction zs with
        | nil => intro _; simp
        | cons z zs ih =>
          intro hz
          rw [List.flatMap_cons, List.length_append, List.length_cons, Nat.succ_mul]
          have h1 := ih fun w hw => hz w (List.mem_cons_of_mem _ hw)
          have h2 : (G z).length ≤ n2 := by
            show (((ys z).filter (p z)).map (f z)).length ≤ n2
            rw [List.length_map]
            exact Nat.le_trans (List.length_filter_le _ _) (hn2 z (hz z List.mem_cons_self))
          omega
      refine Nat.le_trans (this _ fun z hz => List.mem_of_mem_take hz) (Nat.mul_le_mul_right _ ?_)
      rw [List.length_take]
      omega
    refine ⟨fun i m H2 => m = xs.length - i ∧ i ≤ xs.length ∧ ∃ B2, Ext W B H B2 H2 ∧ Same B1 B2 ∧ ExtN H1 H2 ∧ Grow W B2 H2 A ((xs.take i).flatMap G), ⟨xs.length, rfl, Nat.zero_le _, B1, e1.trans e2, Same.refl _, e2.hh, ⟨⟨[], upd_same, DenL.nil_⟩, n1'⟩⟩, ?_⟩
    rintro i m H2 ⟨rfl, hi, B2, e, sb, x2, gr⟩
    have a2 : At W H0 B2 H2 σ δ := a.ext e
    by_cases hlt : i < xs.length
    · refine .inr ⟨wk.go i B2 H2 (hlm hlt) sb e.ok a2.h0, fun H3 => i + 1 ≤ xs.length ∧ ∃ B3, Ext W B H B3 H3 ∧ Same B1 B3 ∧ ExtN H1 H3 ∧ Grow W B3 H3 A ((xs.take (i + 1)).flatMap G), fun H3 h3 => ⟨xs.length - (i + 1), by omega, rfl, h3.1, h3.2⟩, fun v H3 hy => ?_⟩
      obtain ⟨B3, d0, hd0, e3, hv⟩ := wk.yld i B2 H2 v H3 (hlm hlt) sb e.ok a2.h0 hy
      obtain ⟨d, hd, rfl⟩ : ∃ d, xs[i]? = some d ∧ enc d = d0 := by
        rw [List.getElem?_map] at hd0
        exact Option.map_eq_some_iff.mp hd0
      have hdm : d ∈ xs := List.mem_of_getElem? hd
      obtain ⟨hw1, hs1⟩ := hs d hdm
      obtain ⟨⟨us, g1', g2⟩, g3⟩ := gr
      rw [flatMap_take_succ G hd]
      have ws : wipe (wipe σ vs) vs = wipe σ vs := wipe_idem vs σ fun _ h => h
      -- the store of the inner loop, whenever
      have mk : ∀ B5 H5, Ext W B H B5 H5 → Same B3 B5 → At W H0 B5 H5 ((wipe σ vs).set ix (some v)) ((wipeD δ vs).set ix (.val (enc d))) := fun B5 H5 e5 s5 =>
        let a5 := at_wipe (a.ext e5) vs
        ⟨a5.pr, a5.h0, a5.sl.set_val (Den.up s5 _ _ hv)⟩
      refine ⟨(wipe_set hix).trans ws, ?_⟩
      unfold tYes
      dsimp only
      rw [if_pos rfl]
      generalize hσ : (wipe σ vs).set ix (some v) = σ2 at mk ⊢
      generalize hδ : (wipeD δ vs).set ix (.val (enc d)) = δ1 at mk hw1 hs1
      refine hw1 H0 B3 H3 σ2 (mk B3 H3 (e.trans e3) (Same.refl _)) _ fun J1 B4 H4 e4 wk1 => ?_
      have e34 := e3.trans e4
      have hlm2 : ∀ {i : Nat}, i < (ys d).length → i < ((ys d).map enc2).length := fun h => by rw [List.length_map]; exact h
      have k0 : H4 A = some (.lst us) := e34.hh _ _ g1' lst_ne
      have k1 : B4 A = none := e34.fr _ _ g3 g1' lst_ne
      refine ⟨fun j m H5 => m = (ys d).length - j ∧ j ≤ (ys d).length ∧ ∃ B5, Ext W B H B5 H5 ∧ Same B4 B5 ∧ Same B1 B5 ∧ ExtN H1 H5 ∧ Grow W B5 H5 A ((xs.take i).flatMap G ++ (((ys d).take j).filter (p d)).map (f d)),
        ⟨(ys d).length, rfl, Nat.zero_le _, B4, e.trans e34, Same.refl _, sb.trans e34.bb, x2.trans e34.hh, ⟨us, k0, ?_⟩, k1⟩, ?_⟩
      · show DenL W B4 ((xs.take i).flatMap G ++ []) us
        rw [List.append_nil]
        exact DenL.up e34.bb _ _ g2
      rintro j m H5 ⟨rfl, hj, B5, f1, f2, f3, f4, ⟨⟨us5, u1, u2⟩, u3⟩⟩
      have b5 := mk B5 H5 f1 (e4.bb.trans f2)
      by_cases hjl : j < (ys d).length
      · refine .inr ⟨wk1.go j B5 H5 (hlm2 hjl) f2 f1.ok b5.h0, fun H6 => j + 1 ≤ (ys d).length ∧ ∃ B6, Ext W B H B6 H6 ∧ Same B4 B6 ∧ Same B1 B6 ∧ ExtN H1 H6 ∧ Grow W B6 H6 A ((xs.take i).flatMap G ++ (((ys d).take (j + 1)).filter (p d)).map (f d)),
          fun H6 h6 => ⟨(ys d).length - (j + 1), by omega, rfl, h6.1, h6.2⟩, fun v1 H6 hy1 => ?_⟩
        obtain ⟨B6, d2, hd2, e6, hv1⟩ := wk1.yld j B5 H5 v1 H6 (hlm2 hjl) f2 f1.ok b5.h0 hy1
        obtain ⟨d1, hd1, rfl⟩ : ∃ d1, (ys d)[j]? = some d1 ∧ enc2 d1 = d2 := by
          rw [List.getElem?_map] at hd2
          exact Option.map_eq_some_iff.mp hd2
        obtain ⟨ht1, he1⟩ := hs1 d1 (List.mem_of_getElem? hd1)
        have b6 : At W H0 B6 H6 σ2 δ1 := b5.ext e6
        rw [filterMap_take_succ (p d) (f d) hd1]
        have ws1 : wipe (wipe σ2 vs1) vs1 = wipe σ2 vs1 := wipe_idem vs1 σ2 fun _ h => h
        have b6w := at_wipe b6 vs1
        have b7 : At W H0 B6 H6 ((wipe σ2 vs1).set iy (some v1)) ((wipeD δ1 vs1).set iy (.val (enc2 d1))) := ⟨b6w.pr, b6w.h0, b6w.sl.set_val hv1⟩
        refine ⟨(wipe_set hiy).trans ws1, ?_⟩
        refine ht1 H0 B6 H6 _ b7 _ fun B7 H7 e7 => ?_
        have e67 := e6.trans e7
        cases hb : p d d1 with
        | false =>
          rw [if_neg Bool.false_ne_true]
          refine ⟨hjl, B7, f1.trans e67, f2.trans e67.bb, f3.trans e67.bb, f4.trans e67.hh, ⟨us5, e67.hh _ _ u1 lst_ne, ?_⟩, e67.fr _ _ u3 u1 lst_ne⟩
          rw [if_neg Bool.false_ne_true, List.append_nil]
          exact DenL.up e67.bb _ _ u2
        | true =>
          rw [if_pos rfl]
          refine he1 hb H0 B7 H7 _ (b7.ext e7) _ fun y B8 H8 e8 hy8 => ?_
          have e68 := e67.trans e8
          have q1 : H8 A = some (.lst us5) := e68.hh _ _ u1 lst_ne
          have q2 : B8 A = none := e68.fr _ _ u3 u1 lst_ne
          have hl : us5.length < sizeLine := by
            rw [u2.len, List.length_append]
            have h1 := gl i
            have h2 := len_fm (xs := ys d) j (p d) (f d)
            have h3 := hn2 d hdm
            have h4 : (i + 1) * n2 ≤ n1 * n2 := Nat.mul_le_mul_right _ (by omega)
            rw [Nat.succ_mul] at h4
            omega
          have wr : Ext W B H B8 (upd H8 A (.lst (us5 ++ [y]))) := (f1.trans e68).write fA q1 q2 lst_ne (fun c q z => by unfold CodeO at z; cases z) lst_ne
          refine ⟨us5, q1, hl, hjl, B8, wr, f2.trans e68.bb, f3.trans e68.bb, fun b o h n => ?_, ⟨_, upd_same, ?_⟩, q2⟩
          · rw [upd_ne ((Fre.of hA).ne h n)]
            exact (f4.trans e68.hh) b o h n
          · rw [if_pos rfl, ← List.append_assoc]
            exact DenL.app (DenL.up e68.bb _ _ u2) (DenL.cons_ hy8.den DenL.nil_)
      · have ej : j = (ys d).length := by omega
        subst ej
        rw [List.take_length] at u2
        exact .inl ⟨by have z := wk1.stop B5 H5 f2 f1.ok b5.h0; rw [List.length_map] at z; exact z, hlt, B5, f1, f3, f4, ⟨us5, u1, u2⟩, u3⟩
    · have ei : i = xs.length := by omega
      subst ei
      obtain ⟨⟨us, g1', g2⟩, g3⟩ := gr
      rw [List.take_length] at g2
      exact .inl ⟨by have z := wk.stop B2 H2 sb e.ok a2.h0; rw [List.length_map] at z; exact z, q A us B2 H2 e fA g1' g3 g2⟩
/-! ### isinstance -/
def D.tyn : D → Option String
  | .non => some "NoneType"
  | .bl _ => some "bool"
  | .int _ => some "int"
  | .str _ => some "str"
  | .tup _ => some "tuple"
  | .lst _ => some "list"
  | .ins _ _ => none
  | .tk _ => some "tuple"
  | .tz _ => some "tuple"
theorem Den.tyx {d : D} {v : V} {n : String} (P : Pr W B H) (h : Den W B d v) (e : d.tyn = some n) : TyX W.K H v (.type n) := by
  cases d with
  | non => cases e; rw [Den.non_eq h]; exact .base .non
  | bl b => cases e; rw [Den.bl_eq h]; exact .base (.bl b)
  | int b => cases e; rw [Den.int_eq h]; exact .base (.int b)
  | str b => cases e; rw [Den.str_eq h]; exact .base (.str b)
  | tup ds =>
    cases e
    obtain ⟨a, vs, rfl, h2, _⟩ := Den.tup_iff.mp h
    rcases h2 with (h2 | ⟨o, h2⟩) | h2
    · exact .base (.tup (P.sub _ _ h2))
    · exact .fTuple (P.sub _ _ h2)
    · obtain ⟨o, its, n, k1, k2, _⟩ := h2
      exact .kTuple k1 k2
  | lst ds =>
    cases e
    obtain ⟨a, vs, rfl, h2, _⟩ := Den.lst_iff.mp h
    rcases h2 with (h2 | ⟨o, h2⟩) | h2
    · exact .base (.lst (P.sub _ _ h2))
    · exact .base (.frz (P.sub _ _ h2))
    · obtain ⟨o, its, n, k1, k2, _⟩ := h2
      exact .kList k1 k2
  | ins c fs => cases e
  | tk ds =>
    cases e
    obtain ⟨a, vs, rfl, h2, _⟩ := Den.tk_iff.mp h
    exact .base (.tup (P.sub _ _ h2))
  | tz ds =>
    cases e
    obtain ⟨a, vs, rfl, ⟨ob, h2, _⟩, _⟩ := Den.tz_iff.mp h
    exact .fTuple (P.sub _ _ h2)
theorem rg_isi {d : D} {n c : String} {b : Bool} (hn : d.tyn = some n) (hk : kitB n c = some b) : RG W (rIsi W.K) [.v d, .r (.ty c)] (.bl b) := fun B H xs P hx Q q => by
  obtain ⟨x, y, rfl, h1, h2⟩ := hx.two
  have h2 : y = .ty c := h2
  subst h2
  exact ⟨x, .ty c, .type n, .type c, b, rfl, .ty c, Den.tyx P h1.den hn, kit_ty hk, q _ B H (Ext.refl P) (show Den W B (.bl _) _ from Den.bl_)⟩
/-- isinstance(x, (c1, c2)) -/
theorem ex_isiT {te : TE} {d : D} {n c1 c2 : String} {b1 b2 : Bool} (h : Ex W te δ d) (hn : d.tyn = some n) (k1 : kitB n c1 = some b1) (k2 : kitB n c2 = some b2) : Ex W (tCB (rIsiT W.K) (tCons te (tCons (tTup (tCons (tC (.ty c1)) (tCons (tC (.ty c2)) tNil))) tNil))) δ (.bl (b1 || b2)) := fun H0 B H σ s Q q =>
  h H0 B H σ s _ fun x B1 H1 e1 hx => by
    refine ⟨by show 2 ≤ sizeLine; decide, fun p hp => ?_⟩
    have e2 := Ext.new (o := .tup [.ty c1, .ty c2]) e1.ok hp tup_ne
    refine ⟨x, p, [.ty c1, .ty c2], .type n, [.type c1, .type c2], b1 || b2, rfl, upd_same, .cons (.ty c1) (.cons (.ty c2) .nil), Den.tyx e2.ok (hx.ext e2).den hn, ?_, ?_⟩
    · refine kitAny_cons (kit_ty k1) (fun e => ?_) (fun e => by rw [e]; rfl)
      rw [e, Bool.false_or]
      refine kitAny_cons (kit_ty k2) (fun e2 => ?_) (fun e2 => e2)
      rw [e2]
      rfl
    · exact q _ _ _ (e1.trans e2) (show Den W (upd B1 p (.tup [.ty c1, .ty c2])) (.bl _) _ from Den.bl_)
/-! ### truth of a list -/
theorem ext_truL {t : TE} {ds : List D} (h : EA W t δ (.l ds)) : ExT W (fun σ H Q => t σ H fun x H' => ∃ k, TruV W.K x H' k ∧ Q k H') δ (!ds.isEmpty) := fun H0 B H σ a Q q => h H0 B H σ a _ fun v B1 H1 e1 ⟨p, vs, hv, hp, hd⟩ => by
  subst hv
  refine ⟨!ds.isEmpty, .inl ⟨vs, hp, ?_⟩, q B1 H1 e1⟩
  cases ds with
  | nil => rw [DenL.nil_eq hd] <;> rfl
  | cons d ds =>
    obtain ⟨v, r, rfl, _⟩ := DenL.cons_iff.mp hd
    rfl
end
end K9
/-! text L1 -/
set_option Elab.async false
set_option linter.all false
set_option maxRecDepth 100000
set_option maxHeartbeats 2000000
set_option autoImplicit false
/-! own rules of the machine: len(obj), x in obj, t.index(int), cls(..) -/
namespace K9
open PySem PySem.Spec PyProof.Rows L2 LamX
section
variable {X : Cx} {CX : CXT} {C g : Addr} {n : Nat} {sp : Sp} {E : XK}
/-- a special method that is a def of the class at C -/
structure Spc (K : PySem.W.Frag) (C : Addr) (m : Str) (g : Addr) : Prop where
  at_ : PySem.W.findIn K (.ref C) m = some (some (.ref g))
  fn : PySem.W.isFn K (.ref g) = true
theorem ins_at {pins : List (Addr × Obj)} {σ : L2.St} {H : Hp} {s : Shared} {a C dx : Addr} {fs : List (Str × V)} (I : Inv X pins σ H s) (h : H a = some (.ins C dx fs)) : ∃ ox od, PySem.W.InstAt s.heap a ox C od := by
  obtain ⟨ox, od, J, _⟩ := StX.insC_at I (.inr ⟨dx, fs, h⟩)
  exact ⟨ox, od, J⟩
/-- len(x), x an instance -/
def rLenO (C : Addr) (sp : Sp) (E : XK) : List V → Hp → VK → Prop := fun xs H Q => ∃ a dx fs, xs = [V.ref a] ∧ H a = some (.ins C dx fs) ∧ sp [.ref a] H (fun z H' => ∃ k : Nat, z = .int k ∧ k < 1000000 ∧ Q z H') E
theorem call_lenO (c : Spc X.K C "__len__" g) (F : FnR X.prog X.w X.K X.mg X.base CX n g sp) (hr : Room (n + 1) X.A) (hx : Passes CX X E) : CallR X (.builtin "len") (rLenO C sp E) := by
  intro pins s σ H xs us Q I r h
  obtain ⟨a, dx, fs, rfl, ha, q⟩ := h
  obtain ⟨u, rfl, ru⟩ := r.one
  cases (show u = Value.ref a from ru)
  obtain ⟨ox, od, J⟩ := ins_at I ha
  obtain ⟨m, hF⟩ := I.fr
  have hr1 : Room n X.A.in1 := Room.in1 hr
  refine PySem.W.len_K hF I.ok.mod.kin J c.at_ c.fn ?_
  have run := SlX.run_at (us := [.ref a]) (ws := [.ref a]) F hr1 I.env0.in1 hx I (.cons rfl .nil) q
  refine wpAny_mono (wpAny_call run) (fun v s' z => ?_) fun _ _ z => z
  obtain ⟨z', H', I', rz, k, ek, hk, qz⟩ := z
  subst ek
  obtain ⟨t, ev⟩ := (show ∃ t, v = Value.int k t from rz)
  subst ev
  refine ⟨⟨by omega, by omega⟩, ?_⟩
  exact ⟨.int k, H', I'.tok _, ⟨_, rfl⟩, qz⟩
/-- x in y, y an instance -/
def rInO (C : Addr) (sp : Sp) (E : XK) : R2 := fun x y H Q => ∃ a dx fs, y = V.ref a ∧ H a = some (.ins C dx fs) ∧ sp [.ref a, x] H (fun z H' => ∃ b : Bool, z = .bl b ∧ Q z H') E
theorem op_inO (c : Spc X.K C "__contains__" g) (F : FnR X.prog X.w X.K X.mg X.base CX n g sp) (hr : Room n X.A) (hx : Passes CX X E) : OpR X (compareOp .In) (rInO C sp E) := by
  intro pins s σ H x y v u Q I rx ry h
  obtain ⟨a, dx, fs, rfl, ha, q⟩ := h
  cases (show u = Value.ref a from ry)
  obtain ⟨ox, od, J⟩ := ins_at I ha
  have KX := I.kIn
  have run := wpAny_call (SlX.run_at (us := [.ref a, v]) (ws := [.ref a, x]) F hr I.env0 hx I (.cons rfl (.cons rx .nil)) q)
  show wpAny _ _ (contains (.ref a) v >>= fun b => pure (Value.bool b)) _ _ _
  refine wpAny_bind ?_
  unfold contains
  refine wpAny_holding ?_
  show wpAny _ _ (specialOf (.ref a) "__contains__" >>= _) _ _ _
  have sp1 : PySem.W.Looks (model X.prog X.w) s.heap (specialOf (.ref a) "__contains__") (some (.ref g)) := PySem.W.Looks.andThen J.type (PySem.W.looks_findIn KX c.at_)
  refine wpAny_bind (sp1.here ?_)
  show wpAny _ _ (if (some (Value.ref g) == some Value.none) = true then _ else _) _ _ _
  rw [if_neg (by simp)]
  refine wpAny_bind ?_
  unfold callSpecialUnlessNone?
  refine wpAny_bind (sp1.here ?_)
  refine wpAny_holding (wpAny_bind ((PySem.W.bind_fn KX (.ref a) (beq_iff_eq.mp c.fn)).here ?_))
  show wpAny _ _ (if (Value.ref g == Value.none) = true then _ else _) _ _ _
  rw [if_neg (show ¬ ((Value.ref g == Value.none) = true) from Bool.false_ne_true)]
  refine wpAny_bind (wpAny_mono run (fun w s' z => wpAny_pure ?_) fun _ _ z => z)
  obtain ⟨z', H', I', rz, b, eb, qz⟩ := z
  subst eb
  cases (show w = Value.bool b from rz)
  exact wpAny_truthy_bool (wpAny_pure ⟨.bl b, H', I', rfl, qz⟩)
end
theorem flat_ints (ys : List Int) : (ys.map V.int).all flatV = true := by
  rw [List.all_map]
  exact List.all_eq_true.mpr fun _ _ => rfl
/-- t.index(x), ints -/
def rIdxT (K : PySem.W.Frag) : V → List V → Hp → VK → Prop := fun x xs H Q => ∃ (p : Addr) (ys : List Int) (z : Int) (j : Nat), x = .ref p ∧ xs = [.int z] ∧ SqT K H p (ys.map V.int) ∧ ys[j]? = some z ∧ (∀ m, m < j → ys[m]? ≠ some z) ∧ Q (.int (j : Nat)) H
theorem mt_idxT {X : Cx} : MtR X "tuple.index" (rIdxT X.K) := by
  intro pins s σ H x xs v us Q I rx rs h
  obtain ⟨p, ys, z, j, rfl, rfl, hq, hy, hno, q⟩ := h
  cases rx
  obtain ⟨u, hu, t, ht⟩ := vals1 rs
  subst hu ht
  obtain ⟨its, r, pl, hz⟩ := I.tuple hq
  obtain ⟨ob, ho, hc, n, hd⟩ := pl
  obtain ⟨cls, dd, dt, sl⟩ := ob
  simp only at hc hd
  subst hc hd
  have hl : its.toArray.size = ys.length := by rw [List.size_toArray, ← r.length, List.length_map]
  have hj : j < its.toArray.size := by rw [hl]; exact (List.getElem?_eq_some_iff.mp hy).1
  have look : ∀ (m : Nat) (hm : m < its.toArray.size), ∃ y t', ys[m]? = some y ∧ its.toArray[m] = Value.int y t' := fun m hm => by
    have hm' : m < ys.length := by rw [← hl]; exact hm
    obtain ⟨w, hw, t', hw'⟩ := r.get (i := m) (x := .int ys[m]) (by simp [hm'])
    refine ⟨ys[m], t', List.getElem?_eq_getElem hm', ?_⟩
    have e := (List.getElem?_eq_some_iff.mp hw).2
    rw [← hw', ← e]
    simp
  have hit : eqU (.int z) its.toArray[j] = true := by
    obtain ⟨y, t', h1, h2⟩ := look j hj
    rw [hy] at h1
    cases h1
    rw [h2]
    show (z == z) = true
    exact beq_self_eq_true z
  have miss : ∀ m (hm : m < its.toArray.size), m < j → eqU (.int z) its.toArray[m] = false := by
    intro m hm hmj
    obtain ⟨y, t', h1, h2⟩ := look m hm
    rw [h2]
    show (y == z) = false
    refine beq_eq_false_iff_ne.mpr fun e => hno m hmj ?_
    rw [h1, e]
  exact call_meets PySem.F.slot_tuple_index ⟨_, ho, rfl⟩ PySem.F.entry_tuple_index (PySem.F.args_tuple_index_2 _ _) (_root_.TI.tuple_indexAt p its.toArray n dd sl (.int z t) (eqU (.int z)) j hj hit miss)
    ⟨ho, fun w hw => mem_eqAt (x := .int z) ⟨t, rfl⟩ rfl r (flat_ints ys) w (by simpa using hw), ⟨.int (j : Nat), H, I.tok _, ⟨_, rfl⟩, q⟩⟩
/-- f(e, ..), f a local name that holds the class at C -/
def tMkV (i : Nat) (C : Addr) (sp : Sp) (E : XK) (t : TA) : TE := fun σ H Q => σ[i]? = some (some (.ref C)) ∧ StX.tMakeR C sp E t σ H Q
theorem pe_mkV {X : Cx} {CX : CXT} {k i : Nat} {f C : Addr} {sp : Sp} {E : XK} {x : Str} {e : Expr} {es : List Expr} {t : TA} {p pos : Pos} (M : Mk X.K C f) (F : FnR X.prog X.w X.K X.mg X.base CX k f sp) (hr : Room (k + 1) X.A) (hx : Passes CX X E) (hN : X.N[i]? = some x) (hv : Vis X.env.scope x) (ha : PA X (e :: es) t)
    (hd : (x == ("__debug__" : Str)) = false := by decide) (hcd : (x == ("__classdict__" : Str)) = false := by decide)
    (he : starEach (e :: es) X.env = (false, eval e X.env) :: starEach es X.env := by rfl) (hpl : (backTo pos (starEach es X.env)).any (·.1) = false := by rfl) : PE X (.Call (.Name x p) (e :: es) [] pos) (tMkV i C sp E t) := by
  refine ⟨fun pins s σ H Q I h => ?_⟩
  obtain ⟨hs, h⟩ := h
  refine wpAny_Call_Name_kw (thn ((pe_var (pos := p) (i := i) hN hv hd hcd).run pins s σ H (fun v H1 => v = .ref C ∧ H1 = H) I ⟨.ref C, hs, rfl, rfl⟩) fun u s1 ⟨v, H1, I1, r1, ev, eH⟩ => ?_)
  subst ev eH
  cases r1
  refine PySem.W.callWith_K (h₀ := X.base) I.ok.mod.kin M.kp (thn (ha.run pos pins s1 σ _ _ I1 h) fun us s2 ⟨vs, H2, I2, r, q⟩ => ⟨I2.kIn, ?_⟩) he hpl
  exact StX.run_makeR M F hr hx I2 r q
end K9
/-! text L2 -/
set_option Elab.async false
set_option linter.all false
set_option maxRecDepth 100000
set_option maxHeartbeats 4000000
set_option autoImplicit false
/-! own rules of the machine: tuple times 0 or 1, sorted(tuple of ints) -/
namespace K9
open PySem PySem.Spec PyProof.Rows L2 LamX
open AutoSeq1 (wpAny_loadPart')
/-- a tuple times one is the tuple -/
theorem tup_mul1 (l : Addr) (items : Array Value) (n : Nat) (dd : Option Addr) (sl : Array (Option Value)) (u : Tok) :
    Meets (Builtin.«tuple.__mul__» ⟨[.ref l, .int 1 u], []⟩) (fun _ R s => s.heap.get? l = some { cls := .type "tuple", dict := dd, data := .seq items n, slots := sl } ∧ R (.ok (.ret (Value.ref l))) s) :=
  .of_wp fun prog w A R s h => by
    obtain ⟨hp, g, d, tk, os⟩ := s
    obtain ⟨hl, h⟩ := h
    have hix := AutoSeq1.idx_int
    have c1 : (items.isEmpty || (1 : Int) == 1) = true := by cases items.isEmpty <;> rfl
    wp_walk using wpAny_loadPart' hl
    all_goals first
      | exact ⟨_, rfl, h⟩
      | (simp only [c1, if_true]; wp_walk using wpAny_loadPart' hl; exact ⟨_, rfl, h⟩)
/-- a tuple, not empty, times nothing -/
theorem tup_mul0 (l : Addr) (items : Array Value) (n : Nat) (dd : Option Addr) (sl : Array (Option Value)) (u : Tok) (hne : items.isEmpty = false) :
    Meets (Builtin.«tuple.__mul__» ⟨[.ref l, .int 0 u], []⟩) (fun _ R s => s.heap.get? l = some { cls := .type "tuple", dict := dd, data := .seq items n, slots := sl } ∧
      R (.ok (.ret (Value.ref s.heap.objs.size))) { s with heap := s.heap.push { cls := Value.type "tuple", data := Data.seq #[] }, toks := s.toks }) :=
  .of_wp fun prog w A R s h => by
    obtain ⟨hp, g, d, tk, os⟩ := s
    obtain ⟨hl, h⟩ := h
    have hix := AutoSeq1.idx_int
    have c1 : (items.isEmpty || (0 : Int) == 1) = false := by rw [hne]; rfl
    have c2 : (decide ((0 : Int) ≤ 0) || items.isEmpty) = true := by rfl
    wp_walk using wpAny_loadPart' hl
    exact ⟨_, rfl, h⟩
/-- a tuple times 0 or 1 -/
def rRep01 (K : PySem.W.Frag) : R2 := fun x y H Q => ∃ (l : Addr) (k : Int) (xs : List V), x = .ref l ∧ y = .int k ∧ SqT K H l xs ∧ xs ≠ [] ∧ ((k = 1 ∧ Q (.ref l) H) ∨ (k = 0 ∧ ∀ p, H p = none → Q (.ref p) (upd H p (.tup []))))
theorem op_rep01 {X : Cx} : OpR X (binaryOp .Mult) (rRep01 X.K) := by
  intro pins s σ H x y v u Q I rx ry h
  obtain ⟨l, k, xs, rfl, rfl, hT, hne, q⟩ := h
  cases rx
  obtain ⟨t, ht⟩ := ry
  subst ht
  obtain ⟨its, r, ⟨ob, ho, hc, n, hd⟩, hs⟩ := I.tuple hT
  obtain ⟨cls, dd, data, sl⟩ := ob
  simp only at hc hd
  subst hc hd
  have hi : its.toArray.isEmpty = false := by
    cases its with
    | nil =>
      cases r
      exact absurd rfl hne
    | cons a b => rfl
  have go : ∀ (k : Int) (R : Value → Shared → Prop), wpAny (model X.prog X.w) X.A (call (.builtin "tuple.__mul__") [.ref l, .int k t]) R X.xe s → wpAny (model X.prog X.w) X.A (binaryOp .Mult (.ref l) (.int k t)) R X.xe s := fun k R hk =>
    wpAny_binaryOp_repeat_ref (T := "tuple") (U := "int") (by decide) ⟨_, ho, rfl⟩ (fun s' => typeIs_int s' k t) noFill_tuple_mul PySem.F.fills_int_mul PySem.F.slot_int_rmul repeat_tuple PySem.F.slot_int_index.lookup
      (call_meets PySem.F.slot_int_rmul (typeIs_int s k t) PySem.F.entry_int_rmul (PySem.F.args_int_rmul_2 _ _) (int_rmul_tuple k t l its.toArray n dd sl) ⟨ho, rfl, ⟨_, ho, rfl⟩, hk⟩)
  rcases q with ⟨rfl, q⟩ | ⟨rfl, q⟩
  · exact go 1 _ (call_meets PySem.F.slot_tuple_mul ⟨_, ho, rfl⟩ PySem.F.entry_tuple_mul (PySem.F.args_tuple_mul_2 _ _) (tup_mul1 l its.toArray n dd sl t) ⟨ho, ⟨.ref l, H, I, rfl, q⟩⟩)
  · refine go 0 _ (call_meets PySem.F.slot_tuple_mul ⟨_, ho, rfl⟩ PySem.F.entry_tuple_mul (PySem.F.args_tuple_mul_2 _ _) (tup_mul0 l its.toArray n dd sl t hi) ⟨ho, ?_⟩)
    refine ⟨.ref s.heap.objs.size, _, I.laid (t' := s.toks) (o := .tup []) (fun b ob q => Heap.get?_push_of_some _ q) (Nat.le_refl _) ?_, rfl, q _ (I.hok.fresh (Nat.le_refl _))⟩
    exact ⟨Nat.zero_le _, [], .nil, IsTup.new _ _⟩
/-- sorted(t), a tuple of ints -/
def rSrtT (K : PySem.W.Frag) : List V → Hp → VK → Prop := fun vs H Q => ∃ (a : Addr) (ns : List Int), vs = [V.ref a] ∧ SqT K H a (ns.map V.int) ∧ ∀ (ns' : List Int) (p : Addr), ns'.Perm ns → ns'.Pairwise (· ≤ ·) → H p = none → Q (.ref p) (upd H p (.lst (ns'.map V.int)))
theorem cr_srtT {X : Cx} : CallR X (.builtin "sorted") (rSrtT X.K) := by
  intro pins s σ H vs us Q I r h
  obtain ⟨a, ns, rfl, hs, q⟩ := h
  obtain ⟨its, rv, pl, hz⟩ := I.tuple hs
  have hlen : its.length ≤ sizeLine := by rw [← rv.length]; exact hz
  rw [Vals.ref1 r]
  have hi := rv.ints
  obtain ⟨o, ho, hc, n, hd⟩ := pl
  refine Calls.call_function_entry kind_sorted plain_sorted entry_sorted (args_sorted1 _) ?_
  unfold Builtin.«sorted»
  refine wpAny_bind (m := checkCount "sorted" 1 1 _) (wpAny_pure ?_)
  refine wpAny_bind (wpAny_collect_seq (T := "tuple") a (.inr rfl) ho hc hd (fun h' hk => ?_) (by rw [List.size_toArray]; exact hlen))
  rw [show its.toArray.toList = its by simp]
  refine wpAny_bind (wpAny_newList ?_ hlen)
  have hoL : (h'.push (seqObj "list" its.toArray 0)).get? h'.objs.size = some (seqObj "list" its.toArray 0) := Heap.get?_push_size _ rfl
  have I1 : Inv X pins σ H { s with heap := h' } := I.kept (t' := s.toks) hk
  refine wpAny_bind (wpAny_holding (wpAny_call_entry slot_list_sort ⟨_, hoL, rfl⟩ entry_list_sort
    (list_sort_treeAny hoL hi hlen fun out ns' k1 k2 k3 => ⟨.none, rfl, ?_⟩) (args_list_sort _)))
  obtain ⟨ep, he⟩ := sortedHeap_at (vs := its) (out := out) hoL
  have hl2 : (ns'.map V.int).length ≤ sizeLine := by
    rw [List.length_map, k2.length_eq]
    rw [List.length_map] at hz
    exact hz
  refine wpAny_pure ⟨_, rfl, .ref h'.objs.size, upd H h'.objs.size (.lst (ns'.map V.int)), I1.laid (t' := s.toks) (fun b u e => ?_) (Nat.le_refl _) ⟨hl2, out.toList, ep, vals_of_ints k1, he⟩, rfl, q ns' _ k2 k3 (I1.hok.fresh (Nat.le_refl _))⟩
  have hb := Heap.lt_size e
  rw [sortedHeap_old (Nat.ne_of_lt hb) (by rw [size_push']; exact Nat.lt_succ_of_lt hb)]
  exact Heap.get?_push_of_some _ e
end K9
/-! text L3 -/
set_option Elab.async false
set_option linter.all false
set_option maxRecDepth 100000
set_option maxHeartbeats 4000000
set_option autoImplicit false
/-! own walks: zip(list, tuple), enumerate(tuple) -/
namespace K9
open PySem PySem.Spec PyProof.Rows L2 LamX
open AutoSeq1 (wpAny_loadPart')
theorem sep_of {z TI TO i1 i2 a b : Addr} (D : ZipApart z TI TO i1 i2 a b) : ZipSep2 z TI TO i1 i2 [i1, a] [i2, b] where
  TIz := D.TIz
  TOz := D.TOz
  TITO := D.TITO
  TIi1 := D.TIi1
  mem1 := List.mem_cons_self
  zf1 := by simp [D.i1z.symm, D.l1z.symm]
  Tf1 := by simp [D.TOi1, D.l1TO.symm]
  TIi2 := D.TIi2
  mem2 := List.mem_cons_self
  zf2 := by simp [D.i2z.symm, D.l2z.symm]
  Tf2 := by simp [D.TOi2, D.l2TO.symm]
  sep1_2 := by simp [D.i12, D.l2i1.symm]
  sep2_1 := by simp [D.i12.symm, D.l1i2.symm]
/-- the list at a, the tuple at b -/
def ItzM (K : PySem.W.Frag) (a b : Addr) : It :=
  ⟨fun i H => ∃ (xs ys : List V) (x y : V), SqL K H a xs ∧ SqT K H b ys ∧ xs[i]? = some x ∧ ys[i]? = some y,
    fun i H v H' => ∃ T x y, v = .ref T ∧ H T = none ∧ H' = upd H T (.tup [x, y]) ∧ (∀ xs, SqL K H a xs → xs[i]? = some x) ∧ (∀ ys, SqT K H b ys → ys[i]? = some y),
    fun i H => ∃ xs ys : List V, SqL K H a xs ∧ SqT K H b ys ∧ i = min xs.length ys.length⟩
theorem turn_zipM {P : Program} {w : World} {K : PySem.W.Frag} {elts : List Expr} {kk : Nat} {tpos : Pos} {a b z TI TO i1 i2 : Addr} (D : ZipApart z TI TO i1 i2 a b) :
    Turn P w K (.Tuple elts kk tpos) (ItzM K a b) [z, TI, TO, i1, i2] z (fun i h => (IsZip h z TI TO .none ∧ IsTupOf2 h TI (.ref i1) (.ref i2)) ∧ (∃ x y, IsTupOf2 h TO x y) ∧ h.IsListIter i1 a i ∧ h.IsTupleIter i2 b i) where
  mem := List.mem_cons_self
  obj := fun i h st c hc => by
    obtain ⟨⟨hz, hTI⟩, ⟨x, y, hTO⟩, ⟨o1, e1, _, d1⟩, o2, e2, _, d2⟩ := st
    simp only [List.mem_cons, List.not_mem_nil, or_false] at hc
    rcases hc with rfl | rfl | rfl | rfl | rfl
    · exact ⟨_, hz, fun v q => nomatch q⟩
    · exact ⟨_, hTI, fun v q => nomatch q⟩
    · exact ⟨_, hTO, fun v q => nomatch q⟩
    · exact ⟨o1, e1, fun v q => by rw [d1] at q; cases q⟩
    · exact ⟨o2, e2, fun v q => by rw [d2] at q; cases q⟩
  keep := fun i h h' st k => by
    obtain ⟨⟨hz, hTI⟩, ⟨x, y, hTO⟩, h1, h2⟩ := st
    have k1 := k z (by simp) _ hz
    have k2 := k TI (by simp) _ hTI
    have k3 := k TO (by simp) _ hTO
    exact ⟨⟨k1, k2⟩, ⟨x, y, k3⟩, h1.at fun o q => k i1 (by simp) o q, h2.at fun o q => k i2 (by simp) o q⟩
  item := by
    intro X hP hw hK hc i pins s σ H E I hf st hg
    subst hP hw hK
    obtain ⟨⟨hz, hTI⟩, ⟨x0, y0, hTO⟩, h1, h2⟩ := st
    obtain ⟨xs, ys, x, y, hqx, hqy, hx, hy⟩ := hg
    obtain ⟨as, rv, p, _⟩ := I.list hqx
    obtain ⟨bs, rv2, p2, _⟩ := I.tuple hqy
    obtain ⟨u, hu, ru⟩ := rv.get hx
    obtain ⟨u2, hu2, ru2⟩ := rv2.get hy
    have lt1 : i < as.toArray.size := by simpa using (List.getElem?_eq_some_iff.mp hu).1
    have lt2 : i < bs.toArray.size := by simpa using (List.getElem?_eq_some_iff.mp hu2).1
    have low : ∀ c ∈ [z, TI, TO, i1, i2], c < s.heap.objs.size := fun c hcm => by
      simp only [List.mem_cons, List.not_mem_nil, or_false] at hcm
      rcases hcm with rfl | rfl | rfl | rfl | rfl
      · exact Heap.lt_size hz
      · exact Heap.lt_size hTI
      · exact Heap.lt_size hTO
      · exact (let ⟨_, q, _⟩ := h1; Heap.lt_size q)
      · exact (let ⟨_, q, _⟩ := h2; Heap.lt_size q)
    have hzl := low z (by simp)
    have hd : X.A.in1.handled = none := I.ok.hd hc
    refine wpAny_pyNext_zipD2_item (sep_of D) (Draws.list (A := X.A.in1) hd i1 a D.l1i1 as.toArray) (Draws.tuple (A := X.A.in1) hd i2 b D.l2i2 bs.toArray) hz hTI hTO ⟨h1, p.isList⟩ ⟨h2, p2⟩ lt1 lt2 fun v1 v2 h' tk g1 g2 nz nTO n1 n2 nT hsz hk => ?_
    have ev1 : v1 = u := by
      have g1 : as.toArray[i]? = some v1 := g1
      rw [List.getElem?_toArray, hu] at g1
      exact (Option.some.inj g1).symm
    have ev2 : v2 = u2 := by
      have g2 : bs.toArray[i]? = some v2 := g2
      rw [List.getElem?_toArray, hu2] at g2
      exact (Option.some.inj g2).symm
    subst ev1 ev2
    refine ⟨_, rfl, wpAny_letOwnedTupleGo_zip (s := { s with heap := h', toks := tk }) nz fun h'' mz sb => ?_⟩
    have mT : h''.get? s.heap.objs.size = some { cls := .type "tuple", data := .seq #[v1, v2] } := (sb.2 _ (Nat.ne_of_gt hzl)).trans nT
    have far : ∀ c o, c ∉ [z, TI, TO, i1, i2] → s.heap.get? c = some o → h''.get? c = some o := fun c o hn q => by
      simp only [List.mem_cons, List.not_mem_nil, or_false, not_or] at hn
      exact (sb.2 c hn.1).trans (hk c o hn.1 hn.2.2.1 hn.2.2.2.1 hn.2.2.2.2 q)
    have J : Inv X pins σ (upd H s.heap.objs.size (.tup [x, y])) { s with heap := h'', toks := tk } :=
      I.turnedNew (ch := [z, TI, TO, i1, i2]) far hf (Nat.le_refl _) ⟨by show 2 ≤ sizeLine; decide, [v1, v2], .cons ru (.cons ru2 .nil), _, mT, rfl, _, rfl⟩
    refine ⟨.ref s.heap.objs.size, _, J, rfl, ⟨_, x, y, rfl, I.hok.fresh (Nat.le_refl _), rfl, fun l hl => ?_, fun l hl => ?_⟩, ⟨⟨mz, ?_⟩, ⟨v1, v2, ?_⟩, ?_, ?_⟩, fun c hcm => ?_⟩
    · rw [I.list_inj hl hqx]
      exact hx
    · rw [I.tuple_inj hl hqy]
      exact hy
    · exact (sb.2 _ D.TIz).trans (hk _ _ D.TIz D.TITO D.TIi1 D.TIi2 hTI)
    · exact (sb.2 _ D.TOz).trans nTO
    · exact n1.1.at fun o q => (sb.2 _ D.i1z).trans q
    · exact n2.1.at fun o q => (sb.2 _ D.i2z).trans q
    · rw [upd_ne (Nat.ne_of_lt (low c hcm))]
      exact (hf c hcm).1
  done := by
    intro X hP hw hK hc i pins s σ H E I hf st hg
    subst hP hw hK
    obtain ⟨⟨hz, hTI⟩, ⟨x0, y0, hTO⟩, h1, h2⟩ := st
    obtain ⟨xs, ys, hqx, hqy, hend⟩ := hg
    obtain ⟨as, rv, p, _⟩ := I.list hqx
    obtain ⟨bs, rv2, p2, _⟩ := I.tuple hqy
    have l1 : as.toArray.size = xs.length := by rw [List.size_toArray]; exact rv.length.symm
    have l2 : bs.toArray.size = ys.length := by rw [List.size_toArray]; exact rv2.length.symm
    have hd : X.A.in1.handled = none := I.ok.hd hc
    refine wpAny_pyNext_zipD2_end (sep_of D) (Draws.list (A := X.A.in1) hd i1 a D.l1i1 as.toArray) (Draws.tuple (A := X.A.in1) hd i2 b D.l2i2 bs.toArray) hz hTI hTO ⟨h1, p.isList⟩ ⟨h2, p2⟩ (by omega) (by omega) (by omega) fun h' tk hk => ⟨rfl, ?_⟩
    refine I.turnedL (t' := tk) (ch := [z, TI, TO, i1, i2]) (fun c o hn q => ?_) hf
    simp only [List.mem_cons, List.not_mem_nil, or_false, not_or] at hn
    exact hk c o hn.1 hn.2.2.1 hn.2.2.2.1 hn.2.2.2.2 q
  self := fun A i s Q E st h => wpAny_pyIter_zip st.1.1 h
def iZipM (K : PySem.W.Frag) (ta : TA) : TI := fun σ H R => ta σ H fun vs H1 => ∃ a b xs ys, vs = [.ref a, .ref b] ∧ SqL K H1 a xs ∧ SqT K H1 b ys ∧ R (ItzM K a b) H1
theorem pi_zipM {X : Cx} {e e2 : Expr} {ta : TA} {p pos tpos : Pos} {elts : List Expr} {kk : Nat} (hg : Gl X "zip") (hm : X.mg "zip" = none) (ha : PA X [e, e2] ta)
    (hs : starEach [e, e2] X.env = (false, eval e X.env) :: starEach [e2] X.env := by rfl) (hpl : (backTo pos (starEach [e2] X.env)).any (·.1) = false := by rfl) :
    PI X (.Tuple elts kk tpos) (.Call (.Name "zip" p) [e, e2] [] pos) (iZipM X.K ta) := by
  refine ⟨fun pins s σ H R I h => ?_⟩
  refine Call_ (ld_blt I hg hm PyProof.Rows.boot_zip (PyProof.Rows.callWith_type1 (thn (ha.run pos pins s σ H _ I h) fun us s1 ⟨vs, H1, I1, r1, q1⟩ => ?_) hs hpl))
  obtain ⟨a, b, xs, ys, ex, hqx, hqy, q⟩ := q1
  subst ex
  obtain ⟨u1, u2, eu, k1, k2⟩ := vals2 r1
  subst eu
  cases (show u1 = Value.ref a from k1)
  cases (show u2 = Value.ref b from k2)
  obtain ⟨as, rv, p1, _⟩ := I1.list hqx
  obtain ⟨bs, rv2, p2, _⟩ := I1.tuple hqy
  have la : a < s1.heap.objs.size := p1.lt
  have lb : b < s1.heap.objs.size := (let ⟨_, q, _⟩ := p2; Heap.lt_size q)
  refine zip_begins2 (begins_list a as.toArray) (begins_tuple b bs.toArray) p1.isList p2 fun h' hz hTI hTO n1 n2 hsz hk => wpAny_pyIter_zip hz ?_
  have I2 : Inv X pins σ H1 { s1 with heap := h' } := I1.kept (t' := s1.toks) hk
  refine ⟨s1.heap.objs.size + 4, [s1.heap.objs.size + 4, s1.heap.objs.size + 2, s1.heap.objs.size + 3, s1.heap.objs.size, s1.heap.objs.size + 1], _, _, H1, rfl, I2, turn_zipM (PySem.W.ktu_apart s1.heap.objs.size a b la lb), ⟨⟨hz, hTI⟩, ⟨_, _, hTO⟩, ⟨_, n1, rfl, rfl⟩, _, n2, rfl, rfl⟩, fun c hcm => ?_, q⟩
  have hle : s1.heap.objs.size ≤ c := by
    simp only [List.mem_cons, List.not_mem_nil, or_false] at hcm
    rcases hcm with e | e | e | e | e <;> rw [e] <;> first | exact Nat.le_refl _ | exact Nat.le_add_right _ _
  exact I1.fpOk hle (I1.hok.fresh hle)
/-! ### enumerate(tuple) -/
theorem enum_new (l : Addr) (items : Array Value) :
    Meets (Builtin.«enumerate.__new__» ⟨[.type "enumerate", .ref l], []⟩) (fun _ R s => s.heap.IsTuple l items ∧
      R (.ok (.ret (.ref (s.heap.push { cls := .type "tuple_iterator", data := .fields #[.ref l, .int 0 0] }).objs.size)))
        { s with heap := (s.heap.push { cls := .type "tuple_iterator", data := .fields #[.ref l, .int 0 0] }).push { cls := .type "enumerate", data := .fields #[.none, .bool false, .ref s.heap.objs.size, rawInt 0, .none, .none] } }) :=
  .of_wp fun prog w A R s h => by
    obtain ⟨hp, g, d, tk, os⟩ := s
    obtain ⟨hl, h⟩ := h
    have hsub := sub_enumerate
    have hT : Heap.IsTuple (Shared.heap ⟨hp, g, d, tk, os⟩) l items := hl
    wp_walk using wpAny_pyIter_tuple hT
    refine wpAny_stack_any fun st => wpAny_pure ?_
    split
    · rename_i c _ _ _ _ _
      cases (c == Value.type "enumerate") <;> (wp_walk using wpAny_pyIter_tuple hT; exact ⟨_, rfl, h⟩)
    · wp_walk using wpAny_pyIter_tuple hT
      exact ⟨_, rfl, h⟩
/-- the tuple at a -/
def IteT (K : PySem.W.Frag) (a : Addr) : It :=
  ⟨fun i H => ∃ (xs : List V) (x : V), SqT K H a xs ∧ xs[i]? = some x, fun i H v H' => ∃ T x, v = .ref T ∧ H T = none ∧ H' = upd H T (.tup [.int (i : Nat), x]) ∧ (∀ xs, SqT K H a xs → xs[i]? = some x), fun i H => ∃ xs : List V, SqT K H a xs ∧ xs.length = i⟩
theorem turn_enumT {P : Program} {w : World} {K : PySem.W.Frag} {elts : List Expr} {kk : Nat} {tpos : Pos} (a e it : Addr) :
    Turn P w K (.Tuple elts kk tpos) (IteT K a) [e, it] e (fun i h => (∃ old, IsEnum h e it ((i : Nat) : Int) old) ∧ h.IsTupleIter it a i ∧ e ≠ it ∧ e ≠ a ∧ a ≠ it) where
  mem := List.mem_cons_self
  obj := fun i h st b hb => by
    obtain ⟨⟨old, he⟩, ⟨o, ho, hc, hd⟩, _⟩ := st
    simp only [List.mem_cons, List.not_mem_nil, or_false] at hb
    rcases hb with rfl | rfl
    · exact ⟨_, he, fun v q => nomatch q⟩
    · exact ⟨o, ho, fun v q => by rw [hd] at q; cases q⟩
  keep := fun i h h' st k => by
    obtain ⟨⟨old, he⟩, hi, hn⟩ := st
    exact ⟨⟨old, k e (by simp) _ he⟩, hi.at fun o q => k it (by simp) o q, hn⟩
  item := by
    intro X hP hw hK hc i pins s σ H E I hf st hg
    subst hP hw hK
    obtain ⟨⟨old, he⟩, hit, hne, hea, hai⟩ := st
    obtain ⟨xs, x, hq, hx⟩ := hg
    obtain ⟨as, rv, p, _⟩ := I.tuple hq
    obtain ⟨u, hu, ru⟩ := rv.get hx
    have lt : i < as.toArray.size := by simpa using (List.getElem?_eq_some_iff.mp hu).1
    have low : ∀ c ∈ [e, it], c < s.heap.objs.size := fun c hcm => by
      simp only [List.mem_cons, List.not_mem_nil, or_false] at hcm
      rcases hcm with rfl | rfl
      · exact Heap.lt_size he
      · exact (let ⟨_, q, _⟩ := hit; Heap.lt_size q)
    have hel := low e (by simp)
    have hd : X.A.in1.handled = none := I.ok.hd hc
    refine wpAny_pyNext_enum_itemD (Draws.tuple (A := X.A.in1) hd it a hai as.toArray) he ⟨hit, p⟩ lt hne (by simp [hne, hea]) fun v h' tk g1 ho n1 nT hsz hk => ?_
    have ev : v = u := by
      have g1 : as.toArray[i]? = some v := g1
      rw [List.getElem?_toArray, hu] at g1
      exact (Option.some.inj g1).symm
    subst ev
    refine ⟨_, rfl, wpAny_letOwnedTupleGo_enum (s := { s with heap := h', toks := tk + 1 }) ho fun h'' me sb => ?_⟩
    have mT : h''.get? s.heap.objs.size = some { cls := .type "tuple", data := .seq #[.int i tk, v] } := (sb.2 _ (Nat.ne_of_gt hel)).trans nT
    have far : ∀ c o, c ∉ [e, it] → s.heap.get? c = some o → h''.get? c = some o := fun c o hn q => by
      simp only [List.mem_cons, List.not_mem_nil, or_false, not_or] at hn
      exact (sb.2 c hn.1).trans (hk c o hn.1 hn.2 q)
    have J : Inv X pins σ (upd H s.heap.objs.size (.tup [.int (i : Nat), x])) { s with heap := h'', toks := tk + 1 } :=
      I.turnedNew (ch := [e, it]) far hf (Nat.le_refl _) ⟨by show 2 ≤ sizeLine; decide, [.int i tk, v], .cons ⟨_, rfl⟩ (.cons ru .nil), _, mT, rfl, _, rfl⟩
    refine ⟨.ref s.heap.objs.size, _, J, rfl, ⟨_, x, rfl, I.hok.fresh (Nat.le_refl _), rfl, fun l hl => ?_⟩, ⟨⟨v, ?_⟩, n1.1.at fun o q => (sb.2 it hne.symm).trans q, hne, hea, hai⟩, fun c hcm => ?_⟩
    · rw [I.tuple_inj hl hq]
      exact hx
    · rw [show ((i + 1 : Nat) : Int) = (i : Int) + 1 by omega]
      exact me
    · rw [upd_ne (Nat.ne_of_lt (low c hcm))]
      exact (hf c hcm).1
  done := by
    intro X hP hw hK hc i pins s σ H E I hf st hg
    subst hP hw hK
    obtain ⟨⟨old, he⟩, hit, hne, hea, hai⟩ := st
    obtain ⟨xs, hq, hx⟩ := hg
    obtain ⟨as, rv, p, _⟩ := I.tuple hq
    have l1 : as.toArray.size = i := by rw [List.size_toArray, ← hx]; exact rv.length.symm
    subst l1
    have hd : X.A.in1.handled = none := I.ok.hd hc
    obtain ⟨f0, f1, f2, f3, f4, f5⟩ := hf it (by simp)
    exact wpAny_pyNext_enum_endD (Draws.tuple (A := X.A.in1) hd it a hai as.toArray) he ⟨hit, p⟩ fun h' eb => ⟨rfl, I.turned (t' := s.toks) (fun b o hb q => eb b o hb q) f0 f1 f3 f4 f5⟩
  self := fun A i s Q E st h => let ⟨⟨_, he⟩, _⟩ := st; wpAny_pyIter_enum he h
def iEnumT (K : PySem.W.Frag) (ta : TA) : TI := fun σ H R => ta σ H fun vs H1 => ∃ a xs, vs = [.ref a] ∧ SqT K H1 a xs ∧ R (IteT K a) H1
theorem pi_enumT {X : Cx} {e : Expr} {ta : TA} {p pos tpos : Pos} {elts : List Expr} {kk : Nat} (hg : Gl X "enumerate") (hm : X.mg "enumerate" = none) (ha : PA X [e] ta) (hs : starEach [e] X.env = [(false, eval e X.env)] := by rfl) :
    PI X (.Tuple elts kk tpos) (.Call (.Name "enumerate" p) [e] [] pos) (iEnumT X.K ta) := by
  refine ⟨fun pins s σ H R I h => ?_⟩
  refine Call_ (ld_blt I hg hm boot_enumerate (PyProof.Rows.callWith_type1 (thn (ha.run pos pins s σ H _ I h) fun us s1 ⟨vs, H1, I1, r1, q1⟩ => ?_) hs rfl))
  obtain ⟨a, xs, ex, hq, q⟩ := q1
  subst ex
  obtain ⟨u1, eu, k1⟩ := vals1 r1
  subst eu
  cases (show u1 = Value.ref a from k1)
  obtain ⟨as, rv, p', _⟩ := I1.tuple hq
  have la : a < s1.heap.objs.size := (let ⟨_, q, _⟩ := p'; Heap.lt_size q)
  refine callType_new PySem.F.called_enumerate (by decide) (PySem.F.typeCall_enumerate_1 _) (PySem.F.newCall_enumerate_1 _) (fun obj => PySem.F.args_object_init_2 obj _) PySem.F.entry_enumerate_new
    (enum_new a as.toArray) ⟨p', ?_⟩
  have hz : (s1.heap.push { cls := .type "tuple_iterator", data := .fields #[.ref a, .int 0 0] }).objs.size = s1.heap.objs.size + 1 := Heap.size_push ..
  have ge := Heap.get?_push_size (s1.heap.push { cls := .type "tuple_iterator", data := .fields #[.ref a, .int 0 0] }) (o := { cls := .type "enumerate", data := .fields #[.none, .bool false, .ref s1.heap.objs.size, rawInt 0, .none, .none] }) rfl
  rw [hz] at ge
  show _ ∧ _
  rw [hz]
  refine ⟨⟨_, ge, rfl⟩, wpAny_pyIter_enum ge ?_⟩
  have kp : ∀ b o, s1.heap.get? b = some o → ((s1.heap.push { cls := .type "tuple_iterator", data := .fields #[.ref a, .int 0 0] }).push { cls := .type "enumerate", data := .fields #[.none, .bool false, .ref s1.heap.objs.size, rawInt 0, .none, .none] }).get? b = some o := fun b o q => Heap.get?_push_of_some _ (Heap.get?_push_of_some _ q)
  refine ⟨s1.heap.objs.size + 1, [s1.heap.objs.size + 1, s1.heap.objs.size], _, _, H1, rfl, I1.kept (t' := s1.toks) kp, turn_enumT a (s1.heap.objs.size + 1) s1.heap.objs.size,
    ⟨⟨.none, ge⟩, ⟨_, Heap.get?_push_of_some _ (Heap.get?_push_size _ rfl), rfl, rfl⟩, Nat.succ_ne_self _, Nat.ne_of_gt (Nat.lt_succ_of_lt la), Nat.ne_of_lt la⟩, fun b hb => ?_, q⟩
  have hle : s1.heap.objs.size ≤ b := by
    simp only [List.mem_cons, List.not_mem_nil, or_false] at hb
    rcases hb with e | e <;> rw [e] <;> first | exact Nat.le_refl _ | exact Nat.le_add_right _ _
  exact I1.fpOk hle (I1.hok.fresh hle)
end K9
/-! text L4 -/
set_option Elab.async false
set_option linter.all false
set_option maxRecDepth 100000
set_option maxHeartbeats 4000000
set_option autoImplicit false
/-! own rule: a tuple backwards, t[::-1] -/
namespace K9
open PySem PySem.Spec PyProof.Rows L2 LamX
theorem places_back (n : Nat) : Builtin.Slice.slicePlaces ((n : Int) - 1) (-1) (-1) = n := by
  unfold Builtin.Slice.slicePlaces
  rw [if_neg (by decide)]
  by_cases h : n = 0
  · subst h
    rfl
  · rw [if_pos (by omega)]
    have e : ((n : Int) - 1 - -1 - 1) / (- -1) + 1 = n := by
      have e1 : (n : Int) - 1 - -1 - 1 = n - 1 := by omega
      rw [e1, show (- -1 : Int) = 1 by decide, Int.ediv_one]
      omega
    rw [e]
    omega
theorem filterMap_all {α β : Type} {f : α → Option β} {g : α → β} : ∀ {l : List α}, (∀ x ∈ l, f x = some (g x)) → l.filterMap f = l.map g
  | [], _ => rfl
  | x :: l, h => by
    rw [List.filterMap_cons_some (h x List.mem_cons_self), List.map_cons, filterMap_all fun y hy => h y (List.mem_cons_of_mem _ hy)]
theorem pick_back (xs : Array Value) : ((List.range xs.size).filterMap fun (k : Nat) => xs[((xs.size : Int) - 1 + (k : Int) * (-1)).toNat]?).toArray = xs.toList.reverse.toArray := by
  congr 1
  have e : ∀ k ∈ List.range xs.size, xs[((xs.size : Int) - 1 + (k : Int) * (-1)).toNat]? = some (xs[xs.size - 1 - k]?.getD .none) := fun k hk => by
    have hk := List.mem_range.mp hk
    have e1 : ((xs.size : Int) - 1 + (k : Int) * (-1)).toNat = xs.size - 1 - k := by omega
    rw [e1, Array.getElem?_eq_getElem (by omega)]
    rfl
  rw [filterMap_all e]
  apply List.ext_getElem?
  intro j
  by_cases hj : j < xs.size
  · rw [List.getElem?_map, List.getElem?_range hj, List.getElem?_reverse (by simpa using hj)]
    simp only [Option.map_some]
    rw [Array.getElem?_eq_getElem (by omega), Option.getD_some]
    simp
  · rw [List.getElem?_eq_none (by simp; omega), List.getElem?_eq_none (by simp; omega)]
section
variable {prog : Program} {w : World} {A : Around} {E : Value → Shared → Prop} {s : Shared}
theorem applied_back {sl : Addr} {vl vu vs : Value} {n : Nat} {Q : Int × Int × Nat → Shared → Prop} (hs : s.heap.IsSliceOf sl vl vu vs) (pl : IsPart vl none) (pu : IsPart vu none) (ps : IsPart vs (some (-1)))
    (h : Q ((n : Int) - 1, -1, n) s) : wpAny (model prog w) A (Builtin.Slice.sliceApplied (.ref sl) (pure (n : Int))) Q E s := by
  obtain ⟨os, hos, hcs, hds⟩ := id hs
  unfold Builtin.Slice.sliceApplied Builtin.Slice.sliceFields
  refine wpAny_bind (wpAny_bind (wpAny_field hos hds (x := vl) rfl (wpAny_bind (wpAny_field hos hds (x := vu) rfl (wpAny_bind (wpAny_field hos hds (x := vs) rfl (wpAny_pure ?_)))))))
  refine wpAny_bind (HT.slicePart_ ps ?_)
  show wpAny _ _ (if ((-1 : Int) == 0) = true then _ else _) _ _ s
  rw [if_neg (by decide)]
  refine wpAny_bind (HT.slicePart_ pl (wpAny_bind (HT.slicePart_ pu (wpAny_bind (wpAny_pure ?_)))))
  show wpAny _ _ (pure ((n : Int) - 1, (-1 : Int), Builtin.Slice.slicePlaces ((n : Int) - 1) (-1) (-1))) _ _ s
  rw [places_back]
  exact wpAny_pure h
theorem getItem_back {t sl : Addr} {items : Array Value} {vl vu vs : Value} {Q : Value → Shared → Prop} (ht : IsTup s.heap t items) (hs : s.heap.IsSliceOf sl vl vu vs) (pl : IsPart vl none) (pu : IsPart vu none) (ps : IsPart vs (some (-1)))
    (h : Q (.ref s.heap.objs.size) { s with heap := s.heap.push { cls := .type "tuple", data := .seq items.toList.reverse.toArray } }) (hsz : items.size ≤ sizeLine) : wpAny (model prog w) A (getItem (.ref t) (.ref sl)) Q E s := by
  obtain ⟨os, hos, hcs, hds⟩ := id hs
  have hTs : s.TypeIs (.ref sl) "slice" := ⟨os, hos, hcs⟩
  have hfit : sizeOk (.seq items.toList.reverse.toArray) := by
    show items.toList.reverse.toArray.size ≤ sizeLine
    simpa using hsz
  unfold getItem
  refine wpAny_holding ?_
  refine wpAny_bind (wpAny_sequenceKey ht.typeIs (by decide) ?_)
  refine wpAny_bind (wpAny_callSpecial?_slot (name := Str.ofString "__getitem__") ht.typeIs slot_tuple_getitem (wpAny_call_entry slot_tuple_getitem ht.typeIs entry_tuple_getitem ?_ (args_tuple_getitem _ _)))
  show wpAny _ _ (Builtin.Tuple.tupleItemsOf (.ref t) >>= _) _ _ s
  refine wpAny_bind (tupleItemsOf_ ht (wpAny_bind (wpAny_typeOf hTs ?_)))
  rw [if_pos (by decide)]
  refine wpAny_bind (applied_back hs pl pu ps ?_)
  have hno : ¬ ((((items.size : Int) - 1) == 0 && (-1 : Int) == 1 && items.size == items.size) = true) := by simp
  show wpAny _ _ (if (((items.size : Int) - 1) == 0 && (-1 : Int) == 1 && items.size == items.size) = true then _ else _) _ _ s
  rw [if_neg hno, pick_back]
  first
    | exact wpAny_bind (m := Builtin.Tuple.tupleExact _) (wpAny_newObj_type (wpAny_pure ⟨_, rfl, wpAny_pure h⟩) hfit)
    | exact wpAny_bind (wpAny_bind (m := Builtin.Tuple.tupleExact _) (wpAny_newObj_type (wpAny_pure ⟨_, rfl, wpAny_pure h⟩) hfit))
    | exact wpAny_bind (wpAny_bind (m := Builtin.Tuple.tupleExact _) (wpAny_newObj_type (wpAny_pure (wpAny_pure ⟨_, rfl, wpAny_pure h⟩)) hfit))
end
def tRevT (K : PySem.W.Frag) (te : TE) : TE := fun σ H Q => te σ H fun x H1 => ∃ (a : Addr) (xs : List V), x = .ref a ∧ SqT K H1 a xs ∧ ∀ p, H1 p = none → Q (.ref p) (upd H1 p (.tup xs.reverse))
theorem pe_revT {X : Cx} {e : Expr} {te : TE} {k : Nat} {p1 p2 p3 pos : Pos} (he : PE X e te) : PE X (.Subscript e (.Slice none none (some (.UnaryOp .USub (.Constant (.int 1) k p1) p2)) p3) pos) (tRevT X.K te) := by
  refine ⟨fun pins s σ H Q I h => ?_⟩
  refine Subscript_ (thn (he.run pins s σ H _ I h) fun v s1 ⟨x, H1, I1, r1, a, xs, ex, hx, q⟩ => ?_)
  subst ex
  cases (show v = Value.ref a from r1)
  have hst : PO X (some (.UnaryOp .USub (.Constant (.int 1) k p1) p2)) (tPart (tUn (rU fun i => .int (-i)) (tC (.int 1)))) := po_some (pe_un un_neg pe_int)
  refine wpAny_Slice (thn (po_none.run pins s1 σ H1 (fun o H2 => o = none ∧ H2 = H1) I1 ⟨rfl, rfl⟩) fun vl s2 ⟨l, H2, I2, pl, el, e2⟩ => thn (po_none.run pins s2 σ H2 (fun o H3 => o = none ∧ H3 = H2) I2 ⟨rfl, rfl⟩) fun vu s3 ⟨u, H3, I3, pu, eu, e3⟩ =>
    thn (hst.run pins s3 σ H3 (fun o H4 => o = some (-1) ∧ H4 = H3) I3 ⟨1, rfl, -1, rfl, rfl, rfl⟩) fun vs s4 ⟨o, H4, I4, ps, eo, e4⟩ => ?_)
  subst el eu eo e2 e3 e4
  have J : Inv X pins σ H4 { s4 with heap := s4.heap.push { cls := .type "slice", data := .fields #[vl, vu, vs] } } := I4.kept (t' := s4.toks) fun b ob q => Heap.get?_push_of_some _ q
  obtain ⟨its, r, ht, hz⟩ := J.tuple hx
  have hsz : its.toArray.size ≤ sizeLine := by rw [List.size_toArray, ← r.length]; exact hz
  refine tail_any (ops := [.ref a, .ref s4.heap.objs.size]) ht.typeIs slot_tuple_getitem.lookup ?_ (by with_unfolding_all rfl)
  refine getItem_back ht (Heap.IsSliceOf.new _ vl vu vs) pl pu ps ?_ hsz
  refine ⟨.ref _, _, J.laid (t' := s4.toks) (o := .tup xs.reverse) (fun b ob q => Heap.get?_push_of_some _ q) (Nat.le_refl _) ⟨by rw [List.length_reverse]; exact hz, its.reverse, r.reverse, ?_⟩, rfl, q _ (J.hok.fresh (Nat.le_refl _))⟩
  rw [show its.toArray.toList = its by simp]
  exact IsTup.new _ _
theorem ex_revT {W : Wd} {δ : Sto} {te : TE} {ds : List D} (h : Ex W te δ (.tup ds)) : Ex W (tRevT W.K te) δ (.tup ds.reverse) := fun H0 B H σ s Q q => h H0 B H σ s _ fun x B1 H1 e1 hx => by
  obtain ⟨p, vs, rfl, k1, k2⟩ := ArgOk.tup e1.ok hx
  refine ⟨p, vs, rfl, k1, fun l hl => ?_⟩
  have e := Ext.new (o := .tup vs.reverse) e1.ok hl tup_ne
  exact q _ _ _ (e1.trans e) (Den.tup_iff.mpr ⟨l, _, rfl, .inl (.inl upd_same), DenL.up e.bb _ _ k2.rev_⟩)
end K9
/-! text L5 -/
set_option Elab.async false
set_option linter.all false
set_option maxRecDepth 100000
set_option maxHeartbeats 4000000
set_option autoImplicit false
/-! own rules: dicts whose keys are tuples: {t: v}, {t: v for ..} -/
namespace K9
open PySem PySem.Spec PyProof.Rows L2 LamX
section
variable {X : Cx}
/-- the store of a pair in the making of a dict -/
theorem set_tk {pins : List (Addr × Obj)} {σ : L2.St} {H : Hp} {s : Shared} {E : Value → Shared → Prop} {D b : Addr} {kvs : List (List Key × V)} {k : List Key} {v : V} {u r : Value} {Q : Unit → Shared → Prop} (hu : X.A.units + 1 < cLine) (I : Inv X pins σ H s) (hD : H D = some (.dT kvs)) (hb : H b = some (.tup (k.map kV))) (hz : kvs.length < sizeLine)
    (ru : RelV (.ref b) u) (rv : RelV v r) (h : ∀ s', Inv X pins σ (upd H D (.dT (putK kvs k v))) s' → Q () s') : wpAny (model X.prog X.w) X.A (dictSet D u r) Q E s := by
  cases (show u = Value.ref b from ru)
  obtain ⟨z, sys, xs, rel, dd⟩ := dt_of I.hok hD
  have hx : xs.length ≤ sizeLine := by rw [← Paired.length rel]; exact z
  have hl : (putK kvs k v).length ≤ sizeLine := by have := length_putK kvs k v; omega
  refine wpAny_dictSet_heap (hsz := hx) (show X.A.units < cLine by omega) (key_of I.hok hb) dd fun h' dd' sb => h _ ?_
  obtain ⟨q, es, ep, hq, g2, g3, g4, _, g5⟩ := dd'
  refine d_write I (by rw [hD]; exact True.intro) sb ⟨q, hq⟩ ⟨hl, sys, _, (rel.put k hb rv).keeps fun c ys ec => ?_, q, es, ep, hq, g2, g3, g4, g5⟩
  rw [upd_ne (ne_of ec hD (fun z => nomatch z))]
  exact ec
/-- {k: v}, k a tuple -/
def tDsp1 (tk tv : TE) : TE := fun σ H Q => ∀ p, H p = none → tk σ (upd H p (.dT [])) fun y H2 => tv σ H2 fun z H3 => ∃ (b : Addr) (k : List Key), y = .ref b ∧ H3 b = some (.tup (k.map kV)) ∧ H3 p = some (.dT []) ∧ Q (.ref p) (upd H3 p (.dT [(k, z)]))
theorem pe_dsp1 {k v : Expr} {tk tv : TE} {pos : Pos} (hu : X.A.units + 1 < cLine) (hk : PE X k tk) (hv : PE X v tv) : PE X (.Dict [some k] [v] pos) (tDsp1 tk tv) := by
  refine ⟨fun pins s σ H Q I h => ?_⟩
  have hn := I.hok.fresh (Nat.le_refl s.heap.objs.size)
  have J := I.laid (a := s.heap.objs.size) (o := .dT []) (h' := s.heap.push { cls := .type "dict", data := .dict #[] }) (t' := s.toks) (fun _ _ q => Heap.get?_push_of_some _ q) (Nat.le_refl _) (dt_empty s.heap I.big)
  have eshape : (evalEachOpt [some k] X.env).zip ((evalEach [v] X.env).map fun v => do let x ← v; standAt pos; pure x) = ([(eval k X.env, do let x ← eval v X.env; standAt pos; pure x)] : List (Sem Value × Sem Value)).map fun p => (some p.1, p.2) := by first | rfl | with_unfolding_all rfl
  rw [arm_eval_Dict, eshape, dictDisplay_pairs _ (by simp) (by simp)]
  refine wpAny_bind (wpAny_standAt (wpAny_bind ?_))
  unfold subDict
  refine wpAny_bind (wpAny_alloc ?_)
  refine wpAny_bind (wpAny_holding ?_)
  rw [if_pos (by simp)]
  refine wpAny_bind (evalPairs_cons (thn (hk.run pins _ σ _ _ J (h _ hn)) fun u1 s1 ⟨y, H1, I1, r1, q1⟩ => wpAny_bind (thn (hv.run pins s1 σ H1 _ I1 q1) fun u2 s2 ⟨z, H2, I2, r2, b, key, ey, eb, ep, q2⟩ => wpAny_bind (wpAny_standAt (wpAny_pure (evalPairs_nil ?_))))))
  subst ey
  refine wpAny_holding ?_
  simp only [List.forIn_cons, List.forIn_nil]
  refine wpAny_bind (wpAny_bind (wpAny_bind (set_tk hu I2 ep eb (by show 0 < sizeLine; decide) r1 r2 fun s3 I3 => ?_)))
  exact wpAny_pure (wpAny_pure (wpAny_pure (wpAny_pure (wpAny_pure ⟨.ref s.heap.objs.size, _, I3, rfl, q2⟩))))
/-- {k: v for target in iter}, the keys tuples: D the new dict -/
def tDcT (wi : TI) (g : TG) (tk tv : TE) (vs : List Nat) : TE := fun σ H Q => wi σ H fun J H1 => ∀ D, H1 D = none → ∃ Z : Nat → Nat → Hp → Prop, (∃ m, Z 0 m (upd H1 D (.dT []))) ∧ ∀ i m H, Z i m H →
  (J.stop i H ∧ Q (.ref D) H) ∨ (J.go i H ∧ ∃ N : Hp → Prop, (∀ H', N H' → ∃ m', m' < m ∧ Z (i + 1) m' H') ∧ ∀ x H', J.yld i H x H' → g x (wipe σ vs) H' fun σ2 H2 => wipe σ2 vs = wipe σ vs ∧
    tk σ2 H2 fun y H4 => tv σ2 H4 fun z H5 => ∃ kvs k b, y = .ref b ∧ H5 b = some (.tup (k.map kV)) ∧ H5 D = some (.dT kvs) ∧ kvs.length < sizeLine ∧ N (upd H5 D (.dT (putK kvs k z))))
theorem pe_dcT {kx vx tg iter : Expr} {scope : Scope} {own : List (Str × Nat)} {pos : Pos} {wi : TI} {g : TG} {tk tv : TE} (hc : X.calm = true) (hu : X.A.units + 1 < cLine) (hN : X.N.Nodup) (hi : PI X tg iter wi) (ok : BlkOk X.N X.env.scope scope own)
    (hg : ∀ (s : Shared) (H : Hp) (C : Addr) (cl : List (Str × Addr)) (fp : List Addr), PG (X.blk s H scope (compEnvC scope cl C X.env) fp) tg g)
    (hk : ∀ (s : Shared) (H : Hp) (C : Addr) (cl : List (Str × Addr)) (fp : List Addr), PE (X.blk s H scope (compEnvC scope cl C X.env) fp) kx tk)
    (hv : ∀ (s : Shared) (H : Hp) (C : Addr) (cl : List (Str × Addr)) (fp : List Addr), PE (X.blk s H scope (compEnvC scope cl C X.env) fp) vx tv) (hs : ∀ x, foldedSetIterable iter X.env x = pure x := by intro _; rfl) :
    PE X (.DictComp kx vx [⟨tg, iter, [], 0⟩] scope pos) (tDcT wi g tk tv (own.map (·.2))) := by
  refine ⟨fun pins s σ H Q I h => ?_⟩
  rw [arm_eval_DictComp]
  have hasC : ∀ y ∈ scope.names, y.2 = .free → ∃ c, X.env.cells.lookup y.1 = some c := fun y hy e => by
    rcases ok.free y hy e with k | k
    · exact I.ok.has _ (Or.inl k)
    · exact I.ok.has _ (Or.inr k)
  refine wpAny_comprehension_free (use := none) rfl hs (closure_ok hasC) ok.kind (fun y hy e => by rw [ok.uniq y hy, e]) (thn (hi.run pins s σ H _ I h) fun xv a1 hx => thn hx fun itv a2 h2 => ?_)
  obtain ⟨it, fp, tn, J, G2, e, I2, T, st2, f2, q⟩ := h2
  subst e
  refine wpAny_newObj_type (newEnv_comp ?_)
  generalize hD : a2.heap.objs.size = D
  have nD : G2 D = none := I2.hok.fresh (Nat.le_of_eq hD)
  obtain ⟨Z, ⟨m0, z0⟩, turn⟩ := q D nD
  generalize hA : ({ a2 with heap := a2.heap.push { cls := .type "dict", data := .dict #[] } } : Shared) = a3
  have eA : a3.heap = a2.heap.push { cls := .type "dict", data := .dict #[] } := by rw [← hA]
  have I3 : Inv X pins σ (upd G2 D (.dT [])) a3 := by
    have new : ObjOk X.prog X.w (upd G2 D (.dT [])) (a2.heap.push { cls := .type "dict", data := .dict #[] }) D (.dT []) := by
      rw [← hD]
      exact dt_empty a2.heap I2.big
    have := I2.laid (t' := a2.toks) (fun b o e => Heap.get?_push_of_some _ e) (Nat.le_of_eq hD) new
    rw [← hA]
    exact this
  have below : ∀ b ∈ fp, b < a2.heap.objs.size := fun b hb => (let ⟨o, e, _⟩ := T.obj _ _ st2 b hb; Heap.lt_size e)
  have f3 : ∀ b ∈ fp, FpOk X pins (upd G2 D (.dT [])) b ∧ b < a3.heap.objs.size := fun b hb => by
    have hlt := below b hb
    have ne : b ≠ D := by rw [← hD]; exact Nat.ne_of_lt hlt
    refine ⟨⟨?_, (f2 b hb).2⟩, ?_⟩
    · rw [upd_ne ne]
      exact (f2 b hb).1
    · rw [eA, Heap.size_push]
      exact Nat.lt_succ_of_lt hlt
  have st3 : tn 0 a3.heap := T.keep _ _ _ st2 fun b _ o e => by rw [eA]; exact Heap.get?_push_of_some _ e
  have I4 := block_start I3 ok hN f3
  generalize hcl : cellsFrom (a3.heap.objs.size + 1) scope.names (cloFrom X.env.cells scope.names []) = cl at I4 ⊢
  have pg := hg a3 (upd G2 D (.dT [])) a3.heap.objs.size cl fp
  have pk := hk a3 (upd G2 D (.dT [])) a3.heap.objs.size cl fp
  have pv := hv a3 (upd G2 D (.dT [])) a3.heap.objs.size cl fp
  have clear : ∀ b ∈ fp, (upd G2 D (.dT [])) b = none := fun b hb => (f3 b hb).1.1
  generalize hce : compEnvC scope cl a3.heap.objs.size X.env = ce at I4 pg pk pv
  have cL : ce.locals = a3.heap.objs.size := by rw [← hce] <;> rfl
  generalize hG3 : upd G2 D (.dT []) = G3 at I3 I4 pg pk pv z0 clear f3
  generalize ha4 : ({ a3 with heap := pushCells (a3.heap.push { cls := .type "dict", data := .dict #[] }) scope.names } : Shared) = a4 at I4
  have st4 : tn 0 a4.heap := T.keep _ _ _ st3 fun b _ o e => by
    rw [← ha4]
    exact pushCells_keeps _ _ _ _ (Heap.get?_push_of_some _ e)
  have stat : ∀ {σ' : L2.St} {H' : Hp} {s' : Shared}, Inv (X.blk a3 G3 scope ce fp) [] σ' H' s' → (∀ b ∈ fp, H' b = none) → ∀ b ∈ fp, FpOk (X.blk a3 G3 scope ce fp) [] H' b := fun {σ' H' s'} I' hn b hb =>
    ⟨hn b hb, (I'.ok.exf b hb).1, I'.ok.exfs b hb, Or.inl hb, (I'.ok.exf b hb).2, fun p hp => absurd (show p ∈ ([] : List (Addr × Obj)) ++ [] from hp) (by simp)⟩
  have post : ∀ (c6 : Shared) (G6 : Hp), Inv (X.blk a3 G3 scope ce fp) [] (wipe σ (own.map (·.2))) G6 c6 → Q (.ref D) G6 → compPost (model X.prog X.w) X.A X.xe none (EP X pins σ Q) (.ref D) a3.heap.objs.size (.ok .next) c6 := fun c6 G6 I6 qq => by
    have I7 : Inv X pins σ G6 c6 := I3.call' (ch := fp) I6.os I6.base I6.hok I6.bare fun b hb => by
      obtain ⟨⟨_, y1, y2, y3, y4, y5⟩, _⟩ := f3 b hb
      exact ⟨y3, y1, y4, y5⟩
    have nC : G6 a3.heap.objs.size = none := by
      have z : G6 ce.locals = none := I6.free
      rw [← cL]
      exact z
    obtain ⟨m, hn, _⟩ := I6.loc
    have hn : c6.heap.Ns ce.locals m := hn
    rw [cL] at hn
    obtain ⟨g0, g1, g2, g3, g4, g5⟩ := I3.fpOk (H' := G6) (Nat.le_refl _) nC
    exact ⟨m, hn, fun h'' sb => ⟨.ref D, G6, I7.turned (t' := c6.toks) (fun b o hb e => (sb.2 b hb).trans e) g0 g1 g3 g4 g5, rfl, qq⟩⟩
  have loop : codeAny (model X.prog X.w) X.A (.compLoop (.DictComp kx vx [⟨tg, iter, [], 0⟩] scope pos) 0 (.ref it) (.ref D) ce) (compPost (model X.prog X.w) X.A X.xe none (EP X pins σ Q) (.ref D) a3.heap.objs.size) a4 := by
    refine compLoop_anyD (fun n c => ∃ i G, Inv (X.blk a3 G3 scope ce fp) [] (wipe σ (own.map (·.2))) G c ∧ tn i c.heap ∧ (∀ b ∈ fp, G b = none) ∧ Z i n G) ?_ m0 ⟨0, G3, I4, st4, clear, z0⟩
    rintro n c5 ⟨i, G5, I5, st5, n5, z5⟩
    rcases turn i n G5 z5 with ⟨stop, qq⟩ | ⟨go, N, hN', step⟩
    · refine thnF (T.done (X.blk a3 G3 scope ce fp) rfl rfl rfl hc i [] c5 _ G5 (fun _ _ => False) I5 (stat I5 n5) st5 stop) fun r c6 ⟨hr, I6⟩ => ?_
      subst hr
      exact post c6 G5 I6 qq
    · refine thnF (T.item (X.blk a3 G3 scope ce fp) rfl rfl rfl hc i [] c5 _ G5 (fun _ _ => False) I5 (stat I5 n5) st5 go) fun r c6 ⟨u, hr, h6⟩ => ?_
      subst hr
      refine thnF h6 fun _ c7 ⟨x, G7, I7, r7, y7, st7, n7⟩ => ?_
      refine thnF (pg.run _ c7 _ G7 x u _ (I7.pinned (stat I7 n7) (T.obj _ _ st7)) r7 (step x G7 y7)) fun _ c8 ⟨σ8, G8, I8, hw8, q8⟩ => ?_
      simp only [List.forIn_nil]
      refine wpAny_pure ?_
      rw [if_pos rfl]
      refine thnF (pk.run _ c8 σ8 G8 _ I8 q8) fun uk c9 ⟨yk, G9, I9, r9, q9⟩ => ?_
      refine thnF (pv.run _ c9 σ8 G9 _ I9 q9) fun uv c10 ⟨yv, G10, I10, r10, kvs, k, b, ek, eb, eD, hz, nx⟩ => ?_
      subst ek
      refine set_tk (X := X.blk a3 G3 scope ce fp) hu I10 eD eb hz r9 r10 fun c11 I11 => ?_
      obtain ⟨m', hm, z'⟩ := hN' _ nx
      have pinned : ∀ b ∈ fp, ∀ o, c7.heap.get? b = some o → c11.heap.get? b = some o ∧ (upd G10 D (.dT (putK kvs k yv))) b = none := fun b hb o e =>
        let z := I11.pin (b, o) (List.mem_append_right _ (List.mem_append_right _ (mem_pinsAt hb e)))
        ⟨z.1, z.2.1⟩
      refine ⟨m', hm, i + 1, _, (I11.unpinned (pins := [])).weak (by rw [← hw8, wipe_length]) (fun j v e => ?_), T.keep _ _ _ st7 fun b hb o e => (pinned b hb o e).1, fun b hb => ?_, z'⟩
      · rw [← hw8] at e
        exact (wipe_some e).1
      · obtain ⟨o, e, _⟩ := T.obj _ _ st7 b hb
        exact (pinned b hb o e).2
  have fin := codeAny_compStart_dict loop (T.self X.A 0 _ _ _ st4 loop)
  first
    | exact fin
    | (subst hce; subst hcl; subst ha4; exact fin)
end
end K9
/-! text L6 -/
set_option Elab.async false
set_option linter.all false
set_option maxRecDepth 100000
set_option maxHeartbeats 4000000
set_option autoImplicit false
/-! own rules: a generator of which one item at most is taken: for x in g(..): return .. -/
namespace K9
open PySem PySem.Spec PyProof.Rows L2 LamX GenW
/-- what is wanted behind a statement of the generator; yd: of the item that it hands out -/
structure GD where
  nx : L2.St → Hp → Prop
  rt : VK
  yd : VK
  bk : L2.St → Hp → Prop := fun _ _ => False
  ct : L2.St → Hp → Prop := fun _ _ => False
def GD.ends (D : GD) : Ends := { nx := D.nx, rt := D.rt, bk := D.bk, ct := D.ct }
abbrev TG1 := GD → L2.St → Hp → Prop
def GY1 (X : Cx) (yd : VK) : Protocol := fun _ _ v s _ => ∃ x σ H, RelV x v ∧ Inv X [] σ H s ∧ yd x H
structure GC1 (X : Cx) (A : Around) (c : Code) (fs : List Frame) (gd : Bool → Bool) : Prop where
  over : A.over c fs = X.A
  split : splitAtGen fs = none
  guard : fs.any Frame.guarded = false
  gd : gd false = false
def GK1 (X : Cx) (A : Around) (R : GenEnd) (c : Code) (fs : List Frame) (K : Flow → Sem PySem.Fin) (D : GD) : Prop :=
  ∀ (s₀ s : Shared) (f : Flow), SP X [] D.ends f s → Seg (model X.prog X.w) A R (GY1 X D.yd) 1 s₀ c (K f) fs s
structure GS1 (X : Cx) (st : Stmt) (t : TG1) : Prop where
  run : ∀ (A : Around) (R : GenEnd) (s₀ : Shared) (c : Code) (fs : List Frame) (K : Flow → Sem PySem.Fin) (J : Value → Sem PySem.Fin) (gd : Bool → Bool) (lv : List Value → List Value) (s : Shared) (σ : L2.St) (H : Hp) (D : GD),
    GC1 X A c fs gd → GK1 X A R c fs K D → Inv X [] σ H s → t D σ H → Seg (model X.prog X.w) A R (GY1 X D.yd) 1 s₀ c ((exec st X.env).wrap K J gd lv) fs s
structure GSs1 (X : Cx) (st : List Stmt) (t : TG1) : Prop where
  run : ∀ (A : Around) (R : GenEnd) (s₀ : Shared) (c : Code) (fs : List Frame) (K : Flow → Sem PySem.Fin) (J : Value → Sem PySem.Fin) (gd : Bool → Bool) (lv : List Value → List Value) (s : Shared) (σ : L2.St) (H : Hp) (D : GD),
    GC1 X A c fs gd → GK1 X A R c fs K D → Inv X [] σ H s → t D σ H → Seg (model X.prog X.w) A R (GY1 X D.yd) 1 s₀ c ((execs st X.env).wrap K J gd lv) fs s
/-- no exception is in sight -/
def Mute (X : Cx) : Prop := ∀ e s, X.xe e s → False
section
variable {X : Cx} {st : Stmt} {rest : List Stmt}
def tP1 (t : TS) : TG1 := fun D σ H => t D.ends σ H
theorem g1_ps {t : TS} (m : Mute X) (h : PS X st t) : GS1 X st (tP1 t) := by
  refine ⟨fun A R s₀ c fs K J gd lv s σ H D g k I ht => seg_wrap ?_⟩
  rw [g.over]
  exact wpAny_mono (h.run [] s σ H D.ends I ht) (fun f s' hs => k s₀ s' f hs) fun x s' hx => (m x s' hx).elim
theorem g1s_pss {t : TS} (m : Mute X) (h : PSs X rest t) : GSs1 X rest (tP1 t) := by
  refine ⟨fun A R s₀ c fs K J gd lv s σ H D g k I ht => seg_wrap ?_⟩
  rw [g.over]
  exact wpAny_mono (h.run [] s σ H D.ends I ht) (fun f s' hs => k s₀ s' f hs) fun x s' hx => (m x s' hx).elim
theorem g1s_nil : GSs1 X [] (fun D σ H => D.nx σ H) := ⟨fun A R s₀ c fs K J gd lv s σ H D g k I ht => seg_execs_nil (k s₀ s .next ⟨σ, H, I, ht⟩)⟩
def tT1 (t u : TG1) : TG1 := fun D σ H => t { D with nx := u D } σ H
theorem g1s_cons {t u : TG1} (a : GS1 X st t) (b : GSs1 X rest u) : GSs1 X (st :: rest) (tT1 t u) := by
  refine ⟨fun A R s₀ c fs K J gd lv s σ H D g k I ht => seg_execs_cons ?_⟩
  refine a.run A R s₀ c fs _ J gd lv s σ H { D with nx := u D } g (fun s₁ s' f hs => ?_) I ht
  cases f with
  | next =>
    obtain ⟨σ', H', I', q⟩ := hs
    exact b.run A R s₁ c fs K J gd lv s' σ' H' D g k I' q
  | _ => exact k s₁ s' _ hs
theorem g1s_one {t : TG1} (a : GS1 X st t) : GSs1 X [st] (tT1 t fun D σ H => D.nx σ H) := g1s_cons a g1s_nil
/-- yield e -/
def tY1 (te : TE) : TG1 := fun D σ H => te σ H D.yd
theorem g1_yield {e : Expr} {yp pos : Pos} {te : TE} (m : Mute X) (he : PE X e te) (hco : X.env.scope.isCoroutine = false := by rfl) (hi : interactive X.env = false := by rfl) : GS1 X (.Expr (.Yield (some e) yp) pos) (tY1 te) := by
  refine ⟨fun A R s₀ c fs K J gd lv s σ H D g k I ht => ?_⟩
  refine seg_Expr_Yield g.split g.gd g.guard ?_ hco hi
  rw [g.over]
  refine wpAny_mono (he.run [] s σ H _ I ht) (fun v s' hv => ?_) fun x s' hx => (m x s' hx).elim
  obtain ⟨x, H1, I1, rv, q⟩ := hv
  exact fun kap _ => ⟨x, σ, H1, rv, I1, q⟩
def tIf1 (c : TT) (t u : TG1) : TG1 := fun D σ H => c σ H fun b H1 => if b = true then t D σ H1 else u D σ H1
theorem g1_if {ce : Expr} {a b : List Stmt} {pos : Pos} {tc : TT} {t u : TG1} (m : Mute X) (hc : PT X ce tc) (ha : GSs1 X a t) (hb : GSs1 X b u) : GS1 X (.If ce a b pos) (tIf1 tc t u) := by
  refine ⟨fun A R s₀ c fs K J gd lv s σ H D g k I ht => ?_⟩
  rw [exec_If]
  show Seg _ _ _ _ 1 s₀ c (.at pos fun _ => (isTrue ce X.env (eval ce X.env) >>= fun d => if d = true then execs a X.env else execs b X.env).wrap K J gd lv) fs s
  refine seg_at (seg_bind_wrap ?_)
  rw [g.over]
  refine wpAny_mono (hc.run [] s σ H _ I ht) (fun d s' hd => ?_) fun x s' hx => (m x s' hx).elim
  obtain ⟨H2, I2, q2⟩ := hd
  cases d with
  | true =>
    rw [if_pos rfl] at q2 ⊢
    exact ha.run A R s₀ c fs K J gd lv s' σ H2 D g k I2 q2
  | false =>
    rw [if_neg Bool.false_ne_true] at q2 ⊢
    exact hb.run A R s₀ c fs K J gd lv s' σ H2 D g k I2 q2
def tW1 (c : TT) (tb : TG1) : TG1 := fun D σ H => ∃ Z : Nat → L2.St → Hp → Prop, (∃ m, Z m σ H) ∧ ∀ m σ H, Z m σ H →
  c σ H fun b H1 => if b = true then ∃ N : L2.St → Hp → Prop, (∀ σ' H', N σ' H' → ∃ m', m' < m ∧ Z m' σ' H') ∧ tb { D with nx := N, ct := N, bk := D.nx } σ H1 else D.nx σ H1
theorem g1_while {test : Expr} {body : List Stmt} {pos : Pos} {tc : TT} {tb : TG1} (mu : Mute X) (hc : PT X test tc) (hb : GSs1 X body tb) : GS1 X (.While test body [] pos) (tW1 tc tb) := by
  refine ⟨fun A R s₀ c fs K J gd lv s σ H D g k I ht => ?_⟩
  obtain ⟨Z, ⟨m0, z0⟩, turn⟩ := ht
  refine seg_While fun p => ?_
  generalize hfr : (Frame.ret (fun r => ((match r with | .ok f => (.pure f : Sem Flow) | .error e => .raise e).onRaise fun (x : Value) => do
        if (← field x 1) == Value.none then unsupported "frame.own-activation:exception-without-traceback"
        setFlight x X.env.frame).wrap K J gd lv) none (gd false) (lv []) c p [] :: fs) = gs
  have back : ∀ (s₁ s' : Shared) (f : Flow), SP X [] D.ends f s' → Seg (model X.prog X.w) A R (GY1 X D.yd) 1 s₁ (.whileLoop test body [] X.env) (.pure (.done f)) gs s' := fun s₁ s' f hs => by
    rw [← hfr]
    exact seg_leaf (.ok f) (k s₁ s' f hs)
  have gl : GC1 X A (.whileLoop test body [] X.env) gs id := by
    rw [← hfr]
    refine ⟨(over_loop rfl rfl).trans g.over, ?_, ?_, rfl⟩
    · show (splitAtGen fs).map _ = none
      rw [g.split]
      rfl
    · show (gd false || fs.any Frame.guarded) = false
      rw [g.gd, g.guard]
      rfl
  have loop : ∀ (m : Nat) (s₁ s : Shared) (σ : L2.St) (H : Hp), Z m σ H → Inv X [] σ H s → Seg (model X.prog X.w) A R (GY1 X D.yd) 1 s₁ (.whileLoop test body [] X.env) ((model X.prog X.w).den (.whileLoop test body [] X.env)) gs s := by
    intro m
    induction m using Nat.strongRecOn with
    | ind m ih =>
      intro s₁ s σ H z I
      refine seg_whileLoop ?_
      rw [gl.over]
      refine wpAny_mono (hc.run [] s σ H _ I (turn m σ H z)) (fun b s' hb' => ?_) fun x s' hx => (mu x s' hx).elim
      obtain ⟨H2, I2, q2⟩ := hb'
      cases b with
      | true =>
        obtain ⟨N, hN, q2⟩ := q2
        rw [if_pos rfl]
        refine hb.run A R s₁ _ gs _ _ id id s' σ H2 { D with nx := N, ct := N, bk := D.nx } gl (fun s₂ s3 f hs => ?_) I2 q2
        cases f with
        | next =>
          obtain ⟨σ3, H3, I3, n3⟩ := hs
          obtain ⟨m', hm, z3⟩ := hN σ3 H3 n3
          exact seg_again rfl (ih m' hm s₂ s3 σ3 H3 z3 I3)
        | cont =>
          obtain ⟨σ3, H3, I3, n3⟩ := hs
          obtain ⟨m', hm, z3⟩ := hN σ3 H3 n3
          exact seg_again rfl (ih m' hm s₂ s3 σ3 H3 z3 I3)
        | brk => exact back s₂ s3 .next hs
        | ret v => exact back s₂ s3 (.ret v) hs
      | false =>
        rw [if_neg Bool.false_ne_true]
        exact seg_execs_nil (back s₁ s' .next ⟨σ, H2, I2, q2⟩)
  exact loop m0 s₀ s σ H z0 I
end
end K9
/-! text L7 -/
set_option Elab.async false
set_option linter.all false
set_option maxRecDepth 100000
set_option maxHeartbeats 4000000
set_option autoImplicit false
/-! own rules: the generator made and asked once -/
namespace K9
open PySem PySem.Spec PyProof.Rows L2 LamX GenW
/-- a part of a run is over: the heap H' -/
def Past (P : Program) (w : World) (outer : List Env) (H : Hp) (s : Shared) (H' : Hp) (s1 : Shared) : Prop := s1.os = s.os ∧ AllBare s1.gens ∧ Un (frs outer) [] H H' s.heap s1.heap ∧ HOk P w H' s1.heap
def RE1 (P : Program) (w : World) (outer : List Env) (H : Hp) (s : Shared) (Qe : Hp → Prop) : GenEnd := fun _ _ r s1 =>
  ((r = .ok (.ret .none) ∨ r = .ok .next) ∧ ∃ H', Past P w outer H s H' s1 ∧ Qe H') ∨ ∃ e, r = .error e ∧ False
def YI1 (P : Program) (w : World) (outer : List Env) (H : Hp) (s : Shared) (Qy : VK) : Protocol := fun _ _ v s1 _ => ∃ x H', RelV x v ∧ Past P w outer H s H' s1 ∧ Qy x H'
/-- a call of the generator def gives this -/
def GM1 (P : Program) (w : World) (k : Nat) (outer : List Env) (H : Hp) (s : Shared) (Qy : VK) (Qe : Hp → Prop) (u : Value) (s' : Shared) : Prop :=
  ∃ (a : Addr) (g : Nat) (c : Code), u = .ref a ∧ s'.heap.IsGen a g ∧ s'.gens[g]? = some (.fresh c) ∧ s'.os = s.os ∧ AllBare s'.gens ∧ s'.heap.NoLimit ∧ (∀ b o, s.heap.get? b = some o → s'.heap.get? b = some o) ∧
    ∀ (A : Around) (s2 : Shared), Room k A → A.frames = some outer → (∀ b o, s'.heap.get? b = some o → s2.heap.get? b = some o) → s2.os = s.os → AllBare s2.gens →
      Seg (model P w) A (RE1 P w outer H s Qe) (YI1 P w outer H s Qy) 1 s2 c ((model P w).den c) [] s2
abbrev SpG1 := List V → Hp → VK → (Hp → Prop) → Prop
def GFn1 (P : Program) (w : World) (K : PySem.W.Frag) (mg : Str → Option Value) (base : Heap) (k : Nat) (f : Addr) (sp : SpG1) : Prop :=
  ∀ (A : Around) (outer : List Env) (s : Shared) (H : Hp) (us : List Value) (vs : List V) (Qy : VK) (Qe : Hp → Prop), Room k A → Env0 P w K mg base A outer s H → Vals vs us → sp vs H Qy Qe →
    codeAny (model P w) A (.call (.ref f) ⟨us, []⟩) (fun r s' => match r with | .ok (.ret u) => GM1 P w k outer H s Qy Qe u s' | _ => False) s
abbrev gX (P : Program) (w : World) (K : PySem.W.Frag) (mg : Str → Option Value) (base : Heap) (N : List Str) (qual : Str) (scope : Scope) (f : Addr) (cd : Value) (A : Around) (outer : List Env) (s : Shared) (H : Hp) : Cx :=
  (gcxOf P w K mg base N qual scope f cd A outer s H (fun _ _ _ => False) []).nox
theorem mute_gX {P : Program} {w : World} {K : PySem.W.Frag} {mg : Str → Option Value} {base : Heap} {N : List Str} {qual : Str} {scope : Scope} {f : Addr} {cd : Value} {A : Around} {outer : List Env} {s : Shared} {H : Hp} : Mute (gX P w K mg base N qual scope f cd A outer s H) := fun _ _ h => h
theorem past_of {P : Program} {w : World} {K : PySem.W.Frag} {mg : Str → Option Value} {base : Heap} {N : List Str} {qual : Str} {scope : Scope} {f : Addr} {cd : Value} {A : Around} {outer : List Env} {s s1 : Shared} {H H' : Hp} {σ : L2.St}
    (I : Inv (gX P w K mg base N qual scope f cd A outer s H) [] σ H' s1) : Past P w outer H s H' s1 := ⟨I.os, I.bare, I.base, I.hok⟩
/-- THE RULE: the generator def by its body -/
theorem gfn1_of {P : Program} {w : World} {K : PySem.W.Frag} {mg : Str → Option Value} {base : Heap} {k : Nat} {f : Addr} {name qual : Str} {params : Arguments} {body : List Stmt} {scope : Scope} {dV kV doc pm cdv ct oc : Value} {an od : Option Addr}
    {osl : Array (Option Value)} {N ps : List Str} {sp : SpG1} (lk : K.lookup f = some ⟨oc, od, .func (PySem.W.fnOf name qual params body scope dV kV doc pm an cdv ct), osl⟩) (hcd : PySem.W.codeIn K cdv qual = true) (S : GScope N ps scope)
    (hb : Binds K (PySem.W.fnOf name qual params body scope dV kV doc pm an cdv ct) ps []) (len : ∀ vs H Q E, sp vs H Q E → vs.length = ps.length)
    (hbody : ∀ (A : Around) (outer : List Env) (s : Shared) (H : Hp) (vs : List V) (Qy : VK) (Qe : Hp → Prop), Room k (A.deeper (envOfC qual scope s.heap.objs.size f cdv)) → sp vs H Qy Qe →
      ∃ t, GSs1 (gX P w K mg base N qual scope f cdv A outer s H) body t ∧ t { nx := fun _ H' => Qe H', rt := fun v H' => v = .non ∧ Qe H', yd := Qy } (L2.start N vs) H) :
    GFn1 P w K mg base (k + 1) f sp := by
  intro A outer s H us vs Qy Qe hr e0 r hsp
  have hl := len _ _ _ _ hsp
  have KX : K.In s.heap := e0.mod.kin.keeps fun b o e => (e0.bs b o e).1
  have lim : s.heap.NoLimit := e0.mod.nolimit.keeps fun b o e => (e0.bs b o e).1
  have hul : (us ++ []).length = ps.length := by rw [List.append_nil, ← r.length]; exact hl
  have hbt := hb s us KX hul
  rw [List.append_nil] at hbt
  have hkind : ∀ y ∈ ps.zip us, scope.names.lookup y.1 = some .local ∨ (scope.names.lookup y.1 = some .cell ∧ ((cellsFrom (s.heap.objs.size + 1) scope.names []).lookup y.1).isSome = true) := fun ⟨n, v⟩ hy => by
    rcases S.par n (List.of_mem_zip hy).1 with q | q
    · exact Or.inl q
    · exact Or.inr ⟨q, PySem.W.cellsFrom_some _ _ _ (Or.inl q)⟩
  refine codeAny_call_generator hr.depth (KX _ _ lk) rfl S.co S.gen rfl (PySem.W.codeRec_of KX hcd) (hbt _ _ _ _ ?_)
  refine wpAny_newFunctionEnv_cells S.kind hkind fun env he s1 x => ?_
  subst he
  have lim1 : s1.heap.NoLimit := lim.keeps x.toInCall.keep
  refine ⟨lim1, ?_⟩
  obtain ⟨h1, tk, es1, hk1⟩ := x.done
  have os1 : s1.os = s.os := by rw [es1]
  have gen1 : s1.gens = s.gens := by rw [es1]
  have kp1 : ∀ b o, s.heap.get? b = some o → s1.heap.get? b = some o := x.toInCall.keep
  refine ⟨s1.heap.objs.size, s1.gens.size, _, rfl, ⟨_, _, _, Heap.get?_push_size _ rfl, rfl, rfl, rfl⟩, Array.getElem?_push_size .., os1, AllBare.push (by rw [gen1]; exact e0.bare) rfl, lim1.keeps fun b o e => Heap.get?_push_of_some _ e, fun b o e => Heap.get?_push_of_some _ (kp1 b o e), ?_⟩
  intro Aw s2 hrw hfr hk2 hos hba
  have e0w : Env0 P w K mg base Aw outer s H := ⟨hfr, e0.mod, e0.bs, e0.bsz, e0.funs, e0.frf, e0.hok, e0.bare⟩
  obtain ⟨t, ht, hq⟩ := hbody Aw outer s H vs Qy Qe (hrw.deeper _) hsp
  have I1 : Inv (gcxOf P w K mg base N qual scope f cdv Aw outer s H (fun _ _ _ => False) []) [] (L2.start N vs) H s1 := inv_startG S hrw.hd e0w hl r x
  have kp2 : ∀ b o, s1.heap.get? b = some o → s2.heap.get? b = some o := fun b o e => hk2 b o (Heap.get?_push_of_some _ e)
  have I2 : Inv (gX P w K mg base N qual scope f cdv Aw outer s H) [] (L2.start N vs) H s2 :=
    (I1.call' (ch := []) (hos.trans os1.symm) (Un.kept kp2) (I1.hok.kept kp2) hba fun b z => by simp at z).wish _
  refine seg_func ?_
  refine seg_imp (R := fun n s₀ r s1 => ∃ u, r = .ok (.ret u) ∧ ∃ v H', RelV v u ∧ Past P w outer H s H' s1 ∧ v = .non ∧ Qe H') (Y := GY1 (gX P w K mg base N qual scope f cdv Aw outer s H) Qy) (fun n s₀ r s1' hR => ?_) (fun n s₀ v s1' kap kap' hkk hY => ?_) 1 ?_
  · obtain ⟨u, er, v, H', rv, pa, ev, qe⟩ := hR
    subst ev
    have eu : u = Value.none := rv
    subst eu
    exact Or.inl ⟨Or.inl er, H', pa, qe⟩
  · obtain ⟨x, σ', H', rx, J, qy⟩ := hY
    exact ⟨x, H', rx, past_of J, qy⟩
  · refine ht.run Aw _ s2 _ [] _ _ id id s2 (L2.start N vs) H _ ⟨over_func, rfl, rfl, rfl⟩ (fun s₀ s' fl hs => ?_) I2 hq
    cases fl with
    | next =>
      obtain ⟨σ', H', J, qe⟩ := hs
      exact seg_end (.ok (.ret .none)) ⟨_, rfl, .non, H', rfl, past_of J, rfl, qe⟩
    | brk =>
      obtain ⟨_, _, _, q⟩ := hs
      exact False.elim q
    | cont =>
      obtain ⟨_, _, _, q⟩ := hs
      exact False.elim q
    | ret u =>
      obtain ⟨v, σ', H', J, rv, ev, qe⟩ := hs
      exact seg_end (.ok (.ret u)) ⟨u, rfl, v, H', rv, past_of J, ev, qe⟩
/-- for tg in f(e, ..): body, f the generator def; the body leaves the loop -/
def tForG (sp : SpG1) (t : TA) (g : TG) (tb : TS) : TS := fun D σ H => t σ H fun vs H1 => sp vs H1 (fun x H2 => g x σ H2 fun σ3 H3 => tb { D with nx := fun _ _ => False, ct := fun _ _ => False, bk := D.nx } σ3 H3) (fun H2 => D.nx σ H2)
theorem ps_forG {X : Cx} {k : Nat} {f : Addr} {sp : SpG1} {x : Str} {tg e : Expr} {es : List Expr} {body : List Stmt} {t : TA} {g : TG} {tb : TS} {p cpos pos : Pos} (F : GFn1 X.prog X.w X.K X.mg X.base k f sp) (hr : Room (k + 1) X.A) (hc : X.calm = true) (mu : Mute X) (hg : Gl X x) (hm : X.mg x = some (.ref f)) (hk : PySem.W.keepIn X.K (.ref f) = true)
    (ha : PA X (e :: es) t) (pg : PG X tg g) (hb : PSs X body tb) (hlt : ∀ a b, letOwnedTupleGo tg a b = pure ()) (hdb : (x == ("__debug__" : Str)) = false := by decide) (he : starEach (e :: es) X.env = (false, eval e X.env) :: starEach es X.env := by rfl) (hpl : (backTo cpos (starEach es X.env)).any (·.1) = false := by rfl)
    (hs : ∀ y, foldedSetIterable (.Call (.Name x p) (e :: es) [] cpos) X.env y = pure y := by intro _; rfl) : PS X (.For tg (.Call (.Name x p) (e :: es) [] cpos) body [] pos) (tForG sp t g tb) := by
  refine ⟨fun pins s σ H D I h => ?_⟩
  refine wpAny_For ?_ hs
  refine wpAny_Call_Name_kw (ld_glob I hg hm ?_ hdb)
  refine PySem.W.callWith_K (h₀ := X.base) I.ok.mod.kin hk (thn (ha.run cpos pins s σ H _ I h) fun us s1 ⟨vs, H1, I1, r, q⟩ => ⟨I1.kIn, ?_⟩) he hpl
  have run := F X.A X.stack s1 H1 us vs _ _ (hr.mono (Nat.le_succ k)) I1.env0 r q
  refine wpAny_call (codeAny_mono run fun rr s2 hq => ?_)
  cases rr with
  | error e => exact False.elim hq
  | ok fl =>
    cases fl with
    | next => exact False.elim hq
    | brk => exact False.elim hq
    | cont => exact False.elim hq
    | ret u =>
      obtain ⟨a, gn, c, eu, hgen, hfresh, os2, bare2, lim2, kp2, wake⟩ := hq
      subst eu
      refine wpAny_pyIter_gen hgen ?_
      have pas : ∀ {E : Value → Shared → Prop} {α : Type} {m : Sem α} {Z : α → Shared → Prop} {s : Shared}, wpAny (model X.prog X.w) X.A m Z X.xe s → wpAny (model X.prog X.w) X.A m Z E s := fun {E α m Z s} hz => wpAny_mono hz (fun _ _ z => z) fun e s' z => (mu e s' z).elim
      have woken : ∀ {H2 : Hp} {s3 : Shared}, Past X.prog X.w X.stack H1 s1 H2 s3 → Inv X pins σ H2 s3 := fun {H2 s3} pa => I1.call' (ch := []) pa.1 pa.2.2.1 pa.2.2.2 pa.2.1 fun b z => by simp at z
      have ready : GenState.Goes (model X.prog X.w) X.A.in1 (fun n s₀ r s₁ => ((r = .ok (.ret .none) ∨ r = .ok .next) ∧ (∃ H', Past X.prog X.w X.stack H1 s1 H' s₁ ∧ D.nx σ H')) ∨ ∃ e, r = .error e ∧ False)
          (YI1 X.prog X.w X.stack H1 s1 fun x H2 => g x σ H2 fun σ3 H3 => tb { D with nx := fun _ _ => False, ct := fun _ _ => False, bk := D.nx } σ3 H3) 1 (.fresh c) (.send .none) (s2.setGen gn .running) :=
        ⟨rfl, wake X.A.in1 _ (Room.in1 hr) I1.ok.frames (fun _ _ z => z) os2 (allBare_setGen bare2 rfl)⟩
      refine codeAny_forLoop_any (fun n s' => s' = s2) ?_ 0 rfl
      rintro n s3 rfl
      refine next_genG (A := X.A) (I1.ok.hd hc) lim2 hr.depth hgen hfresh ready (fun v s4 gs' hbr hy => ?_) (fun s4 hp h' hk' => ?_) fun e s4 z => z.elim
      · obtain ⟨y, H2, ry, pa, qy⟩ := hy
        have J : Inv X pins σ H2 (s4.setGen gn gs') := woken ⟨pa.1, allBare_setGen pa.2.1 hbr, pa.2.2.1, pa.2.2.2⟩
        refine wpAny_of_eq (hlt _ _) ?_
        refine pas (thn (pg.run pins _ σ H2 y v _ J ry qy) fun _ s6 ⟨σ6, H6, I6, q6⟩ => ?_)
        refine pas (thn (hb.run pins s6 σ6 H6 _ I6 q6) fun fl s7 q7 => ?_)
        cases fl with
        | next =>
          obtain ⟨_, _, _, z⟩ := q7
          exact False.elim z
        | cont =>
          obtain ⟨_, _, _, z⟩ := q7
          exact False.elim z
        | brk => exact q7
        | ret v => exact q7
      · obtain ⟨H2, pa, qe⟩ := hp
        have J : Inv X pins σ H2 { s4.setGen gn .finished with heap := h' } := woken ⟨pa.1, allBare_setGen pa.2.1 rfl, pa.2.2.1.trans (Un.kept hk'), pa.2.2.2.kept hk'⟩
        exact wpAny_execs_nil ⟨σ, H2, J, qe⟩
end K9
/-! text L8 -/
set_option Elab.async false
set_option linter.all false
set_option maxRecDepth 100000
set_option maxHeartbeats 4000000
set_option autoImplicit false
/-! own rule: sorted(xs, key=lambda row: ..) -/
namespace K9
open PySem PySem.Spec PyProof.Rows L2 LamX
/-- a lambda with a parameter, nothing captured, called -/
theorem run_lamP {P : Program} {w : World} {K : PySem.W.Frag} {mg : Str → Option Value} {base : Heap} {k : Nat} {f c' : Addr} {qual pn : Str} {params : Arguments} {body : Expr} {scope : Scope} {pm ctv : Value} {N : List Str} {A : Around} {outer : List Env} {s : Shared} {H : Hp} {u : Value} {v : V} {Q : VK} {tb : TE} {E : XK}
    (S : FnScope N [pn] scope) (hf : s.heap.get? f = some (PySem.W.kla_obj "<lambda>" qual params body scope [] pm c' ctv)) (hc : H c' = some (CodeO c' qual)) (hr : Room (k + 1) A) (e0 : Env0 P w K mg base A outer s H)
    (hbind : bindArgs (PySem.W.kla_fn "<lambda>" qual params body scope [] pm (.ref c') ctv) ⟨[u], []⟩ = pure [(pn, u)]) (r : RelV v u)
    (hbody : Room k (A.deeper (envOfC qual scope s.heap.objs.size f (.ref c'))) → PE (cxOf C8.CX0 P w K mg base N qual scope f (.ref c') A outer s H E) body tb) (h : tb (L2.start N [v]) H Q) :
    codeAny (model P w) A (.call (.ref f) ⟨[u], []⟩) (CR C8.CX0 outer P w H s Q E) s := by
  obtain ⟨⟨oc, vs, t, hoc, hdc, hvc⟩, _, _⟩ := e0.hok c' _ hc
  have lim : s.heap.NoLimit := e0.mod.nolimit.keeps fun b o e => (e0.bs b o e).1
  refine PySem.W.kla_callFunE hr.depth hf rfl S.co S.gen rfl ⟨c', oc, vs, t, rfl, hoc, hdc, hvc⟩ ?_
  rw [hbind]
  have hkind : ∀ y ∈ ([pn] : List Str).zip [u], scope.names.lookup y.1 = some .local ∨ (scope.names.lookup y.1 = some .cell ∧ ((cellsFrom (s.heap.objs.size + 1) scope.names []).lookup y.1).isSome = true) := fun ⟨n, z⟩ hy => by
    rcases S.par n (List.of_mem_zip hy).1 with q | q
    · exact Or.inl q
    · exact Or.inr ⟨q, PySem.W.cellsFrom_some _ _ _ (Or.inl q)⟩
  refine wpAny_pure (wpAny_newFunctionEnv_cells S.kind hkind fun env he s1 x => ?_)
  subst he
  refine ⟨lim.keeps x.toInCall.keep, ?_⟩
  have I : Inv (cxOf C8.CX0 P w K mg base N qual scope f (.ref c') A outer s H E) [] (L2.start N [v]) H s1 := inv_start (ps := [pn]) (us := [u]) S hr.hd e0 rfl (.cons r .nil) x
  refine PySem.W.kla_codeExpr (wpAny_mono ((hbody (hr.deeper _)).run [] s1 _ H Q I h) (fun z s' hq => ?_) fun e s' hq => hq)
  obtain ⟨y, H', J, ry, q⟩ := hq
  exact ⟨y, H', J.os, J.bare, J.base, J.hok, ry, q⟩
section
variable {X : Cx} {pins : List (Addr × Obj)} {σ : L2.St} {H : Hp} {s : Shared}
/-- an object that stood aside is tracked -/
theorem inv_track {a : Addr} {its : List Value} {n : Nat} {ys : List V} (I : Inv X pins σ H s) (f : FpOk X pins H a) (e : s.heap.get? a = some (seqObj "list" its.toArray n)) (rv : Vals ys its) (hz : ys.length ≤ sizeLine) : Inv X pins σ (upd H a (.lst ys)) s := by
  obtain ⟨f0, f1, f2, f3, f4, f5⟩ := f
  have ne : ∀ b u, H b = some u → b ≠ a := fun b u q z => by rw [z, f0] at q; cases q
  refine ⟨I.ok, I.os, I.bare, ⟨I.base.keep, I.base.slot, fun b o q n hx => ?_, I.base.there, fun b xs q => ?_, fun b o u q => ?_, fun b ps q => ?_⟩, I.loc, I.cell, ?_, fun x c q => ?_, fun p hp => ?_, fun b u q => ?_, I.len⟩
  · have hn := I.base.free b o q n hx
    rw [upd_ne fun z => ?_]
    · exact hn
    · subst z
      rcases f3 with z | z
      · exact hx z
      · exact absurd (Nat.lt_of_lt_of_le (Heap.lt_size q) z) (Nat.lt_irrefl _)
  · have q2 := I.base.tups b xs q
    rw [upd_ne (ne _ _ q2)]
    exact q2
  · have q2 := I.base.frzs b o u q
    rw [upd_ne (ne _ _ q2)]
    exact q2
  · obtain ⟨more, q2⟩ := I.base.tbls b ps q
    exact ⟨more, by rw [upd_ne (ne _ _ q2)]; exact q2⟩
  · rw [upd_ne f1.symm]
    exact I.free
  · rw [upd_ne (f4 x c q)]
    exact I.freeC x c q
  · obtain ⟨g1, g2, g3⟩ := I.pin p hp
    rw [upd_ne (f5 p hp)]
    exact ⟨g1, g2, g3⟩
  · by_cases hb : b = a
    · subst hb
      rw [upd_same] at q
      cases q
      exact ⟨hz, its, n, rv, e⟩
    · rw [upd_ne hb] at q
      exact (I.hok b u q).stay (fun c v _ z => z) (fun c z => by rw [upd_ne (ne _ _ z)]; exact z) fun c xs z => by rw [upd_ne (ne _ _ z)]; exact z
/-- a pinned object is written -/
theorem inv_repin {a : Addr} {o o' : Obj} {h' : Heap} {tk : Nat} (I : Inv X ((a, o) :: pins) σ H s) (f : FpOk X pins H a) (sb : Heap.SameBut a s.heap h') (e : h'.get? a = some o') (hd : ∀ v, o'.data ≠ .cell v) : Inv X ((a, o') :: pins) σ H { s with heap := h', toks := tk } := by
  have I0 : Inv X pins σ H s := I.pins_of fun p hp => I.pin p (List.mem_append_right _ (List.mem_cons_of_mem _ hp))
  obtain ⟨f0, f1, f2, f3, f4, f5⟩ := f
  have J : Inv X pins σ H { s with heap := h', toks := tk } := I0.turned (t' := tk) (fun b o hb q => (sb.2 b hb).trans q) f0 f1 f3 f4 f5
  refine J.pins_of fun p hp => ?_
  rcases List.mem_cons.mp hp with rfl | hp
  · exact ⟨e, f0, f1, f2, hd⟩
  · exact J.pin p (List.mem_append_right _ hp)
end
mutual
theorem Dp.grow {K : PySem.W.Frag} {H H' : Hp} (e : ExtN H H') : ∀ (d : PyData) (v : V), Dp K H v d → Dp K H' v d
  | .none, _, h => by cases h; exact .non
  | .bool b, _, h => by cases h; exact .bl b
  | .int i, _, h => by cases h; exact .int i
  | .str x, _, h => by cases h; exact .str x
  | .list ds, _, h => by
    cases h with
    | lst hs ha => exact .lst (seqN e hs) (Dp.growAll e ds _ ha)
  | .tuple ds, _, h => by
    cases h with
    | tup hs ha => exact .tup (seqTN e hs) (Dp.growAll e ds _ ha)
  | .dict _, _, h => by cases h
theorem Dp.growAll {K : PySem.W.Frag} {H H' : Hp} (e : ExtN H H') : ∀ (ds : List PyData) (vs : List V), DpAll K H vs ds → DpAll K H' vs ds
  | [], _, h => by cases h; exact .nil
  | d :: ds, _, h => by
    cases h with
    | cons h1 h2 => exact .cons (Dp.grow e d _ h1) (Dp.growAll e ds _ h2)
end
end K9
/-! text L9 -/
set_option Elab.async false
set_option linter.all false
set_option maxRecDepth 100000
set_option maxHeartbeats 4000000
set_option autoImplicit false
/-! own rule: sorted(xs, key=lambda row: ..), the whole -/
namespace K9
open PySem PySem.Spec PyProof.Rows L2 LamX
open PySem.W (EachIs AllAlike Sortable dataLe KeepsBut)
theorem FpOk.at {X : Cx} {pins : List (Addr × Obj)} {H H' : Hp} {b : Addr} (f : FpOk X pins H b) (hn : H' b = none) : FpOk X pins H' b := ⟨hn, f.2⟩
theorem FpOk.less {X : Cx} {pins pins' : List (Addr × Obj)} {H : Hp} {b : Addr} (f : FpOk X pins H b) (hs : ∀ p ∈ pins', p ∈ pins) : FpOk X pins' H b := by
  obtain ⟨f0, f1, f2, f3, f4, f5⟩ := f
  refine ⟨f0, f1, f2, f3, f4, fun p hp => f5 p ?_⟩
  rcases List.mem_append.mp hp with h | h
  · exact List.mem_append_left _ h
  · exact List.mem_append_right _ (hs p h)
theorem gone_at (h : Heap) (k : Addr) : (h.update k fun o => { o with data := .freed }).get? k = none := by
  unfold Heap.get? Heap.update
  simp only [Array.getElem?_modify, if_true]
  cases h.objs[k]? with
  | none => rfl
  | some o => rfl
theorem gone_ne (h : Heap) (k b : Addr) (hb : b ≠ k) : (h.update k fun o => { o with data := .freed }).get? b = h.get? b := Heap.get?_update_ne _ _ _ _ hb
theorem each_vals {β : Type} {Rx : V → β → Prop} : ∀ {xs : List V} {us : List Value} {bs : List β}, Vals xs us → EachIs Rx xs bs → EachIs (fun u b => ∃ x, RelV x u ∧ Rx x b) us bs
  | _, _, _, .nil, .nil => .nil
  | _, _, _, .cons r t, .cons h k => .cons ⟨_, r, h⟩ (each_vals t k)
theorem vals_each {β : Type} {Rx : V → β → Prop} : ∀ {us : List Value} {bs : List β}, EachIs (fun u b => ∃ x, RelV x u ∧ Rx x b) us bs → ∃ ys, Vals ys us ∧ EachIs Rx ys bs
  | _, _, .nil => ⟨[], .nil, .nil⟩
  | _, _, .cons ⟨x, r, h⟩ k => let ⟨ys, h1, h2⟩ := vals_each k; ⟨x :: ys, .cons r h1, .cons h h2⟩
theorem each_snoc {α β : Type} {R : α → β → Prop} {a : α} {b : β} (h : R a b) : ∀ {as : List α} {bs : List β}, EachIs R as bs → EachIs R (as ++ [a]) (bs ++ [b])
  | _, _, .nil => .cons h .nil
  | _, _, .cons k t => .cons k (each_snoc h t)
theorem each_reads {X : Cx} {pins : List (Addr × Obj)} {σ : L2.St} {H : Hp} {s : Shared} (I : Inv X pins σ H s) : ∀ {ys : List V} {us : List Value} {ds : List PyData}, Vals ys us → EachIs (fun y d => Dp X.K H y d) ys ds → EachIs (fun v d => ∃ as, Reads s.heap v d as) us ds
  | _, _, _, .nil, .nil => .nil
  | _, _, _, .cons r t, .cons h k => .cons (Dp.reads I _ _ _ h r) (each_reads I t k)
/-- sorted(xs, key=lambda p: body): tb the body's reading -/
def tSortK (K : PySem.W.Frag) (T : List (Addr × Str)) (N : List Str) (t : TA) (tb : TE) : TE := fun σ H Q => t σ H fun vs H1 => Tabs T H1 ∧ ∃ (a : Addr) (xs : List V) (β : Type) (bs : List β) (Rx : V → β → Prop) (kd : β → PyData),
  vs = [.ref a] ∧ SqL K H1 a xs ∧ EachIs Rx xs bs ∧ xs.length ≤ 4096 ∧ AllAlike (bs.map kd) ∧ Sortable (bs.map kd) ∧ (∀ b ∈ bs, (kd b).depth ≤ 8) ∧
  ∀ H2, ExtN H1 H2 → Tabs T H2 → ∃ Z : Nat → Hp → Prop, Z 0 H2 ∧ (∀ i H3 x b, Z i H3 → xs[i]? = some x → bs[i]? = some b → tb (L2.start N [x]) H3 fun y H4 => Z (i + 1) H4 ∧ ExtN H3 H4 ∧ Dp K H4 y (kd b)) ∧
    ∀ H3, Z xs.length H3 → ∀ ys p, EachIs Rx ys (bs.mergeSort (dataLe false kd)) → H3 p = none → Q (.ref p) (upd H3 p (.lst ys))
theorem pe_sortK {X : Cx} {T : List (Addr × Str)} {c P : Addr} {k : Nat} {e : Expr} {t : TA} {tb : TE} {N : List Str} {pn : Str} {params : Arguments} {body : Expr} {scope : Scope} {p lpos kpos pos : Pos} (ha : PA X [e] t) (hg : Gl X "sorted") (hm : X.mg "sorted" = none) (TB : TabB X.base X.mg c P) (hcode : X.env.code = .ref c)
    (hmT : (P, X.env.qual ++ "<lambda>") ∈ T) (hu : ∀ q ∈ T, q.1 = P → q.2 = X.env.qual ++ "<lambda>") (S : FnScope N [pn] scope) (hdef : defaultsOf params X.env = ([], [])) (hclo : cloFrom X.env.cells scope.names [] = [])
    (hbind : ∀ (q : Str) (pm cv ctv u : Value), bindArgs (PySem.W.kla_fn "<lambda>" q params body scope [] pm cv ctv) ⟨[u], []⟩ = pure [(pn, u)]) (hr : Room (k + 4) X.A) (hst : X.stack = X.env :: X.outer ∧ X.env.frame = some X.env.locals)
    (hbody : ∀ (A : Around) (s : Shared) (H : Hp) (f c' : Addr), Room k (A.deeper (envOfC (X.env.qual ++ "<lambda>") scope s.heap.objs.size f (.ref c'))) → PE (cxOf C8.CX0 X.prog X.w X.K X.mg X.base N (X.env.qual ++ "<lambda>") scope f (.ref c') A X.stack s H C8.E0) body tb)
    (he : backTo pos (starEach [e] X.env) = (false, eval e X.env) :: backTo pos (starEach [] X.env) := by rfl) (hpl : (backTo pos (starEach [e] X.env)).any (·.1) = false := by rfl) :
    PE X (.Call (.Name "sorted" p) [e] [⟨some "key", .Lambda params body scope lpos, kpos⟩] pos) (tSortK X.K T N t tb) := by
  refine ⟨fun pins s σ H Q I h => ?_⟩
  refine wpAny_Call_Name_kw (ld_blt I hg hm PyProof.Rows.boot_sorted ?_)
  refine PyProof.Rows.callWith_kw (thn (ha.run pos pins s σ H _ I h) fun us s1 ⟨vs, H1, I1, r1, hT, q1⟩ => ?_) he hpl rfl rfl
  have hfree : ∀ y ∈ scope.names, y.2 = .free → ∃ c, X.env.cells.lookup y.1 = some c := fun y hy e => absurd e (S.nofree y hy)
  show wpAny _ _ (evalAll ((do let v ← eval (.Lambda params body scope lpos) X.env; standAt pos; pure v) :: [])) _ _ s1
  refine wpAny_evalAll_cons (wpAny_bind (lam_make2 I1 TB hcode hmT hu hT hdef hfree fun f c' pm ctv H2 s2 I2 eN T2 hf hfn hfr hco => wpAny_bind (wpAny_standAt (wpAny_pure (wpAny_evalAll_nil ?_)))))
  rw [hclo] at hf
  obtain ⟨a0, xs, β, bs, Rx, kd, ev, hq, hRx, hlen, hal, hsk, hdp, q2⟩ := q1
  subst ev
  obtain ⟨u0, eu, ru⟩ := vals1 r1
  subst eu
  cases (show u0 = Value.ref a0 from ru)
  obtain ⟨Z, z0, zstep, zend⟩ := q2 H2 eN T2
  obtain ⟨its, rv, pl, hz⟩ := I2.list (seqN eN hq)
  have hbl : bs.length = xs.length := hRx.length.symm
  have hil : its.length = xs.length := rv.length.symm
  have hL : its.length ≤ sizeLine := by rw [hil]; exact hz
  show wpAny _ _ (call (.builtin "sorted") [.ref a0] [(Str.ofString "key", .ref f)]) _ _ _
  refine PySem.W.sorted_of_sort pl.isList hL (ksk_s1 _ _) (fun _ => ksk_l1 _ _) fun E' => ?_
  rw [ksk_t1]
  -- the function object is pinned
  have hfne : f ≠ X.env.locals ∧ f ∉ X.fs := by
    rw [hst.1] at hfr
    have e2 : frs (X.env :: X.outer) = X.env.locals :: frs X.outer := by
      unfold frs
      rw [List.filterMap_cons_some hst.2]
    rw [e2] at hfr
    exact ⟨fun z => hfr (by rw [z]; exact List.mem_cons_self), fun z => hfr (List.mem_cons_of_mem _ z)⟩
  have If : Inv X ((f, PySem.W.kla_obj "<lambda>" (X.env.qual ++ "<lambda>") params body scope [] pm c' ctv) :: pins) σ H2 s2 := I2.pins_of fun q hq => by
    rcases List.mem_cons.mp hq with rfl | hq
    · exact ⟨hf, hfn, hfne.1, hfne.2, fun v z => nomatch z⟩
    · exact I2.pin q (List.mem_append_right _ hq)
  generalize hfo : PySem.W.kla_obj "<lambda>" (X.env.qual ++ "<lambda>") params body scope [] pm c' ctv = fo at If
  -- the copy, which is sorted
  generalize ea : s2.heap.objs.size + 1 = a
  have sa : s2.heap.objs.size ≤ a := by rw [← ea]; exact Nat.le_succ _
  have c0 : (PySem.W.copyHeap s2.heap its).get? a = some (seqObj "list" its.toArray 0) := by rw [← ea]; exact PySem.W.copyHeap_at _ _
  have fa : FpOk X ((f, fo) :: pins) H2 a := If.fpOk sa (If.hok.fresh sa)
  have I3 : Inv X ((a, seqObj "list" its.toArray 0) :: (f, fo) :: pins) σ H2 { s2 with heap := PySem.W.copyHeap s2.heap its, toks := s2.toks } :=
    ClX.pin_new If (fun b o q => PySem.W.copyHeap_old q) sa c0 (fun v z => nomatch z)
  unfold ksk_tree
  refine wpAny_bind (listItems_at c0 rfl ?_)
  refine wpAny_bind (listUpdate_at c0 rfl ?_ (by rw [List.size_toArray]; exact hL) (Nat.zero_le _))
  obtain ⟨e1, ho1⟩ : ∃ e1, ((PySem.W.copyHeap s2.heap its).update a (Obj.mapSeq fun _ => (#[] : Array Value))).get? a = some (seqObj "list" #[] e1) := ⟨_, get?_update_seq c0 fun _ => #[]⟩
  have I4 : Inv X ((a, seqObj "list" #[] e1) :: (f, fo) :: pins) σ H2 { s2 with heap := (PySem.W.copyHeap s2.heap its).update a (Obj.mapSeq fun _ => (#[] : Array Value)), toks := s2.toks } :=
    inv_repin (s := { s2 with heap := PySem.W.copyHeap s2.heap its, toks := s2.toks }) I3 fa (Heap.SameBut.update _ _ _) ho1 (fun v z => nomatch z)
  refine wpAny_bind (seqEpoch_at ho1 rfl ?_)
  refine wpAny_bind (wpAny_newTuple ?_ (by simpa using hL))
  refine wpAny_bind (wpAny_newList ?_ (Nat.zero_le _))
  refine wpAny_holding ?_
  generalize h4 : (PySem.W.copyHeap s2.heap its).update a (Obj.mapSeq fun _ => (#[] : Array Value)) = hp4 at I4 ho1
  generalize h5 : hp4.push { cls := .type "tuple", data := .seq its.toArray.toList.toArray } = hp5
  have k5 : ∀ b o, hp4.get? b = some o → hp5.get? b = some o := fun b o q => by rw [← h5]; exact Heap.get?_push_of_some _ q
  have s5 : hp4.objs.size ≤ hp5.objs.size := by rw [← h5, Heap.size_push]; exact Nat.le_succ _
  generalize ek : hp5.objs.size = kS
  have sk : hp4.objs.size ≤ kS := by rw [← ek]; exact s5
  have fk : FpOk X ((a, seqObj "list" #[] e1) :: (f, fo) :: pins) H2 kS := I4.fpOk sk (I4.hok.fresh sk)
  have I6 : Inv X ((kS, seqObj "list" #[] 0) :: (a, seqObj "list" #[] e1) :: (f, fo) :: pins) σ H2 { s2 with heap := hp5.push (seqObj "list" #[] 0), toks := s2.toks } :=
    ClX.pin_new (s := { s2 with heap := hp4, toks := s2.toks }) I4 (fun b o q => Heap.get?_push_of_some _ (k5 b o q)) sk (by rw [← ek]; exact Heap.get?_push_size _ rfl) (fun v z => nomatch z)
  have hka : kS ≠ a := fun z => by
    have := fk.2.2.2.2.2 (a, seqObj "list" #[] e1) (List.mem_append_right _ List.mem_cons_self)
    exact this z.symm
  show wpAny _ _ (ksk_rest a (.ref f) false its.toArray e1 (.ref kS)) _ _ { s2 with heap := hp5.push (seqObj "list" #[] 0) }
  unfold ksk_rest
  refine wpAny_bind (wpAny_rule ?_)
  rw [List.forIn_toArray]
  have hr2 : Room (k + 2) X.A.in1.in1 := Room.in1 (Room.in1 hr)
  refine wpAny_bind (ksk_fold (fun i s' => ∃ H3 kA n ys, Inv X ((kS, seqObj "list" kA n) :: (a, seqObj "list" #[] e1) :: (f, fo) :: pins) σ H3 s' ∧ Z i H3 ∧ ExtN H2 H3 ∧ Vals ys kA.toList ∧ EachIs (fun y d => Dp X.K H3 y d) ys ((bs.map kd).take i)) its 0 _
    ⟨H2, #[], 0, [], I6, z0, ExtN.refl _, .nil, .nil⟩ ?step ?done)
  case step =>
    rintro j u s' hx ⟨H3, kA, n, ys, J, zj, e3, rk, hd⟩
    simp only [Nat.zero_add] at zj hd ⊢
    have hj : j < its.length := (List.getElem?_eq_some_iff.mp hx).1
    obtain ⟨x, hxx, rx⟩ : ∃ x, xs[j]? = some x ∧ RelV x u := by
      obtain ⟨w, hw, rw'⟩ := rv.get (i := j) (x := xs[j]'(by omega)) (List.getElem?_eq_getElem (by omega))
      rw [hx] at hw
      cases hw
      exact ⟨_, List.getElem?_eq_getElem (by omega), rw'⟩
    obtain ⟨b, hb⟩ : ∃ b, bs[j]? = some b := ⟨_, List.getElem?_eq_getElem (by omega)⟩
    have hfa : s'.heap.get? f = some fo := (J.pin (f, fo) (List.mem_append_right _ (by simp))).1
    rw [← hfo] at hfa
    have body1 := zstep j H3 x b zj hxx hb
    have run : codeAny (model X.prog X.w) X.A.in1.in1 (.call (.ref f) ⟨[u], []⟩) (CR C8.CX0 X.stack X.prog X.w H3 s' (fun y H4 => Z (j + 1) H4 ∧ ExtN H3 H4 ∧ Dp X.K H4 y (kd b)) C8.E0) s' :=
      run_lamP S hfa (e3 _ _ hco codeO_ne) (hr2.mono (by omega) : Room (k + 1) X.A.in1.in1) J.env0.in1.in1 (hbind _ _ _ _ _) rx (fun hrb => hbody _ s' H3 f c' hrb) body1
    refine wpAny_bind (wpAny_attempt (wpAny_call (codeAny_mono run fun r s'' hq => ?_)))
    cases r with
    | error z => exact (show False from hq).elim
    | ok fl =>
      cases fl with
      | next => exact False.elim hq
      | brk => exact False.elim hq
      | cont => exact False.elim hq
      | ret w =>
        obtain ⟨y, H4, J4, ry, zn, e4, hdy⟩ := J.after hq
        have nk : s''.heap.get? kS = some (seqObj "list" kA n) := (J4.pin (kS, seqObj "list" kA n) (List.mem_append_right _ (by simp))).1
        obtain ⟨c2, hc2⟩ : ∃ c2, (s''.heap.update kS (Obj.mapSeq (·.push w))).get? kS = some (seqObj "list" (kA.push w) c2) := ⟨_, get?_update_seq nk (·.push w)⟩
        have hks : kA.size ≤ its.length := by
          have h1 : ys.length = kA.size := by rw [Paired.length rk, Array.length_toList]
          have h2 := hd.length
          rw [List.length_take, List.length_map] at h2
          omega
        have hn4 : H4 kS = none := (J4.pin (kS, seqObj "list" kA n) (List.mem_append_right _ (by simp))).2.1
        have J5 : Inv X ((kS, seqObj "list" (kA.push w) c2) :: (a, seqObj "list" #[] e1) :: (f, fo) :: pins) σ H4 { s'' with heap := s''.heap.update kS (Obj.mapSeq (·.push w)), toks := s''.toks } :=
          inv_repin J4 (FpOk.at fk hn4) (Heap.SameBut.update _ _ _) hc2 (fun v z => nomatch z)
        refine wpAny_bind (listUpdate_at nk rfl ?_ (Nat.le_trans hks hL) (by rw [Array.size_push]; omega))
        refine wpAny_pure ⟨rfl, H4, kA.push w, c2, ys ++ [y], J5, zn, e3.trans e4, ?_, ?_⟩
        · rw [Array.toList_push]
          exact rk.append (.cons ry .nil)
        · have et : (bs.map kd).take (j + 1) = (bs.map kd).take j ++ [kd b] := by
            rw [List.take_add_one, List.getElem?_map, hb]
            rfl
          rw [et]
          exact each_snoc hdy (hd.mono fun y d h => Dp.grow e4 d y h)
  case done =>
    rintro s' ⟨H3, kA, n, ys, J, zn, e3, rk, hd⟩
    rw [Nat.zero_add] at zn hd
    rw [hil] at zn
    rw [List.take_of_length_le (by rw [List.length_map]; omega)] at hd
    have nk : s'.heap.get? kS = some (seqObj "list" kA n) := (J.pin (kS, seqObj "list" kA n) (List.mem_append_right _ (by simp))).1
    have na : s'.heap.get? a = some (seqObj "list" #[] e1) := (J.pin (a, seqObj "list" #[] e1) (List.mem_append_right _ (by simp))).1
    have hna : H3 a = none := (J.pin (a, seqObj "list" #[] e1) (List.mem_append_right _ (by simp))).2.1
    have hnk : H3 kS = none := (J.pin (kS, seqObj "list" kA n) (List.mem_append_right _ (by simp))).2.1
    have each := each_reads J rk hd
    have hks : kA.size = its.length := by
      have h1 : ys.length = kA.size := by rw [Paired.length rk, Array.length_toList]
      have h2 := hd.length
      rw [List.length_map] at h2
      omega
    refine wpAny_bind (listItems_at nk rfl ?_)
    have hun : ∀ d ∈ bs.map kd, X.A.in1.in1.units + d.depth < cLine := fun d hd' => by
      obtain ⟨b, hb, rfl⟩ := List.mem_map.mp hd'
      have h1 := hdp b hb
      have h2 := hr2.units
      omega
    have kp : KeepsBut a (s'.heap.update kS fun o => { o with data := .freed }) s'.heap := fun b o hb q => by
      by_cases hbk : b = kS
      · rw [hbk, gone_at] at q
        cases q
      · rw [gone_ne _ _ _ hbk] at q
        exact q
    refine PySem.W.keyH_end (κ := PySem.W.dataKind s'.heap (bs.map kd)) (h₁ := s'.heap.update kS fun o => { o with data := .freed }) kp (gone_at _ _) nk na hka (PySem.W.SortsAt.data each hal hsk hun) hks hL fun h' tk c kp' hat => ⟨rfl, ?_⟩
    have out := PySem.W.keyedOut_each (rev := false) (R := fun u b => ∃ x, RelV x u ∧ Rx x b) kd ⟨s'.heap, kA.toList, hal, rfl, each⟩ (each_vals rv hRx)
    obtain ⟨zs, rz, ez⟩ := vals_each out
    have I8 : Inv X pins σ H3 s' := J.pins_of fun q hq => J.pin q (List.mem_append_right _ (by simp [hq]))
    have fa' : FpOk X pins H3 a := FpOk.less (FpOk.at fa hna) fun q hq => List.mem_cons_of_mem _ hq
    have fk' : FpOk X pins H3 kS := FpOk.less (FpOk.at fk hnk) fun q hq => List.mem_cons_of_mem _ (List.mem_cons_of_mem _ hq)
    have I9 : Inv X pins σ H3 { s' with heap := h', toks := tk } := I8.turnedL (t' := tk) (ch := [a, kS]) (fun b o hb q => by
      simp only [List.mem_cons, List.not_mem_nil, or_false, not_or] at hb
      exact kp' b o hb.1 (by rw [gone_ne _ _ _ hb.2]; exact q)) fun b hb => by
        simp only [List.mem_cons, List.not_mem_nil, or_false] at hb
        rcases hb with rfl | rfl
        · exact fa'
        · exact fk'
    have hzl : zs.length ≤ sizeLine := by
      have h1 := ez.length
      rw [List.length_mergeSort] at h1
      rw [h1, hbl]
      exact hz
    exact ⟨.ref a, _, inv_track I9 fa' hat rz hzl, rfl, zend H3 zn zs a ez hna⟩
end K9
/-! text W0 -/
set_option Elab.async false
set_option linter.all false
set_option maxRecDepth 100000
set_option maxHeartbeats 2000000
set_option autoImplicit false
/-! the text, its facts, a def's promise by data -/
namespace K9
open PySem PySem.Spec PyProof.Rows L2 LamX
/-- what the module holds by name: free names of built-ins, constants -/
structure Tx (K : PySem.W.Frag) (mg : Str → Option Value) : Prop where
  len : mg "len" = none
  range : mg "range" = none
  all : mg "all" = none
  sum : mg "sum" = none
  sorted : mg "sorted" = none
  tuple : mg "tuple" = none
  list : mg "list" = none
  int : mg "int" = none
  bool : mg "bool" = none
  str : mg "str" = none
  set : mg "set" = none
  zip : mg "zip" = none
  enum : mg "enumerate" = none
  max : mg "max" = none
  min : mg "min" = none
  abs : mg "abs" = none
  isi : mg "isinstance" = none
  mp : ∃ t, mg "MOST_PLACES" = some (.int 12 t)
  mm : ∃ t, mg "MOST_MEMBERS" = some (.int 60 t)
  mc : ∃ t, mg "MOST_CHARTS" = some (.int 1024 t)
abbrev FnP (K : PySem.W.Frag) (x : Str) (st : Stmt) (f : Addr) (fd : FuncData) : Prop := FunD K x x (defArgs st) (defBody st) (defScope st) [] [] f fd
/-- the context of a def's body -/
abbrev cxD (P : Program) (w : World) (K : PySem.W.Frag) (mg : Str → Option Value) (base : Heap) (N : List Str) (qual : Str) (sc : Scope) (f : Addr) (cdv : Value) (A : Around) (outer : List Env) (s : Shared) (H : Hp) (E : XK) : Cx := (cxOf C8.CX0 P w K mg base N qual sc f cdv A outer s H E).nox
/-- the body gives what R says -/
def BodyOk (P : Program) (w : World) (W : Wd) (mg : Str → Option Value) (base : Heap) (k : Nat) (N : List Str) (qual : Str) (st : Stmt) (R : FP) : Prop :=
  ∀ (f : Addr) (cdv : Value) (A : Around) (outer : List Env) (s : Shared) (H : Hp) (E : XK), Room k (A.deeper (envOfC qual (defScope st) s.heap.objs.size f cdv)) → ∃ t, PSs (cxD P w W.K mg base N qual (defScope st) f cdv A outer s H E) (defBody st) t ∧ ∀ as d, R as d → Gives W t (sto0 N.length as) d
section
variable {P : Program} {w : World} {W : Wd} {mg : Str → Option Value} {base : Heap} {k : Nat}
theorem cal_of {x : Str} {st : Stmt} {R : FP} {N ps : List Str} {f : Addr} {fd : FuncData} (hb : BodyOk P w W mg base k N x st R) (S : FnScope N ps (defScope st)) (hl : ∀ as d, R as d → as.length = ps.length) (F : FnP W.K x st f fd) (hm : mg x = some (.ref f)) (b : Binds W.K fd ps []) : C8.Cal P w W.K mg base (k + 1) x (spOf W R) [] := by
  refine ⟨f, fd, ps, [], F.ok S (fun vs H Q E h => sp_len hl h) (fun cdv A outer s H vs Q E hr h => ?_), hm, F.kp, b, .nil⟩
  obtain ⟨t, h1, h2⟩ := hb f cdv A outer s H E hr
  exact ⟨t, PSs.nox h1, body_of h h2⟩
end
end K9
/-! text KJ -/
set_option Elab.async false
set_option linter.all false
set_option maxRecDepth 100000
set_option maxHeartbeats 2000000
set_option autoImplicit false
/-! data rules: typed items, sorts, walks over pairs, further built-ins -/
namespace K9
open PySem PySem.Spec PyProof.Rows L2 LamX
theorem small_of {n : Nat} (h : n ≤ 1000) : n ≤ sizeLine := Nat.le_trans h (by decide)
theorem small_lt {n : Nat} (h : n ≤ 1000) : n < sizeLine := Nat.lt_of_le_of_lt h (by decide)
abbrev li (xs : List Int) : D := .lst (xs.map D.int)
theorem atI_map {α β : Type} (f : α → β) {ys : List α} {k : Int} {y : α} (h : atI ys k = some y) : atI (ys.map f) k = some (f y) := by
  unfold atI at h ⊢
  rw [List.length_map]
  cases q : ixN ys.length k with
  | none => rw [q] at h; cases h
  | some j =>
    rw [q] at h
    show (ys.map f)[j]? = _
    have h : ys[j]? = some y := h
    rw [List.getElem?_map, h]
    rfl
theorem map_eq_inj {α β : Type} {f : α → β} (hf : ∀ a b, f a = f b → a = b) {xs ys : List α} (h : xs.map f = ys.map f) : xs = ys := List.map_inj_right (fun a b => hf a b) |>.mp h
theorem perm_unique {α : Type} {le : α → α → Prop} (anti : ∀ a b, le a b → le b a → a = b) {xs ys : List α} (p : xs.Perm ys) (h1 : xs.Pairwise le) (h2 : ys.Pairwise le) : xs = ys := List.Perm.eq_of_pairwise (fun a b _ _ h1 h2 => anti a b h1 h2) h1 h2 p
section
variable {W : Wd} {δ δ' : Sto} {H0 B H : Hp} {o : Out}
/-! ### items -/
theorem og_ixTm {α : Type} {enc : α → D} {ys : List α} {k : Int} {y : α} (h : atI ys k = some y) : OG W (rIxT W.K) (.v (.tup (ys.map enc))) (.v (.int k)) (enc y) := og_ixT (atI_map enc h)
theorem og_ixLm {α : Type} {enc : α → D} {ys : List α} {k : Int} {y : α} (h : atI ys k = some y) : OG W (rIxL W.K) (.l (ys.map enc)) (.v (.int k)) (enc y) := og_ixL (atI_map enc h)
theorem sx_appendT {α : Type} {enc : α → D} {te : TE} {i : Nat} {ys : List α} {y : α} (hi : δ[i]? = some (.mu (ys.map enc))) (h : Ex W te δ (enc y)) (hl : ys.length < sizeLine) (ho : o = .nx (δ.set i (.mu ((ys ++ [y]).map enc)))) : SX W (tDrop (tBM W.K "list" rAppend (tVar i) (tCons te tNil))) δ o :=
  sx_append hi h (by rw [List.length_map]; exact hl) (by rw [ho, List.map_append]; rfl)
theorem sx_setitemT {α : Type} {enc : α → D} {te ti : TE} {i j : Nat} {ys : List α} {y : α} {k : Int} (hi : δ[i]? = some (.mu (ys.map enc))) (h : Ex W te δ (enc y)) (hk : Ex W ti δ (.int k)) (hj : ixN ys.length k = some j) (ho : o = .nx (δ.set i (.mu ((ys.set j y).map enc)))) : SX W (tAsg te (gSub (tVar i) ti rSetL)) δ o :=
  sx_setitem hi h hk (by rw [List.length_map]; exact hj) (by rw [ho, List.map_set])
/-! ### len, tuple, list, all -/
abbrev rLen (K : PySem.W.Frag) : List V → Hp → VK → Prop := fun xs H Q => ∃ p ys, xs = [.ref p] ∧ (SqL K H p ys ∨ SqT K H p ys) ∧ Q (.int ys.length) H
theorem ex_len {te : TE} {ds : List D} {n : Int} (h : EA W te δ (.s ds)) (hn : (ds.length : Int) = n) : Ex W (tCB (rLen W.K) (tCons te tNil)) δ (.int n) := by
  subst hn
  exact ex_cb rg_len (exa_cons h exa_nil)
theorem ex_lenT {te : TE} {α : Type} {enc : α → D} {ys : List α} (h : Ex W te δ (.tup (ys.map enc))) : Ex W (tCB (rLen W.K) (tCons te tNil)) δ (.int ys.length) := ex_len (EA.tupS h) (by rw [List.length_map])
theorem ex_lenL {te : TE} {α : Type} {enc : α → D} {ys : List α} (h : Ex W te δ (.lst (ys.map enc))) : Ex W (tCB (rLen W.K) (tCons te tNil)) δ (.int ys.length) := ex_len (EA.toS h) (by rw [List.length_map])
theorem ex_lenM {te : TE} {α : Type} {enc : α → D} {ys : List α} (h : EA W te δ (.l (ys.map enc))) : Ex W (tCB (rLen W.K) (tCons te tNil)) δ (.int ys.length) := ex_len (EA.lS h) (by rw [List.length_map])
theorem ex_lenF {te : TE} {α : Type} {enc : α → D} {ys : List α} (h : ExF W te δ (ys.map enc)) : Ex W (tCB (rLen W.K) (tCons te tNil)) δ (.int ys.length) := ex_lenM h.l
abbrev rTup (K : PySem.W.Frag) : List V → Hp → VK → Prop := fun xs H Q => ∃ p ys, xs = [.ref p] ∧ ((SqL K H p ys ∧ ∀ l, H l = none → Q (.ref l) (upd H l (.tup ys))) ∨ (SqT K H p ys ∧ Q (.ref p) H))
theorem ex_tupF {te : TE} {ds : List D} (h : ExF W te δ ds) : Ex W (tCB (rTup W.K) (tCons te tNil)) δ (.tup ds) := ex_cb rg_tupL (exa_cons h.l exa_nil)
theorem ex_tupFk {te : TE} {ds : List D} (h : ExF W te δ ds) : Ex W (tCB (rTup W.K) (tCons te tNil)) δ (.tk ds) := ex_cb rg_tupL' (exa_cons h.l exa_nil)
theorem ex_tupL {te : TE} {ds : List D} (h : EA W te δ (.l ds)) : Ex W (tCB (rTup W.K) (tCons te tNil)) δ (.tup ds) := ex_cb rg_tupL (exa_cons h exa_nil)
theorem ex_tupT {te : TE} {ds : List D} (h : Ex W te δ (.tup ds)) : Ex W (tCB (rTup W.K) (tCons te tNil)) δ (.tup ds) := ex_cb rg_tupT (exa_cons h exa_nil)
abbrev rLst (K : PySem.W.Frag) : List V → Hp → VK → Prop := fun xs H Q => ∃ p ys, xs = [.ref p] ∧ (SqL K H p ys ∨ SqT K H p ys) ∧ ∀ l, H l = none → Q (.ref l) (upd H l (.lst ys))
theorem exf_listS {te : TE} {ds : List D} (h : EA W te δ (.s ds)) : ExF W (tCB (rLst W.K) (tCons te tNil)) δ ds := exf_cb rgf_list (exa_cons h exa_nil)
theorem ex_allF {te : TE} {α : Type} {ys : List α} {f : α → Bool} (h : ExF W te δ (ys.map fun y => .bl (f y))) : Ex W (tCB (rAll W.K) (tCons te tNil)) δ (.bl (ys.all f)) := by
  have e : ys.all f = (ys.map f).all id := by rw [List.all_map]; rfl
  rw [e]
  refine ex_cb rg_all (exa_cons ?_ exa_nil)
  rw [List.map_map]
  exact h.l
theorem ex_sumM {te : TE} {ns : List Int} (h : EA W te δ (.l (ns.map D.int))) : Ex W (tCB (rSum W.K) (tCons te tNil)) δ (.int ns.sum) := ex_cb rg_sum (exa_cons h exa_nil)
/-! ### a tuple times a number -/
def rRepAny (K : PySem.W.Frag) : R2 := fun x y H Q => rRepT K x y H Q ∨ rRep01 K x y H Q
theorem op_repAny {X : Cx} : OpR X (binaryOp .Mult) (rRepAny X.K) := by
  intro pins s σ H x y v u Q I rx ry h
  rcases h with h | h
  · exact op_repT pins s σ H x y v u Q I rx ry h
  · exact op_rep01 pins s σ H x y v u Q I rx ry h
theorem og_repAny {d : D} {k : Nat} (h2 : k ≤ 1000) : OG W (rRepAny W.K) (.v (.tup [d])) (.v (.int k)) (.tup (List.replicate k d)) := fun B H x y P hx hy Q q => by
  by_cases h : 2 ≤ k
  · refine .inl (og_repT (W := W) (xs := [d]) (k := k) (by simp) (by omega) (by omega) (by simp) B H x y P hx hy Q fun v B1 H1 e hv => q v B1 H1 e ?_)
    have e1 : (List.replicate (Int.toNat k) [d]).flatten = List.replicate k d := by
      rw [Int.toNat_natCast]
      clear h h2 hy q hv
      induction k with
      | zero => rfl
      | succ n ih => rw [List.replicate_succ, List.flatten_cons, ih]; rfl
    rw [e1] at hv
    exact hv
  · refine .inr ?_
    obtain ⟨p, vs, rfl, k1, k2⟩ := ArgOk.tup P hx
    have hne : vs ≠ [] := fun z => by have := k2.len; rw [z] at this; cases this
    refine ⟨p, k, vs, rfl, hy.int, k1, hne, ?_⟩
    have : k = 0 ∨ k = 1 := by omega
    rcases this with rfl | rfl
    · refine .inr ⟨rfl, fun l hl => ?_⟩
      have e := Ext.new (o := .tup []) P hl tup_ne
      exact q _ _ _ e (Den.tup_iff.mpr ⟨l, [], rfl, .inl (.inl upd_same), DenL.nil_⟩)
    · exact .inl ⟨rfl, q _ B H (Ext.refl P) hx⟩
/-! ### sorted -/
theorem le_anti (a b : Int) (h1 : a ≤ b) (h2 : b ≤ a) : a = b := by omega
theorem exf_srtT {te : TE} {ns out : List Int} (h : Ex W te δ (.tup (ns.map D.int))) (hp : out.Perm ns) (hs : out.Pairwise (· ≤ ·)) : ExF W (tCB (rSrtT W.K) (tCons te tNil)) δ (out.map D.int) := exf_cb (fun B H xs P hx Q q => by
  obtain ⟨x, rfl, hx'⟩ := hx.one
  obtain ⟨p, vs, rfl, k1, k2⟩ := ArgOk.tup P hx'
  rw [DenL.ints k2] at k1
  refine ⟨p, ns, rfl, k1, fun ns' l hq hw hl => ?_⟩
  rw [perm_unique le_anti (hq.trans hp.symm) hw hs]
  exact q l _ B _ (Ext.newM P hl lst_ne) (Fre.of hl) upd_same (P.none_ hl) (DenL.ints_ out)) (exa_cons h exa_nil)
theorem exf_srtL {te : TE} {ns out : List Int} (h : EA W te δ (.l (ns.map D.int))) (hl : ns.length < 64) (hp : out.Perm ns) (hs : out.Pairwise (· ≤ ·)) : ExF W (tCB (rSorted W.K) (tCons te tNil)) δ (out.map D.int) := exf_cb (as := [.l (ns.map D.int)]) (fun B H xs P hx Q q => by
  obtain ⟨x, rfl, hx'⟩ := hx.one
  obtain ⟨p, vs, rfl, k1, k2⟩ := hx'
  rw [DenL.ints k2] at k1
  refine ⟨p, ns, rfl, k1, hl, fun ns' l hq hw hl => ?_⟩
  rw [perm_unique le_anti (hq.trans hp.symm) hw hs]
  exact q l _ B _ (Ext.newM P hl lst_ne) (Fre.of hl) upd_same (P.none_ hl) (DenL.ints_ out)) (exa_cons h exa_nil)
/-! ### walks over pairs -/
theorem ew_zipM {ta : TA} {xs ys : List D} (h : ExA W ta δ [.v (.lst xs), .v (.tup ys)]) : EW W (iZipM W.K ta) δ (zipD xs ys) := fun H0 B H σ a R r => h H0 B H σ a _ fun zs B1 H1 e1 hz => by
  obtain ⟨x, y, rfl, hx, hy⟩ := hz.two
  obtain ⟨p, vs, rfl, hp, hd⟩ := Den.lst_iff.mp hx.den
  obtain ⟨q, us, rfl, hq, hd2⟩ := Den.tup_iff.mp hy.den
  have up : ∀ {B2 H2 : Hp}, Same B1 B2 → Pr W B2 H2 → SqL W.K H2 p vs := fun hs P => P.sub.seq (hs.seq hp)
  have up2 : ∀ {B2 H2 : Hp}, Same B1 B2 → Pr W B2 H2 → SqT W.K H2 q us := fun hs P => SqT.up P.sub (SqT.up hs hq)
  refine ⟨p, q, vs, us, rfl, up (Same.refl _) e1.ok, up2 (Same.refl _) e1.ok, r _ B1 H1 e1 (wk_pair hd hd2 (fun i B H hs P h1 h2 => ?_) (fun B H hs P i hi => ?_) fun i B H v H' hs P hv => ?_)⟩
  · exact ⟨vs, us, vs[i], us[i], up hs P, up2 hs P, List.getElem?_eq_getElem h1, List.getElem?_eq_getElem h2⟩
  · exact ⟨vs, us, up hs P, up2 hs P, by omega⟩
  · obtain ⟨T, x, y, h1, h2, h3, h4, h5⟩ := hv
    exact ⟨T, x, y, h1, h2, h3, h4 vs (up hs P), h5 us (up2 hs P)⟩
theorem ew_enumT {ta : TA} {xs : List D} (h : ExA W ta δ [.v (.tup xs)]) : EW W (iEnumT W.K ta) δ (enumD xs) := fun H0 B H σ a R r => h H0 B H σ a _ fun zs B1 H1 e1 hz => by
  obtain ⟨x, rfl, hx⟩ := hz.one
  obtain ⟨p, vs, rfl, hp, hd⟩ := Den.tup_iff.mp hx.den
  have up : ∀ {B2 H2 : Hp}, Same B1 B2 → Pr W B2 H2 → SqT W.K H2 p vs := fun hs P => SqT.up P.sub (SqT.up hs hp)
  have hr : DenL W B1 (rng 0 xs.length) ((List.range xs.length).map fun k => V.int (0 + (k : Nat))) := by
    unfold rng
    have := DenL.ints_ (W := W) (B := B1) ((List.range xs.length).map fun k => (0 + (k : Nat) : Int))
    rw [List.map_map, List.map_map] at this
    exact this
  have hrl : ((List.range xs.length).map fun k => V.int (0 + (k : Nat))).length = vs.length := by rw [List.length_map, List.length_range, hd.len]
  refine ⟨p, vs, rfl, up (Same.refl _) e1.ok, r _ B1 H1 e1 (wk_pair hr hd (fun i B H hs P h1 h2 => ?_) (fun B H hs P i hi => ?_) fun i B H v H' hs P hv => ?_)⟩
  · exact ⟨vs, vs[i], up hs P, List.getElem?_eq_getElem h2⟩
  · exact ⟨vs, up hs P, by omega⟩
  · obtain ⟨T, x, h1, h2, h3, h4⟩ := hv
    have h5 := h4 vs (up hs P)
    have hi : i < vs.length := (List.getElem?_eq_some_iff.mp h5).1
    refine ⟨T, .int (i : Nat), x, h1, h2, h3, ?_, h5⟩
    rw [List.getElem?_map, List.getElem?_range (by rw [← hd.len]; exact hi)]
    show some (V.int (0 + (i : Int))) = _
    rw [Int.zero_add]
theorem zipD_map {α β : Type} {f : α → D} {g : β → D} {xs : List α} {ys : List β} : zipD (xs.map f) (ys.map g) = (xs.zip ys).map fun p => .tup [f p.1, g p.2] := by
  unfold zipD
  rw [List.zip_map, List.map_map]
  rfl
theorem enumD_map {α : Type} {f : α → D} {xs : List α} : enumD (xs.map f) = ((List.range xs.length).zip xs).map fun p => .tup [.int (p.1 : Nat), f p.2] := by
  unfold enumD rng
  rw [List.length_map, zipD_map]
  refine List.map_congr_left fun p _ => ?_
  rw [Int.zero_add]
/-! ### len(set(xs)) -/
theorem ex_lenSet {te : TE} {ns : List Int} (h : EA W te δ (.l (ns.map D.int))) (hn : ns.Nodup) (hl : ns.length ≤ 4000) : Ex W (RZ.tLenSetI W.K te) δ (.int (ns.length : Nat)) := fun H0 B H σ a Q q => h H0 B H σ a _ fun x B1 H1 e1 ⟨p, vs, hv, k1, k2⟩ => by
  rw [DenL.ints k2] at k1
  exact ⟨p, ns, hv, k1, hn, hl, q _ B1 H1 e1 (show Den W B1 (.int _) _ from Den.int_)⟩
/-! ### tuples whose object is known; t.index(x) -/
def rTupZ (K : PySem.W.Frag) : List V → Hp → VK → Prop := fun xs H Q => ∃ p ys, xs = [.ref p] ∧ SqL K H p ys ∧ ∀ (l : Addr) (ob : Obj), H l = none → ob.cls = .type "tuple" → ob.dict = none → Q (.ref l) (upd H l (.frz ob (.tup ys)))
theorem cr_tupZ {X : Cx} : CallR X (.type "tuple") (rTupZ X.K) := by
  intro pins s σ H xs us Q I r h
  obtain ⟨p, ys, rfl, hq, q⟩ := h
  obtain ⟨u, rfl, rx⟩ := vals1 r
  cases rx
  obtain ⟨its, r', pl, hz⟩ := I.list hq
  have hlen := r'.length
  refine call_tuple_list pl.isList (fun h' kp => ?_) (by simp only [List.size_toArray] <;> omega)
  have I1 : Inv X pins σ H { s with heap := h' } := I.kept (t' := s.toks) kp
  have I2 : Inv X pins σ (upd H h'.objs.size (.frz { cls := .type "tuple", data := .seq its.toArray } (.tup ys))) { s with heap := h'.push { cls := .type "tuple", data := .seq its.toArray } } :=
    I1.laid (t' := s.toks) (fun b o e => Heap.get?_push_of_some _ e) (Nat.le_refl _) (show ObjOk X.prog X.w _ _ _ (.frz _ (.tup ys)) from ⟨Heap.get?_push_size _ rfl, hz, its, r', IsTup.new _ _⟩)
  exact ⟨.ref h'.objs.size, _, I2, rfl, q _ _ (I1.hok.fresh (Nat.le_refl _)) rfl rfl⟩
def tBMZ (r : V → List V → Hp → VK → Prop) (to : TE) (t : TA) : TE := fun σ H Q => to σ H fun x H1 => (∃ (a : Addr) (ob : Obj) (u : HO), x = .ref a ∧ H1 a = some (.frz ob u) ∧ ob.cls = .type "tuple" ∧ ob.dict = none) ∧ t σ H1 fun xs H2 => r x xs H2 Q
theorem pe_bmZ {X : Cx} {o e : Expr} {es : List Expr} {to : TE} {t : TA} {name : Str} {apos cpos : Pos} {id : String} {r : V → List V → Hp → VK → Prop} (pa : PlainAttrs "tuple") (slot : Slot "tuple" name id) (hty : typeOf (.builtin id) = pure (.type "method_descriptor")) (hm : MtR X id r) (ho : PE X o to) (ha : PA X (e :: es) t)
    (hbase : attributeBase o name X.env (eval o X.env) = eval o X.env := by rfl)
    (hfew : ((backTo cpos (starEach (e :: es) X.env)).all (fun x => !x.1) && (backToKw cpos (keywordEach [] X.env)).all (fun x => x.1.isSome)
      && decide ((e :: es).length + ([] : List Keyword).length + (if ([] : List Keyword).isEmpty then 0 else 1) < 30)) = true := by rfl)
    (hline : (apos.endLine == cpos.line) = true := by rfl) (hs : starEach (e :: es) X.env = (false, eval e X.env) :: starEach es X.env := by rfl) (hplain : (backTo cpos (starEach es X.env)).any (·.1) = false := by rfl) :
    PE X (.Call (.Attribute o name apos) (e :: es) [] cpos) (tBMZ r to t) := by
  refine ⟨fun pins s σ H Q I h => ?_⟩
  refine wpAny_Call_method_late hbase hfew hline rfl (thn (ho.run pins s σ H _ I h) fun v s1 ⟨x, H1, I1, r1, ⟨a, ob, u, ex, ha1, hc, hd⟩, q1⟩ => ?_)
  subst ex
  cases r1
  have hg := (I1.hok a _ ha1).1
  refine ⟨"tuple", id, pa, slot, hty, ⟨ob, hg, hc⟩, fun b eb => ?_, ?_⟩
  · cases eb
    exact ⟨ob, hg, hd⟩
  · have hA := ha.run cpos pins s1 σ H1 _ I1 q1
    rw [hs] at hA ⊢
    refine Calls.callWith_builtin (by show (false || (backTo cpos (starEach es X.env)).any (·.1)) = false; rw [hplain] <;> rfl) (Calls.evalArgs_plain ?_)
    exact thn hA fun us s2 ⟨vs, H2, I2, r2, q2⟩ => hm pins s2 σ H2 (.ref a) vs (.ref a) us Q I2 rfl r2 q2
abbrev tzi (xs : List Int) : D := .tz (xs.map D.int)
theorem frz_ne {ob : Obj} {u : HO} : ∀ ps, HO.frz ob u ≠ .tbl ps := fun _ z => by cases z
theorem ex_tupZ {te : TE} {ds : List D} (h : EA W te δ (.l ds)) : Ex W (tCB (rTupZ W.K) (tCons te tNil)) δ (.tz ds) := ex_cb (as := [.l ds]) (fun B H xs P hx Q q => by
  obtain ⟨x, rfl, p, vs, rfl, k1, k2⟩ := hx.one
  refine ⟨p, vs, rfl, k1, fun l ob hl hc hd => ?_⟩
  have e := Ext.new (o := .frz ob (.tup vs)) P hl frz_ne
  exact q _ _ _ e (Den.tz_iff.mpr ⟨l, vs, rfl, ⟨ob, upd_same, hc, hd⟩, DenL.up e.bb _ _ k2⟩)) (exa_cons h exa_nil)
theorem ex_idx {to te : TE} {ns : List Int} {z : Int} {j : Nat} (h : Ex W to δ (tzi ns)) (ht : Ex W te δ (.int z)) (hj : ns[j]? = some z) (hno : ∀ m, m < j → ns[m]? ≠ some z) : Ex W (tBMZ (rIdxT W.K) to (tCons te tNil)) δ (.int (j : Nat)) := fun H0 B H σ a Q q => h H0 B H σ a _ fun x B1 H1 e1 hx => by
  obtain ⟨p, vs, rfl, ⟨ob, k1, hc, hd⟩, k2⟩ := Den.tz_iff.mp hx.den
  refine ⟨⟨p, ob, _, rfl, e1.ok.sub _ _ k1, hc, hd⟩, ?_⟩
  refine ht H0 B1 H1 σ (a.ext e1) _ fun y B2 H2 e2 hy => ?_
  have k3 : H2 p = some (.frz ob (.tup vs)) := e2.ok.sub _ _ (e2.bb _ _ k1)
  rw [DenL.ints k2] at k3
  exact ⟨p, ns, z, j, rfl, by rw [hy.int], .inl (.inr ⟨ob, k3⟩), hj, hno, q _ B2 H2 (e1.trans e2) (show Den W B2 (.int _) _ from Den.int_)⟩
theorem DenL.unz : ∀ {rows : List (List Int)} {vs : List V}, DenL W B (rows.map tzi) vs → DenL W B (rows.map ti) vs
  | [], vs, h => h
  | r :: rows, vs, h => by
    obtain ⟨v, t, rfl, hv, ht⟩ := DenL.cons_iff.mp h
    exact DenL.cons_ (Den.of_tz hv) (DenL.unz ht)
theorem Den.unz {rows : List (List Int)} {v : V} (h : Den W B (.tup (rows.map tzi)) v) : Den W B (.tup (rows.map ti)) v := by
  obtain ⟨a, vs, h1, h2, h3⟩ := Den.tup_iff.mp h
  exact Den.tup_iff.mpr ⟨a, vs, h1, h2, h3.unz⟩
/-- less is known of the own thing in a slot -/
theorem sx_sub {t : TS} {δ1 : Sto} {i c : Nat} {x : Addr} {fs fs' : List (Str × D)} (h : SX W t δ (.nx δ1)) (hi : δ1[i]? = some (.obj x c fs)) (hf : ∀ (B : Hp) gs, DenF W B fs gs → DenF W B fs' gs) : SX W t δ (.nx (δ1.set i (.obj x c fs'))) := fun B0 H0 D σ B H e s f => h B0 H0 D σ B H e s fun σ1 B1 H1 e1 s1 sl => f σ1 B1 H1 e1 s1 (by
  have hil : i < δ1.length := (List.getElem?_eq_some_iff.mp hi).1
  have at2 : ∀ {j : Nat} {y : Sl}, (δ1.set i (.obj x c fs'))[j]? = some y → (i = j ∧ y = .obj x c fs') ∨ (i ≠ j ∧ δ1[j]? = some y) := fun {j y} h => by
    by_cases q : i = j
    · subst q
      rw [List.getElem?_set_self hil] at h
      cases h
      exact .inl ⟨rfl, rfl⟩
    · rw [List.getElem?_set_ne q] at h
      exact .inr ⟨q, h⟩
  refine ⟨fun j y hj => ?_, fun j k y z q k1 k2 o1 o2 e1 e2 => ?_⟩
  · rcases at2 hj with ⟨rfl, rfl⟩ | ⟨hne, hj⟩
    · obtain ⟨ov, k1, dx, gs, k2, k3, k4, k5, k6⟩ := sl.at_ i _ hi
      exact ⟨ov, k1, dx, gs, k2, k3, k4, k5, hf _ _ k6⟩
    · exact sl.at_ j y hj
  · have un : ∀ {j : Nat} {y : Sl}, (δ1.set i (.obj x c fs'))[j]? = some y → ∃ y', δ1[j]? = some y' ∧ (y.isOwn = true → y'.isOwn = true) := fun {j y} h => by
      rcases at2 h with ⟨rfl, rfl⟩ | ⟨_, h⟩
      · exact ⟨_, hi, fun _ => rfl⟩
      · exact ⟨_, h, fun z => z⟩
    obtain ⟨y', a1, a2⟩ := un k1
    obtain ⟨z', b1, b2⟩ := un k2
    exact sl.inj j k y' z' q a1 b1 (a2 o1) (b2 o2) e1 e2)
/-! ### len(x), y in x of an instance -/
theorem ex_lenO {c : Nat} {E : XK} {R : FP} {te : TE} {fs : List (Str × D)} {n : Nat} (h : Ex W te δ (.ins c fs)) (hR : R [.v (.ins c fs)] (.int (n : Nat))) (hn : n < 1000000) : Ex W (tCB (rLenO (W.cl c) (spOf W R) E) (tCons te tNil)) δ (.int (n : Nat)) := ex_cb (as := [.v (.ins c fs)]) (fun B H xs P hx Q q => by
  obtain ⟨x, rfl, hx'⟩ := hx.one
  obtain ⟨p, dx, gs, rfl, hp, hf⟩ := Den.ins_iff.mp hx'.den
  exact ⟨p, dx, gs, rfl, P.sub _ _ hp, B, [.v (.ins c fs)], .int (n : Nat), P, hx, hR, fun v B' H' e hv => ⟨n, Den.int_eq hv, hn, q v B' H' e hv⟩⟩) (exa_cons h exa_nil)
theorem og_inO {c : Nat} {E : XK} {R : FP} {fs : List (Str × D)} {a : D} {b : Bool} (hR : R [.v (.ins c fs), .v a] (.bl b)) : OG W (rInO (W.cl c) (spOf W R) E) (.v a) (.v (.ins c fs)) (.bl b) := fun B H x y P hx hy Q q => by
  obtain ⟨p, dx, gs, rfl, hp, hf⟩ := Den.ins_iff.mp hy.den
  exact ⟨p, dx, gs, rfl, P.sub _ _ hp, B, [.v (.ins c fs), .v a], .bl b, P, ⟨_, _, rfl, hy, _, _, rfl, hx, rfl⟩, hR, fun v B' H' e hv => ⟨b, Den.bl_eq hv, q v B' H' e hv⟩⟩
/-! ### cls(..) -/
theorem ex_mkV {c i : Nat} {E : XK} {R : FI} {t : TA} {as : List AD} {fs : List (Str × D)} (hi : δ[i]? = some (.cv (.ref (W.cl c)))) (hR : R as fs) (ht : ExA W t δ as) : Ex W (tMkV i (W.cl c) (spI W c R) E t) δ (.ins c fs) := fun H0 B H σ s Q q => by
  obtain ⟨o, h1, h2⟩ := s.sl.at_ i _ hi
  refine ⟨by rw [h1, show o = some _ from h2], ?_⟩
  refine ht H0 B H σ s _ fun xs B1 H1 e1 ax x dx hx hdx hne => ?_
  refine ⟨B1, H1, x, dx, xs, as, fs, rfl, hx, hdx, hne, rfl, e1.ok, ax, hR, fun B' H' dy gs e hi hb hf => ⟨rfl, ?_⟩⟩
  have n0 : Fre H x := (Fre.of hx).back e1.hh
  exact q _ _ _ ((e1.trans e).freeze n0 hi hb ins_ne) (show Den W _ (.ins c fs) _ from Den.ins_iff.mpr ⟨x, dy, gs, rfl, upd_same, DenF.up (same_new hb) _ _ hf⟩)
/-! ### x(..), x an instance with a __call__ -/
theorem ex_callO {X : Cx} {c : Nat} {E : XK} {R : FP} {tf : TE} {t : TA} {as : List AD} {fs : List (Str × D)} {d : D} (h : Ex W tf δ (.ins c fs)) (hR : R (.v (.ins c fs) :: as) d) (ht : ExA W t δ as) : Ex W (StX.tCallO X (W.cl c) (spOf W R) E tf t) δ d := fun H0 B H σ s Q q =>
  h H0 B H σ s _ fun x B1 H1 e1 ax => by
    obtain ⟨p, dx, gs, rfl, hp, hf⟩ := Den.ins_iff.mp ax.den
    refine ⟨p, rfl, ?_⟩
    exact ht H0 B1 H1 σ (s.ext e1) _ fun xs B2 H2 e2 axs => ⟨.inr ⟨dx, gs, e2.ok.sub _ _ (e2.bb _ _ hp)⟩, B2, .v (.ins c fs) :: as, d, e2.ok, ⟨.ref p, xs, rfl, ax.ext e2, axs⟩, hR, fun v B3 H3 e3 d3 => q v B3 H3 ((e1.trans e2).trans e3) d3⟩
/-! ### C.m(..), m a classmethod -/
theorem ex_cmeth {c : Nat} {E : XK} {R : FP} {ta : TE} {t : TA} {as : List AD} {d : D} (h : EA W ta δ (.r (.ref (W.cl c)))) (hR : R (.r (.ref (W.cl c)) :: as) d) (ht : ExA W t δ as) : Ex W (ClX.tCMeth (W.cl c) (spOf W R) E ta t) δ d := fun H0 B H σ s Q q =>
  h H0 B H σ s _ fun x B1 H1 e1 ax => by
    refine ⟨ax, ?_⟩
    exact ht H0 B1 H1 σ (s.ext e1) _ fun xs B2 H2 e2 axs => ⟨B2, .r (.ref (W.cl c)) :: as, d, e2.ok, ⟨_, xs, rfl, rfl, axs⟩, hR, fun v B3 H3 e3 d3 => q v B3 H3 ((e1.trans e2).trans e3) d3⟩
/-! ### own dicts by tuples -/
theorem key_ints (ks : List Int) : (ks.map fun i => (Sum.inl i : Key)).map kV = ks.map V.int := by rw [List.map_map]; rfl
end
end K9
/-! text KL -/
set_option Elab.async false
set_option linter.all false
set_option maxRecDepth 100000
set_option maxHeartbeats 2000000
set_option autoImplicit false
/-! data rules: sorted by a key, sorted tuples, own dicts by tuples -/
namespace K9
open PySem PySem.Spec PyProof.Rows L2 LamX
open PySem.W (EachIs AllAlike Sortable dataLe)
section
variable {W : Wd} {δ δ' : Sto} {H0 B H : Hp} {o : Out}
theorem each_den {α : Type} {enc : α → D} : ∀ {ys : List α} {vs : List V}, DenL W B (ys.map enc) vs → EachIs (fun v y => Den W B (enc y) v) vs ys
  | [], vs, h => by
    rw [DenL.nil_eq h]
    exact .nil
  | y :: ys, vs, h => by
    obtain ⟨v, r, rfl, hv, t⟩ := DenL.cons_iff.mp h
    exact .cons hv (each_den t)
theorem den_each {α : Type} {enc : α → D} : ∀ {ys : List α} {vs : List V}, EachIs (fun v y => Den W B (enc y) v) vs ys → DenL W B (ys.map enc) vs
  | _, _, .nil => DenL.nil_
  | _, _, .cons h t => DenL.cons_ h (den_each t)
theorem exf_sortK {α : Type} {enc : α → D} {N : List Str} {t : TA} {tb : TE} {ys zs : List α} (kx : α → D) (ht : ExA W t δ [.l (ys.map enc)]) (hlen : ys.length ≤ 4096) (hal : AllAlike (ys.map fun y => (kx y).py)) (hso : Sortable (ys.map fun y => (kx y).py))
    (hdep : ∀ y ∈ ys, ((kx y).py).depth ≤ 8) (hpl : ∀ y ∈ ys, (kx y).plain = true) (hb : ∀ y ∈ ys, Ex W tb (sto0 N.length [.v (enc y)]) (kx y)) (hz : ys.mergeSort (dataLe false fun y => (kx y).py) = zs) : ExF W (tSortK W.K W.T N t tb) δ (zs.map enc) := fun H0 B H σ s Q q =>
  ht H0 B H σ s _ fun xs B1 H1 e1 ax => by
    obtain ⟨x, rfl, p, vs, rfl, k1, k2⟩ := ax.one
    refine ⟨e1.ok.tabs, p, vs, α, ys, fun v y => Den W B1 (enc y) v, fun y => (kx y).py, rfl, k1, each_den k2, by rw [k2.len, List.length_map]; exact hlen, hal, hso, hdep, fun H2 x2 t2 => ?_⟩
    have p2 : Pr W B1 H2 := by
      refine ⟨fun a o h => x2 a o (e1.ok.sub a o h) fun ps z => ?_, fun a ps h => ?_, t2⟩
      · subst z
        have k := e1.ok.tab a ps (e1.ok.sub _ _ h)
        rw [k] at h
        cases h
      · cases z : B1 a with
        | none => rfl
        | some o =>
          have h1 := e1.ok.sub a o z
          by_cases hn : ∀ qs, o ≠ .tbl qs
          · have k := x2 a _ h1 hn
            rw [h] at k
            cases k
            exact absurd rfl (hn ps)
          · cases o with
            | tbl qs => rw [e1.ok.tab a qs h1] at z; cases z
            | _ => exact absurd (fun qs z => by cases z) hn
    have e2 : Ext W B1 H1 B1 H2 := ⟨x2, Same.refl _, p2, fun _ _ h _ _ => h⟩
    refine ⟨fun i H3 => ∃ B3, Ext W B1 H1 B3 H3, ⟨B1, e2⟩, ?_, ?_⟩
    · rintro i H3 x b ⟨B3, e3⟩ hx hy
      have hd : Den W B1 (enc b) x := by
        obtain ⟨v, h1, h2⟩ := k2.get (i := i) (d := enc b) (by rw [List.getElem?_map, hy]; rfl)
        rw [hx] at h1
        cases h1
        exact h2
      refine hb b (List.mem_of_getElem? hy) H3 B3 H3 (L2.start N [x]) ⟨e3.ok, ExtN.refl H3, slots_start ⟨x, [], rfl, Den.up e3.bb _ _ hd, rfl⟩⟩ _ fun y B4 H4 e4 hy4 => ?_
      exact ⟨⟨B4, e3.trans e4⟩, e4.hh, Den.dp e4.ok.sub _ _ hy4.den (hpl b (List.mem_of_getElem? hy))⟩
    · rintro H3 ⟨B3, e3⟩ zs' l hr hl
      rw [hz] at hr
      have e13 := e1.trans e3
      exact q l zs' B3 _ (e13.trans (Ext.newM e3.ok hl lst_ne)) ((Fre.of hl).back e13.hh) upd_same (e3.ok.none_ hl) (DenL.up e3.bb _ _ (den_each hr))
/-! ### sorted tuples of ints -/
theorem perm_den : ∀ {xs ys : List V}, ys.Perm xs → ∀ {ds : List D}, DenL W B ds xs → ∃ es : List D, es.Perm ds ∧ DenL W B es ys := by
  intro xs ys h
  induction h with
  | nil => intro ds hd; exact ⟨ds, .refl _, hd⟩
  | @cons x l1 l2 p ih =>
    intro ds hd
    cases ds with
    | nil => have := DenL.nil_eq hd; cases this
    | cons d ds =>
      obtain ⟨v, r, e, hv, t⟩ := DenL.cons_iff.mp hd
      cases e
      obtain ⟨es, h1, h2⟩ := ih t
      exact ⟨d :: es, h1.cons d, DenL.cons_ hv h2⟩
  | @swap x y l =>
    intro ds hd
    cases ds with
    | nil => have := DenL.nil_eq hd; cases this
    | cons d ds =>
      obtain ⟨v, r, e, hv, t⟩ := DenL.cons_iff.mp hd
      cases e
      cases ds with
      | nil => have := DenL.nil_eq t; cases this
      | cons d' ds =>
        obtain ⟨v', r', e, hv', t'⟩ := DenL.cons_iff.mp t
        cases e
        exact ⟨d' :: d :: ds, .swap d d' ds, DenL.cons_ hv' (DenL.cons_ hv t')⟩
  | @trans l1 l2 l3 p1 p2 ih1 ih2 =>
    intro ds hd
    obtain ⟨es, h1, h2⟩ := ih2 hd
    obtain ⟨fs, h3, h4⟩ := ih1 h2
    exact ⟨fs, h3.trans h1, h4⟩
abbrev tki (xs : List Int) : D := .tk (xs.map D.int)
theorem tki_inj (a b : List Int) (h : tki a = tki b) : a = b := by
  have h : a.map D.int = b.map D.int := by
    unfold tki at h
    exact D.tk.inj h
  exact map_eq_inj (fun a b e => D.int.inj e) h
theorem perm_map_ex {α β : Type} {f : α → β} {es : List β} : ∀ {l : List α}, es.Perm (l.map f) → ∃ ys : List α, ys.Perm l ∧ ys.map f = es := fun {l} h => by
  have : ∀ {xs ys : List β}, xs.Perm ys → ∀ {l : List α}, ys = l.map f → ∃ zs : List α, zs.Perm l ∧ zs.map f = xs := by
    intro xs ys h
    induction h with
    | nil =>
      intro l e
      cases l with
      | nil => exact ⟨[], .refl _, rfl⟩
      | cons a l => cases e
    | @cons x l1 l2 p ih =>
      intro l e
      cases l with
      | nil => cases e
      | cons a l =>
        rw [List.map_cons] at e
        obtain ⟨e1, e2⟩ := List.cons.inj e
        obtain ⟨zs, h1, h2⟩ := ih e2
        exact ⟨a :: zs, h1.cons a, by rw [List.map_cons, h2, e1]⟩
    | @swap x y t =>
      intro l e
      cases l with
      | nil => cases e
      | cons a l =>
        cases l with
        | nil =>
          rw [List.map_cons] at e
          cases (List.cons.inj e).2
        | cons b l =>
          rw [List.map_cons, List.map_cons] at e
          obtain ⟨e1, e2⟩ := List.cons.inj e
          obtain ⟨e3, e4⟩ := List.cons.inj e2
          exact ⟨b :: a :: l, .swap a b l, by rw [List.map_cons, List.map_cons, e1, e3, e4]⟩
    | @trans l1 l2 l3 p1 p2 ih1 ih2 =>
      intro l e
      obtain ⟨zs, h1, h2⟩ := ih2 e
      obtain ⟨ws, h3, h4⟩ := ih1 h2.symm
      exact ⟨ws, h3.trans h1, h4⟩
  exact this h rfl
theorem tupI_tk {ns : List Int} {x : V} (P : Pr W B H) (h : Den W B (tki ns) x) : TupI W.K H x ns := by
  obtain ⟨a, vs, rfl, h2, h3⟩ := Den.tk_iff.mp h
  rw [DenL.ints h3] at h2
  exact ⟨a, rfl, .inl (.inl (P.sub _ _ h2))⟩
theorem pairwise_get {α : Type} {R : α → α → Prop} : ∀ {l : List α}, (∀ (i j : Nat) (a b : α), i < j → l[i]? = some a → l[j]? = some b → R a b) → l.Pairwise R
  | [], _ => .nil
  | x :: l, h => by
    refine List.Pairwise.cons (fun b hb => ?_) (pairwise_get fun i j a b hij e1 e2 => h (i + 1) (j + 1) a b (by omega) (by rw [List.getElem?_cons_succ]; exact e1) (by rw [List.getElem?_cons_succ]; exact e2))
    obtain ⟨j, hj⟩ := List.mem_iff_getElem?.mp hb
    exact h 0 (j + 1) x b (by omega) rfl (by rw [List.getElem?_cons_succ]; exact hj)
theorem exf_srtU {te : TE} {d : Nat} {Bn : Int} {xs zs : List (List Int)} (h : EA W te δ (.l (xs.map tki))) (hl : xs.length < 64) (hd : ∀ x ∈ xs, x.length = d ∧ TS.Bd Bn x) (hp : zs.Perm xs) (hs : zs.Pairwise fun a b => TS.code Bn a ≤ TS.code Bn b) (ha : ∀ a ∈ xs, ∀ b ∈ xs, TS.code Bn a ≤ TS.code Bn b → TS.code Bn b ≤ TS.code Bn a → a = b) : ExF W (tCB (rSortU W.K d Bn) (tCons te tNil)) δ (zs.map tki) := exf_cb (as := [.l (xs.map tki)]) (fun B H us P hx Q q => by
  obtain ⟨x, rfl, p, vs, rfl, k1, k2⟩ := hx.one
  refine ⟨p, vs, rfl, k1, by rw [k2.len, List.length_map]; exact hl, fun x hx => ?_, fun ys l hq hw hl => ?_⟩
  · obtain ⟨i, hi⟩ := List.mem_iff_getElem?.mp hx
    obtain ⟨e, h1, h2⟩ := k2.getV hi
    rw [List.getElem?_map] at h1
    obtain ⟨n, h3, rfl⟩ := Option.map_eq_some_iff.mp h1
    obtain ⟨h4, h5⟩ := hd n (List.mem_of_getElem? h3)
    exact ⟨n, tupI_tk P h2, h4, h5⟩
  · obtain ⟨es, h1, h2⟩ := perm_den hq k2
    obtain ⟨ws, h3, rfl⟩ := perm_map_ex h1
    have e : ws = zs := by
      refine List.Perm.eq_of_pairwise (le := fun a b => TS.code Bn a ≤ TS.code Bn b) (fun a b m1 m2 l1 l2 => ha a (h3.mem_iff.mp m1) b (hp.mem_iff.mp m2) l1 l2) ?_ hs (h3.trans hp.symm)
      refine pairwise_get fun i j a b hij e1 e2 => ?_
      obtain ⟨va, a1, a2⟩ := h2.get (i := i) (d := tki a) (by rw [List.getElem?_map, e1]; rfl)
      obtain ⟨vb, b1, b2⟩ := h2.get (i := j) (d := tki b) (by rw [List.getElem?_map, e2]; rfl)
      have hpw := List.pairwise_iff_getElem.mp hw i j (List.getElem?_eq_some_iff.mp a1).1 (List.getElem?_eq_some_iff.mp b1).1 hij
      rw [(List.getElem?_eq_some_iff.mp a1).2, (List.getElem?_eq_some_iff.mp b1).2] at hpw
      exact hpw a b (tupI_tk P a2) (tupI_tk P b2)
    subst e
    exact q l ys B _ (Ext.newM P hl lst_ne) (Fre.of hl) upd_same (P.none_ hl) h2) (exa_cons h exa_nil)
/-! ### own dicts by tuples -/
abbrev kK (ks : List Int) : List Key := ks.map Sum.inl
theorem kK_kV (ks : List Int) : (kK ks).map kV = ks.map V.int := by
  unfold kK
  rw [List.map_map]
  rfl
theorem tk_at {ks : List Int} {x : V} (P : Pr W B H) (h : Den W B (tki ks) x) : ∃ b, x = .ref b ∧ H b = some (.tup ((kK ks).map kV)) := by
  obtain ⟨a, vs, rfl, h2, h3⟩ := Den.tk_iff.mp h
  rw [DenL.ints h3] at h2
  exact ⟨a, rfl, by rw [kK_kV]; exact P.sub _ _ h2⟩
theorem ex_dnotin {i : Nat} {ty : TE} {kvs : List (List Key × V)} {ks : List Int} (hi : δ[i]? = some (.dt kvs)) (h : Ex W ty δ (tki ks)) : Ex W (tDNotIn ty (tVar i)) δ (.bl (!(valV kvs (kK ks)).isSome)) := fun H0 B H σ s Q q => h H0 B H σ s _ fun x B1 H1 e1 hx => by
  obtain ⟨o, h1, p, h2, h3, h4, h5⟩ := (s.ext e1).sl.at_ i _ hi
  obtain ⟨b, rfl, hb⟩ := tk_at e1.ok hx.den
  exact ⟨.ref p, by rw [h1, h2], p, _, rfl, DGet.t h3 hb, q _ B1 H1 e1 (show Den W B1 (.bl _) _ from Den.bl_)⟩
theorem ex_dget {i : Nat} {ty : TE} {kvs : List (List Key × V)} {ks : List Int} {z : Int} (hi : δ[i]? = some (.dt kvs)) (h : Ex W ty δ (tki ks)) (hv : valV kvs (kK ks) = some (.int z)) : Ex W (tDGet (tVar i) ty) δ (.int z) := fun H0 B H σ s Q q => by
  obtain ⟨o, h1, p, rfl, h3, h4, h5⟩ := s.sl.at_ i _ hi
  refine ⟨.ref p, h1, h H0 B H σ s _ fun x B1 H1 e1 hx => ?_⟩
  obtain ⟨b, rfl, hb⟩ := tk_at e1.ok hx.den
  refine ⟨p, _, rfl, by rw [← hv]; exact DGet.t (e1.hh _ _ h3 dT_ne) hb, q _ B1 H1 e1 (show Den W B1 (.int _) _ from Den.int_)⟩
theorem sx_dput {i : Nat} {ty tv : TE} {kvs : List (List Key × V)} {ks : List Int} {d : D} {v : V} (hi : δ[i]? = some (.dt kvs)) (h : Ex W ty δ (tki ks)) (hv : Ex W tv δ d) (hd : d.sc = some v) (hl : kvs.length < sizeLine) (ho : o = .nx (δ.set i (.dt (putK kvs (kK ks) v)))) : SX W (sDPut (tVar i) ty tv) δ o := fun B0 H0 D σ B H e s f => by
  subst ho
  refine hv H0 B H σ (e.at_ s) _ fun y B1 H1 e1 hy => ?_
  obtain ⟨ov, h1, p, rfl, h3, h4, h5⟩ := (s.ext e1).at_ i _ hi
  refine ⟨.ref p, h1, ?_⟩
  refine h H0 B1 H1 σ ((e.at_ s).ext e1) _ fun x B2 H2 e2 hx => ?_
  obtain ⟨b, rfl, hb⟩ := tk_at e2.ok hx.den
  have k1 := e2.hh _ _ h3 dT_ne
  have k2 := e2.fr _ _ h4 h3 dT_ne
  have hyv : y = v := Den.sc hy.den hd
  subst hyv
  refine ⟨p, _, rfl, DPut.t k1 hb hl, ?_⟩
  have e12 := e1.trans e2
  have w1 : Ext W B0 H0 B2 (upd H2 p (.dT (putK kvs (kK ks) y))) := (e.trans e12).write h5 k1 k2 dT_ne (fun c q z => by unfold CodeO at z; cases z) dT_ne
  have w2 := (s.ext e12).set_own (i := i) (x := .dt (putK kvs (kK ks) y)) (p := p) (u := .dT (putK kvs (kK ks) y)) ⟨p, rfl, upd_same, k2, h5⟩ rfl ⟨_, hi, rfl, h1⟩
  rw [set_self h1] at w2
  exact f σ B2 _ w1 e12.bb w2
/-- its value is a new dict, not yet stable -/
def ExDt (W : Wd) (t : TE) (δ : Sto) (kvs : List (List Key × V)) : Prop := ∀ (H0 B H : Hp) (σ : L2.St), At W H0 B H σ δ → ∀ Q : VK, (∀ p B' H', Ext W B H B' H' → Fre H p → H' p = some (.dT kvs) → B' p = none → Q (.ref p) H') → t σ H Q
theorem sx_setD {te : TE} {i : Nat} {kvs : List (List Key × V)} (h : ExDt W te δ kvs) (ho : o = .nx (δ.set i (.dt kvs))) : SX W (tAsg te (gName i)) δ o := fun B0 H0 D σ B H e s f =>
  h H0 B H σ (e.at_ s) _ fun p B1 H1 e1 n hp hb => by
    subst ho
    exact f _ B1 H1 (e.trans e1) e1.bb ((s.ext e1).set_new s ⟨p, rfl, hp, hb, n.back e.hh⟩ rfl n)
theorem exdt_one {tk tv : TE} {ks : List Int} {d : D} {v : V} (h : Ex W tk δ (tki ks)) (hv : Ex W tv δ d) (hd : d.sc = some v) : ExDt W (tDsp1 tk tv) δ [(kK ks, v)] := fun H0 B H σ s Q q p hp => by
  have e0 := Ext.newM (o := .dT []) s.pr hp dT_ne
  refine h H0 B _ σ (s.ext e0) _ fun x B1 H1 e1 hx => ?_
  have e01 := e0.trans e1
  refine hv H0 B1 H1 σ (s.ext e01) _ fun y B2 H2 e2 hy => ?_
  obtain ⟨b, rfl, hb⟩ := tk_at e2.ok (hx.ext e2).den
  have k1 : H2 p = some (.dT []) := (e1.trans e2).hh _ _ upd_same dT_ne
  have k2 : B2 p = none := (e1.trans e2).fr _ _ (s.pr.none_ hp) upd_same dT_ne
  have hyv : y = v := Den.sc hy.den hd
  subst hyv
  refine ⟨b, kK ks, rfl, hb, k1, ?_⟩
  exact q p B2 _ ((e01.trans e2).write (Fre.of hp) k1 k2 dT_ne (fun c q z => by unfold CodeO at z; cases z) dT_ne) (Fre.of hp) upd_same k2
/-- the dict at D as it grows -/
structure GrowD (B H : Hp) (D : Addr) (kvs : List (List Key × V)) : Prop where
  ex : H D = some (.dT kvs)
  nb : B D = none
theorem putK_le (kvs : List (List Key × V)) (k : List Key) (v : V) : (putK kvs k v).length ≤ kvs.length + 1 := by
  unfold putK
  split
  · rw [List.length_map]; omega
  · rw [List.length_append]; exact Nat.le_refl _
theorem fold_le {α : Type} (kf : α → List Key) (vf : α → V) : ∀ (ys : List α) (a : List (List Key × V)), (ys.foldl (fun a y => putK a (kf y) (vf y)) a).length ≤ a.length + ys.length
  | [], a => Nat.le_refl _
  | y :: ys, a => by
    rw [List.foldl_cons, List.length_cons]
    have h1 := fold_le kf vf ys (putK a (kf y) (vf y))
    have h2 := putK_le a (kf y) (vf y)
    omega
theorem exdt_dc {α : Type} {wi : TI} {g : TG} {tk tv : TE} {vs : List Nat} {ys : List α} {enc : α → D} (kf : α → List Int) (vf : α → Int) (hw : EW W wi δ (ys.map enc))
    (hs : ∀ x, x ∈ ys → ∃ δ1, GX W g (enc x) vs (wipeD δ vs) δ1 ∧ Ex W tk δ1 (tki (kf x)) ∧ Ex W tv δ1 (.int (vf x))) (hz : ys.length ≤ 1000) : ExDt W (tDcT wi g tk tv vs) δ (ys.foldl (fun a y => putK a (kK (kf y)) (.int (vf y))) []) := fun H0 B H σ a Q q =>
  hw H0 B H σ a _ fun J B1 H1 e1 wk A hA => by
    have a1 := a.ext e1
    have hlm : ∀ {i : Nat}, i < ys.length → i < (ys.map enc).length := fun h => by rw [List.length_map]; exact h
    have n1 : B1 A = none := e1.ok.none_ hA
    have e2 := Ext.newM (o := .dT []) e1.ok hA dT_ne
    let G : List α → List (List Key × V) := fun l => l.foldl (fun a y => putK a (kK (kf y)) (.int (vf y))) []
    refine ⟨fun i m H2 => m = ys.length - i ∧ i ≤ ys.length ∧ ∃ B2, Ext W B H B2 H2 ∧ Same B1 B2 ∧ ExtN H1 H2 ∧ GrowD B2 H2 A (G (ys.take i)), ⟨ys.length, rfl, Nat.zero_le _, B1, e1.trans e2, Same.refl _, e2.hh, ⟨upd_same, n1⟩⟩, ?_⟩
    rintro i m H2 ⟨rfl, hi, B2, e, sb, x2, gr⟩
    have a2 : At W H0 B2 H2 σ δ := a.ext e
    by_cases hlt : i < ys.length
    · refine .inr ⟨wk.go i B2 H2 (hlm hlt) sb e.ok a2.h0, fun H3 => i + 1 ≤ ys.length ∧ ∃ B3, Ext W B H B3 H3 ∧ Same B1 B3 ∧ ExtN H1 H3 ∧ GrowD B3 H3 A (G (ys.take (i + 1))), fun H3 h3 => ⟨ys.length - (i + 1), by omega, rfl, h3.1, h3.2⟩, fun v H3 hy => ?_⟩
      obtain ⟨B3, d0, hd0, e3, hv⟩ := wk.yld i B2 H2 v H3 (hlm hlt) sb e.ok a2.h0 hy
      obtain ⟨d, hd, rfl⟩ : ∃ d, ys[i]? = some d ∧ enc d = d0 := by
        rw [List.getElem?_map] at hd0
        exact Option.map_eq_some_iff.mp hd0
      obtain ⟨δ1, hg, hk, hv2⟩ := hs d (List.mem_of_getElem? hd)
      have a3 : At W H0 B3 H3 σ δ := a2.ext e3
      obtain ⟨g1, g3⟩ := gr
      have et : G (ys.take (i + 1)) = putK (G (ys.take i)) (kK (kf d)) (.int (vf d)) := by
        show (ys.take (i + 1)).foldl _ _ = _
        rw [List.take_add_one, hd, List.foldl_append]
        rfl
      refine hg H0 B3 H3 _ v (at_wipe a3 vs) hv _ fun σ2 s2 w2 => ?_
      have ws : wipe (wipe σ vs) vs = wipe σ vs := wipe_idem vs σ fun _ h => h
      refine ⟨w2.trans ws, ?_⟩
      refine hk H0 B3 H3 σ2 ⟨a3.pr, a3.h0, s2⟩ _ fun x4 B4 H4 e4 hx4 => ?_
      refine hv2 H0 B4 H4 σ2 ⟨e4.ok, a3.h0.trans e4.hh, s2.ext e4⟩ _ fun y B5 H5 e5 hy5 => ?_
      have e45 := e4.trans e5
      obtain ⟨b, rfl, hb⟩ := tk_at e5.ok (hx4.ext e5).den
      have k1 : H5 A = some (.dT (G (ys.take i))) := e45.hh _ _ (e3.hh _ _ g1 dT_ne) dT_ne
      have k2 : B5 A = none := e45.fr _ _ (e3.fr _ _ g3 g1 dT_ne) (e3.hh _ _ g1 dT_ne) dT_ne
      have hl : (G (ys.take i)).length < sizeLine := by
        have h1 := fold_le (fun y => kK (kf y)) (fun y => V.int (vf y)) (ys.take i) []
        have h2 : (ys.take i).length ≤ ys.length := by rw [List.length_take]; omega
        refine small_lt (Nat.le_trans h1 ?_)
        show 0 + _ ≤ _
        omega
      have fA : Fre H A := (Fre.of hA).back e1.hh
      refine ⟨_, kK (kf d), b, rfl, hb, k1, hl, hlt, B5, ((e.trans e3).trans e45).write fA k1 k2 dT_ne (fun c q z => by unfold CodeO at z; cases z) dT_ne, (sb.trans e3.bb).trans e45.bb, fun b o h n => ?_, ⟨?_, k2⟩⟩
      · rw [upd_ne ((Fre.of hA).ne h n)]
        exact ((x2.trans e3.hh).trans e45.hh) b o h n
      · rw [upd_same, et, hy5.int]
    · have ei : i = ys.length := by omega
      subst ei
      obtain ⟨g1, g3⟩ := gr
      rw [List.take_length] at g1
      exact .inl ⟨by have z := wk.stop B2 H2 sb e.ok a2.h0; rw [List.length_map] at z; exact z, q A B2 H2 e ((Fre.of hA).back e1.hh) g1 g3⟩
end
end K9
/-! text KM -/
set_option Elab.async false
set_option linter.all false
set_option maxRecDepth 100000
set_option maxHeartbeats 2000000
set_option autoImplicit false
/-! short words of the walks -/
namespace K9
open PySem PySem.Spec PyProof.Rows L2 LamX
section
variable {P : Program} {w : World} {W : Wd} {mg : Str → Option Value} {base : Heap} {k : Nat} {δ δ' : Sto} {o : Out}
theorem EA.eq {t : TE} {a b : AD} (h : EA W t δ a) (e : a = b) : EA W t δ b := by rw [← e]; exact h
theorem Ex.to {t : TE} {a b : D} (h : Ex W t δ a) (e : a = b) : Ex W t δ b := by rw [← e]; exact h
theorem ExF.to {t : TE} {a b : List D} (h : ExF W t δ a) (e : a = b) : ExF W t δ b := by rw [← e]; exact h
theorem ExT.to {t : TT} {a b : Bool} (h : ExT W t δ a) (e : a = b) : ExT W t δ b := by rw [← e]; exact h
theorem EW.to {t : TI} {a b : List D} (h : EW W t δ a) (e : a = b) : EW W t δ b := by rw [← e]; exact h
theorem sx_ifT {c : TT} {t u : TS} {b : Bool} (hc : ExT W c δ b) (hb : b = true) (h1 : SX W t δ o) : SX W (tIfS c t u) δ o := sx_if hc (fun _ => h1) fun h => by rw [hb] at h; cases h
theorem sx_ifF {c : TT} {t u : TS} {b : Bool} (hc : ExT W c δ b) (hb : b = false) (h2 : SX W u δ o) : SX W (tIfS c t u) δ o := sx_if hc (fun h => by rw [hb] at h; cases h) fun _ => h2
theorem ex_ltI {ta tb : TE} {i j : Int} (ha : Ex W ta δ (.int i)) (hb : Ex W tb δ (.int j)) : Ex W (tOp (rI0 fun i j => .bl (decide (i < j))) ta tb) δ (.bl (decide (i < j))) := ex_op (og_ib (f := fun i j => decide (i < j))) ha hb
theorem ex_leI {ta tb : TE} {i j : Int} (ha : Ex W ta δ (.int i)) (hb : Ex W tb δ (.int j)) : Ex W (tOp (rI0 fun i j => .bl (decide (i ≤ j))) ta tb) δ (.bl (decide (i ≤ j))) := ex_op (og_ib (f := fun i j => decide (i ≤ j))) ha hb
theorem ex_gtI {ta tb : TE} {i j : Int} (ha : Ex W ta δ (.int i)) (hb : Ex W tb δ (.int j)) : Ex W (tOp (rI0 fun i j => .bl (decide (j < i))) ta tb) δ (.bl (decide (j < i))) := ex_op (og_ib (f := fun i j => decide (j < i))) ha hb
theorem ex_geI {ta tb : TE} {i j : Int} (ha : Ex W ta δ (.int i)) (hb : Ex W tb δ (.int j)) : Ex W (tOp (rI0 fun i j => .bl (decide (j ≤ i))) ta tb) δ (.bl (decide (j ≤ i))) := ex_op (og_ib (f := fun i j => decide (j ≤ i))) ha hb
theorem ex_eqI {ta tb : TE} {i j : Int} (ha : Ex W ta δ (.int i)) (hb : Ex W tb δ (.int j)) : Ex W (tOp rEq ta tb) δ (.bl (decide (i = j))) := ex_op og_eqI ha hb
theorem ex_neI {ta tb : TE} {i j : Int} (ha : Ex W ta δ (.int i)) (hb : Ex W tb δ (.int j)) : Ex W (tOp rNe ta tb) δ (.bl (!decide (i = j))) := ex_op og_neI ha hb
theorem ex_eqS {ta tb : TE} {i j : Str} (ha : Ex W ta δ (.str i)) (hb : Ex W tb δ (.str j)) : Ex W (tOp rEq ta tb) δ (.bl (decide (i = j))) := ex_op og_eqS ha hb
theorem ex_neS {ta tb : TE} {i j : Str} (ha : Ex W ta δ (.str i)) (hb : Ex W tb δ (.str j)) : Ex W (tOp rNe ta tb) δ (.bl (!decide (i = j))) := ex_op og_neS ha hb
theorem ex_addI {ta tb : TE} {i j : Int} (ha : Ex W ta δ (.int i)) (hb : Ex W tb δ (.int j)) : Ex W (tOp (rI0 fun i j => .int (i + j)) ta tb) δ (.int (i + j)) := ex_op (og_ii (f := fun i j => i + j)) ha hb
theorem ex_subI {ta tb : TE} {i j : Int} (ha : Ex W ta δ (.int i)) (hb : Ex W tb δ (.int j)) : Ex W (tOp (rI0 fun i j => .int (i - j)) ta tb) δ (.int (i - j)) := ex_op (og_ii (f := fun i j => i - j)) ha hb
theorem ex_mulI {ta tb : TE} {i j : Int} (ha : Ex W ta δ (.int i)) (hb : Ex W tb δ (.int j)) (h : CMul i j) : Ex W (tOp (rI CMul fun i j => .int (i * j)) ta tb) δ (.int (i * j)) := ex_op (og_iC (f := fun i j => i * j) h) ha hb
theorem ex_modI {ta tb : TE} {i j : Int} (ha : Ex W ta δ (.int i)) (hb : Ex W tb δ (.int j)) (h : 0 < j) : Ex W (tOp (rI (fun _ j => 0 < j) fun i j => .int (i % j)) ta tb) δ (.int (i % j)) := ex_op (og_iC (C := fun _ j => 0 < j) (f := fun i j => i % j) h) ha hb
theorem ex_fdivI {ta tb : TE} {i j : Int} (ha : Ex W ta δ (.int i)) (hb : Ex W tb δ (.int j)) (h : CDiv i j) : Ex W (tOp (rI CDiv fun i j => .int (i / j)) ta tb) δ (.int (i / j)) := ex_op (og_iC (f := fun i j => i / j) h) ha hb
abbrev rInt : List V → Hp → VK → Prop := fun xs H Q => (∃ i, xs = [.int i] ∧ Q (.int i) H) ∨ ∃ k, xs = [.bl k] ∧ Q (.int (if k then 1 else 0)) H
theorem ex_intI {ta : TE} {i : Int} (ha : Ex W ta δ (.int i)) : Ex W (tCB rInt (tCons ta tNil)) δ (.int i) := ex_cb rg_int (exa_cons ha exa_nil)
theorem ex_intB {ta : TE} {b : Bool} (ha : Ex W ta δ (.bl b)) : Ex W (tCB rInt (tCons ta tNil)) δ (.int (if b then 1 else 0)) := ex_cb rg_intB (exa_cons ha exa_nil)
theorem ex_ixT {α : Type} {enc : α → D} {ta tb : TE} {ys : List α} {k : Int} {y : α} (ha : Ex W ta δ (.tup (ys.map enc))) (hb : Ex W tb δ (.int k)) (h : atI ys k = some y) : Ex W (tOp (rIxT W.K) ta tb) δ (enc y) := ex_op (og_ixTm h) ha hb
theorem ex_ixL {α : Type} {enc : α → D} {ta tb : TE} {ys : List α} {k : Int} {y : α} (ha : EA W ta δ (.l (ys.map enc))) (hb : Ex W tb δ (.int k)) (h : atI ys k = some y) : Ex W (tOp (rIxL W.K) ta tb) δ (enc y) := ex_op (og_ixLm h) ha hb
theorem ew_zipTm {α β : Type} {f : α → D} {g : β → D} {ta tb : TE} {xs : List α} {ys : List β} (ha : Ex W ta δ (.tup (xs.map f))) (hb : Ex W tb δ (.tup (ys.map g))) : EW W (RZ.iZipA W.K (tCons ta (tCons tb tNil))) δ ((xs.zip ys).map fun p => .tup [f p.1, g p.2]) := by
  rw [← zipD_map]
  exact ew_zipT (exa_cons ha (exa_cons hb exa_nil))
theorem ew_zipMm {α β : Type} {f : α → D} {g : β → D} {ta tb : TE} {xs : List α} {ys : List β} (ha : Ex W ta δ (.lst (xs.map f))) (hb : Ex W tb δ (.tup (ys.map g))) : EW W (iZipM W.K (tCons ta (tCons tb tNil))) δ ((xs.zip ys).map fun p => .tup [f p.1, g p.2]) := by
  rw [← zipD_map]
  exact ew_zipM (exa_cons ha (exa_cons hb exa_nil))
theorem ew_enumTm {α : Type} {f : α → D} {ta : TE} {xs : List α} (ha : Ex W ta δ (.tup (xs.map f))) : EW W (iEnumT W.K (tCons ta tNil)) δ (((List.range xs.length).zip xs).map fun p => .tup [.int (p.1 : Nat), f p.2]) := by
  rw [← enumD_map]
  exact ew_enumT (exa_cons ha exa_nil)
theorem ew_enumLm {α : Type} {f : α → D} {ta : TE} {xs : List α} (ha : Ex W ta δ (.lst (xs.map f))) : EW W (iEnum W.K (tCons ta tNil)) δ (((List.range xs.length).zip xs).map fun p => .tup [.int (p.1 : Nat), f p.2]) := by
  rw [← enumD_map]
  exact ew_enumL (exa_cons ha exa_nil)
theorem ew_rg1 {ta : TE} {n : Nat} (ha : Ex W ta δ (.int n)) (h : n ≤ 1000) : EW W (iRng1 (tCons ta tNil)) δ ((List.range n).map fun k => .int (k : Nat)) := by
  refine (ew_range1 (exa_cons ha exa_nil) (by omega) (by omega)).to ?_
  unfold rng
  rw [Int.toNat_natCast]
  exact List.map_congr_left fun k _ => by rw [Int.zero_add]
theorem ew_rg2 {ta tb : TE} {m n : Nat} (ha : Ex W ta δ (.int m)) (hb : Ex W tb δ (.int n)) (h : n ≤ 1000) (h2 : m ≤ 1000) : EW W (iRng2 (tCons ta (tCons tb tNil))) δ ((List.range' m (n - m)).map fun k => .int (k : Nat)) := by
  refine (ew_range2 (exa_cons ha (exa_cons hb exa_nil)) (by omega)).to ?_
  unfold rng
  rw [List.range'_eq_map_range, List.map_map]
  have e : ((n : Int) - (m : Int)).toNat = n - m := by omega
  rw [e]
  exact List.map_congr_left fun k _ => by simp
theorem exf_one {α : Type} {enc : α → D} {te : TE} (y : α) (h : Ex W te δ (enc y)) : ExF W (tLst (tCons te tNil)) δ ([y].map enc) := exf_lst (ds := [enc y]) (show 1 ≤ sizeLine by decide) (exa_cons h exa_nil)
theorem exf_nil {α : Type} {enc : α → D} : ExF W (tLst tNil) δ (([] : List α).map enc) := exf_lst (ds := []) (by decide) exa_nil
end
section
variable {X : Cx}
theorem blk_K {s : Shared} {H : Hp} {sc : Scope} {e : Env} {fp : List Addr} : (X.blk s H sc e fp).K = X.K := rfl
theorem pe_cast {e : Expr} {t t' : TE} (h : PE X e t') (q : t' = t) : PE X e t := by rw [← q]; exact h
theorem pts_cast {e : List Expr} {t t' : TT} (h : PTs X e t') (q : t' = t) : PTs X e t := by rw [← q]; exact h
theorem pi_cast {tg e : Expr} {t t' : TI} (h : PI X tg e t') (q : t' = t) : PI X tg e t := by rw [← q]; exact h
theorem pg_cast {e : Expr} {t t' : TG} (h : PG X e t') (q : t' = t) : PG X e t := by rw [← q]; exact h
end
/-- .. of a def with tables: its code is known -/
def BodyOkC (P : Program) (w : World) (W : Wd) (mg : Str → Option Value) (base : Heap) (k : Nat) (N : List Str) (qual : Str) (st : Stmt) (c : Addr) (R : FP) : Prop :=
  ∀ (f : Addr) (A : Around) (outer : List Env) (s : Shared) (H : Hp) (E : XK), Room k (A.deeper (envOfC qual (defScope st) s.heap.objs.size f (.ref c))) → ∃ t, PSs (cxD P w W.K mg base N qual (defScope st) f (.ref c) A outer s H E) (defBody st) t ∧ ∀ as d, R as d → Gives W t (sto0 N.length as) d
section
variable {P : Program} {w : World} {W : Wd} {mg : Str → Option Value} {base : Heap} {k : Nat}
theorem cal_ofC {x : Str} {st : Stmt} {R : FP} {N ps : List Str} {f c : Addr} {fd : FuncData} (hb : BodyOkC P w W mg base k N x st c R) (S : FnScope N ps (defScope st)) (hl : ∀ as d, R as d → as.length = ps.length) (F : FnP W.K x st f fd) (hc : fd.code = .ref c) (hm : mg x = some (.ref f)) (b : Binds W.K fd ps []) : C8.Cal P w W.K mg base (k + 1) x (spOf W R) [] := by
  obtain ⟨oc, od, dV, kV, doc, pm, an, cdv, ct, osl, rfl, lk, hcd, _, _⟩ := F.ex
  have e : cdv = .ref c := hc
  subst e
  refine ⟨f, _, ps, [], fn_of lk hcd S (fun vs H Q E h => sp_len hl h) (fun A outer s H vs Q E hr h => ?_), hm, F.kp, b, .nil⟩
  obtain ⟨t, h1, h2⟩ := hb f A outer s H E hr
  exact ⟨t, PSs.nox h1, body_of h h2⟩
end
end K9
/-! text W1 -/
set_option Elab.async false
set_option linter.all false
set_option maxRecDepth 100000
set_option maxHeartbeats 2000000
set_option autoImplicit false
/-! walks: inputs -/
namespace K9
open PySem PySem.Spec PyProof.Rows L2 LamX
section
variable {P : Program} {w : World} {W : Wd} {mg : Str → Option Value} {base : Heap} {k : Nat}
def N_weight : List Str := ["signs", "sign"]
abbrev ps_weight : List Str := ["signs"]
theorem sc_weight : FnScope N_weight ps_weight (defScope (top 19)) := ⟨rfl, rfl, rfl, by decide +kernel, rfl, by decide +kernel, by decide +kernel⟩
def wt (xs : List Int) : Int := (xs.filter fun z => !decide (z = 0)).length
def R_weight : FP := fun as d => ∃ xs : List Int, xs.length ≤ 1000 ∧ as = [.v (ti xs)] ∧ d = .int (wt xs)
theorem w_weight (T : Tx W.K mg) : BodyOk P w W mg base k N_weight "weight" (top 19) R_weight := by
  intro f cdv A outer s H E hr
  refine ⟨_, (pss_one (ps_ret (pe_callB call_len_seq (by rfl) T.len PySem.boot_len (pa_cons (pe_lc (own := [("sign", 1)]) rfl sc_weight.nd (pi_tup (pv 0)) (blkOk_by (N := N_weight) (sc := defScope (top 19)) (by decide +kernel)) (fun _ _ _ _ _ => pg_cast (pg_name (i := 1) sc_weight.nd rfl (by first | exact Or.inl rfl | exact Or.inr rfl)) (by first | exact rfl | (dsimp only [blk_K]; done) | (dsimp only [blk_K]; exact rfl))) (fun _ _ _ _ _ => pts_cast (pts_one (pt_cmpR op_ne (pv 1) pe_int (nomark _))) (by first | exact rfl | (dsimp only [blk_K]; done) | (dsimp only [blk_K]; exact rfl))) (fun _ _ _ _ _ => pe_cast (pv 1) (by first | exact rfl | (dsimp only [blk_K]; done) | (dsimp only [blk_K]; exact rfl)))) pa_nil)))), ?_⟩
  rintro as d ⟨xs, hl, rfl, rfl⟩
  exact .inl (sx_ret (ex_lenF (exf_lcT (enc := D.int) (ys := xs) (fun z => !decide (z = 0)) D.int (ew_tup (ea_var rfl)) (fun x hx => ⟨_, gx_name (by simp), ext_test (ex_neI (ea_var rfl) ex_int), fun _ => ea_var rfl⟩) (small_of hl))) rfl)
def N__law_weight : List Str := ["_law_signs", "_law_sign"]
abbrev ps__law_weight : List Str := ["_law_signs"]
theorem sc__law_weight : FnScope N__law_weight ps__law_weight (defScope (top 76)) := ⟨rfl, rfl, rfl, by decide +kernel, rfl, by decide +kernel, by decide +kernel⟩
theorem w__law_weight (T : Tx W.K mg) : BodyOk P w W mg base k N__law_weight "_law_weight" (top 76) R_weight := by
  intro f cdv A outer s H E hr
  refine ⟨_, (pss_one (ps_ret (pe_callB call_len_seq (by rfl) T.len PySem.boot_len (pa_cons (pe_lc (own := [("_law_sign", 1)]) rfl sc__law_weight.nd (pi_tup (pv 0)) (blkOk_by (N := N__law_weight) (sc := defScope (top 76)) (by decide +kernel)) (fun _ _ _ _ _ => pg_cast (pg_name (i := 1) sc__law_weight.nd rfl (by first | exact Or.inl rfl | exact Or.inr rfl)) (by first | exact rfl | (dsimp only [blk_K]; done) | (dsimp only [blk_K]; exact rfl))) (fun _ _ _ _ _ => pts_cast (pts_one (pt_cmpR op_ne (pv 1) pe_int (nomark _))) (by first | exact rfl | (dsimp only [blk_K]; done) | (dsimp only [blk_K]; exact rfl))) (fun _ _ _ _ _ => pe_cast (pv 1) (by first | exact rfl | (dsimp only [blk_K]; done) | (dsimp only [blk_K]; exact rfl)))) pa_nil)))), ?_⟩
  rintro as d ⟨xs, hl, rfl, rfl⟩
  exact .inl (sx_ret (ex_lenF (exf_lcT (enc := D.int) (ys := xs) (fun z => !decide (z = 0)) D.int (ew_tup (ea_var rfl)) (fun x hx => ⟨_, gx_name (by simp), ext_test (ex_neI (ea_var rfl) ex_int), fun _ => ea_var rfl⟩) (small_of hl))) rfl)
def N_lies_under : List Str := ["low", "high", "a", "b"]
abbrev ps_lies_under : List Str := ["low", "high"]
theorem sc_lies_under : FnScope N_lies_under ps_lies_under (defScope (top 20)) := ⟨rfl, rfl, rfl, by decide +kernel, rfl, by decide +kernel, by decide +kernel⟩
def lies (xs ys : List Int) : Bool := (xs.zip ys).all fun p => decide (p.1 = 0) || decide (p.1 = p.2)
def R_lies_under : FP := fun as d => ∃ xs ys : List Int, xs.length ≤ 1000 ∧ as = [.v (ti xs), .v (ti ys)] ∧ d = .bl (lies xs ys)
theorem zip_small {α β : Type} {xs : List α} {ys : List β} (h : xs.length ≤ 1000) : (xs.zip ys).length ≤ sizeLine := small_of (by rw [List.length_zip]; omega)
theorem w_lies_under (T : Tx W.K mg) : BodyOk P w W mg base k N_lies_under "lies_under" (top 20) R_lies_under := by
  intro f cdv A outer s H E hr
  refine ⟨_, (pss_one (ps_ret (pe_callB (cr_all rfl) (by rfl) T.all (by rfl) (pa_cons (pe_lc (own := [("a", 2), ("b", 3)]) rfl sc_lies_under.nd (RZ.pi_zipA (by rfl) T.zip (pa_cons (pv 0) (pa_cons (pv 1) pa_nil))) (blkOk_by (N := N_lies_under) (sc := defScope (top 20)) (by decide +kernel)) (fun _ _ _ _ _ => pg_cast (pg_tup (n := 2) rfl (pgs_cons (pg_name (i := 2) sc_lies_under.nd rfl (by first | exact Or.inl rfl | exact Or.inr rfl)) (pgs_cons (pg_name (i := 3) sc_lies_under.nd rfl (by first | exact Or.inl rfl | exact Or.inr rfl)) pgs_nil))) (by first | exact rfl | (dsimp only [blk_K]; done) | (dsimp only [blk_K]; exact rfl))) (fun _ _ _ _ _ => pts_cast pts_nil (by first | exact rfl | (dsimp only [blk_K]; done) | (dsimp only [blk_K]; exact rfl))) (fun _ _ _ _ _ => pe_cast (pe_or (pe_cmpR op_eq (pv 2) pe_int (nomark _)) (pe_one (pe_cmpR op_eq (pv 2) (pv 3) (nomark _)))) (by first | exact rfl | (dsimp only [blk_K]; done) | (dsimp only [blk_K]; exact rfl)))) pa_nil)))), ?_⟩
  rintro as d ⟨xs, ys, hl, rfl, rfl⟩
  exact .inl (sx_ret (ex_allF (exf_lcT1 (ys := xs.zip ys) (fun p => .bl (decide (p.1 = 0) || decide (p.1 = p.2))) (ew_zipTm (ea_var rfl) (ea_var rfl)) (fun x hx => ⟨_, gx_two (by simp) (by simp), ex_orV (ex_eqI (ea_var rfl) ex_int) (fun e => (ex_eqI (ea_var rfl) (ea_var rfl)).to (by rw [e]; simp)) (fun e => by rw [e]; rfl)⟩) (zip_small hl))) rfl)
def N_check_shape : List Str := ["shape", "signs"]
abbrev ps_check_shape : List Str := ["shape"]
theorem sc_check_shape : FnScope N_check_shape ps_check_shape (defScope (top 17)) := ⟨rfl, rfl, rfl, by decide +kernel, rfl, by decide +kernel, by decide +kernel⟩
abbrev shp (p : Nat) : D := ti (List.replicate p 2)
def R_check_shape : FP := fun as d => ∃ p : Nat, p ≤ 5 ∧ as = [.v (shp p)] ∧ d = .non
theorem w_check_shape (T : Tx W.K mg) : BodyOk P w W mg base k N_check_shape "check_shape" (top 17) R_check_shape := by
  intro f cdv A outer s H E hr
  refine ⟨_, (pss_one (ps_if (PW.pt (pw_or (pt_cmpR op_gt (pe_callB call_len_seq (by rfl) T.len PySem.boot_len (pa_cons (pv 0) pa_nil)) (pe_glob (v := V.int 12) (by rfl) T.mp.choose_spec ⟨_, rfl⟩) (nomark _)) (pw_or1 (pt_not (pt_val (pe_callB (cr_all rfl) (by rfl) T.all (by rfl) (pa_cons (pe_lc (own := [("signs", 1)]) rfl sc_check_shape.nd (pi_tup (pv 0)) (blkOk_by (N := N_check_shape) (sc := defScope (top 17)) (by decide +kernel)) (fun _ _ _ _ _ => pg_cast (pg_name (i := 1) sc_check_shape.nd rfl (by first | exact Or.inl rfl | exact Or.inr rfl)) (by first | exact rfl | (dsimp only [blk_K]; done) | (dsimp only [blk_K]; exact rfl))) (fun _ _ _ _ _ => pts_cast pts_nil (by first | exact rfl | (dsimp only [blk_K]; done) | (dsimp only [blk_K]; exact rfl))) (fun _ _ _ _ _ => pe_cast (pe_chain op_le op_le pe_int (pv 1) pe_int) (by first | exact rfl | (dsimp only [blk_K]; done) | (dsimp only [blk_K]; exact rfl)))) pa_nil))))))) pss_never pss_nil)), ?_⟩
  rintro as d ⟨p, hp, rfl, rfl⟩
  refine .inr ⟨_, sx_ifF (ext_or (ext_test (ex_gtI (ex_lenT (enc := D.int) (ea_var rfl)) ex_int)) fun _ => ext_not (ext_val (ex_allF (exf_lcT1 (enc := D.int) (ys := List.replicate p 2) (fun z => .bl (decide (2 ≤ z) && decide (z ≤ 4))) (ew_tup (ea_var rfl)) (fun x hx => ⟨_, gx_name (by simp), ex_chainI (f := fun i j => decide (i ≤ j)) (g := fun i j => decide (i ≤ j)) ex_int (ea_var rfl) ex_int⟩) (small_of (by rw [List.length_replicate]; omega)))))) ?_ (sx_nil rfl), rfl⟩
  rw [List.length_replicate, Bool.or_eq_false_iff]
  refine ⟨decide_eq_false (by omega), ?_⟩
  rw [Bool.not_eq_false', List.all_eq_true]
  intro x hx
  rw [List.eq_of_mem_replicate hx]
  rfl
def N_count_inputs : List Str := ["shape", "count", "many"]
abbrev ps_count_inputs : List Str := ["shape"]
theorem sc_count_inputs : FnScope N_count_inputs ps_count_inputs (defScope (top 21)) := ⟨rfl, rfl, rfl, by decide +kernel, rfl, by decide +kernel, by decide +kernel⟩
def R_count_inputs : FP := fun as d => ∃ p : Nat, p ≤ 5 ∧ as = [.v (shp p)] ∧ d = .int ((2 ^ p : Nat) : Int)
theorem pow_fold (p : Nat) (a : Int) : (List.replicate p (2 : Int)).foldl (fun a x => a * x) a = a * ((2 ^ p : Nat) : Int) := by
  induction p generalizing a with
  | zero => simp
  | succ n ih =>
    rw [List.replicate_succ, List.foldl_cons, ih, Int.mul_assoc]
    congr 1
    rw [Nat.pow_succ, Nat.mul_comm]
    simp
theorem mem_mid {α : Type} {ys pre post : List α} {x : α} (h : ys = pre ++ x :: post) : x ∈ ys := by rw [h]; simp
theorem w_count_inputs (T : Tx W.K mg) : BodyOk P w W mg base k N_count_inputs "count_inputs" (top 21) R_count_inputs := by
  intro f cdv A outer s H E hr
  refine ⟨_, (pss_cons (ps_set (i := 1) sc_count_inputs.nd rfl (by first | exact Or.inl rfl | exact Or.inr rfl) pe_int)
    (pss_cons (ps_for PassesOwn.never rfl (pi_tup (pv 0)) (pg_name (i := 2) sc_count_inputs.nd rfl (by first | exact Or.inl rfl | exact Or.inr rfl)) (pss_one (ps_aug (i := 1) sc_count_inputs.nd rfl (by first | exact Or.inl rfl | exact Or.inr rfl) (pv 2) iop_mul)))
    (pss_one (ps_ret (pv 1))))), ?_⟩
  rintro as d ⟨p, hp, rfl, rfl⟩
  refine .inl (sx_seq (sx_set ex_int rfl) (sx_seq (sx_forT (enc := D.int) (ys := List.replicate p 2) (S := fun a => [.val (shp p), .val (.int a), .no]) (fun a x => a * x) 1 (ew_tup (ea_var rfl)) fun pre x post h => ⟨_, [2], gx_name (by simp), ?_⟩) (sx_ret (ea_var rfl) ?_)))
  · have hx : x = 2 := List.eq_of_mem_replicate (mem_mid h)
    exact sx_weak (sx_aug rfl (ea_var rfl) (og_iC (C := CMul) (f := fun i j => i * j) (by rw [hx]; exact .inr (by decide))) rfl) (.same (.same (.drop .nil)))
  · rw [pow_fold, Int.one_mul]
end
end K9
/-! text W2 -/
set_option Elab.async false
set_option linter.all false
set_option maxRecDepth 100000
set_option maxHeartbeats 2000000
set_option autoImplicit false
/-! walks: the sorted inputs -/
namespace K9
open PySem PySem.Spec PyProof.Rows L2 LamX
open PySem.W (AllAlike Sortable dataLe alike alikeAll)
/-! ### plain -/
def cubeStep (most : Int) (fs : List (List Int)) (m : Int) : List (List Int) := fs.flatMap fun row => ((List.range m.toNat).filter fun s => decide (((s : Nat) : Int) = 0) || decide (wt row < most)).map fun s => row ++ [((s : Nat) : Int)]
def cube (p : Nat) : List (List Int) := (List.replicate p (2 : Int)).foldl (cubeStep p) [[]]
abbrev rowK (xs : List Int) : D := .tup [.int (wt xs), ti xs]
def insB {α : Type} (le : α → α → Bool) (x : α) : List α → List α
  | [] => [x]
  | y :: ys => if le x y then x :: y :: ys else y :: insB le x ys
def isort {α : Type} (le : α → α → Bool) (xs : List α) : List α := xs.foldr (insB le) []
def lexB : List Int → List Int → Bool
  | [], _ => true
  | _ :: _, [] => false
  | x :: xs, y :: ys => decide (x < y) || (decide (x = y) && lexB xs ys)
def rowLe (a b : List Int) : Bool := decide (wt a < wt b) || (decide (wt a = wt b) && lexB a b)
def rowsP (p : Nat) : List (List Int) := isort rowLe (cube p)
theorem sort_eq {α : Type} {kd : α → PyData} {l z : List α} (hp : z.Perm l) (hs : z.Pairwise fun a b => dataLe false kd a b = true) (ha : ∀ a ∈ l, ∀ b ∈ l, dataLe false kd a b = true → dataLe false kd b a = true → a = b) : l.mergeSort (dataLe false kd) = z := by
  have t : PySem.W.TotalLe (dataLe false kd) := PySem.W.sortLe_total _ _ _
  have p1 := List.mergeSort_perm l (dataLe false kd)
  refine List.Perm.eq_of_pairwise (le := fun a b => dataLe false kd a b = true) (fun a b ha' hb' => ha a (p1.mem_iff.mp ha') b (hp.mem_iff.mp hb')) ?_ hs (p1.trans hp.symm)
  refine List.pairwise_mergeSort t.trans (fun a b => ?_) l
  rcases t.total a b with h | h
  · rw [Bool.or_eq_true]; exact .inl h
  · rw [Bool.or_eq_true]; exact .inr h
theorem rows_perm : ∀ p : _root_.Fin 6, (rowsP p).Perm (cube p) := by decide +kernel
theorem rows_sorted : ∀ p : _root_.Fin 6, (rowsP p).Pairwise fun a b => dataLe false (fun y => (rowK y).py) a b = true := by decide +kernel
theorem rows_anti : ∀ p : _root_.Fin 6, ∀ a ∈ cube p, ∀ b ∈ cube p, dataLe false (fun y => (rowK y).py) a b = true → dataLe false (fun y => (rowK y).py) b a = true → a = b := by decide +kernel
theorem rows_depth : ∀ p : _root_.Fin 6, ∀ a ∈ cube p, ((rowK a).py).depth ≤ 8 := by decide +kernel
theorem rows_small : ∀ p : _root_.Fin 6, (cube p).length ≤ 32 := by decide +kernel
theorem rows_len : ∀ p : _root_.Fin 6, ∀ a ∈ cube p, a.length ≤ 5 := by decide +kernel
theorem alike_ints : ∀ a b : List Int, alikeAll (D.pys (a.map D.int)) (D.pys (b.map D.int)) = true
  | [], _ => by simp only [List.map_nil, D.pys, alikeAll]
  | x :: a, [] => by simp only [List.map_nil, List.map_cons, D.pys, alikeAll]
  | x :: a, y :: b => by simp only [List.map_cons, D.pys, D.py, alikeAll, alike, alike_ints a b, Bool.and_true]
theorem rowK_py (a : List Int) : (rowK a).py = .tuple [.int (wt a), .tuple (D.pys (a.map D.int))] := by simp only [D.py, D.pys]
theorem rowK_alike (xs : List (List Int)) : AllAlike (xs.map fun y => (rowK y).py) := fun d hd d' hd' => by
  obtain ⟨a, _, rfl⟩ := List.mem_map.mp hd
  obtain ⟨b, _, rfl⟩ := List.mem_map.mp hd'
  rw [rowK_py, rowK_py]
  simp only [alike, alikeAll, alike_ints, Bool.and_true]
theorem rowK_sortable (xs : List (List Int)) : Sortable (xs.map fun y => (rowK y).py) := .inl fun d hd => by
  obtain ⟨a, _, rfl⟩ := List.mem_map.mp hd
  exact ⟨_, _, rowK_py a⟩
theorem plains_ints : ∀ a : List Int, D.plains (a.map D.int) = true
  | [] => by simp only [List.map_nil, D.plains]
  | x :: a => by simp only [List.map_cons, D.plains, D.plain, plains_ints a, Bool.and_true]
theorem rowK_plain (a : List Int) : (rowK a).plain = true := by simp only [D.plain, D.plains, plains_ints, Bool.and_true]
def lawStep (a : List Int × Int) (m : Int) : List Int × Int := (a.1 ++ [a.2 % m], a.2 / m)
def lawRow (p : Nat) (n : Nat) : List Int := ((List.replicate p (2 : Int)).foldl lawStep ([], (n : Int))).1
def lawCube (p : Nat) : List (List Int) := (List.range (2 ^ p)).map (lawRow p)
theorem law_perm : ∀ p : _root_.Fin 6, (rowsP p).Perm (lawCube p) := by decide +kernel
theorem law_anti : ∀ p : _root_.Fin 6, ∀ a ∈ lawCube p, ∀ b ∈ lawCube p, dataLe false (fun y => (rowK y).py) a b = true → dataLe false (fun y => (rowK y).py) b a = true → a = b := by decide +kernel
theorem law_depth : ∀ p : _root_.Fin 6, ∀ a ∈ lawCube p, ((rowK a).py).depth ≤ 8 := by decide +kernel
theorem foldl_snoc {α β : Type} (f : α → β) : ∀ (xs : List α) (a : List β), xs.foldl (fun a x => a ++ [f x]) a = a ++ xs.map f
  | [], a => by simp
  | x :: xs, a => by rw [List.foldl_cons, foldl_snoc f xs]; simp
theorem SX.to {W : Wd} {t : TS} {δ : Sto} {o o' : Out} (h : SX W t δ o) (e : o = o') : SX W t δ o' := by rw [← e]; exact h
theorem pre_len {α : Type} {ys pre post : List α} {x : α} (h : ys = pre ++ x :: post) : pre.length < ys.length := by rw [h, List.length_append, List.length_cons]; omega
theorem mem_step {most m : Int} {fs : List (List Int)} {r : List Int} (h : r ∈ cubeStep most fs m) : ∃ row ∈ fs, ∃ s : Int, r = row ++ [s] := by
  unfold cubeStep at h
  obtain ⟨row, h1, h2⟩ := List.mem_flatMap.mp h
  obtain ⟨s, _, rfl⟩ := List.mem_map.mp h2
  exact ⟨row, h1, _, rfl⟩
theorem len_step (most m : Int) : ∀ fs : List (List Int), (cubeStep most fs m).length ≤ fs.length * m.toNat
  | [] => by simp [cubeStep]
  | f :: fs => by
    have h := len_step most m fs
    unfold cubeStep at h ⊢
    rw [List.flatMap_cons, List.length_append, List.length_cons, Nat.succ_mul, List.length_map]
    have h2 : ((List.range m.toNat).filter fun s => decide (((s : Nat) : Int) = 0) || decide (wt f < most)).length ≤ m.toNat := Nat.le_trans (List.length_filter_le _ _) (by rw [List.length_range]; exact Nat.le_refl _)
    omega
theorem fold_len (most : Int) : ∀ (pre : List Int) (fs : List (List Int)), (∀ x ∈ pre, x = 2) → (pre.foldl (cubeStep most) fs).length ≤ fs.length * 2 ^ pre.length
  | [], fs, _ => by simp
  | x :: pre, fs, h => by
    rw [List.foldl_cons]
    have h1 := fold_len most pre (cubeStep most fs x) fun y hy => h y (List.mem_cons_of_mem _ hy)
    have h2 := len_step most x fs
    rw [h x List.mem_cons_self] at h2 h1
    rw [List.length_cons, Nat.pow_succ, Nat.mul_comm (2 ^ _) 2, ← Nat.mul_assoc]
    rw [h x List.mem_cons_self]
    exact Nat.le_trans h1 (Nat.mul_le_mul_right _ h2)
theorem fold_row (most : Int) : ∀ (pre : List Int) (fs : List (List Int)) (n : Nat), (∀ r ∈ fs, r.length = n) → ∀ r ∈ pre.foldl (cubeStep most) fs, r.length = n + pre.length
  | [], fs, n, h, r, hr => h r hr
  | x :: pre, fs, n, h, r, hr => by
    rw [List.foldl_cons] at hr
    have := fold_row most pre (cubeStep most fs x) (n + 1) (fun r hr => by
      obtain ⟨row, h1, s, rfl⟩ := mem_step hr
      rw [List.length_append, h row h1]
      rfl) r hr
    rw [this, List.length_cons]
    omega
theorem mem_pre {α : Type} {ys pre post : List α} {x z : α} (h : ys = pre ++ x :: post) (hz : z ∈ pre) : z ∈ ys := by rw [h]; exact List.mem_append_left _ hz
/-! ### the walks -/
section
variable {P : Program} {w : World} {W : Wd} {mg : Str → Option Value} {base : Heap} {k : Nat}
def N_light_inputs : List Str := ["shape", "most", "found", "many", "row", "sign"]
abbrev ps_light_inputs : List Str := ["shape", "most"]
theorem sc_light_inputs : FnScope N_light_inputs ps_light_inputs (defScope (top 22)) := ⟨rfl, rfl, rfl, by decide +kernel, rfl, by decide +kernel, by decide +kernel⟩
def R_light_inputs : FP := fun as d => ∃ p : Nat, p ≤ 5 ∧ as = [.v (shp p), .v (.int p)] ∧ d = .lst ((rowsP p).map ti)
theorem w_light_inputs {c Pt : Addr} (T : Tx W.K mg) (c_check_shape : C8.Cal P w W.K mg base 1 "check_shape" (spOf W R_check_shape) []) (c_weight : C8.Cal P w W.K mg base 1 "weight" (spOf W R_weight) [])
    (TB : TabB base mg c Pt) (hT : (Pt, ("light_inputs.<locals>.<lambda>" : Str)) ∈ W.T) (hU : ∀ q ∈ W.T, q.1 = Pt → q.2 = ("light_inputs.<locals>.<lambda>" : Str)) : BodyOkC P w W mg base 5 N_light_inputs "light_inputs" (top 22) c R_light_inputs := by
  intro f A outer s H E hr
  refine ⟨_, (pss_cons (ps_expr (C8.pe_c c_check_shape hr (by decide) (by rfl) (pa_cons (pv 0) pa_nil)))
    (pss_cons (ps_set (i := 2) sc_light_inputs.nd rfl (by first | exact Or.inl rfl | exact Or.inr rfl) (pe_lst (pa_cons (pe_tup pa_nil) pa_nil)))
    (pss_cons (ps_for PassesOwn.never rfl (pi_tup (pv 0)) (pg_name (i := 3) sc_light_inputs.nd rfl (by first | exact Or.inl rfl | exact Or.inr rfl)) (pss_one (ps_setLc2 (i := 2) (own := [("row", 4), ("sign", 5)]) (vs1 := [5]) rfl sc_light_inputs.nd rfl rfl (sw_true rfl rfl rfl (by decide +kernel)) (pi_list (pv 2)) (blkOk_by (N := N_light_inputs) (sc := defScope (top 22)) (by decide +kernel)) (by decide) (fun _ _ _ _ _ => pg_cast (pg_name (i := 4) sc_light_inputs.nd rfl (by first | exact Or.inl rfl | exact Or.inr rfl)) (by first | exact rfl | (dsimp only [blk_K]; done) | (dsimp only [blk_K]; exact rfl))) (fun _ _ _ _ _ => pts_cast pts_nil (by first | exact rfl | (dsimp only [blk_K]; done) | (dsimp only [blk_K]; exact rfl))) (fun _ _ _ _ _ => pi_cast (pi_range1 (by rfl) T.range (pa_cons (pv 3) pa_nil)) (by first | exact rfl | (dsimp only [blk_K]; done) | (dsimp only [blk_K]; exact rfl))) (fun _ _ _ _ _ => pg_cast (pg_name (i := 5) sc_light_inputs.nd rfl (by first | exact Or.inl rfl | exact Or.inr rfl)) (by first | exact rfl | (dsimp only [blk_K]; done) | (dsimp only [blk_K]; exact rfl))) (fun _ _ _ _ _ => pts_cast (pts_one (PW.pt (pw_or (pt_cmpR op_eq (pv 5) pe_int (nomark _)) (pw_or1 (pt_cmpR op_lt (C8.pe_c c_weight hr (by decide) (by rfl) (pa_cons (pv 4) pa_nil)) (pv 1) (nomark _)))))) (by first | exact rfl | (dsimp only [blk_K]; done) | (dsimp only [blk_K]; exact rfl))) (fun _ _ _ _ _ => pe_cast (pe_op op_catA (pv 4) (pe_tup (pa_cons (pv 5) pa_nil))) (by first | exact rfl | (dsimp only [blk_K]; done) | (dsimp only [blk_K]; exact rfl))))))
    (pss_one (ps_ret (pe_sortK (N := ["row"]) (pn := "row") (k := 1) (pa_cons (pv 2) pa_nil) (by rfl) T.sorted TB (by rfl) hT hU ⟨rfl, rfl, rfl, by decide +kernel, rfl, by decide +kernel, by decide +kernel⟩ (by rfl) (by rfl) (fun _ _ _ _ _ => rfl) hr ⟨rfl, rfl⟩ (fun A2 s2 H2 f2 c2 hr2 => (pe_tup (pa_cons (C8.pe_c c_weight hr2 (by decide) (by rfl) (pa_cons (pv 0) pa_nil)) (pa_cons (pv 0) pa_nil)))))))))), ?_⟩
  rintro as d ⟨p, hp, rfl, rfl⟩
  have hF : p < 6 := by omega
  refine .inl (sx_seq (sx_drop (ex_call ⟨p, hp, rfl, rfl⟩ (exa_cons (ea_var rfl) exa_nil)) rfl) (sx_seq (sx_set (exf_one (enc := ti) [] (ex_tup (ds := []) (by decide) exa_nil)).ex rfl) (sx_seq (sx_forT (enc := D.int) (ys := List.replicate p 2) (S := fun fs => [.val (shp p), .val (.int p), .val (.lst (fs.map ti)), .no, .no, .no]) (cubeStep p) [[]] (ew_tup (ea_var rfl)) fun pre x post h => ⟨_, [3], gx_name (by simp), ?_⟩) (sx_ret (exf_sortK (enc := ti) (ys := cube p) rowK (exa_cons (EA.toL (ea_var rfl)) exa_nil) ?_ (rowK_alike _) (rowK_sortable _) (rows_depth ⟨p, hF⟩) (fun y _ => rowK_plain y) (fun y hy => ?_) (sort_eq (rows_perm ⟨p, hF⟩) (rows_sorted ⟨p, hF⟩) (rows_anti ⟨p, hF⟩))).ex rfl))))
  · have hx : x = 2 := List.eq_of_mem_replicate (mem_mid h)
    have hn : pre.length ≤ 5 := by
      have := pre_len h
      rw [List.length_replicate] at this
      omega
    have h1 := fold_len p pre [[]] fun z hz => List.eq_of_mem_replicate (mem_pre h hz)
    have h2 := fold_row p pre [[]] 0 (fun r hr => by rw [List.mem_singleton.mp hr]; rfl)
    have h3 : 2 ^ pre.length ≤ 2 ^ 5 := Nat.pow_le_pow_right (by decide) hn
    generalize pre.foldl (cubeStep p) [[]] = fs at h1 h2
    subst hx
    have h4 : fs.length ≤ 32 := Nat.le_trans h1 (by rw [List.length_singleton]; omega)
    refine sx_weak (sx_set ((exf_lc2T (enc := ti) (enc2 := fun s : Nat => .int (s : Nat)) (fun _ => List.range 2) (fun row s => decide (((s : Nat) : Int) = 0) || decide (wt row < p)) (fun row s => ti (row ++ [((s : Nat) : Int)])) 32 2 (ew_list (ea_var rfl)) (by simp) (by simp) (fun row hrow => ⟨ew_rg1 (n := 2) (ea_var rfl) (by decide), fun s hs => ⟨?_, fun _ => ?_⟩⟩) h4 (fun _ _ => by simp) (by decide)).to ?_).ex rfl) (.same (.same (.same (.drop (.same (.same .nil))))))
    · have hl := h2 row hrow
      exact ext_or (ext_test (ex_eqI (ea_var rfl) ex_int)) fun _ => ext_test (ex_ltI (ex_call ⟨row, by omega, rfl, rfl⟩ (exa_cons (ea_var rfl) exa_nil)) (ea_var rfl))
    · have hl := h2 row hrow
      refine (ex_op (og_catA (small_of ?_)) (ea_var rfl) (ex_tup (ds := [.int (s : Nat)]) (show 1 ≤ sizeLine by decide) (exa_cons (ea_var rfl) exa_nil))).to ?_
      · rw [List.length_map, hl]
        show _ + 1 ≤ _
        omega
      · rw [show ti (row ++ [((s : Nat) : Int)]) = .tup ((row ++ [((s : Nat) : Int)]).map D.int) from rfl, List.map_append]
        rfl
    · unfold cubeStep
      rw [List.map_flatMap]
      simp only [List.map_map]
      rfl
  · exact Nat.le_trans (rows_small ⟨p, hF⟩) (by decide)
  · have hl : y.length ≤ 1000 := Nat.le_trans (rows_len ⟨p, hF⟩ y hy) (by decide)
    exact ex_tup (ds := [.int (wt y), ti y]) (show 2 ≤ sizeLine by decide) (exa_cons (ex_call ⟨y, hl, rfl, rfl⟩ (exa_cons (ea_var rfl) exa_nil)) (exa_cons (ea_var rfl) exa_nil))
end
end K9
/-! text W3 -/
set_option Elab.async false
set_option linter.all false
set_option maxRecDepth 100000
set_option maxHeartbeats 2000000
set_option autoImplicit false
/-! walks: the sorted inputs, the law's own; small defs -/
namespace K9
open PySem PySem.Spec PyProof.Rows L2 LamX
section
variable {P : Program} {w : World} {W : Wd} {mg : Str → Option Value} {base : Heap} {k : Nat}
def N_inputs_of : List Str := ["shape"]
abbrev ps_inputs_of : List Str := ["shape"]
theorem sc_inputs_of : FnScope N_inputs_of ps_inputs_of (defScope (top 23)) := ⟨rfl, rfl, rfl, by decide +kernel, rfl, by decide +kernel, by decide +kernel⟩
abbrev rowsD (p : Nat) : D := .lst ((rowsP p).map ti)
def R_inputs_of : FP := fun as d => ∃ p : Nat, p ≤ 5 ∧ as = [.v (shp p)] ∧ d = rowsD p
theorem w_inputs_of (T : Tx W.K mg) (c_light_inputs : C8.Cal P w W.K mg base 6 "light_inputs" (spOf W R_light_inputs) []) : BodyOk P w W mg base 6 N_inputs_of "inputs_of" (top 23) R_inputs_of := by
  intro f cdv A outer s H E hr
  refine ⟨_, (pss_one (ps_ret (C8.pe_c c_light_inputs hr (by decide) (by rfl) (pa_cons (pv 0) (pa_cons (pe_callB call_len_seq (by rfl) T.len PySem.boot_len (pa_cons (pv 0) pa_nil)) pa_nil))))), ?_⟩
  rintro as d ⟨p, hp, rfl, rfl⟩
  exact .inl (sx_ret (ex_call ⟨p, hp, rfl, rfl⟩ (exa_cons (ea_var rfl) (exa_cons ((ex_lenT (enc := D.int) (ea_var rfl)).to (by rw [List.length_replicate])) exa_nil))) rfl)
theorem cmul2 {p : Nat} {x y : Int} (h : x ∈ List.replicate p (2 : Int)) : CMul y x := by
  rw [List.eq_of_mem_replicate h]
  exact .inr (by decide)
def N__law_inputs : List Str := ["_law_shape", "_law_total", "_law_many", "_law_rows", "_law_number", "_law_rest", "_law_signs"]
abbrev ps__law_inputs : List Str := ["_law_shape"]
theorem sc__law_inputs : FnScope N__law_inputs ps__law_inputs (defScope (top 77)) := ⟨rfl, rfl, rfl, by decide +kernel, rfl, by decide +kernel, by decide +kernel⟩
def R__law_inputs : FP := R_inputs_of
theorem w__law_inputs {c Pt : Addr} (T : Tx W.K mg) (c__law_weight : C8.Cal P w W.K mg base 1 "_law_weight" (spOf W R_weight) [])
    (TB : TabB base mg c Pt) (hT : (Pt, ("_law_inputs.<locals>.<lambda>" : Str)) ∈ W.T) (hU : ∀ q ∈ W.T, q.1 = Pt → q.2 = ("_law_inputs.<locals>.<lambda>" : Str)) : BodyOkC P w W mg base 5 N__law_inputs "_law_inputs" (top 77) c R__law_inputs := by
  intro f A outer s H E hr
  refine ⟨_, (pss_cons (ps_set (i := 1) sc__law_inputs.nd rfl (by first | exact Or.inl rfl | exact Or.inr rfl) pe_int)
    (pss_cons (ps_for PassesOwn.never rfl (pi_tup (pv 0)) (pg_name (i := 2) sc__law_inputs.nd rfl (by first | exact Or.inl rfl | exact Or.inr rfl)) (pss_one (ps_set (i := 1) sc__law_inputs.nd rfl (by first | exact Or.inl rfl | exact Or.inr rfl) (pe_op op_mul (pv 1) (pv 2)))))
    (pss_cons (ps_set (i := 3) sc__law_inputs.nd rfl (by first | exact Or.inl rfl | exact Or.inr rfl) (pe_lst pa_nil))
    (pss_cons (ps_for PassesOwn.never rfl (pi_range1 (by rfl) T.range (pa_cons (pv 1) pa_nil)) (pg_name (i := 4) sc__law_inputs.nd rfl (by first | exact Or.inl rfl | exact Or.inr rfl)) (pss_cons (ps_set (i := 5) sc__law_inputs.nd rfl (by first | exact Or.inl rfl | exact Or.inr rfl) (pv 4))
     (pss_cons (ps_set (i := 6) sc__law_inputs.nd rfl (by first | exact Or.inl rfl | exact Or.inr rfl) (pe_lst pa_nil))
     (pss_cons (ps_for PassesOwn.never rfl (pi_tup (pv 0)) (pg_name (i := 2) sc__law_inputs.nd rfl (by first | exact Or.inl rfl | exact Or.inr rfl)) (pss_cons (ps_expr (pe_bm PySem.F.plainAttrs_list PySem.F.slot_list_append PySem.F.type_list_append mt_append (pv 6) (pa_cons (pe_op op_mod (pe_callTy call_int1 (by rfl) T.int boot_int (pa_cons (pv 5) pa_nil)) (pv 2)) pa_nil)))
      (pss_one (ps_set (i := 5) sc__law_inputs.nd rfl (by first | exact Or.inl rfl | exact Or.inr rfl) (pe_op op_fdiv (pv 5) (pv 2))))))
     (pss_one (ps_expr (pe_bm PySem.F.plainAttrs_list PySem.F.slot_list_append PySem.F.type_list_append mt_append (pv 3) (pa_cons (pe_callTy call_tuple_of (by rfl) T.tuple boot_tuple (pa_cons (pv 6) pa_nil)) pa_nil))))))))
    (pss_one (ps_ret (pe_sortK (N := ["_law_row"]) (pn := "_law_row") (k := 1) (pa_cons (pv 3) pa_nil) (by rfl) T.sorted TB (by rfl) hT hU ⟨rfl, rfl, rfl, by decide +kernel, rfl, by decide +kernel, by decide +kernel⟩ (by rfl) (by rfl) (fun _ _ _ _ _ => rfl) hr ⟨rfl, rfl⟩ (fun A2 s2 H2 f2 c2 hr2 => (pe_tup (pa_cons (C8.pe_c c__law_weight hr2 (by decide) (by rfl) (pa_cons (pv 0) pa_nil)) (pa_cons (pv 0) pa_nil))))))))))), ?_⟩
  rintro as d ⟨p, hp, rfl, rfl⟩
  have hF : p < 6 := by omega
  have e1 : (List.replicate p (2 : Int)).foldl (fun a x => a * x) 1 = ((2 ^ p : Nat) : Int) := by rw [pow_fold, Int.one_mul]
  have e2 : 2 ^ p ≤ 2 ^ 5 := Nat.pow_le_pow_right (by decide) hp
  have ef : (List.range (2 ^ p)).foldl (fun a n => a ++ [lawRow p n]) [] = lawCube p := by rw [foldl_snoc]; rfl
  refine .inl (sx_seq (sx_set ex_int rfl) (sx_seq (δ' := [.val (shp p), .val (.int ((2 ^ p : Nat) : Int)), .no, .no, .no, .no, .no]) ((sx_forT (enc := D.int) (ys := List.replicate p 2) (S := fun a => [.val (shp p), .val (.int a), .no, .no, .no, .no, .no]) (fun a x => a * x) 1 (ew_tup (ea_var rfl)) fun pre x post h => ⟨_, [2], gx_name (by simp), sx_weak (sx_set (ex_mulI (ea_var rfl) (ea_var rfl) (cmul2 (mem_mid h))) rfl) (by repeat (first | exact Le.nil | apply Le.same | apply Le.drop))⟩).to (by rw [e1])) (sx_seq (sx_setM (exf_nil (enc := ti)) rfl) (sx_seq (sx_forT (enc := fun n : Nat => .int (n : Nat)) (ys := List.range (2 ^ p)) (S := fun rs => [.val (shp p), .val (.int ((2 ^ p : Nat) : Int)), .no, .mu (rs.map ti), .no, .no, .no]) (fun a n => a ++ [lawRow p n]) [] (ew_rg1 (ea_var rfl) (by omega)) fun pre n post h => ⟨_, [4], gx_name (by simp), ?_⟩) (sx_ret (exf_sortK (enc := ti) (ys := lawCube p) (zs := rowsP p) rowK ?ha ?_ (rowK_alike _) (rowK_sortable _) (law_depth ⟨p, hF⟩) (fun y _ => rowK_plain y) (fun y hy => ?_) (sort_eq (law_perm ⟨p, hF⟩) ?_ (law_anti ⟨p, hF⟩))).ex rfl)))))
  case ha => exact exa_cons ((ea_mu rfl).eq (by rw [ef])) exa_nil
  · have hpre : pre.foldl (fun a n => a ++ [lawRow p n]) [] = pre.map (lawRow p) := by rw [foldl_snoc]; rfl
    have hl : pre.length < 2 ^ p := by
      have := pre_len h
      rw [List.length_range] at this
      exact this
    rw [hpre]
    refine sx_weak (sx_seq (sx_set (ea_var rfl) rfl) (sx_seq (sx_setM (exf_nil (enc := D.int)) rfl) (sx_seq (sx_forT (enc := D.int) (ys := List.replicate p 2) (S := fun a => [.val (shp p), .val (.int ((2 ^ p : Nat) : Int)), .no, .mu ((pre.map (lawRow p)).map ti), .val (.int (n : Nat)), .val (.int a.2), .mu (a.1.map D.int)]) lawStep ([], ((n : Nat) : Int)) (ew_tup (ea_var rfl)) fun pre2 x post2 h2 => ⟨_, [2], gx_name (by simp), ?_⟩) (sx_appendT (enc := ti) (y := lawRow p n) rfl (ex_tupL (ea_mu rfl)) ?_ rfl)))) (by repeat (first | exact Le.nil | apply Le.same | apply Le.drop))
    · have hx : x = 2 := List.eq_of_mem_replicate (mem_mid h2)
      subst hx
      have h5 : pre2.length < p := by
        have := pre_len h2
        rw [List.length_replicate] at this
        exact this
      have h6 : ∀ (zs : List Int) (a : List Int × Int), (zs.foldl lawStep a).1.length = a.1.length + zs.length := by
        intro zs
        induction zs with
        | nil => intro a; rfl
        | cons z zs ih =>
          intro a
          rw [List.foldl_cons, ih]
          simp [lawStep]
          omega
      have h7 := h6 pre2 ([], ((n : Nat) : Int))
      generalize pre2.foldl lawStep ([], ((n : Nat) : Int)) = a at h7
      refine sx_weak (sx_seq (sx_appendT (enc := D.int) (ys := a.1) (y := a.2 % 2) rfl (ex_modI (ex_intI (ea_var rfl)) (ea_var rfl) (by decide)) (small_lt ?_) rfl) (sx_set (ex_fdivI (ea_var rfl) (ea_var rfl) ⟨by decide, by decide⟩) rfl)) (by repeat (first | exact Le.nil | apply Le.same | apply Le.drop))
      rw [h7]
      show 0 + _ ≤ 1000
      omega
    · rw [List.length_map]
      exact small_lt (by omega)
  · show (lawCube p).length ≤ 4096
    unfold lawCube
    rw [List.length_map, List.length_range]
    omega
  · have hl : y.length ≤ 1000 := by
      have := rows_len ⟨p, hF⟩ y ((rows_perm ⟨p, hF⟩).mem_iff.mp ((law_perm ⟨p, hF⟩).mem_iff.mpr hy))
      omega
    exact ex_tup (ds := [.int (wt y), ti y]) (show 2 ≤ sizeLine by decide) (exa_cons (ex_call ⟨y, hl, rfl, rfl⟩ (exa_cons (ea_var rfl) exa_nil)) (exa_cons (ea_var rfl) exa_nil))
  · exact rows_sorted ⟨p, hF⟩
end
end K9
/-! text KN -/
set_option Elab.async false
set_option linter.all false
set_option maxRecDepth 100000
set_option maxHeartbeats 2000000
set_option autoImplicit false
/-! loops by partial mirrors; int lists compared, sorted -/
namespace K9
open PySem PySem.Spec PyProof.Rows L2 LamX
section
variable {W : Wd} {δ δ' : Sto} {o : Out}
/-- a for whose mirror may fail -/
theorem sx_forM {α : Type} {wi : TI} {g : TG} {tb : TS} {ys : List α} {enc : α → D} {A : Type} {S : A → Sto} (F : A → α → Option A) (a r : A) (hr : ys.foldlM F a = some r) (hw : EW W wi (S a) (ys.map enc))
    (h : ∀ (a : A) (x : α) (a' : A), x ∈ ys → F a x = some a' → ∃ δ1 vs, GX W g (enc x) vs (S a) δ1 ∧ SX W tb δ1 (.nx (S a'))) : SX W (tFor wi g tb) (S a) (.nx (S r)) := by
  refine sx_for hw ?_
  clear hw
  induction ys generalizing a with
  | nil =>
    rw [List.foldlM_nil] at hr
    cases hr
    exact .nil
  | cons y ys ih =>
    rw [List.foldlM_cons] at hr
    cases q : F a y with
    | none => rw [q] at hr; cases hr
    | some a' =>
      rw [q] at hr
      exact .nx (h a y a' List.mem_cons_self q) (ih a' hr fun a x a' hx => h a x a' (List.mem_cons_of_mem _ hx))
/-- .. with a way out: the mirror tells a result -/
inductive Stp (A : Type) where
  | go (a : A) | out (d : D)
def runX {A α : Type} (F : A → α → Option (Stp A)) : A → List α → Option (Stp A)
  | a, [] => some (.go a)
  | a, x :: xs => match F a x with
    | none => none
    | some (.go a') => runX F a' xs
    | some (.out d) => some (.out d)
def Stp.oo {A : Type} (S : A → Sto) : Stp A → Out
  | .go a => .nx (S a)
  | .out d => .rt d
theorem sx_forXM {α : Type} {wi : TI} {g : TG} {tb : TS} {ys : List α} {enc : α → D} {A : Type} {S : A → Sto} (F : A → α → Option (Stp A)) (a : A) (r : Stp A) (hr : runX F a ys = some r) (hw : EW W wi (S a) (ys.map enc))
    (h : ∀ (a : A) (x : α) (r : Stp A), x ∈ ys → F a x = some r → ∃ δ1 vs, GX W g (enc x) vs (S a) δ1 ∧ SX W tb δ1 (r.oo S)) : SX W (tFor wi g tb) (S a) (r.oo S) := by
  refine sx_for hw ?_
  clear hw
  induction ys generalizing a with
  | nil =>
    cases hr
    exact .nil
  | cons y ys ih =>
    unfold runX at hr
    cases q : F a y with
    | none => rw [q] at hr; cases hr
    | some z =>
      rw [q] at hr
      have k := h a y z List.mem_cons_self q
      cases z with
      | go a' => exact .nx k (ih a' hr fun a x a' hx => h a x a' (List.mem_cons_of_mem _ hx))
      | out d =>
        cases hr
        exact .rt k
/-- a while -/
def loopM {A : Type} (c : A → Bool) (F : A → Option A) : Nat → A → Option A
  | 0, _ => none
  | n + 1, a => if c a = true then (match F a with
    | none => none
    | some a' => loopM c F n a') else some a
theorem sx_whM {c : TT} {tb : TS} {A : Type} {S : A → Sto} (cd : A → Bool) (F : A → Option A) (n : Nat) (a r : A) (hr : loopM cd F n a = some r) (hc : ∀ a, ExT W c (S a) (cd a)) (hb : ∀ a a', cd a = true → F a = some a' → SX W tb (S a) (.nx (S a'))) : SX W (tWhile c tb) (S a) (.nx (S r)) := by
  refine sx_while (n := n) ?_
  induction n generalizing a with
  | zero => cases hr
  | succ n ih =>
    unfold loopM at hr
    cases q : cd a with
    | false =>
      rw [q, if_neg Bool.false_ne_true] at hr
      cases hr
      exact .done (by have := hc r; rw [q] at this; exact this)
    | true =>
      rw [q, if_pos rfl] at hr
      cases e : F a with
      | none => rw [e] at hr; cases hr
      | some b =>
        rw [e] at hr
        exact .nx (by have := hc a; rw [q] at this; exact this) (hb a b q e) (ih b hr)
/-- .. with a way out -/
def loopX {A : Type} (c : A → Bool) (F : A → Option (Stp A)) : Nat → A → Option (Stp A)
  | 0, _ => none
  | n + 1, a => if c a = true then (match F a with
    | none => none
    | some (.go a') => loopX c F n a'
    | some (.out d) => some (.out d)) else some (.go a)
theorem sx_whXM {c : TT} {tb : TS} {A : Type} {S : A → Sto} (cd : A → Bool) (F : A → Option (Stp A)) (n : Nat) (a : A) (r : Stp A) (hr : loopX cd F n a = some r) (hc : ∀ a, ExT W c (S a) (cd a)) (hb : ∀ a z, cd a = true → F a = some z → SX W tb (S a) (z.oo S)) : SX W (tWhile c tb) (S a) (r.oo S) := by
  refine sx_while (n := n) ?_
  induction n generalizing a with
  | zero => cases hr
  | succ n ih =>
    unfold loopX at hr
    cases q : cd a with
    | false =>
      rw [q, if_neg Bool.false_ne_true] at hr
      cases hr
      exact .done (by have := hc a; rw [q] at this; exact this)
    | true =>
      rw [q, if_pos rfl] at hr
      have hq : ExT W c (S a) true := by have := hc a; rw [q] at this; exact this
      cases e : F a with
      | none => rw [e] at hr; cases hr
      | some z =>
        rw [e] at hr
        have k := hb a z q e
        cases z with
        | go a' => exact .nx hq k (ih a' hr)
        | out d =>
          cases hr
          exact .rt hq k
/-! ### items of a list or a tuple -/
def seqD (b : Bool) (ds : List D) : D := if b then .tup ds else .lst ds
theorem EA.sq {t : TE} {b : Bool} {ds : List D} (h : Ex W t δ (seqD b ds)) : EA W t δ (.s ds) := by
  cases b with
  | true => exact EA.tupS h
  | false => exact EA.toS h
theorem ex_ixS {α : Type} {enc : α → D} {ta tb : TE} {ys : List α} {k : Int} {y : α} (ha : EA W ta δ (.s (ys.map enc))) (hb : Ex W tb δ (.int k)) (h : atI ys k = some y) : Ex W (tOp (rIx W.K) ta tb) δ (enc y) := ex_op (og_ixS (atI_map enc h)) ha hb
/-! ### int lists compared -/
theorem eqv_ints : ∀ xs ys : List Int, PyData.eqvAll (D.pys (xs.map D.int)) (D.pys (ys.map D.int)) = decide (xs = ys)
  | [], [] => by simp only [List.map_nil, D.pys, PyData.eqvAll, decide_true]
  | [], y :: ys => by simp only [List.map_nil, List.map_cons, D.pys, PyData.eqvAll]; simp
  | x :: xs, [] => by simp only [List.map_nil, List.map_cons, D.pys, PyData.eqvAll]; simp
  | x :: xs, y :: ys => by
    simp only [List.map_cons, D.pys, D.py, PyData.eqvAll, PyData.eqv, eqv_ints xs ys]
    by_cases h : x = y
    · subst h; simp
    · have h2 : ¬ (x :: xs = y :: ys) := fun e => h (List.cons.inj e).1
      rw [decide_eq_false h2]
      simp [h]
theorem lay_ints : ∀ xs : List Int, PyData.canLayAll0 (D.pys (xs.map D.int)) = true
  | [] => by simp only [List.map_nil, D.pys, PyData.canLayAll0]
  | x :: xs => by simp only [List.map_cons, D.pys, D.py, PyData.canLayAll0, PyData.canLay0, lay_ints xs, Bool.and_true]
theorem depth_ints : ∀ xs : List Int, PyData.depthAll (D.pys (xs.map D.int)) ≤ 1
  | [] => by simp only [List.map_nil, D.pys, PyData.depthAll]; omega
  | x :: xs => by
    have := depth_ints xs
    simp only [List.map_cons, D.pys, D.py, PyData.depthAll, PyData.depth]
    omega
theorem shaped_ints (xs : List Int) : SeqAt.shaped (.list (D.pys (xs.map D.int))) = true := by
  have := depth_ints xs
  unfold SeqAt.shaped
  rw [Bool.and_eq_true]
  refine ⟨by simp only [PyData.canLay0, lay_ints], decide_eq_true ?_⟩
  simp only [PyData.depth]
  omega
theorem shaped_tints (xs : List Int) : SeqAt.shaped (.tuple (D.pys (xs.map D.int))) = true := by
  have := depth_ints xs
  unfold SeqAt.shaped
  rw [Bool.and_eq_true]
  refine ⟨by simp only [PyData.canLay0, lay_ints], decide_eq_true ?_⟩
  simp only [PyData.depth]
  omega
theorem ex_neL {ta tb : TE} {xs ys : List Int} (ha : EA W ta δ (.l (xs.map D.int))) (hb : EA W tb δ (.l (ys.map D.int))) : Ex W (tOp (rNeD W.K) ta tb) δ (.bl (!decide (xs = ys))) :=
  (ex_op (og_neDL (plains_ints xs) (plains_ints ys) (shaped_ints xs) (shaped_ints ys)) ha hb).to (by simp only [PyData.eqv, eqv_ints])
theorem ex_eqL {ta tb : TE} {xs ys : List Int} (ha : EA W ta δ (.l (xs.map D.int))) (hb : EA W tb δ (.l (ys.map D.int))) : Ex W (tOp (rEqD W.K) ta tb) δ (.bl (decide (xs = ys))) :=
  (ex_op (og_eqDL (plains_ints xs) (plains_ints ys) (shaped_ints xs) (shaped_ints ys)) ha hb).to (by simp only [PyData.eqv, eqv_ints])
theorem ti_py (xs : List Int) : (ti xs).py = .tuple (D.pys (xs.map D.int)) := by simp only [D.py]
theorem ti_plain (xs : List Int) : (ti xs).plain = true := by simp only [D.plain, plains_ints]
theorem ex_eqT {ta tb : TE} {xs ys : List Int} (ha : Ex W ta δ (ti xs)) (hb : Ex W tb δ (ti ys)) : Ex W (tOp (rEqD W.K) ta tb) δ (.bl (decide (xs = ys))) :=
  (ex_op (og_eqD (ti_plain xs) (ti_plain ys) (by rw [ti_py]; exact shaped_tints xs) (by rw [ti_py]; exact shaped_tints ys)) ha hb).to (by rw [ti_py, ti_py]; simp only [PyData.eqv, eqv_ints])
theorem ex_neT {ta tb : TE} {xs ys : List Int} (ha : Ex W ta δ (ti xs)) (hb : Ex W tb δ (ti ys)) : Ex W (tOp (rNeD W.K) ta tb) δ (.bl (!decide (xs = ys))) :=
  (ex_op (og_neD (ti_plain xs) (ti_plain ys) (by rw [ti_py]; exact shaped_tints xs) (by rw [ti_py]; exact shaped_tints ys)) ha hb).to (by rw [ti_py, ti_py]; simp only [PyData.eqv, eqv_ints])
/-! ### x in a sequence of ints -/
theorem inV_ints (x : Int) (ys : List Int) : inV (D.val (.int x)) ((ys.map D.int).map D.val) = decide (x ∈ ys) := by
  rw [List.map_map]
  unfold inV
  induction ys with
  | nil => rfl
  | cons y ys ih =>
    rw [List.map_cons, List.any_cons, ih]
    have e : eqV ((D.val ∘ D.int) y) (D.val (.int x)) = decide (x = y) := by
      show eqV (.int y) (.int x) = _
      simp only [eqV]
      by_cases h : x = y
      · subst h; simp
      · rw [decide_eq_false h]
        simp
        omega
    rw [e]
    by_cases h : x = y
    · subst h; simp
    · simp [h]
theorem flats_ints (ys : List Int) : (ys.map D.int).all D.flat = true := by
  rw [List.all_map]
  exact List.all_eq_true.mpr fun _ _ => rfl
theorem ex_inI {ta tb : TE} {x : Int} {ys : List Int} (ha : Ex W ta δ (.int x)) (hb : EA W tb δ (.s (ys.map D.int))) : Ex W (tOp (rIn W.K false) ta tb) δ (.bl (decide (x ∈ ys))) := (ex_op (og_in rfl (flats_ints ys)) ha hb).to (by rw [inV_ints]; rfl)
theorem ex_notInI {ta tb : TE} {x : Int} {ys : List Int} (ha : Ex W ta δ (.int x)) (hb : EA W tb δ (.s (ys.map D.int))) : Ex W (tOp (rIn W.K true) ta tb) δ (.bl (!decide (x ∈ ys))) := (ex_op (og_in rfl (flats_ints ys)) ha hb).to (by rw [inV_ints]; rfl)
end
/-! ### insertion sort -/
theorem insB_perm {α : Type} (le : α → α → Bool) (x : α) : ∀ ys : List α, (insB le x ys).Perm (x :: ys)
  | [] => .refl _
  | y :: ys => by
    unfold insB
    split
    · exact .refl _
    · exact ((insB_perm le x ys).cons y).trans (.swap x y ys)
theorem isort_perm {α : Type} (le : α → α → Bool) : ∀ xs : List α, (isort le xs).Perm xs
  | [] => .refl _
  | x :: xs => (insB_perm le x _).trans ((isort_perm le xs).cons x)
abbrev leI (a b : Int) : Bool := decide (a ≤ b)
theorem insI_sorted (x : Int) : ∀ ys : List Int, ys.Pairwise (· ≤ ·) → (insB leI x ys).Pairwise (· ≤ ·)
  | [], _ => List.pairwise_singleton _ _
  | y :: ys, h => by
    obtain ⟨h1, h2⟩ := List.pairwise_cons.mp h
    unfold insB
    split
    · rename_i c
      have c : x ≤ y := of_decide_eq_true c
      refine List.pairwise_cons.mpr ⟨fun z hz => ?_, h⟩
      rcases List.mem_cons.mp hz with rfl | hz
      · exact c
      · exact Int.le_trans c (h1 z hz)
    · rename_i c
      have c : ¬ x ≤ y := fun z => c (decide_eq_true z)
      refine List.pairwise_cons.mpr ⟨fun z hz => ?_, insI_sorted x ys h2⟩
      rcases List.mem_cons.mp ((insB_perm leI x ys).mem_iff.mp hz) with rfl | hz
      · omega
      · exact h1 z hz
theorem isortI_sorted : ∀ xs : List Int, (isort leI xs).Pairwise (· ≤ ·)
  | [] => .nil
  | x :: xs => insI_sorted x _ (isortI_sorted xs)
end K9
/-! text W4 -/
set_option Elab.async false
set_option linter.all false
set_option maxRecDepth 100000
set_option maxHeartbeats 2000000
set_option autoImplicit false
/-! walks: tables of groups -/
namespace K9
open PySem PySem.Spec PyProof.Rows L2 LamX
/-! ### plain -/
def reachIn (row : List Int) (st : List Bool × List Int) (m : Int) : Option (List Bool × List Int) :=
  match atI row m with
  | none => none
  | some e => match atI st.1 e with
    | none => none
    | some true => some st
    | some false => match ixN st.1.length e with
      | none => none
      | some j => if st.2.length < 60 then some (st.1.set j true, st.2 ++ [e]) else none
def reachTurn (rows : List (List Int)) (mem : List Int) (st : (List Bool × List Int) × Nat) : Option ((List Bool × List Int) × Nat) :=
  match atI st.1.2 (st.2 : Nat) with
  | none => none
  | some f => match atI rows f with
    | none => none
    | some row => match mem.foldlM (reachIn row) st.1 with
      | none => none
      | some r => some (r, st.2 + 1)
def reachC (st : (List Bool × List Int) × Nat) : Bool := decide (((st.2 : Nat) : Int) < (st.1.2.length : Nat))
def reachM (rows : List (List Int)) (mem : List Int) : Option (List Int) :=
  match loopM reachC (reachTurn rows mem) 100 (((List.replicate rows.length false).set 0 true, [0]), 0) with
  | none => none
  | some st => if st.1.2.length < 64 then some (isort leI st.1.2) else none
def genTurn (rows : List (List Int)) (st : List Int × List Int) (m : Nat) : Option (List Int × List Int) :=
  if ((m : Nat) : Int) ∈ st.2 then some st else if st.1.length < 60 then (match reachM rows (st.1 ++ [((m : Nat) : Int)]) with
    | none => none
    | some r => some (st.1 ++ [((m : Nat) : Int)], r)) else none
def genM (rows : List (List Int)) : Option (List Int) := match (List.range rows.length).foldlM (genTurn rows) ([], [0]) with
  | none => none
  | some st => some st.1
def assocAt (rows : List (List Int)) (mid : Int) (a : Nat) : Bool :=
  match atI rows (a : Nat) with
  | none => false
  | some ra => match atI ra mid with
    | none => false
    | some e => match atI rows e with
      | none => false
      | some x => match atI rows mid with
        | none => false
        | some rm => decide (rm.length ≤ 60) && (rm.all fun m => (atI ra m).isSome) && decide (x = rm.map fun m => (atI ra m).getD 0)
def assocB (rows : List (List Int)) : Bool := match genM rows with
  | none => false
  | some g => g.all fun mid => (List.range rows.length).all fun a => assocAt rows mid a
theorem flat_rep {α : Type} (n : Nat) (x : α) : (List.replicate n [x]).flatten = List.replicate n x := by
  induction n with
  | zero => rfl
  | succ n ih => rw [List.replicate_succ, List.flatten_cons, ih]; rfl
theorem foldlM_unit {α : Type} (p : α → Bool) : ∀ xs : List α, xs.all p = true → xs.foldlM (fun (_ : Unit) x => if p x = true then some () else none) () = some ()
  | [], _ => rfl
  | x :: xs, h => by
    rw [List.all_cons, Bool.and_eq_true] at h
    rw [List.foldlM_cons, if_pos h.1]
    exact foldlM_unit p xs h.2
theorem getD_some {α : Type} {o : Option α} {d : α} (h : o.isSome = true) : o = some (o.getD d) := by
  cases o with
  | none => cases h
  | some a => rfl
theorem ixN_n {n j : Nat} (hj : j < n) : ixN n (j : Int) = some j := by
  have h1 : (0 : Int) ≤ (j : Int) := by omega
  have h2 : (j : Int) < (n : Int) := by omega
  unfold ixN
  rw [if_pos h1, if_pos h2, Int.toNat_natCast]
theorem atI_n {α : Type} {xs : List α} {j : Nat} (h : j < xs.length) : atI xs (j : Int) = some xs[j] := atI_nat (List.getElem?_eq_getElem h)
/-! ### the walks -/
section
variable {P : Program} {w : World} {W : Wd} {mg : Str → Option Value} {base : Heap} {k : Nat}
def N_reached : List Str := ["rows", "members", "inside", "found", "at", "row", "member"]
abbrev ps_reached : List Str := ["rows", "members"]
theorem sc_reached : FnScope N_reached ps_reached (defScope (top 30)) := ⟨rfl, rfl, rfl, by decide +kernel, rfl, by decide +kernel, by decide +kernel⟩
abbrev rowD (b : Bool) (row : List Int) : D := seqD b (row.map D.int)
abbrev tabD (b : Bool) (rows : List (List Int)) : D := seqD b (rows.map (rowD b))
def R_reached : FP := fun as d => ∃ (b : Bool) (rows : List (List Int)) (mem r : List Int), as = [.v (tabD b rows), .l (mem.map D.int)] ∧ 0 < rows.length ∧ rows.length ≤ 60 ∧ reachM rows mem = some r ∧ d = li r
theorem w_reached (T : Tx W.K mg) : BodyOk P w W mg base k N_reached "reached" (top 30) R_reached := by
  intro f cdv A outer s H E hr
  refine ⟨_, (pss_cons (ps_set (i := 2) sc_reached.nd rfl (by first | exact Or.inl rfl | exact Or.inr rfl) (pe_op op_rep (pe_lst (pa_cons pe_bl pa_nil)) (pe_callB call_len_seq (by rfl) T.len PySem.boot_len (pa_cons (pv 0) pa_nil))))
    (pss_cons (ps_asg pe_bl (pg_sub (pv 2) pe_int set_list))
    (pss_cons (ps_set (i := 3) sc_reached.nd rfl (by first | exact Or.inl rfl | exact Or.inr rfl) (pe_lst (pa_cons pe_int pa_nil)))
    (pss_cons (ps_set (i := 4) sc_reached.nd rfl (by first | exact Or.inl rfl | exact Or.inr rfl) pe_int)
    (pss_cons (ps_while PassesOwn.never (pt_cmpR op_lt (pv 4) (pe_callB call_len_seq (by rfl) T.len PySem.boot_len (pa_cons (pv 3) pa_nil)) (nomark _)) (pss_cons (ps_set (i := 5) sc_reached.nd rfl (by first | exact Or.inl rfl | exact Or.inr rfl) (pe_ix ix_seq (pv 0) (pe_ix ix_list (pv 3) (pv 4) (fun _ _ => rfl)) (fun _ _ => rfl)))
     (pss_cons (ps_for PassesOwn.never rfl (pi_list (pv 1)) (pg_name (i := 6) sc_reached.nd rfl (by first | exact Or.inl rfl | exact Or.inr rfl)) (pss_one (ps_if (pt_not (pt_val (pe_ix ix_list (pv 2) (pe_ix ix_seq (pv 5) (pv 6) (fun _ _ => rfl)) (fun _ _ => rfl)))) (pss_cons (ps_asg pe_bl (pg_sub (pv 2) (pe_ix ix_seq (pv 5) (pv 6) (fun _ _ => rfl)) set_list))
       (pss_one (ps_expr (pe_bm PySem.F.plainAttrs_list PySem.F.slot_list_append PySem.F.type_list_append mt_append (pv 3) (pa_cons (pe_ix ix_seq (pv 5) (pv 6) (fun _ _ => rfl)) pa_nil))))) pss_nil)))
     (pss_one (ps_aug (i := 4) sc_reached.nd rfl (by first | exact Or.inl rfl | exact Or.inr rfl) pe_int iop_add)))))
    (pss_one (ps_ret (pe_callB cr_sorted (by rfl) T.sorted (by rfl) (pa_cons (pv 3) pa_nil))))))))), ?_⟩
  rintro as d ⟨b, rows, mem, r, rfl, h0, h60, hm, rfl⟩
  unfold reachM at hm
  split at hm
  · cases hm
  rename_i st hst
  split at hm
  · rename_i h64
    cases hm
    refine .inl (sx_seq (sx_setM ((exf_rep (xs := [.bl false]) (k := rows.length) (ExF.m (exf_lst (ds := [.bl false]) (show 1 ≤ sizeLine by decide) (exa_cons ex_bl exa_nil))) ((ex_len (EA.sq (ea_var rfl)) (by rw [List.length_map]))) (by omega) (by omega) (small_of (by simp only [Int.toNat_natCast, List.length_singleton]; omega))).to (b := (List.replicate rows.length false).map D.bl) (by rw [Int.toNat_natCast, flat_rep, List.map_replicate])) rfl)
      (sx_seq (sx_setitemT (enc := D.bl) (j := 0) rfl ex_bl ex_int (by rw [List.length_replicate]; exact ixN_n h0) rfl)
      (sx_seq (sx_setM (exf_one (enc := D.int) 0 ex_int) rfl) (sx_seq (sx_set ex_int rfl) (sx_seq (sx_whM (S := fun st => [.val (tabD b rows), .rd (mem.map D.int), .mu (st.1.1.map D.bl), .mu (st.1.2.map D.int), .val (.int (st.2 : Nat)), .no, .no]) reachC (reachTurn rows mem) 100 (((List.replicate rows.length false).set 0 true, [0]), 0) st hst (fun st => ext_test (ex_ltI (ea_var rfl) (ex_lenM (ea_mu rfl)))) fun st st' _ ht => ?_) (sx_ret (exf_srtL (ea_mu rfl) h64 (isort_perm leI _) (isortI_sorted _)).ex rfl))))))
    unfold reachTurn at ht
    split at ht
    · cases ht
    rename_i f hf
    split at ht
    · cases ht
    rename_i row hrow
    split at ht
    · cases ht
    rename_i r hr
    cases ht
    obtain ⟨st, at0⟩ := st
    refine sx_weak (sx_seq (sx_set (ex_ixS (enc := rowD b) (EA.sq (ea_var rfl)) (ex_ixL (ea_mu rfl) (ea_var rfl) hf) hrow) rfl) (sx_seq (sx_forM (enc := D.int) (ys := mem) (S := fun st => [.val (tabD b rows), .rd (mem.map D.int), .mu (st.1.map D.bl), .mu (st.2.map D.int), .val (.int (at0 : Nat)), .val (rowD b row), .no]) (reachIn row) st r hr (ew_rd rfl) fun a x a' hx hF => ⟨_, [6], gx_name (by simp), ?_⟩) (sx_aug rfl ex_int (og_ii (f := fun i j => i + j)) rfl))) (by repeat (first | exact Le.nil | apply Le.same | apply Le.drop))
    unfold reachIn at hF
    split at hF
    · cases hF
    rename_i e he
    split at hF
    · cases hF
    · rename_i hb
      cases hF
      exact sx_weak (sx_ifF (ext_not (ext_val (ex_ixL (enc := D.bl) (ea_mu rfl) (ex_ixS (enc := D.int) (EA.sq (ea_var rfl)) (ea_var rfl) he) hb))) rfl (sx_nil rfl)) (by repeat (first | exact Le.nil | apply Le.same | apply Le.drop))
    · rename_i hb
      split at hF
      · cases hF
      rename_i j hj
      split at hF
      · rename_i hl
        cases hF
        exact sx_weak (sx_ifT (ext_not (ext_val (ex_ixL (enc := D.bl) (ea_mu rfl) (ex_ixS (enc := D.int) (EA.sq (ea_var rfl)) (ea_var rfl) he) hb))) rfl (sx_seq (sx_setitemT (enc := D.bl) rfl ex_bl (ex_ixS (enc := D.int) (EA.sq (ea_var rfl)) (ea_var rfl) he) hj rfl) (sx_appendT (enc := D.int) rfl (ex_ixS (enc := D.int) (EA.sq (ea_var rfl)) (ea_var rfl) he) (small_lt (by omega)) rfl))) (by repeat (first | exact Le.nil | apply Le.same | apply Le.drop))
      · cases hF
  · cases hm
def N_generating_members : List Str := ["rows", "chosen", "found", "member"]
abbrev ps_generating_members : List Str := ["rows"]
theorem sc_generating_members : FnScope N_generating_members ps_generating_members (defScope (top 31)) := ⟨rfl, rfl, rfl, by decide +kernel, rfl, by decide +kernel, by decide +kernel⟩
abbrev lliD (rows : List (List Int)) : D := .lst (rows.map li)
def R_generating_members : FP := fun as d => ∃ (rows : List (List Int)) (r : List Int), as = [.v (lliD rows)] ∧ 0 < rows.length ∧ rows.length ≤ 60 ∧ genM rows = some r ∧ d = li r
theorem w_generating_members (T : Tx W.K mg) (c_reached : C8.Cal P w W.K mg base 1 "reached" (spOf W R_reached) []) : BodyOk P w W mg base 1 N_generating_members "generating_members" (top 31) R_generating_members := by
  intro f cdv A outer s H E hr
  refine ⟨_, (pss_cons (ps_set (i := 1) sc_generating_members.nd rfl (by first | exact Or.inl rfl | exact Or.inr rfl) (pe_lst pa_nil))
    (pss_cons (ps_set (i := 2) sc_generating_members.nd rfl (by first | exact Or.inl rfl | exact Or.inr rfl) (pe_lst (pa_cons pe_int pa_nil)))
    (pss_cons (ps_for PassesOwn.never rfl (pi_range1 (by rfl) T.range (pa_cons (pe_callB call_len_seq (by rfl) T.len PySem.boot_len (pa_cons (pv 0) pa_nil)) pa_nil)) (pg_name (i := 3) sc_generating_members.nd rfl (by first | exact Or.inl rfl | exact Or.inr rfl)) (pss_one (ps_if (pt_cmpR op_notIn_seq (pv 3) (pv 2) (by with_unfolding_all rfl)) (pss_cons (ps_expr (pe_bm PySem.F.plainAttrs_list PySem.F.slot_list_append PySem.F.type_list_append mt_append (pv 1) (pa_cons (pv 3) pa_nil)))
      (pss_one (ps_set (i := 2) sc_generating_members.nd rfl (by first | exact Or.inl rfl | exact Or.inr rfl) (C8.pe_c c_reached hr (by decide) (by rfl) (pa_cons (pv 0) (pa_cons (pv 1) pa_nil)))))) pss_nil)))
    (pss_one (ps_ret (pv 1)))))), ?_⟩
  rintro as d ⟨rows, r, rfl, h0, h60, hm, rfl⟩
  unfold genM at hm
  split at hm
  · cases hm
  rename_i st hst
  cases hm
  refine .inl (sx_seq (sx_setM (exf_nil (enc := D.int)) rfl) (sx_seq (sx_set (exf_one (enc := D.int) 0 ex_int).ex rfl) (sx_seq (sx_forM (enc := fun n : Nat => .int (n : Nat)) (ys := List.range rows.length) (S := fun st => [.val (lliD rows), .mu (st.1.map D.int), .val (li st.2), .no]) (genTurn rows) ([], [0]) st hst (ew_rg1 (ex_lenL (ea_var rfl)) (by omega)) fun a x a' hx hF => ⟨_, [3], gx_name (by simp), ?_⟩) (sx_freeze (i := 1) rfl (sx_ret (ea_var rfl) rfl)))))
  unfold genTurn at hF
  split at hF
  · rename_i hi
    cases hF
    exact sx_weak (sx_ifF (ext_test (ex_notInI (ea_var rfl) (EA.toS (ea_var rfl)))) (by rw [decide_eq_true hi]; rfl) (sx_nil rfl)) (by repeat (first | exact Le.nil | apply Le.same | apply Le.drop))
  · rename_i hi
    split at hF
    · rename_i hl
      split at hF
      · cases hF
      rename_i r hr
      cases hF
      exact sx_weak (sx_ifT (ext_test (ex_notInI (ea_var rfl) (EA.toS (ea_var rfl)))) (by rw [decide_eq_false hi]; rfl) (sx_seq (sx_appendT (enc := D.int) rfl (ea_var rfl) (small_lt (by omega)) rfl) (sx_set (ex_call (R := R_reached) ⟨false, rows, _, r, rfl, h0, h60, hr, rfl⟩ (exa_cons (ea_var rfl) (exa_cons (ea_mu rfl) exa_nil))) rfl))) (by repeat (first | exact Le.nil | apply Le.same | apply Le.drop))
    · cases hF
def N_is_associative : List Str := ["rows", "middle", "a", "m"]
abbrev ps_is_associative : List Str := ["rows"]
theorem sc_is_associative : FnScope N_is_associative ps_is_associative (defScope (top 32)) := ⟨rfl, rfl, rfl, by decide +kernel, rfl, by decide +kernel, by decide +kernel⟩
def R_is_associative : FP := fun as d => ∃ rows : List (List Int), as = [.v (lliD rows)] ∧ 0 < rows.length ∧ rows.length ≤ 60 ∧ assocB rows = true ∧ d = .bl true
theorem w_is_associative (T : Tx W.K mg) (c_generating_members : C8.Cal P w W.K mg base 2 "generating_members" (spOf W R_generating_members) []) : BodyOk P w W mg base 2 N_is_associative "is_associative" (top 32) R_is_associative := by
  intro f cdv A outer s H E hr
  refine ⟨_, (pss_cons (ps_for PassesOwn.never rfl (pi_list (C8.pe_c c_generating_members hr (by decide) (by rfl) (pa_cons (pv 0) pa_nil))) (pg_name (i := 1) sc_is_associative.nd rfl (by first | exact Or.inl rfl | exact Or.inr rfl)) (pss_one (ps_for PassesOwn.never rfl (pi_range1 (by rfl) T.range (pa_cons (pe_callB call_len_seq (by rfl) T.len PySem.boot_len (pa_cons (pv 0) pa_nil)) pa_nil)) (pg_name (i := 2) sc_is_associative.nd rfl (by first | exact Or.inl rfl | exact Or.inr rfl)) (pss_one (ps_if (pt_cmpR (op_neD hr.units) (pe_callTy call_list_of (by rfl) T.list boot_list (pa_cons (pe_ix ix_list (pv 0) (pe_ix ix_list (pe_ix ix_list (pv 0) (pv 2) (fun _ _ => rfl)) (pv 1) (fun _ _ => rfl)) (fun _ _ => rfl)) pa_nil)) (pe_lc (own := [("m", 3)]) rfl sc_is_associative.nd (pi_list (pe_ix ix_list (pv 0) (pv 1) (fun _ _ => rfl))) (blkOk_by (N := N_is_associative) (sc := defScope (top 32)) (by decide +kernel)) (fun _ _ _ _ _ => pg_cast (pg_name (i := 3) sc_is_associative.nd rfl (by first | exact Or.inl rfl | exact Or.inr rfl)) (by first | exact rfl | (dsimp only [blk_K]; done) | (dsimp only [blk_K]; exact rfl))) (fun _ _ _ _ _ => pts_cast pts_nil (by first | exact rfl | (dsimp only [blk_K]; done) | (dsimp only [blk_K]; exact rfl))) (fun _ _ _ _ _ => pe_cast (pe_ix ix_list (pe_ix ix_list (pv 0) (pv 2) (fun _ _ => rfl)) (pv 3) (fun _ _ => rfl)) (by first | exact rfl | (dsimp only [blk_K]; done) | (dsimp only [blk_K]; exact rfl)))) (nomark _)) (pss_one (ps_ret pe_bl)) pss_nil)))))
    (pss_one (ps_ret pe_bl))), ?_⟩
  rintro as d ⟨rows, rfl, h0, h60, hm, rfl⟩
  unfold assocB at hm
  split at hm
  · cases hm
  rename_i g hg
  refine .inl (sx_seq (sx_forM (enc := D.int) (ys := g) (S := fun _ : Unit => [.val (lliD rows), .no, .no, .no]) _ () () (foldlM_unit _ g hm) (ew_list (ex_call ⟨rows, g, rfl, h0, h60, hg, rfl⟩ (exa_cons (ea_var rfl) exa_nil))) fun a mid a' hx hF => ⟨_, [1], gx_name (by simp), ?_⟩) (sx_ret ex_bl rfl))
  split at hF
  · rename_i hmid
    refine sx_weak (sx_forM (enc := fun n : Nat => .int (n : Nat)) (ys := List.range rows.length) (S := fun _ : Unit => [.val (lliD rows), .val (.int mid), .no, .no]) _ () () (foldlM_unit _ _ hmid) (ew_rg1 (ex_lenL (ea_var rfl)) (by omega)) fun a x a' hx hF => ⟨_, [2], gx_name (by simp), ?_⟩) (by repeat (first | exact Le.nil | apply Le.same | apply Le.drop))
    split at hF
    · rename_i hat
      unfold assocAt at hat
      split at hat
      · cases hat
      rename_i ra hra
      split at hat
      · cases hat
      rename_i e he
      split at hat
      · cases hat
      rename_i z hz
      split at hat
      · cases hat
      rename_i rm hrm
      rw [Bool.and_eq_true, Bool.and_eq_true, List.all_eq_true] at hat
      obtain ⟨⟨h1, h2⟩, h3⟩ := hat
      have h3 := of_decide_eq_true h3
      refine sx_weak (sx_ifF (ext_test (ex_neL (EA.eq (ExF.l (exf_listS (EA.toS (ex_ixL (enc := li) (EA.toL (ea_var rfl)) (ex_ixL (enc := D.int) (EA.toL (ex_ixL (enc := li) (EA.toL (ea_var rfl)) (ea_var rfl) hra)) (ea_var rfl) he) hz)))) rfl) (EA.eq (ExF.l (exf_lcT1 (enc := D.int) (ys := rm) (fun m => D.int ((atI ra m).getD 0)) (ew_list (ex_ixL (enc := li) (EA.toL (ea_var rfl)) (ea_var rfl) hrm)) (fun m hm => ⟨_, gx_name (by simp), ex_ixL (enc := D.int) (EA.toL (ex_ixL (enc := li) (EA.toL (ea_var rfl)) (ea_var rfl) hra)) (ea_var rfl) (getD_some (h2 m hm))⟩) (small_of (by have := of_decide_eq_true h1; omega)))) (by rw [List.map_map]; rfl)))) (by rw [decide_eq_true h3]; rfl) (sx_nil rfl)) (by repeat (first | exact Le.nil | apply Le.same | apply Le.drop))
    · cases hF
  · cases hF
end
end K9
/-! text W5 -/
set_option Elab.async false
set_option linter.all false
set_option maxRecDepth 100000
set_option maxHeartbeats 2000000
set_option autoImplicit false
/-! walks: the group's making -/
namespace K9
open PySem PySem.Spec PyProof.Rows L2 LamX
/-! ### plain -/
def rangeI (n : Nat) : List Int := (List.range n).map fun k => ((k : Nat) : Int)
def colsOf (rows : List (List Int)) : List (List Int) := (List.range rows.length).map fun j => rows.map fun row => row.getD j 0
def tabOk (rows : List (List Int)) : Bool :=
  decide (0 < rows.length) && decide (rows.length ≤ 30) && (rows.all fun row => decide (row.length = rows.length)) && (rows.all fun row => row.all fun e => decide (0 ≤ e) && decide (e < (rows.length : Int)))
  && decide (rows.getD 0 [] = rangeI rows.length) && decide (rows.map (fun row => row.getD 0 0) = rangeI rows.length) && ((rows ++ colsOf rows).all fun l => decide l.Nodup) && assocB rows
theorem getD_at {α : Type} {xs : List α} {j : Nat} {d : α} (h : j < xs.length) : atI xs ((j : Nat) : Int) = some (xs.getD j d) := by
  rw [atI_n h]
  rw [List.getD_eq_getElem?_getD, List.getElem?_eq_getElem h]
  rfl
theorem atI_0 {α : Type} {xs : List α} {d : α} (h : 0 < xs.length) : atI xs 0 = some (xs.getD 0 d) := getD_at (j := 0) h
theorem lc2_flat {α β : Type} (xs : List α) (ys : α → List β) (f : β → D) : (xs.flatMap fun x => ((ys x).filter fun _ => true).map f) = (xs.flatMap ys).map f := by
  rw [List.map_flatMap]
  congr 1
  funext x
  rw [List.filter_eq_self.mpr fun _ _ => rfl]
theorem rng_I (n : Nat) : rng 0 (((n : Nat) : Int) - 0).toNat = (rangeI n).map D.int := by
  unfold rng rangeI
  rw [Int.sub_zero, Int.toNat_natCast, List.map_map]
  exact List.map_congr_left fun k _ => by rw [Int.zero_add]; rfl
theorem exf_rgI {W : Wd} {δ : Sto} {ta : TE} {n : Nat} (h : Ex W ta δ (.int n)) (hn : n ≤ 1000) : ExF W (tLstRg (tRg1 ta)) δ ((rangeI n).map D.int) := by
  rw [← rng_I]
  exact exf_listRg (er_1 h) (by unfold RgOk; omega)
theorem ex_trgI {W : Wd} {δ : Sto} {ta : TE} {n : Nat} (h : Ex W ta δ (.int n)) (hn : n ≤ 1000) : Ex W (tTupRg (tRg1 ta)) δ (ti (rangeI n)) := by
  unfold ti
  rw [← rng_I]
  exact ex_tupRg (er_1 h) (by unfold RgOk; omega)
theorem ex_trgK {W : Wd} {δ : Sto} {ta : TE} {n : Nat} (h : Ex W ta δ (.int n)) (hn : n ≤ 1000) : Ex W (tTupRg (tRg1 ta)) δ (tki (rangeI n)) := by
  unfold tki
  rw [← rng_I]
  exact ex_tupRg' (er_1 h) (by unfold RgOk; omega)
section
variable {P : Program} {w : World} {W : Wd} {mg : Str → Option Value} {base : Heap} {k : Nat}
def N_table_fault : List Str := ["rows", "size", "row", "entry", "columns", "at", "line"]
abbrev ps_table_fault : List Str := ["rows"]
theorem sc_table_fault : FnScope N_table_fault ps_table_fault (defScope (top 33)) := ⟨rfl, rfl, rfl, by decide +kernel, rfl, by decide +kernel, by decide +kernel⟩
def R_table_fault : FP := fun as d => ∃ rows : List (List Int), as = [.v (lliD rows)] ∧ tabOk rows = true ∧ d = .str ""
theorem w_table_fault (T : Tx W.K mg) (c_is_associative : C8.Cal P w W.K mg base 3 "is_associative" (spOf W R_is_associative) []) : BodyOk P w W mg base 3 N_table_fault "table_fault" (top 33) R_table_fault := by
  intro f cdv A outer s H E hr
  refine ⟨_, (pss_cons (ps_set (i := 1) sc_table_fault.nd rfl (by first | exact Or.inl rfl | exact Or.inr rfl) (pe_callB call_len_seq (by rfl) T.len PySem.boot_len (pa_cons (pv 0) pa_nil)))
    (pss_cons (ps_if (PW.pt (pw_or (pt_cmpR op_eq (pv 1) pe_int (nomark _)) (pw_or1 (pt_not (pt_val (pe_callB (cr_all rfl) (by rfl) T.all (by rfl) (pa_cons (pe_lc (own := [("row", 2)]) rfl sc_table_fault.nd (pi_list (pv 0)) (blkOk_by (N := N_table_fault) (sc := defScope (top 33)) (by decide +kernel)) (fun _ _ _ _ _ => pg_cast (pg_name (i := 2) sc_table_fault.nd rfl (by first | exact Or.inl rfl | exact Or.inr rfl)) (by first | exact rfl | (dsimp only [blk_K]; done) | (dsimp only [blk_K]; exact rfl))) (fun _ _ _ _ _ => pts_cast pts_nil (by first | exact rfl | (dsimp only [blk_K]; done) | (dsimp only [blk_K]; exact rfl))) (fun _ _ _ _ _ => pe_cast (pe_cmpR op_eq (pe_callB call_len_seq (by rfl) T.len PySem.boot_len (pa_cons (pv 2) pa_nil)) (pv 1) (nomark _)) (by first | exact rfl | (dsimp only [blk_K]; done) | (dsimp only [blk_K]; exact rfl)))) pa_nil))))))) (pss_one (ps_ret pe_str)) pss_nil)
    (pss_cons (ps_if (pt_not (pt_val (pe_callB (cr_all rfl) (by rfl) T.all (by rfl) (pa_cons (pe_lc2 (own := [("row", 2), ("entry", 3)]) (vs1 := [3]) rfl sc_table_fault.nd (pi_list (pv 0)) (blkOk_by (N := N_table_fault) (sc := defScope (top 33)) (by decide +kernel)) (by decide) (fun _ _ _ _ _ => pg_cast (pg_name (i := 2) sc_table_fault.nd rfl (by first | exact Or.inl rfl | exact Or.inr rfl)) (by first | exact rfl | (dsimp only [blk_K]; done) | (dsimp only [blk_K]; exact rfl))) (fun _ _ _ _ _ => pts_cast pts_nil (by first | exact rfl | (dsimp only [blk_K]; done) | (dsimp only [blk_K]; exact rfl))) (fun _ _ _ _ _ => pi_cast (pi_list (pv 2)) (by first | exact rfl | (dsimp only [blk_K]; done) | (dsimp only [blk_K]; exact rfl))) (fun _ _ _ _ _ => pg_cast (pg_name (i := 3) sc_table_fault.nd rfl (by first | exact Or.inl rfl | exact Or.inr rfl)) (by first | exact rfl | (dsimp only [blk_K]; done) | (dsimp only [blk_K]; exact rfl))) (fun _ _ _ _ _ => pts_cast pts_nil (by first | exact rfl | (dsimp only [blk_K]; done) | (dsimp only [blk_K]; exact rfl))) (fun _ _ _ _ _ => pe_cast (pe_chain op_le op_lt pe_int (pv 3) (pv 1)) (by first | exact rfl | (dsimp only [blk_K]; done) | (dsimp only [blk_K]; exact rfl)))) pa_nil)))) (pss_one (ps_ret pe_str)) pss_nil)
    (pss_cons (ps_if (PW.pt (pw_or (pt_cmpR (op_neD hr.units) (pe_callTy call_list_of (by rfl) T.list boot_list (pa_cons (pe_ix ix_list (pv 0) pe_int (fun _ _ => rfl)) pa_nil)) (pe_listRg rfl (by rfl) T.list (prg_1 (by rfl) T.range (pv 1))) (nomark _)) (pw_or1 (pt_cmpR (op_neD hr.units) (pe_lc (own := [("row", 2)]) rfl sc_table_fault.nd (pi_list (pv 0)) (blkOk_by (N := N_table_fault) (sc := defScope (top 33)) (by decide +kernel)) (fun _ _ _ _ _ => pg_cast (pg_name (i := 2) sc_table_fault.nd rfl (by first | exact Or.inl rfl | exact Or.inr rfl)) (by first | exact rfl | (dsimp only [blk_K]; done) | (dsimp only [blk_K]; exact rfl))) (fun _ _ _ _ _ => pts_cast pts_nil (by first | exact rfl | (dsimp only [blk_K]; done) | (dsimp only [blk_K]; exact rfl))) (fun _ _ _ _ _ => pe_cast (pe_ix ix_list (pv 2) pe_int (fun _ _ => rfl)) (by first | exact rfl | (dsimp only [blk_K]; done) | (dsimp only [blk_K]; exact rfl)))) (pe_listRg rfl (by rfl) T.list (prg_1 (by rfl) T.range (pv 1))) (nomark _))))) (pss_one (ps_ret pe_str)) pss_nil)
    (pss_cons (ps_setLc (i := 4) (own := [("at", 5)]) rfl sc_table_fault.nd rfl rfl (sw_true rfl rfl rfl (by decide +kernel)) (pi_range1 (by rfl) T.range (pa_cons (pv 1) pa_nil)) (blkOk_by (N := N_table_fault) (sc := defScope (top 33)) (by decide +kernel)) (fun _ _ _ _ _ => pg_cast (pg_name (i := 5) sc_table_fault.nd rfl (by first | exact Or.inl rfl | exact Or.inr rfl)) (by first | exact rfl | (dsimp only [blk_K]; done) | (dsimp only [blk_K]; exact rfl))) (fun _ _ _ _ _ => pts_cast pts_nil (by first | exact rfl | (dsimp only [blk_K]; done) | (dsimp only [blk_K]; exact rfl))) (fun _ _ _ _ _ => pe_cast (pe_lc (own := [("row", 2)]) rfl sc_table_fault.nd (pi_list (pv 0)) (blkOk_by (by rfl)) (fun _ _ _ _ _ => pg_cast (pg_name (i := 2) sc_table_fault.nd rfl (by first | exact Or.inl rfl | exact Or.inr rfl)) (by first | exact rfl | (dsimp only [blk_K]; done) | (dsimp only [blk_K]; exact rfl))) (fun _ _ _ _ _ => pts_cast pts_nil (by first | exact rfl | (dsimp only [blk_K]; done) | (dsimp only [blk_K]; exact rfl))) (fun _ _ _ _ _ => pe_cast (pe_ix ix_list (pv 2) (pv 5) (fun _ _ => rfl)) (by first | exact rfl | (dsimp only [blk_K]; done) | (dsimp only [blk_K]; exact rfl)))) (by first | exact rfl | (dsimp only [blk_K]; done) | (dsimp only [blk_K]; exact rfl))))
    (pss_cons (ps_if (pt_not (pt_val (pe_callB (cr_all rfl) (by rfl) T.all (by rfl) (pa_cons (pe_lc (own := [("line", 6)]) rfl sc_table_fault.nd (pi_list (pe_op op_cat (pe_callTy call_list_of (by rfl) T.list boot_list (pa_cons (pv 0) pa_nil)) (pv 4))) (blkOk_by (N := N_table_fault) (sc := defScope (top 33)) (by decide +kernel)) (fun _ _ _ _ _ => pg_cast (pg_name (i := 6) sc_table_fault.nd rfl (by first | exact Or.inl rfl | exact Or.inr rfl)) (by first | exact rfl | (dsimp only [blk_K]; done) | (dsimp only [blk_K]; exact rfl))) (fun _ _ _ _ _ => pts_cast pts_nil (by first | exact rfl | (dsimp only [blk_K]; done) | (dsimp only [blk_K]; exact rfl))) (fun _ _ _ _ _ => pe_cast (pe_cmpR op_eq (RZ.pe_lenSetI (by rfl) T.len (by rfl) T.set (pv 6)) (pv 1) (nomark _)) (by first | exact rfl | (dsimp only [blk_K]; done) | (dsimp only [blk_K]; exact rfl)))) pa_nil)))) (pss_one (ps_ret pe_str)) pss_nil)
    (pss_cons (ps_if (pt_not (pt_val (C8.pe_c c_is_associative hr (by decide) (by rfl) (pa_cons (pv 0) pa_nil)))) (pss_one (ps_ret pe_str)) pss_nil)
    (pss_one (ps_ret pe_str))))))))), ?_⟩
  rintro as d ⟨rows, rfl, hm, rfl⟩
  unfold tabOk at hm
  simp only [Bool.and_eq_true, List.all_eq_true, decide_eq_true_eq] at hm
  obtain ⟨⟨⟨⟨⟨⟨⟨h0, h30⟩, hl⟩, he⟩, hr0⟩, hc0⟩, hn⟩, ha⟩ := hm
  have hsm : rows.length ≤ sizeLine := small_of (by omega)
  have hrow : ∀ row ∈ rows, row.length ≤ 30 := fun row h => by rw [hl row h]; exact h30
  have hlen0 : ∀ l ∈ rows ++ colsOf rows, l.length = rows.length := fun l h => by
    rcases List.mem_append.mp h with h | h
    · exact hl l h
    · unfold colsOf at h
      obtain ⟨j, _, rfl⟩ := List.mem_map.mp h
      rw [List.length_map]
  have hlen : ∀ l ∈ rows ++ colsOf rows, l.length ≤ 30 := fun l h => by rw [hlen0 l h]; exact h30
  refine .inl (sx_seq (sx_set (ex_lenL (ea_var rfl)) rfl) (sx_seq (sx_ifF (ext_or (ext_test (ex_eqI (ea_var rfl) ex_int)) fun _ => ext_not (ext_val (ex_allF (exf_lcT1 (enc := li) (ys := rows) (fun row => .bl (decide ((row.length : Int) = rows.length))) (ew_list (ea_var rfl)) (fun row h => ⟨_, gx_name (by simp), ex_eqI (ex_lenL (enc := D.int) (ea_var rfl)) (ea_var rfl)⟩) hsm)))) ?b1 (sx_nil rfl))
    (sx_seq (sx_ifF (ext_not (ext_val (ex_allF ((exf_lc2T (enc := li) (enc2 := D.int) (xs := rows) (fun row => row) (fun _ _ => true) (fun _ e => .bl (decide (0 ≤ e) && decide (e < (rows.length : Int)))) 30 30 (ew_list (ea_var rfl)) (by simp) (by simp) (fun row h => ⟨ew_list (ea_var rfl), fun e h2 => ⟨ext_yes, fun _ => ex_chainI (f := fun i j => decide (i ≤ j)) (g := fun i j => decide (i < j)) ex_int (ea_var rfl) (ea_var rfl)⟩⟩) h30 hrow (by decide)).to (lc2_flat _ _ _))))) ?b2 (sx_nil rfl))
    (sx_seq (sx_ifF (ext_or (ext_test (ex_neL (ExF.l (exf_listS (EA.toS (ex_ixL (enc := li) (EA.toL (ea_var rfl)) ex_int (atI_0 (d := []) h0))))) (ExF.l (exf_rgI (ea_var rfl) (by omega))))) fun _ => ext_test (ex_neL (ExF.l ((exf_lcT1 (enc := li) (ys := rows) (fun row => .int (row.getD 0 0)) (ew_list (ea_var rfl)) (fun row h => ⟨_, gx_name (by simp), ex_ixL (enc := D.int) (EA.toL (ea_var rfl)) ex_int (atI_0 (by rw [hl row h]; exact h0))⟩) hsm).to (b := (rows.map fun row => row.getD 0 0).map D.int) (by rw [List.map_map]; rfl))) (ExF.l (exf_rgI (ea_var rfl) (by omega))))) ?b3 (sx_nil rfl))
    (sx_seq (sx_setM ((exf_lcT1 (enc := fun n : Nat => .int (n : Nat)) (ys := List.range rows.length) (fun j => li (rows.map fun row => row.getD j 0)) (ew_rg1 (ea_var rfl) (by omega)) (fun j hj => ⟨_, gx_name (by simp), (ExF.ex (exf_lcT1 (enc := li) (ys := rows) (fun row => .int (row.getD j 0)) (ew_list (ea_var rfl)) (fun row h => ⟨_, gx_name (by simp), ex_ixL (enc := D.int) (EA.toL (ea_var rfl)) (ea_var rfl) (getD_at (by rw [hl row h]; exact List.mem_range.mp hj))⟩) hsm)).to (by unfold li; rw [List.map_map]; rfl)⟩) (by rw [List.length_range]; exact hsm)).to (b := (colsOf rows).map li) (by unfold colsOf; rw [List.map_map]; rfl)) rfl)
    (sx_seq (sx_ifF (ext_not (ext_val (ex_allF (exf_lcT1 (enc := li) (ys := rows ++ colsOf rows) (fun l => .bl (decide ((l.length : Int) = rows.length))) (ew_list ((exf_cat (ExF.m (exf_listS (EA.toS (ea_var rfl)))) (em_mu rfl) ?l5).ex.to (by rw [List.map_append]))) (fun l h => ⟨_, gx_name (by simp), ex_eqI (ex_lenSet (EA.toL (ea_var rfl)) (hn l h) (Nat.le_of_lt (Nat.lt_of_le_of_lt (hlen l h) (by decide)))) (ea_var rfl)⟩) ?z5)))) ?b5 (sx_nil rfl))
    (sx_seq (sx_ifF (ext_not (ext_val (ex_call (R := R_is_associative) ⟨rows, rfl, h0, by omega, ha, rfl⟩ (exa_cons (ea_var rfl) exa_nil)))) rfl (sx_nil rfl)) (sx_ret ex_str rfl))))))))
  case b1 =>
    rw [decide_eq_false (by omega), Bool.false_or, Bool.not_eq_false', List.all_eq_true]
    intro row h
    exact decide_eq_true (by rw [hl row h])
  case b2 =>
    rw [Bool.not_eq_false', List.all_eq_true]
    intro e h
    obtain ⟨row, h1, h2⟩ := List.mem_flatMap.mp h
    have := he row h1 e h2
    rw [decide_eq_true this.1, decide_eq_true this.2]
    rfl
  case b3 => rw [decide_eq_true hr0, decide_eq_true hc0]; rfl
  case l5 =>
    rw [List.length_map, List.length_map]
    unfold colsOf
    rw [List.length_map, List.length_range]
    exact small_of (by omega)
  case z5 =>
    unfold colsOf
    rw [List.length_append, List.length_map, List.length_range]
    exact small_of (by omega)
  case b5 =>
    rw [Bool.not_eq_false', List.all_eq_true]
    intro l h
    exact decide_eq_true (by rw [hlen0 l h])
end
end K9
/-! text W6 -/
set_option Elab.async false
set_option linter.all false
set_option maxRecDepth 100000
set_option maxHeartbeats 2000000
set_option autoImplicit false
/-! walks: the group -/
namespace K9
open PySem PySem.Spec PyProof.Rows L2 LamX
/-- what the text's classes are: 0 Group, 1 Chart, 2 Program -/
structure Kx (W : Wd) : Prop where
  c0 : Cls W.K (W.cl 0)
  c1 : Cls W.K (W.cl 1)
  c2 : Cls W.K (W.cl 2)
  n0r : NoAttr W.K (W.cl 0) "rows"
  n0s : NoAttr W.K (W.cl 0) "size"
  n0i : NoAttr W.K (W.cl 0) "inverses"
  n1g : NoAttr W.K (W.cl 1) "group"
  n1s : NoAttr W.K (W.cl 1) "shape"
  n1e : NoAttr W.K (W.cl 1) "entries"
  n2g : NoAttr W.K (W.cl 2) "group"
  n2s : NoAttr W.K (W.cl 2) "shape"
  n2e : NoAttr W.K (W.cl 2) "steps"
/-! ### plain -/
def idx0 : List Int → Nat
  | [] => 0
  | x :: xs => if x = 0 then 0 else idx0 xs + 1
theorem idx0_at : ∀ {xs : List Int}, (0 : Int) ∈ xs → xs[idx0 xs]? = some 0
  | [], h => by simp at h
  | x :: xs, h => by
    unfold idx0
    by_cases q : x = 0
    · rw [if_pos q, q]; rfl
    · rw [if_neg q, List.getElem?_cons_succ]
      refine idx0_at ?_
      rcases List.mem_cons.mp h with e | e
      · exact absurd e.symm q
      · exact e
theorem idx0_no : ∀ {xs : List Int} (m : Nat), m < idx0 xs → xs[m]? ≠ some 0
  | [], m, h => by simp
  | x :: xs, m, h => by
    unfold idx0 at h
    by_cases q : x = 0
    · rw [if_pos q] at h; omega
    · rw [if_neg q] at h
      cases m with
      | zero => rw [List.getElem?_cons_zero]; intro e; exact q (Option.some.inj e)
      | succ m => rw [List.getElem?_cons_succ]; exact idx0_no m (by omega)
def invsOf (rows : List (List Int)) : List Int := rows.map fun row => ((idx0 row : Nat) : Int)
abbrev tabT (rows : List (List Int)) : D := .tup (rows.map ti)
abbrev grpF (rows : List (List Int)) : List (Str × D) := [("rows", tabT rows), ("size", .int (rows.length : Nat)), ("inverses", ti (invsOf rows))]
abbrev grpD (rows : List (List Int)) : D := .ins 0 (grpF rows)
def grpOk (rows : List (List Int)) : Bool := tabOk rows && rows.all fun row => decide ((0 : Int) ∈ row)
def cyc (n : Nat) : List (List Int) := (List.range n).map fun a => (List.range n).map fun b => (((a : Nat) : Int) + ((b : Nat) : Int)) % ((n : Nat) : Int)
theorem cyc_ok : ∀ n : _root_.Fin 8, grpOk (cyc (n + 1)) = true := by decide +kernel
theorem grp_small {rows : List (List Int)} (h : grpOk rows = true) : 0 < rows.length ∧ rows.length ≤ 30 ∧ (∀ row ∈ rows, row.length = rows.length) ∧ (∀ row ∈ rows, ∀ e ∈ row, 0 ≤ e ∧ e < (rows.length : Int)) ∧ ∀ row ∈ rows, (0 : Int) ∈ row := by
  unfold grpOk tabOk at h
  simp only [Bool.and_eq_true, List.all_eq_true, decide_eq_true_eq] at h
  exact ⟨h.1.1.1.1.1.1.1.1, h.1.1.1.1.1.1.1.2, h.1.1.1.1.1.1.2, h.1.1.1.1.1.2, h.2⟩
section
variable {P : Program} {w : World} {W : Wd} {mg : Str → Option Value} {base : Heap} {k : Nat}
/-- an __init__'s body gives the fields that R says -/
def InitOk (P : Program) (w : World) (W : Wd) (mg : Str → Option Value) (base : Heap) (k : Nat) (N : List Str) (qual : Str) (st : Stmt) (c : Nat) (R : FI) : Prop :=
  ∀ (f : Addr) (cdv : Value) (A : Around) (outer : List Env) (s : Shared) (H : Hp) (E : XK), Room k (A.deeper (envOfC qual (defScope st) s.heap.objs.size f cdv)) → ∃ t, PSs (cxD P w W.K mg base N qual (defScope st) f cdv A outer s H E) (defBody st) t ∧
    ∀ x as fs, R as fs → ∃ δ', SX W t (.obj x c [] :: sto0 (N.length - 1) as) (.nx δ') ∧ δ'[0]? = some (.obj x c fs)
theorem spi_len {c : Nat} {R : FI} {n : Nat} (h : ∀ as fs, R as fs → as.length = n) {vs : List V} {H : Hp} {Q : VK} {E : XK} (hsp : spI W c R vs H Q E) : vs.length = n + 1 := by
  obtain ⟨B, H, x, dx, rest, as, fs, rfl, hx, hdx, hne, rfl, P, ha, hR, q⟩ := hsp
  rw [List.length_cons, ha.len, h as fs hR]
theorem mak_of {x m : Str} {qual : Str} {st : Stmt} {c n : Nat} {R : FI} {N ps : List Str} {f : Addr} {fd : FuncData} (hb : InitOk P w W mg base k N qual st c R) (S : FnScope N ps (defScope st)) (hp : ps.length = n + 1) (hl : ∀ as fs, R as fs → as.length = n) (hN : 1 ≤ N.length)
    (F : FunD W.K m qual (defArgs st) (defBody st) (defScope st) [] [] f fd) (M : Mk W.K (W.cl c) f) (hm : mg x = some (.ref (W.cl c))) (b : Binds W.K fd ps []) : C8.Mak P w W.K mg base (k + 1) x (W.cl c) (spI W c R) [] := by
  refine ⟨f, fd, ps, [], M, F.ok S (fun vs H Q E h => by rw [hp]; exact spi_len hl h) (fun cdv A outer s H vs Q E hr h => ?_), hm, b, .nil⟩
  obtain ⟨t, h1, h2⟩ := hb f cdv A outer s H E hr
  exact ⟨t, PSs.nox h1, init_of h h2 hN⟩
theorem met_of {m qual : Str} {st : Stmt} {c : Nat} {R : FP} {N ps : List Str} {f : Addr} {fd : FuncData} (hb : BodyOk P w W mg base k N qual st R) (S : FnScope N ps (defScope st)) (hl : ∀ as d, R as d → as.length = ps.length)
    (F : FunD W.K m qual (defArgs st) (defBody st) (defScope st) [] [] f fd) (C : Cls W.K (W.cl c)) (M : Meth W.K (W.cl c) m f) (b : Binds W.K fd ps []) : C8.Met P w W.K mg base (k + 1) (W.cl c) m (spOf W R) [] := by
  refine ⟨f, fd, ps, [], C, M, F.ok S (fun vs H Q E h => sp_len hl h) (fun cdv A outer s H vs Q E hr h => ?_), b, .nil⟩
  obtain ⟨t, h1, h2⟩ := hb f cdv A outer s H E hr
  exact ⟨t, PSs.nox h1, body_of h h2⟩
theorem fnr_of {m qual : Str} {st : Stmt} {R : FP} {N ps : List Str} {f : Addr} {fd : FuncData} (hb : BodyOk P w W mg base k N qual st R) (S : FnScope N ps (defScope st)) (hl : ∀ as d, R as d → as.length = ps.length)
    (F : FunD W.K m qual (defArgs st) (defBody st) (defScope st) [] [] f fd) (b : Binds W.K fd ps []) : FnR P w W.K mg base C8.CX0 (k + 1) f (spOf W R) := by
  have h := (F.ok (P := P) (w := w) (mg := mg) (base := base) (CX := C8.CX0) (sp := spOf W R) S (fun vs H Q E h => sp_len hl h) (fun cdv A outer s H vs Q E hr h => by
    obtain ⟨t, h1, h2⟩ := hb f cdv A outer s H E hr
    exact ⟨t, PSs.nox h1, body_of h h2⟩)).raw b .nil
  exact h.imp fun vs H Q E h => by rw [List.append_nil]; exact h
theorem mak_raw {x : Str} {C : Addr} {sp : Sp} (c : C8.Mak P w W.K mg base k x C sp []) : ∃ f, Mk W.K C f ∧ FnR P w W.K mg base C8.CX0 k f sp := by
  obtain ⟨f, fd, ps, ds, M, F, hm, b, d⟩ := c.ex
  exact ⟨f, M, (F.raw b d).imp fun vs H Q E h => by rw [List.append_nil]; exact h⟩
/-! ### the walks -/
def N_Group___init__ : List Str := ["self", "rows", "fault", "row"]
abbrev ps_Group___init__ : List Str := ["self", "rows"]
theorem sc_Group___init__ : FnScope N_Group___init__ ps_Group___init__ (defScope (itm 34 0)) := ⟨rfl, rfl, rfl, by decide +kernel, rfl, by decide +kernel, by decide +kernel⟩
def R_Group : FI := fun as fs => ∃ rows : List (List Int), as = [.v (lliD rows)] ∧ grpOk rows = true ∧ fs = grpF rows
theorem w_Group___init__ (T : Tx W.K mg) (X : Kx W) (c_table_fault : C8.Cal P w W.K mg base 4 "table_fault" (spOf W R_table_fault) []) : InitOk P w W mg base 4 N_Group___init__ "Group.__init__" (itm 34 0) 0 R_Group := by
  intro f cdv A outer s H E hr
  refine ⟨_, (pss_cons (ps_if (pt_cmpR op_gt (pe_callB call_len_seq (by rfl) T.len PySem.boot_len (pa_cons (pv 1) pa_nil)) (pe_glob (v := V.int 60) (by rfl) T.mm.choose_spec ⟨_, rfl⟩) (nomark _)) pss_never pss_nil)
    (pss_cons (ps_set (i := 2) sc_Group___init__.nd rfl (by first | exact Or.inl rfl | exact Or.inr rfl) (C8.pe_c c_table_fault hr (by decide) (by rfl) (pa_cons (pv 1) pa_nil)))
    (pss_cons (ps_if (pt_cmpR op_ne (pv 2) pe_str (nomark _)) pss_never pss_nil)
    (pss_cons (ps_fld (pv 0) (pe_callTy call_tuple_of (by rfl) T.tuple boot_tuple (pa_cons (pe_lc (own := [("row", 3)]) rfl sc_Group___init__.nd (pi_list (pv 1)) (blkOk_by (N := N_Group___init__) (sc := defScope (itm 34 0)) (by decide +kernel)) (fun _ _ _ _ _ => pg_cast (pg_name (i := 3) sc_Group___init__.nd rfl (by first | exact Or.inl rfl | exact Or.inr rfl)) (by first | exact rfl | (dsimp only [blk_K]; done) | (dsimp only [blk_K]; exact rfl))) (fun _ _ _ _ _ => pts_cast pts_nil (by first | exact rfl | (dsimp only [blk_K]; done) | (dsimp only [blk_K]; exact rfl))) (fun _ _ _ _ _ => pe_cast (pe_callTy cr_tupZ (by rfl) T.tuple boot_tuple (pa_cons (pv 3) pa_nil)) (by first | exact rfl | (dsimp only [blk_K]; done) | (dsimp only [blk_K]; exact rfl)))) pa_nil)) rfl)
    (pss_cons (ps_fld (pv 0) (pe_callB call_len_seq (by rfl) T.len PySem.boot_len (pa_cons (pv 1) pa_nil)) rfl)
    (pss_one (ps_fld (pv 0) (pe_callTy call_tuple_of (by rfl) T.tuple boot_tuple (pa_cons (pe_lc (own := [("row", 3)]) rfl sc_Group___init__.nd (pi_tup (pe_fld (pv 0) rfl)) (blkOk_by (N := N_Group___init__) (sc := defScope (itm 34 0)) (by decide +kernel)) (fun _ _ _ _ _ => pg_cast (pg_name (i := 3) sc_Group___init__.nd rfl (by first | exact Or.inl rfl | exact Or.inr rfl)) (by first | exact rfl | (dsimp only [blk_K]; done) | (dsimp only [blk_K]; exact rfl))) (fun _ _ _ _ _ => pts_cast pts_nil (by first | exact rfl | (dsimp only [blk_K]; done) | (dsimp only [blk_K]; exact rfl))) (fun _ _ _ _ _ => pe_cast (pe_bmZ PySem.F.plainAttrs_tuple PySem.F.slot_tuple_index PySem.F.type_tuple_index mt_idxT (pv 3) (pa_cons pe_int pa_nil)) (by first | exact rfl | (dsimp only [blk_K]; done) | (dsimp only [blk_K]; exact rfl)))) pa_nil)) rfl))))))), ?_⟩
  rintro x as fs ⟨rows, rfl, hg, rfl⟩
  obtain ⟨h0, h30, hl, he, hz⟩ := grp_small hg
  have ht : tabOk rows = true := by unfold grpOk at hg; rw [Bool.and_eq_true] at hg; exact hg.1
  have hs : rows.length ≤ sizeLine := small_of (by omega)
  refine ⟨_, sx_seq (sx_ifF (ext_test (ex_gtI (ex_lenL (enc := li) (ea_var rfl)) ex_int)) (decide_eq_false (by omega)) (sx_nil rfl)) (sx_seq (sx_set (ex_call (R := R_table_fault) ⟨rows, rfl, ht, rfl⟩ (exa_cons (ea_var rfl) exa_nil)) rfl) (sx_seq (sx_ifF (ext_test (ex_neS (ea_var rfl) ex_str)) rfl (sx_nil rfl))
    (sx_seq (sx_fld X.c0 X.n0r rfl (ex_tupF (exf_lcT1 (enc := li) (ys := rows) tzi (ew_list (ea_var rfl)) (fun row h => ⟨_, gx_name (by simp), ex_tupZ (EA.toL (ea_var rfl))⟩) hs)) (by simp) rfl)
    (sx_seq (sx_fld X.c0 X.n0s rfl (ex_lenL (enc := li) (ea_var rfl)) (by show (1 : Nat) < 1000; decide) rfl)
    (sx_sub (i := 0) (c := 0) (x := x) (fs := [("rows", .tup (rows.map tzi)), ("size", .int (rows.length : Nat)), ("inverses", ti (invsOf rows))]) (fs' := grpF rows) (sx_fld X.c0 X.n0i rfl ((ex_tupF (exf_lcT1 (enc := tzi) (ys := rows) (fun row => .int ((idx0 row : Nat) : Int)) (ew_tup (ex_fldO X.c0 X.n0r rfl rfl)) (fun row h => ⟨_, gx_name (by simp), ex_idx (ea_var rfl) ex_int (idx0_at (hz row h)) idx0_no⟩) hs)).to (b := ti (invsOf rows)) (by unfold invsOf ti; rw [List.map_map]; rfl)) (by show (2 : Nat) < 1000; decide) rfl) rfl (fun B gs h => ?_)))))), rfl⟩
  obtain ⟨v, r, rfl, hv, hr⟩ := DenF.cons_iff.mp h
  exact DenF.cons_ (Den.unz hv) hr
end
end K9
/-! text W7 -/
set_option Elab.async false
set_option linter.all false
set_option maxRecDepth 100000
set_option maxHeartbeats 2000000
set_option autoImplicit false
/-! walks: the group's operations, its lower row -/
namespace K9
open PySem PySem.Spec PyProof.Rows L2 LamX
/-! ### plain -/
def tot (rows : List (List Int)) (a b : Int) : Int := (rows.getD a.toNat []).getD b.toNat 0
def inv1 (rows : List (List Int)) (a : Int) : Int := (invsOf rows).getD a.toNat 0
def commM (rows : List (List Int)) (a b : Int) : Int := tot rows (inv1 rows (tot rows b a)) (tot rows a b)
def InR (rows : List (List Int)) (a : Int) : Prop := 0 ≤ a ∧ a < (rows.length : Int)
instance (rows : List (List Int)) (a : Int) : Decidable (InR rows a) := by unfold InR; infer_instance
theorem atI_i {α : Type} {xs : List α} {a : Int} (d : α) (h0 : 0 ≤ a) (h : a < (xs.length : Int)) : atI xs a = some (xs.getD a.toNat d) := by
  obtain ⟨n, rfl⟩ := Int.eq_ofNat_of_zero_le h0
  rw [Int.toNat_natCast]
  exact getD_at (by omega)
section
variable {rows : List (List Int)}
theorem row_at (hg : grpOk rows = true) {a : Int} (ha : InR rows a) : atI rows a = some (rows.getD a.toNat []) := atI_i [] ha.1 ha.2
theorem row_mem (hg : grpOk rows = true) {a : Int} (ha : InR rows a) : rows.getD a.toNat [] ∈ rows := by
  have h : a.toNat < rows.length := by have := ha.1; have := ha.2; omega
  rw [List.getD_eq_getElem?_getD, List.getElem?_eq_getElem h]
  exact List.getElem_mem h
theorem tot_at (hg : grpOk rows = true) {a b : Int} (ha : InR rows a) (hb : InR rows b) : atI (rows.getD a.toNat []) b = some (tot rows a b) := atI_i 0 hb.1 (by rw [(grp_small hg).2.2.1 _ (row_mem hg ha)]; exact hb.2)
theorem tot_in (hg : grpOk rows = true) {a b : Int} (ha : InR rows a) (hb : InR rows b) : InR rows (tot rows a b) := by
  refine (grp_small hg).2.2.2.1 _ (row_mem hg ha) _ ?_
  unfold tot
  have h : b.toNat < (rows.getD a.toNat []).length := by
    rw [(grp_small hg).2.2.1 _ (row_mem hg ha)]
    have := hb.1; have := hb.2; omega
  rw [List.getD_eq_getElem?_getD (i := b.toNat), List.getElem?_eq_getElem h]
  exact List.getElem_mem h
theorem idx0_lt : ∀ {xs : List Int}, (0 : Int) ∈ xs → idx0 xs < xs.length := fun {xs} h => (List.getElem?_eq_some_iff.mp (idx0_at h)).1
theorem inv_at (hg : grpOk rows = true) {a : Int} (ha : InR rows a) : atI (invsOf rows) a = some (inv1 rows a) := atI_i 0 ha.1 (by unfold invsOf; rw [List.length_map]; exact ha.2)
theorem inv_in (hg : grpOk rows = true) {a : Int} (ha : InR rows a) : InR rows (inv1 rows a) := by
  have h : a.toNat < (invsOf rows).length := by unfold invsOf; rw [List.length_map]; have := ha.1; have := ha.2; omega
  have hm : inv1 rows a ∈ invsOf rows := by
    unfold inv1
    rw [List.getD_eq_getElem?_getD, List.getElem?_eq_getElem h]
    exact List.getElem_mem h
  unfold invsOf at hm
  obtain ⟨row, h1, h2⟩ := List.mem_map.mp hm
  rw [← h2]
  have h3 := idx0_lt ((grp_small hg).2.2.2.2 row h1)
  rw [(grp_small hg).2.2.1 row h1] at h3
  exact ⟨by omega, by omega⟩
theorem comm_in (hg : grpOk rows = true) {a b : Int} (ha : InR rows a) (hb : InR rows b) : InR rows (commM rows a b) := tot_in hg (inv_in hg (tot_in hg hb ha)) (tot_in hg ha hb)
end
def foundIn (rows : List (List Int)) (a : Int) (fo : List Bool) (b : Int) : List Bool := fo.set (commM rows a b).toNat true
def foundM (rows : List (List Int)) (f s : List Int) : List Bool := f.foldl (fun fo a => s.foldl (foundIn rows a) fo) (List.replicate rows.length false)
def csubM (rows : List (List Int)) (f s : List Int) : Option (List Int) := reachM rows (((List.range rows.length).filter fun m => (foundM rows f s).getD m false).map fun m => ((m : Nat) : Int))
def lowTurn (rows : List (List Int)) (row : List (List Int)) : Option (Stp (List (List Int))) :=
  match atI row (-1) with
  | none => none
  | some last => if ((last.all fun a => decide (InR rows a)) && decide (last.length ≤ 60)) = true then (match csubM rows (rangeI rows.length) last with
    | none => none
    | some f => if f = last then some (.out (.lst (row.map ti))) else if row.length < 60 then some (.go (row ++ [f])) else none) else none
def lowM (rows : List (List Int)) : Option (Stp (List (List Int))) := loopX (fun _ => true) (lowTurn rows) 100 [rangeI rows.length]
def sgAt (row : List (List Int)) (k : Int) : Option (List Int) := atI row ((if (row.length : Int) < (if 1 > k then 1 else k) then (row.length : Int) else (if 1 > k then 1 else k)) - 1)
section
variable {W : Wd} {δ : Sto}
theorem ex_neg {ta : TE} {i : Int} (h : Ex W ta δ (.int i)) : Ex W (tUn (rU fun i => .int (-i)) ta) δ (.int (-i)) := fun H0 B H σ s Q q => h H0 B H σ s _ fun v B1 H1 e1 hv => ⟨i, hv.int, q _ B1 H1 e1 (show Den W B1 (.int (-i)) _ from Den.int_)⟩
end
section
variable {P : Program} {w : World} {W : Wd} {mg : Str → Option Value} {base : Heap} {k : Nat}
def N_Group_check : List Str := ["self", "member"]
abbrev ps_Group_check : List Str := ["self", "member"]
theorem sc_Group_check : FnScope N_Group_check ps_Group_check (defScope (itm 34 6)) := ⟨rfl, rfl, rfl, by decide +kernel, rfl, by decide +kernel, by decide +kernel⟩
def R_check : FP := fun as d => ∃ (rows : List (List Int)) (m : Int), as = [.v (grpD rows), .v (.int m)] ∧ InR rows m ∧ d = .non
theorem w_Group_check (X : Kx W) : BodyOk P w W mg base k N_Group_check "Group.check" (itm 34 6) R_check := by
  intro f cdv A outer s H E hr
  refine ⟨_, (pss_one (ps_if (pt_not (pt_chain op_le op_lt pe_int (pv 1) (pe_fld (pv 0) rfl))) pss_never pss_nil)), ?_⟩
  rintro as d ⟨rows, m, rfl, hm, rfl⟩
  exact .inr ⟨_, sx_ifF (ext_not (ext_test (ex_chainI (f := fun i j => decide (i ≤ j)) (g := fun i j => decide (i < j)) ex_int (ea_var rfl) (ex_fld X.c0 X.n0s (ea_var rfl) rfl)))) (by rw [decide_eq_true hm.1, decide_eq_true hm.2]; rfl) (sx_nil rfl), rfl⟩
def N_Group___len__ : List Str := ["self"]
abbrev ps_Group___len__ : List Str := ["self"]
theorem sc_Group___len__ : FnScope N_Group___len__ ps_Group___len__ (defScope (itm 34 2)) := ⟨rfl, rfl, rfl, by decide +kernel, rfl, by decide +kernel, by decide +kernel⟩
def R_glen : FP := fun as d => ∃ rows : List (List Int), as = [.v (grpD rows)] ∧ d = .int (rows.length : Nat)
theorem w_Group___len__ (T : Tx W.K mg) (X : Kx W) : BodyOk P w W mg base k N_Group___len__ "Group.__len__" (itm 34 2) R_glen := by
  intro f cdv A outer s H E hr
  refine ⟨_, (pss_one (ps_ret (pe_callB call_len_seq (by rfl) T.len PySem.boot_len (pa_cons (pe_fld (pv 0) rfl) pa_nil)))), ?_⟩
  rintro as d ⟨rows, rfl, rfl⟩
  exact .inl (sx_ret (ex_lenT (enc := ti) (ex_fld X.c0 X.n0r (ea_var rfl) rfl)) rfl)
def N_Group___contains__ : List Str := ["self", "member"]
abbrev ps_Group___contains__ : List Str := ["self", "member"]
theorem sc_Group___contains__ : FnScope N_Group___contains__ ps_Group___contains__ (defScope (itm 34 3)) := ⟨rfl, rfl, rfl, by decide +kernel, rfl, by decide +kernel, by decide +kernel⟩
def R_gin : FP := fun as d => ∃ (rows : List (List Int)) (m : Int), as = [.v (grpD rows), .v (.int m)] ∧ d = .bl (decide (0 ≤ m) && decide (m < (rows.length : Nat)))
theorem w_Group___contains__ (X : Kx W) : BodyOk P w W mg base k N_Group___contains__ "Group.__contains__" (itm 34 3) R_gin := by
  intro f cdv A outer s H E hr
  refine ⟨_, (pss_one (ps_ret (pe_chain op_le op_lt pe_int (pv 1) (pe_fld (pv 0) rfl)))), ?_⟩
  rintro as d ⟨rows, m, rfl, rfl⟩
  exact .inl (sx_ret (ex_chainI (f := fun i j => decide (i ≤ j)) (g := fun i j => decide (i < j)) ex_int (ea_var rfl) (ex_fld X.c0 X.n0s (ea_var rfl) rfl)) rfl)
def N_Group_commutator : List Str := ["self", "a", "b"]
abbrev ps_Group_commutator : List Str := ["self", "a", "b"]
theorem sc_Group_commutator : FnScope N_Group_commutator ps_Group_commutator (defScope (itm 34 10)) := ⟨rfl, rfl, rfl, by decide +kernel, rfl, by decide +kernel, by decide +kernel⟩
def R_comm : FP := fun as d => ∃ (rows : List (List Int)) (a b : Int), as = [.v (grpD rows), .v (.int a), .v (.int b)] ∧ grpOk rows = true ∧ InR rows a ∧ InR rows b ∧ d = .int (commM rows a b)
theorem w_Group_commutator (X : Kx W) (m_Group_check : C8.Met P w W.K mg base 1 (W.cl 0) "check" (spOf W R_check) []) : BodyOk P w W mg base 1 N_Group_commutator "Group.commutator" (itm 34 10) R_comm := by
  intro f cdv A outer s H E hr
  refine ⟨_, (pss_cons (ps_expr (C8.pe_mt m_Group_check hr (by decide) (pv 0) (pa_cons (pv 1) pa_nil)))
    (pss_cons (ps_expr (C8.pe_mt m_Group_check hr (by decide) (pv 0) (pa_cons (pv 2) pa_nil)))
    (pss_one (ps_ret (pe_ix ix_tup (pe_ix ix_tup (pe_fld (pv 0) rfl) (pe_ix ix_tup (pe_fld (pv 0) rfl) (pe_ix ix_tup (pe_ix ix_tup (pe_fld (pv 0) rfl) (pv 2) (fun _ _ => rfl)) (pv 1) (fun _ _ => rfl)) (fun _ _ => rfl)) (fun _ _ => rfl)) (pe_ix ix_tup (pe_ix ix_tup (pe_fld (pv 0) rfl) (pv 1) (fun _ _ => rfl)) (pv 2) (fun _ _ => rfl)) (fun _ _ => rfl)))))), ?_⟩
  rintro as d ⟨rows, a, b, rfl, hg, ha, hb, rfl⟩
  refine .inl (sx_seq (sx_drop (ex_meth (R := R_check) (ea_var rfl) rfl ⟨rows, a, rfl, ha, rfl⟩ (exa_cons (ea_var rfl) exa_nil)) rfl) (sx_seq (sx_drop (ex_meth (R := R_check) (ea_var rfl) rfl ⟨rows, b, rfl, hb, rfl⟩ (exa_cons (ea_var rfl) exa_nil)) rfl) (sx_ret (d' := .int (commM rows a b)) ?_ rfl)))
  have h1 := tot_in hg hb ha
  have h2 := inv_in hg h1
  exact ex_ixT (enc := D.int) (ex_ixT (enc := ti) (ex_fld X.c0 X.n0r (ea_var rfl) rfl) (ex_ixT (enc := D.int) (ex_fld X.c0 X.n0i (ea_var rfl) rfl) (ex_ixT (enc := D.int) (ex_ixT (enc := ti) (ex_fld X.c0 X.n0r (ea_var rfl) rfl) (ea_var rfl) (row_at hg hb)) (ea_var rfl) (tot_at hg hb ha)) (inv_at hg h1)) (row_at hg h2)) (ex_ixT (enc := D.int) (ex_ixT (enc := ti) (ex_fld X.c0 X.n0r (ea_var rfl) rfl) (ea_var rfl) (row_at hg ha)) (ea_var rfl) (tot_at hg ha hb)) (tot_at hg h2 (tot_in hg ha hb))
def N_generated : List Str := ["group", "members", "member"]
abbrev ps_generated : List Str := ["group", "members"]
theorem sc_generated : FnScope N_generated ps_generated (defScope (top 35)) := ⟨rfl, rfl, rfl, by decide +kernel, rfl, by decide +kernel, by decide +kernel⟩
def R_generated : FP := fun as d => ∃ (rows : List (List Int)) (mem r : List Int), as = [.v (grpD rows), .v (li mem)] ∧ grpOk rows = true ∧ (∀ m ∈ mem, InR rows m) ∧ reachM rows mem = some r ∧ d = ti r
theorem w_generated (T : Tx W.K mg) (X : Kx W) (m_Group_check : C8.Met P w W.K mg base 1 (W.cl 0) "check" (spOf W R_check) []) (c_reached : C8.Cal P w W.K mg base 1 "reached" (spOf W R_reached) []) : BodyOk P w W mg base 1 N_generated "generated" (top 35) R_generated := by
  intro f cdv A outer s H E hr
  refine ⟨_, (pss_cons (ps_for PassesOwn.never rfl (pi_list (pv 1)) (pg_name (i := 2) sc_generated.nd rfl (by first | exact Or.inl rfl | exact Or.inr rfl)) (pss_one (ps_expr (C8.pe_mt m_Group_check hr (by decide) (pv 0) (pa_cons (pv 2) pa_nil)))))
    (pss_one (ps_ret (pe_callTy call_tuple_of (by rfl) T.tuple boot_tuple (pa_cons (C8.pe_c c_reached hr (by decide) (by rfl) (pa_cons (pe_fld (pv 0) rfl) (pa_cons (pv 1) pa_nil))) pa_nil))))), ?_⟩
  rintro as d ⟨rows, mem, r, rfl, hg, hm, hr, rfl⟩
  obtain ⟨h0, h30, _⟩ := grp_small hg
  exact .inl (sx_seq (sx_forT (enc := D.int) (ys := mem) (S := fun _ : Unit => [.val (grpD rows), .val (li mem), .no]) (fun _ _ => ()) () (ew_list (ea_var rfl)) fun pre x post h => ⟨_, [2], gx_name (by simp), sx_weak (sx_drop (ex_meth (R := R_check) (ea_var rfl) rfl ⟨rows, x, rfl, hm x (mem_mid h), rfl⟩ (exa_cons (ea_var rfl) exa_nil)) rfl) (by repeat (first | exact Le.nil | apply Le.same | apply Le.drop))⟩)
    (sx_ret (ex_tupL (EA.toL (ex_call (R := R_reached) ⟨true, rows, mem, r, rfl, h0, by omega, hr, rfl⟩ (exa_cons (ex_fld X.c0 X.n0r (ea_var rfl) rfl) (exa_cons (EA.toL (ea_var rfl)) exa_nil))))) rfl))
def N_subgroup_at : List Str := ["row", "k"]
abbrev ps_subgroup_at : List Str := ["row", "k"]
theorem sc_subgroup_at : FnScope N_subgroup_at ps_subgroup_at (defScope (top 39)) := ⟨rfl, rfl, rfl, by decide +kernel, rfl, by decide +kernel, by decide +kernel⟩
def R_subgroup_at : FP := fun as d => ∃ (row : List (List Int)) (k : Int) (r : List Int), as = [.v (.lst (row.map ti)), .v (.int k)] ∧ sgAt row k = some r ∧ d = ti r
theorem w_subgroup_at (T : Tx W.K mg) : BodyOk P w W mg base k N_subgroup_at "subgroup_at" (top 39) R_subgroup_at := by
  intro f cdv A outer s H E hr
  refine ⟨_, (pss_one (ps_ret (pe_ix ix_list (pv 0) (pe_op op_sub (pe_callB (call_min2 rfl) (by rfl) T.min (by rfl) (pa_cons (pe_callB (call_max2 rfl) (by rfl) T.max (by rfl) (pa_cons (pv 1) (pa_cons pe_int pa_nil))) (pa_cons (pe_callB call_len_seq (by rfl) T.len PySem.boot_len (pa_cons (pv 0) pa_nil)) pa_nil))) pe_int) (fun _ _ => rfl)))), ?_⟩
  rintro as d ⟨row, k, r, rfl, h, rfl⟩
  exact .inl (sx_ret (ex_ixL (enc := ti) (EA.toL (ea_var rfl)) (ex_subI (ex_cb rg_min (exa_cons (ex_cb rg_max (exa_cons (ea_var rfl) (exa_cons ex_int exa_nil))) (exa_cons (ex_lenL (enc := ti) (ea_var rfl)) exa_nil))) ex_int) h) rfl)
def N_Group_cyclic : List Str := ["cls", "size", "b", "a"]
abbrev ps_Group_cyclic : List Str := ["cls", "size"]
theorem sc_Group_cyclic : FnScope N_Group_cyclic ps_Group_cyclic (defScope (itm 34 1)) := ⟨rfl, rfl, rfl, by decide +kernel, rfl, by decide +kernel, by decide +kernel⟩
def R_cyclic (W : Wd) : FP := fun as d => ∃ n : Nat, 1 ≤ n ∧ n ≤ 8 ∧ as = [.r (.ref (W.cl 0)), .v (.int (n : Nat))] ∧ d = grpD (cyc n)
theorem w_Group_cyclic (T : Tx W.K mg) (c_Group : C8.Mak P w W.K mg base 5 "Group" (W.cl 0) (spI W 0 R_Group) []) : BodyOk P w W mg base 6 N_Group_cyclic "Group.cyclic" (itm 34 1) (R_cyclic W) := by
  obtain ⟨fI, hM, hF⟩ := mak_raw c_Group
  intro f cdv A outer s H E hr
  refine ⟨_, (pss_cons (ps_if (pt_cmpR op_gt (pv 1) (pe_glob (v := V.int 60) (by rfl) T.mm.choose_spec ⟨_, rfl⟩) (nomark _)) pss_never pss_nil)
    (pss_one (ps_ret (pe_mkV (i := 0) (E := C8.E0) hM hF hr C8.pass0 rfl (Or.inl rfl) (pa_cons (pe_lc (own := [("a", 3)]) rfl sc_Group_cyclic.nd (pi_range1 (by rfl) T.range (pa_cons (pv 1) pa_nil)) (blkOk_by (N := N_Group_cyclic) (sc := defScope (itm 34 1)) (by decide +kernel)) (fun _ _ _ _ _ => pg_cast (pg_name (i := 3) sc_Group_cyclic.nd rfl (by first | exact Or.inl rfl | exact Or.inr rfl)) (by first | exact rfl | (dsimp only [blk_K]; done) | (dsimp only [blk_K]; exact rfl))) (fun _ _ _ _ _ => pts_cast pts_nil (by first | exact rfl | (dsimp only [blk_K]; done) | (dsimp only [blk_K]; exact rfl))) (fun _ _ _ _ _ => pe_cast (pe_lc (own := [("b", 2)]) rfl sc_Group_cyclic.nd (pi_range1 (by rfl) T.range (pa_cons (pv 1) pa_nil)) (blkOk_by (by rfl)) (fun _ _ _ _ _ => pg_cast (pg_name (i := 2) sc_Group_cyclic.nd rfl (by first | exact Or.inl rfl | exact Or.inr rfl)) (by first | exact rfl | (dsimp only [blk_K]; done) | (dsimp only [blk_K]; exact rfl))) (fun _ _ _ _ _ => pts_cast pts_nil (by first | exact rfl | (dsimp only [blk_K]; done) | (dsimp only [blk_K]; exact rfl))) (fun _ _ _ _ _ => pe_cast (pe_op op_mod (pe_op op_add (pv 3) (pv 2)) (pv 1)) (by first | exact rfl | (dsimp only [blk_K]; done) | (dsimp only [blk_K]; exact rfl)))) (by first | exact rfl | (dsimp only [blk_K]; done) | (dsimp only [blk_K]; exact rfl)))) pa_nil))))), ?_⟩
  rintro as d ⟨n, h1, h8, rfl, rfl⟩
  have hg : grpOk (cyc n) = true := by
    have := cyc_ok ⟨n - 1, by omega⟩
    rw [show ((⟨n - 1, by omega⟩ : _root_.Fin 8) : Nat) + 1 = n by show n - 1 + 1 = n; omega] at this
    exact this
  refine .inl (sx_seq (sx_ifF (ext_test (ex_gtI (ea_var rfl) ex_int)) (decide_eq_false (by omega)) (sx_nil rfl)) (sx_ret (ex_mkV (R := R_Group) rfl ⟨cyc n, rfl, hg, rfl⟩ (exa_cons (Ex.to (b := lliD (cyc n)) (ExF.ex (exf_lcT1 (enc := fun n : Nat => .int (n : Nat)) (ys := List.range n) (fun a => li ((List.range n).map fun b => (((a : Nat) : Int) + ((b : Nat) : Int)) % ((n : Nat) : Int))) (ew_rg1 (ea_var rfl) (by omega)) (fun a ha => ⟨_, gx_name (by simp), (ExF.ex (exf_lcT1 (enc := fun n : Nat => .int (n : Nat)) (ys := List.range n) (fun b => .int ((((a : Nat) : Int) + ((b : Nat) : Int)) % ((n : Nat) : Int))) (ew_rg1 (ea_var rfl) (by omega)) (fun b hb => ⟨_, gx_name (by simp), ex_modI (ex_addI (ea_var rfl) (ea_var rfl)) (ea_var rfl) (by omega)⟩) (by rw [List.length_range]; exact small_of (by omega)))).to (by unfold li; rw [List.map_map]; rfl)⟩) (by rw [List.length_range]; exact small_of (by omega)))) (by unfold cyc lliD; rw [List.map_map]; rfl)) exa_nil)) rfl))
end
end K9
/-! text W8 -/
set_option Elab.async false
set_option linter.all false
set_option maxRecDepth 100000
set_option maxHeartbeats 2000000
set_option autoImplicit false
/-! walks: commutator subgroups, the lower row -/
namespace K9
open PySem PySem.Spec PyProof.Rows L2 LamX
theorem foundIn_len (rows : List (List Int)) (a : Int) : ∀ (s : List Int) (fo : List Bool), (s.foldl (foundIn rows a) fo).length = fo.length
  | [], fo => rfl
  | b :: s, fo => by rw [List.foldl_cons, foundIn_len rows a s]; unfold foundIn; rw [List.length_set]
theorem foundM_len (rows : List (List Int)) (s : List Int) : ∀ (f : List Int) (fo : List Bool), (f.foldl (fun fo a => s.foldl (foundIn rows a) fo) fo).length = fo.length
  | [], fo => rfl
  | a :: f, fo => by rw [List.foldl_cons, foundM_len rows s f, foundIn_len]
section
variable {P : Program} {w : World} {W : Wd} {mg : Str → Option Value} {base : Heap} {k : Nat}
def N_commutator_subgroup : List Str := ["group", "first", "second", "member", "found", "a", "b"]
abbrev ps_commutator_subgroup : List Str := ["group", "first", "second"]
theorem sc_commutator_subgroup : FnScope N_commutator_subgroup ps_commutator_subgroup (defScope (top 36)) := ⟨rfl, rfl, rfl, by decide +kernel, rfl, by decide +kernel, by decide +kernel⟩
def R_csub : FP := fun as d => ∃ (rows : List (List Int)) (fi se r : List Int), as = [.v (grpD rows), .v (ti fi), .v (ti se)] ∧ grpOk rows = true ∧ (∀ m ∈ fi, InR rows m) ∧ (∀ m ∈ se, InR rows m) ∧ fi.length ≤ 60 ∧ se.length ≤ 60 ∧ csubM rows fi se = some r ∧ d = ti r
theorem w_commutator_subgroup (T : Tx W.K mg) (X : Kx W) (m_Group_check : C8.Met P w W.K mg base 1 (W.cl 0) "check" (spOf W R_check) []) (m_Group_commutator : C8.Met P w W.K mg base 2 (W.cl 0) "commutator" (spOf W R_comm) []) (c_generated : C8.Cal P w W.K mg base 2 "generated" (spOf W R_generated) []) : BodyOk P w W mg base 2 N_commutator_subgroup "commutator_subgroup" (top 36) R_csub := by
  intro f cdv A outer s H E hr
  refine ⟨_, (pss_cons (ps_for PassesOwn.never rfl (pi_list (pe_op op_cat (pe_callTy call_list_of (by rfl) T.list boot_list (pa_cons (pv 1) pa_nil)) (pe_callTy call_list_of (by rfl) T.list boot_list (pa_cons (pv 2) pa_nil)))) (pg_name (i := 3) sc_commutator_subgroup.nd rfl (by first | exact Or.inl rfl | exact Or.inr rfl)) (pss_one (ps_expr (C8.pe_mt m_Group_check hr (by decide) (pv 0) (pa_cons (pv 3) pa_nil)))))
    (pss_cons (ps_set (i := 4) sc_commutator_subgroup.nd rfl (by first | exact Or.inl rfl | exact Or.inr rfl) (pe_op op_rep (pe_lst (pa_cons pe_bl pa_nil)) (pe_fld (pv 0) rfl)))
    (pss_cons (ps_for PassesOwn.never rfl (pi_tup (pv 1)) (pg_name (i := 5) sc_commutator_subgroup.nd rfl (by first | exact Or.inl rfl | exact Or.inr rfl)) (pss_one (ps_for PassesOwn.never rfl (pi_tup (pv 2)) (pg_name (i := 6) sc_commutator_subgroup.nd rfl (by first | exact Or.inl rfl | exact Or.inr rfl)) (pss_one (ps_asg pe_bl (pg_sub (pv 4) (C8.pe_mt m_Group_commutator hr (by decide) (pv 0) (pa_cons (pv 5) (pa_cons (pv 6) pa_nil))) set_list))))))
    (pss_one (ps_ret (C8.pe_c c_generated hr (by decide) (by rfl) (pa_cons (pv 0) (pa_cons (pe_lc (own := [("member", 3)]) rfl sc_commutator_subgroup.nd (pi_range1 (by rfl) T.range (pa_cons (pe_fld (pv 0) rfl) pa_nil)) (blkOk_by (N := N_commutator_subgroup) (sc := defScope (top 36)) (by decide +kernel)) (fun _ _ _ _ _ => pg_cast (pg_name (i := 3) sc_commutator_subgroup.nd rfl (by first | exact Or.inl rfl | exact Or.inr rfl)) (by first | exact rfl | (dsimp only [blk_K]; done) | (dsimp only [blk_K]; exact rfl))) (fun _ _ _ _ _ => pts_cast (pts_one (pt_val (pe_ix ix_list (pv 4) (pv 3) (fun _ _ => rfl)))) (by first | exact rfl | (dsimp only [blk_K]; done) | (dsimp only [blk_K]; exact rfl))) (fun _ _ _ _ _ => pe_cast (pv 3) (by first | exact rfl | (dsimp only [blk_K]; done) | (dsimp only [blk_K]; exact rfl)))) pa_nil)))))))), ?_⟩
  rintro as d ⟨rows, fi, se, r, rfl, hg, hf, hs, lf, ls, hm, rfl⟩
  obtain ⟨h0, h30, _⟩ := grp_small hg
  have hfl : (foundM rows fi se).length = rows.length := by unfold foundM; rw [foundM_len, List.length_replicate]
  refine .inl (sx_seq (sx_forT (enc := D.int) (ys := fi ++ se) (S := fun _ : Unit => [.val (grpD rows), .val (ti fi), .val (ti se), .no, .no, .no, .no]) (fun _ _ => ()) () (ew_list ((exf_cat (ExF.m (exf_listS (EA.tupS (ea_var rfl)))) (ExF.m (exf_listS (EA.tupS (ea_var rfl)))) (by rw [List.length_map, List.length_map]; exact small_of (by omega))).ex.to (by rw [List.map_append]))) fun pre x post h => ⟨_, [3], gx_name (by simp), sx_weak (sx_drop (ex_meth (R := R_check) (ea_var rfl) rfl ⟨rows, x, rfl, ?_, rfl⟩ (exa_cons (ea_var rfl) exa_nil)) rfl) (by repeat (first | exact Le.nil | apply Le.same | apply Le.drop))⟩)
    (sx_seq (sx_setM ((exf_rep (xs := [.bl false]) (k := rows.length) (ExF.m (exf_lst (ds := [.bl false]) (show 1 ≤ sizeLine by decide) (exa_cons ex_bl exa_nil))) (ex_fld X.c0 X.n0s (ea_var rfl) rfl) (by omega) (by omega) (small_of (by simp only [Int.toNat_natCast, List.length_singleton]; omega))).to (b := (List.replicate rows.length false).map D.bl) (by rw [Int.toNat_natCast, flat_rep, List.map_replicate])) rfl)
    (sx_seq (sx_forT (enc := D.int) (ys := fi) (S := fun fo => [.val (grpD rows), .val (ti fi), .val (ti se), .no, .mu (fo.map D.bl), .no, .no]) (fun fo a => se.foldl (foundIn rows a) fo) (List.replicate rows.length false) (ew_tup (ea_var rfl)) fun pre a post h => ⟨_, [5], gx_name (by simp), ?_⟩)
    (sx_ret (ex_call (R := R_generated) ⟨rows, _, r, rfl, hg, ?_, hm, rfl⟩ (exa_cons (ea_var rfl) (exa_cons (Ex.to (ExF.ex (exf_lcT (enc := fun n : Nat => .int (n : Nat)) (ys := List.range rows.length) (fun m => (foundM rows fi se).getD m false) (fun m => .int ((m : Nat) : Int)) (ew_rg1 (ex_fld X.c0 X.n0s (ea_var rfl) rfl) (by omega)) (fun m hm => ⟨_, gx_name (by simp), ext_val (ex_ixL (enc := D.bl) (ys := foundM rows fi se) (ea_mu rfl) (ea_var rfl) (getD_at (by rw [hfl]; exact List.mem_range.mp hm))), fun _ => ea_var rfl⟩) (by rw [List.length_range]; exact small_of (by omega)))) (by unfold li; rw [List.map_map]; rfl)) exa_nil))) rfl))))
  · rcases List.mem_append.mp (mem_mid h) with e | e
    · exact hf x e
    · exact hs x e
  · refine sx_weak (sx_forT (enc := D.int) (ys := se) (S := fun fo => [.val (grpD rows), .val (ti fi), .val (ti se), .no, .mu (fo.map D.bl), .val (.int a), .no]) (foundIn rows a) (pre.foldl (fun fo a => se.foldl (foundIn rows a) fo) (List.replicate rows.length false)) (ew_tup (ea_var rfl)) fun pre2 b post2 h2 => ⟨_, [6], gx_name (by simp), ?_⟩) (by repeat (first | exact Le.nil | apply Le.same | apply Le.drop))
    have ha := hf a (mem_mid h)
    have hb := hs b (mem_mid h2)
    have hc := comm_in hg ha hb
    refine sx_weak (sx_setitemT (enc := D.bl) (y := true) (k := commM rows a b) (j := (commM rows a b).toNat) rfl ex_bl (ex_meth (R := R_comm) (ea_var rfl) rfl ⟨rows, a, b, rfl, hg, ha, hb, rfl⟩ (exa_cons (ea_var rfl) (exa_cons (ea_var rfl) exa_nil))) ?_ rfl) (by repeat (first | exact Le.nil | apply Le.same | apply Le.drop))
    rw [foundIn_len, foundM_len, List.length_replicate]
    have h3 := hc.1
    have h4 := hc.2
    have h5 : commM rows a b = (((commM rows a b).toNat : Nat) : Int) := by omega
    rw [h5, Int.toNat_natCast]
    exact ixN_n (by omega)
  · intro m hm
    obtain ⟨j, hj, rfl⟩ := List.mem_map.mp hm
    have := List.mem_range.mp (List.mem_filter.mp hj).1
    exact ⟨by omega, by omega⟩
def N_lower_row : List Str := ["group", "everything", "row", "following"]
abbrev ps_lower_row : List Str := ["group"]
theorem sc_lower_row : FnScope N_lower_row ps_lower_row (defScope (top 38)) := ⟨rfl, rfl, rfl, by decide +kernel, rfl, by decide +kernel, by decide +kernel⟩
def R_lower_row : FP := fun as d => ∃ (rows : List (List Int)), as = [.v (grpD rows)] ∧ grpOk rows = true ∧ lowM rows = some (.out d)
theorem w_lower_row (T : Tx W.K mg) (X : Kx W) (c_commutator_subgroup : C8.Cal P w W.K mg base 3 "commutator_subgroup" (spOf W R_csub) []) : BodyOk P w W mg base 3 N_lower_row "lower_row" (top 38) R_lower_row := by
  intro f cdv A outer s H E hr
  refine ⟨_, (pss_cons (ps_set (i := 1) sc_lower_row.nd rfl (by first | exact Or.inl rfl | exact Or.inr rfl) (pe_tupRg rfl (by rfl) T.tuple (prg_1 (by rfl) T.range (pe_fld (pv 0) rfl))))
    (pss_cons (ps_set (i := 2) sc_lower_row.nd rfl (by first | exact Or.inl rfl | exact Or.inr rfl) (pe_lst (pa_cons (pv 1) pa_nil)))
    (pss_one (ps_while PassesOwn.never (pt_val pe_bl) (pss_cons (ps_set (i := 3) sc_lower_row.nd rfl (by first | exact Or.inl rfl | exact Or.inr rfl) (C8.pe_c c_commutator_subgroup hr (by decide) (by rfl) (pa_cons (pv 0) (pa_cons (pv 1) (pa_cons (pe_ix ix_list (pv 2) (pe_un un_neg pe_int) (fun _ _ => rfl)) pa_nil)))))
     (pss_cons (ps_if (pt_cmpR (op_eqD hr.units) (pv 3) (pe_ix ix_list (pv 2) (pe_un un_neg pe_int) (fun _ _ => rfl)) (nomark _)) (pss_one (ps_ret (pv 2))) pss_nil)
     (pss_one (ps_expr (pe_bm PySem.F.plainAttrs_list PySem.F.slot_list_append PySem.F.type_list_append mt_append (pv 2) (pa_cons (pv 3) pa_nil)))))))))), ?_⟩
  rintro as d ⟨rows, rfl, hg, hm⟩
  obtain ⟨h0, h30, _⟩ := grp_small hg
  unfold lowM at hm
  refine .inl (sx_seq (sx_set (ex_trgI (ex_fld X.c0 X.n0s (ea_var rfl) rfl) (by omega)) rfl) (sx_seq (sx_setM (exf_one (enc := ti) (rangeI rows.length) (ea_var rfl)) rfl) (sx_whXM (S := fun row => [.val (grpD rows), .val (ti (rangeI rows.length)), .mu (row.map ti), .no]) (fun _ => true) (lowTurn rows) 100 [rangeI rows.length] (.out d) hm (fun _ => ext_val ex_bl) fun row z _ hz => ?_)))
  unfold lowTurn at hz
  split at hz
  · cases hz
  rename_i last hl
  split at hz
  · rename_i ha
    split at hz
    · cases hz
    rename_i fo hfo
    rw [Bool.and_eq_true, List.all_eq_true] at ha
    have ha1 : ∀ m ∈ last, InR rows m := fun m h => of_decide_eq_true (ha.1 m h)
    have ha2 : last.length ≤ 60 := of_decide_eq_true ha.2
    have hev : ∀ m ∈ rangeI rows.length, InR rows m := fun m h => by
      unfold rangeI at h
      obtain ⟨j, hj, rfl⟩ := List.mem_map.mp h
      have := List.mem_range.mp hj
      exact ⟨by omega, by omega⟩
    have hlr : (rangeI rows.length).length ≤ 60 := by unfold rangeI; rw [List.length_map, List.length_range]; omega
    have st1 : SX W (tAsg (tCall (spOf W R_csub) [] C8.E0 (tCons (tVar 0) (tCons (tVar 1) (tCons (tOp (rIxL W.K) (tVar 2) (tUn (rU fun i => .int (-i)) (tC (.int 1)))) tNil)))) (gName 3)) [.val (grpD rows), .val (ti (rangeI rows.length)), .mu (row.map ti), .no] (.nx [.val (grpD rows), .val (ti (rangeI rows.length)), .mu (row.map ti), .val (ti fo)]) := sx_set (ex_call (R := R_csub) ⟨rows, _, last, fo, rfl, hg, hev, ha1, hlr, ha2, hfo, rfl⟩ (exa_cons (ea_var rfl) (exa_cons (ea_var rfl) (exa_cons (ex_ixL (enc := ti) (ea_mu rfl) (ex_neg ex_int) hl) exa_nil)))) rfl
    by_cases he : fo = last
    · rw [if_pos he] at hz
      cases hz
      exact sx_seq st1 (sx_seq_rt (sx_ifT (ext_test (ex_eqT (ea_var rfl) (ex_ixL (enc := ti) (ea_mu rfl) (ex_neg ex_int) hl))) (decide_eq_true he) (sx_freeze (i := 2) rfl (sx_ret (ea_var rfl) rfl))))
    · rw [if_neg he] at hz
      split at hz
      · rename_i h60
        cases hz
        exact sx_weak (sx_seq st1 (sx_seq (sx_ifF (ext_test (ex_eqT (ea_var rfl) (ex_ixL (enc := ti) (ea_mu rfl) (ex_neg ex_int) hl))) (decide_eq_false he) (sx_nil rfl)) (sx_appendT (enc := ti) rfl (ea_var rfl) (small_lt (by omega)) rfl))) (by repeat (first | exact Le.nil | apply Le.same | apply Le.drop))
      · cases hz
  · cases hz
end
end K9
/-! text W9 -/
set_option Elab.async false
set_option linter.all false
set_option maxRecDepth 100000
set_option maxHeartbeats 2000000
set_option autoImplicit false
/-! walks: tables, charts -/
namespace K9
open PySem PySem.Spec PyProof.Rows L2 LamX
/-! ### plain -/
def labOk (p : Nat) (tab : List Int) : Bool := decide (tab.length = 2 ^ p) && tab.all fun l => decide (l ∈ ([0, 1] : List Int))
theorem lab_len {p : Nat} {tab : List Int} (h : labOk p tab = true) : tab.length = 2 ^ p := by
  unfold labOk at h
  rw [Bool.and_eq_true] at h
  exact of_decide_eq_true h.1
theorem two_pow_le {p : Nat} (h : p ≤ 5) : 2 ^ p ≤ 32 := Nat.pow_le_pow_right (n := 2) (by decide) h
theorem rows_count : ∀ p : _root_.Fin 6, (rowsP p).length = 2 ^ (p : Nat) := by decide +kernel
theorem rowsP_len {p : Nat} (h : p ≤ 5) : (rowsP p).length = 2 ^ p := rows_count ⟨p, by omega⟩
theorem rowsP_small {p : Nat} (h : p ≤ 5) : ∀ r ∈ rowsP p, r.length ≤ 5 := fun r hr => rows_len ⟨p, by omega⟩ r ((rows_perm ⟨p, by omega⟩).mem_iff.mp hr)
def fcIn (p : Nat) (es tab : List Int) (low : Nat) (_ : Unit) (high : Nat) : Option (Stp Unit) :=
  some (if (decide (es.getD high 0 = es.getD low 0) && !decide (tab.getD high 0 = tab.getD low 0)) = true then .out (.tup [ti ((rowsP p).getD low []), ti ((rowsP p).getD high [])]) else .go ())
def fcOut (p : Nat) (es tab : List Int) (_ : Unit) (low : Nat) : Option (Stp Unit) := runX (fcIn p es tab low) () (List.range' (low + 1) (2 ^ p - (low + 1)))
def fcR (p : Nat) (es tab : List Int) : Option (Stp Unit) := runX (fcOut p es tab) () (List.range (2 ^ p))
def fcM (p : Nat) (es tab : List Int) : D := match fcR p es tab with
  | some (.out d) => d
  | _ => .non
theorem runX_some {A α : Type} {F : A → α → Option (Stp A)} (h : ∀ a x, ∃ z, F a x = some z) : ∀ (xs : List α) (a : A), ∃ z, runX F a xs = some z
  | [], a => ⟨_, rfl⟩
  | x :: xs, a => by
    obtain ⟨z, hz⟩ := h a x
    unfold runX
    rw [hz]
    cases z with
    | go a' => exact runX_some h xs a'
    | out d => exact ⟨_, rfl⟩
theorem fcOut_some (p : Nat) (es tab : List Int) (a : Unit) (x : Nat) : ∃ z, fcOut p es tab a x = some z := runX_some (fun _ _ => ⟨_, rfl⟩) _ _
theorem fcR_some (p : Nat) (es tab : List Int) : ∃ z, fcR p es tab = some z := runX_some (fcOut_some p es tab) _ _
theorem zip_rangeD {α : Type} (xs : List α) (d : α) : (List.range xs.length).zip xs = (List.range xs.length).map fun k => (k, xs.getD k d) := by
  apply List.ext_getElem
  · simp
  · intro i h1 h2
    rw [List.length_zip, List.length_range, Nat.min_self] at h1
    simp [List.getD_eq_getElem?_getD, h1]
abbrev chrF (rows : List (List Int)) (p : Nat) (es : List Int) : List (Str × D) := [("group", grpD rows), ("shape", shp p), ("entries", ti es)]
abbrev chrD (rows : List (List Int)) (p : Nat) (es : List Int) : D := .ins 1 (chrF rows p es)
def chM (row : List (List Int)) (p : Nat) : List (List Int) := [0] :: ((rowsP p).drop 1).map fun s => (sgAt row (wt s)).getD []
def chOk (row : List (List Int)) (p : Nat) : Bool := ((rowsP p).drop 1).all fun s => (sgAt row (wt s)).isSome
def cntM (ch : List (List Int)) : Int := ch.foldl (fun a m => a * (m.length : Int)) 1
theorem sx_seqX {W : Wd} {δ : Sto} {o : Out} {t u : TS} {A : Type} {S : A → Sto} {z : Stp A} (h : SX W t δ (z.oo S)) (h1 : ∀ a, z = .go a → SX W u (S a) o) (h2 : ∀ d, z = .out d → o = .rt d) : SX W (tSeq t u) δ o := by
  cases z with
  | go a => exact sx_seq h (h1 a rfl)
  | out d =>
    rw [h2 d rfl]
    exact sx_seq_rt h
theorem sx_weakX {W : Wd} {δ : Sto} {t : TS} {A : Type} {S S' : A → Sto} {z : Stp A} (h : SX W t δ (z.oo S)) (l : ∀ a, Le (S a) (S' a)) : SX W t δ (z.oo S') := by
  cases z with
  | go a => exact sx_weak h (l a)
  | out d => exact h
section
variable {W : Wd} {δ : Sto}
theorem ew_enumTr {α : Type} {f : α → D} {ta : TE} {xs : List α} (d : α) (ha : Ex W ta δ (.tup (xs.map f))) : EW W (iEnumT W.K (tCons ta tNil)) δ ((List.range xs.length).map fun k => .tup [.int (k : Nat), f (xs.getD k d)]) := by
  have h := ew_enumTm (W := W) (δ := δ) ha
  rw [zip_rangeD xs d, List.map_map] at h
  exact h
theorem ew_enumLr {α : Type} {f : α → D} {ta : TE} {xs : List α} (d : α) (ha : Ex W ta δ (.lst (xs.map f))) : EW W (iEnum W.K (tCons ta tNil)) δ ((List.range xs.length).map fun k => .tup [.int (k : Nat), f (xs.getD k d)]) := by
  have h := ew_enumLm (W := W) (δ := δ) ha
  rw [zip_rangeD xs d, List.map_map] at h
  exact h
end
section
variable {P : Program} {w : World} {W : Wd} {mg : Str → Option Value} {base : Heap} {k : Nat}
def N_check_table : List Str := ["shape", "table", "label"]
abbrev ps_check_table : List Str := ["shape", "table"]
theorem sc_check_table : FnScope N_check_table ps_check_table (defScope (top 41)) := ⟨rfl, rfl, rfl, by decide +kernel, rfl, by decide +kernel, by decide +kernel⟩
def R_check_table : FP := fun as d => ∃ (p : Nat) (tab : List Int), p ≤ 5 ∧ as = [.v (shp p), .v (ti tab)] ∧ labOk p tab = true ∧ d = .non
theorem w_check_table (T : Tx W.K mg) (c_check_shape : C8.Cal P w W.K mg base 1 "check_shape" (spOf W R_check_shape) []) (c_count_inputs : C8.Cal P w W.K mg base 1 "count_inputs" (spOf W R_count_inputs) []) : BodyOk P w W mg base 1 N_check_table "check_table" (top 41) R_check_table := by
  intro f cdv A outer s H E hr
  refine ⟨_, (pss_cons (ps_expr (C8.pe_c c_check_shape hr (by decide) (by rfl) (pa_cons (pv 0) pa_nil)))
    (pss_one (ps_if (PW.pt (pw_or (pt_cmpR op_ne (pe_callB call_len_seq (by rfl) T.len PySem.boot_len (pa_cons (pv 1) pa_nil)) (C8.pe_c c_count_inputs hr (by decide) (by rfl) (pa_cons (pv 0) pa_nil)) (nomark _)) (pw_or1 (pt_not (pt_val (pe_callB (cr_all rfl) (by rfl) T.all (by rfl) (pa_cons (pe_lc (own := [("label", 2)]) rfl sc_check_table.nd (pi_tup (pv 1)) (blkOk_by (N := N_check_table) (sc := defScope (top 41)) (by decide +kernel)) (fun _ _ _ _ _ => pg_cast (pg_name (i := 2) sc_check_table.nd rfl (by first | exact Or.inl rfl | exact Or.inr rfl)) (by first | exact rfl | (dsimp only [blk_K]; done) | (dsimp only [blk_K]; exact rfl))) (fun _ _ _ _ _ => pts_cast pts_nil (by first | exact rfl | (dsimp only [blk_K]; done) | (dsimp only [blk_K]; exact rfl))) (fun _ _ _ _ _ => pe_cast (pe_cmpR op_in_seq (pv 2) (pe_tup (pa_cons pe_int (pa_cons pe_int pa_nil))) (by with_unfolding_all rfl)) (by first | exact rfl | (dsimp only [blk_K]; done) | (dsimp only [blk_K]; exact rfl)))) pa_nil))))))) pss_never pss_nil))), ?_⟩
  rintro as d ⟨p, tab, hp, rfl, hl, rfl⟩
  have h2 := two_pow_le hp
  have h3 := lab_len hl
  unfold labOk at hl
  rw [Bool.and_eq_true] at hl
  refine .inr ⟨_, sx_seq (sx_drop (ex_call (R := R_check_shape) ⟨p, hp, rfl, rfl⟩ (exa_cons (ea_var rfl) exa_nil)) rfl) (sx_ifF (ext_or (ext_test (ex_neI (ex_lenT (enc := D.int) (ea_var rfl)) (ex_call (R := R_count_inputs) ⟨p, hp, rfl, rfl⟩ (exa_cons (ea_var rfl) exa_nil)))) fun _ => ext_not (ext_val (ex_allF (exf_lcT1 (enc := D.int) (ys := tab) (fun l => .bl (decide (l ∈ ([0, 1] : List Int)))) (ew_tup (ea_var rfl)) (fun l h => ⟨_, gx_name (by simp), ex_inI (ys := [0, 1]) (ea_var rfl) (EA.tupS (ex_tup (ds := [.int 0, .int 1]) (show 2 ≤ sizeLine by decide) (exa_cons ex_int (exa_cons ex_int exa_nil))))⟩) (small_of (by omega)))))) ?_ (sx_nil rfl)), rfl⟩
  rw [hl.2, h3]
  simp
def N_clash : List Str := ["chart", "table", "inputs", "low", "entry", "high"]
abbrev ps_clash : List Str := ["chart", "table"]
theorem sc_clash : FnScope N_clash ps_clash (defScope (top 45)) := ⟨rfl, rfl, rfl, by decide +kernel, rfl, by decide +kernel, by decide +kernel⟩
def R_clash : FP := fun as d => ∃ (rows : List (List Int)) (p : Nat) (es tab : List Int), p ≤ 5 ∧ as = [.v (chrD rows p es), .v (ti tab)] ∧ es.length = 2 ^ p ∧ labOk p tab = true ∧ d = fcM p es tab
theorem w_clash (T : Tx W.K mg) (X : Kx W) (c_check_table : C8.Cal P w W.K mg base 2 "check_table" (spOf W R_check_table) []) (c_inputs_of : C8.Cal P w W.K mg base 7 "inputs_of" (spOf W R_inputs_of) []) : BodyOk P w W mg base 7 N_clash "clash" (top 45) R_clash := by
  intro f cdv A outer s H E hr
  refine ⟨_, (pss_cons (ps_expr (C8.pe_c c_check_table hr (by decide) (by rfl) (pa_cons (pe_fld (pv 0) rfl) (pa_cons (pv 1) pa_nil))))
    (pss_cons (ps_set (i := 2) sc_clash.nd rfl (by first | exact Or.inl rfl | exact Or.inr rfl) (C8.pe_c c_inputs_of hr (by decide) (by rfl) (pa_cons (pe_fld (pv 0) rfl) pa_nil)))
    (pss_cons (ps_for PassesOwn.never rfl (pi_enumT (by rfl) T.enum (pa_cons (pe_fld (pv 0) rfl) pa_nil)) (pg_tup (n := 2) rfl (pgs_cons (pg_name (i := 3) sc_clash.nd rfl (by first | exact Or.inl rfl | exact Or.inr rfl)) (pgs_cons (pg_name (i := 4) sc_clash.nd rfl (by first | exact Or.inl rfl | exact Or.inr rfl)) pgs_nil))) (pss_one (ps_for PassesOwn.never rfl (pi_range2 (by rfl) T.range (pa_cons (pe_op op_add (pv 3) pe_int) (pa_cons (pe_callB call_len_seq (by rfl) T.len PySem.boot_len (pa_cons (pv 2) pa_nil)) pa_nil))) (pg_name (i := 5) sc_clash.nd rfl (by first | exact Or.inl rfl | exact Or.inr rfl)) (pss_one (ps_if (PW.pt (pw_and (pt_cmpR op_eq (pe_ix ix_tup (pe_fld (pv 0) rfl) (pv 5) (fun _ _ => rfl)) (pv 4) (nomark _)) (pw_and1 (pt_cmpR op_ne (pe_ix ix_tup (pv 1) (pv 5) (fun _ _ => rfl)) (pe_ix ix_tup (pv 1) (pv 3) (fun _ _ => rfl)) (nomark _))))) (pss_one (ps_ret (pe_tup (pa_cons (pe_ix ix_list (pv 2) (pv 3) (fun _ _ => rfl)) (pa_cons (pe_ix ix_list (pv 2) (pv 5) (fun _ _ => rfl)) pa_nil))))) pss_nil)))))
    (pss_one (ps_ret pe_non))))), ?_⟩
  rintro as d ⟨rows, p, es, tab, hp, rfl, hes, hl, rfl⟩
  have h2 := two_pow_le hp
  have h3 := lab_len hl
  have h4 := rowsP_len hp
  obtain ⟨z, hz⟩ := fcR_some p es tab
  refine .inl (sx_seq (sx_drop (ex_call (R := R_check_table) ⟨p, tab, hp, rfl, hl, rfl⟩ (exa_cons (ex_fld X.c1 X.n1s (ea_var rfl) rfl) (exa_cons (ea_var rfl) exa_nil))) rfl) (sx_seq (sx_set (ex_call (R := R_inputs_of) ⟨p, hp, rfl, rfl⟩ (exa_cons (ex_fld X.c1 X.n1s (ea_var rfl) rfl) exa_nil)) rfl) ?_))
  refine sx_seqX (z := z) (sx_forXM (S := fun _ : Unit => [.val (chrD rows p es), .val (ti tab), .val (rowsD p), .no, .no, .no]) (enc := fun k : Nat => .tup [.int (k : Nat), .int (es.getD k 0)]) (fcOut p es tab) () z hz ((ew_enumTr (f := D.int) 0 (ex_fld X.c1 X.n1e (ea_var rfl) rfl)).to (by rw [hes])) fun _ low r hlow hr => ⟨_, [3, 4], gx_two (by simp) (by simp), ?_⟩) (fun _ e => sx_ret ex_non (by unfold fcM; rw [hz, e])) (fun d e => by unfold fcM; rw [hz, e])
  have hlw := List.mem_range.mp hlow
  unfold fcOut at hr
  refine sx_weakX (sx_forXM (S := fun _ : Unit => [.val (chrD rows p es), .val (ti tab), .val (rowsD p), .val (.int (low : Nat)), .val (.int (es.getD low 0)), .no]) (enc := fun k : Nat => .int (k : Nat)) (fcIn p es tab low) () r hr (ew_rg2 (m := low + 1) (n := 2 ^ p) (Ex.to (ex_addI (ea_var rfl) ex_int) (by simp)) (Ex.to (ex_lenL (enc := ti) (ea_var rfl)) (by rw [h4])) (by omega) (by omega)) fun _ high z2 hhigh hz2 => ⟨_, [5], gx_name (by simp), ?_⟩) fun _ => (by repeat (first | exact Le.nil | apply Le.same | apply Le.drop))
  have hhg : high < 2 ^ p := by
    obtain ⟨i, hi, rfl⟩ := List.mem_range'.mp hhigh
    omega
  unfold fcIn at hz2
  refine sx_if (b := decide (es.getD high 0 = es.getD low 0) && !decide (tab.getD high 0 = tab.getD low 0)) (ext_and (ext_test (ex_eqI (ex_ixT (enc := D.int) (ex_fld X.c1 X.n1e (ea_var rfl) rfl) (ea_var rfl) (getD_at (by omega))) (ea_var rfl))) fun _ => ext_test (ex_neI (ex_ixT (enc := D.int) (ea_var rfl) (ea_var rfl) (getD_at (by omega))) (ex_ixT (enc := D.int) (ea_var rfl) (ea_var rfl) (getD_at (by omega))))) (fun hc => ?_) (fun hc => ?_)
  · rw [if_pos hc] at hz2
    cases hz2
    exact sx_ret (ex_tup (ds := [ti ((rowsP p).getD low []), ti ((rowsP p).getD high [])]) (show 2 ≤ sizeLine by decide) (exa_cons (ex_ixL (enc := ti) (EA.toL (ea_var rfl)) (ea_var rfl) (getD_at (by omega))) (exa_cons (ex_ixL (enc := ti) (EA.toL (ea_var rfl)) (ea_var rfl) (getD_at (by omega))) exa_nil))) rfl
  · rw [if_neg (by rw [hc]; exact Bool.false_ne_true)] at hz2
    cases hz2
    exact sx_weak (sx_nil rfl) (by repeat (first | exact Le.nil | apply Le.same | apply Le.drop))
def N_decides : List Str := ["chart", "table"]
abbrev ps_decides : List Str := ["chart", "table"]
theorem sc_decides : FnScope N_decides ps_decides (defScope (top 46)) := ⟨rfl, rfl, rfl, by decide +kernel, rfl, by decide +kernel, by decide +kernel⟩
def R_decides : FP := fun as d => ∃ (rows : List (List Int)) (p : Nat) (es tab : List Int), p ≤ 5 ∧ as = [.v (chrD rows p es), .v (ti tab)] ∧ es.length = 2 ^ p ∧ labOk p tab = true ∧ d = .bl (fcM p es tab).isNon
theorem w_decides (c_clash : C8.Cal P w W.K mg base 8 "clash" (spOf W R_clash) []) : BodyOk P w W mg base 8 N_decides "decides" (top 46) R_decides := by
  intro f cdv A outer s H E hr
  refine ⟨_, (pss_one (ps_ret (pe_cmpR op_isN (C8.pe_c c_clash hr (by decide) (by rfl) (pa_cons (pv 0) (pa_cons (pv 1) pa_nil))) pe_non (nomark _)))), ?_⟩
  rintro as d ⟨rows, p, es, tab, hp, rfl, hes, hl, rfl⟩
  exact .inl (sx_ret (ex_op og_isN (ex_call (R := R_clash) ⟨rows, p, es, tab, hp, rfl, hes, hl, rfl⟩ (exa_cons (ea_var rfl) (exa_cons (ea_var rfl) exa_nil))) ex_non) rfl)
def N_check_count : List Str := ["choices", "count", "members"]
abbrev ps_check_count : List Str := ["choices"]
theorem sc_check_count : FnScope N_check_count ps_check_count (defScope (top 48)) := ⟨rfl, rfl, rfl, by decide +kernel, rfl, by decide +kernel, by decide +kernel⟩
def R_check_count : FP := fun as d => ∃ ch : List (List Int), as = [.v (.lst (ch.map ti))] ∧ (∀ m ∈ ch, m.length ≤ 60) ∧ cntM ch ≤ 1024 ∧ d = .non
theorem w_check_count (T : Tx W.K mg) : BodyOk P w W mg base k N_check_count "check_count" (top 48) R_check_count := by
  intro f cdv A outer s H E hr
  refine ⟨_, (pss_cons (ps_set (i := 1) sc_check_count.nd rfl (by first | exact Or.inl rfl | exact Or.inr rfl) pe_int)
    (pss_cons (ps_for PassesOwn.never rfl (pi_list (pv 0)) (pg_name (i := 2) sc_check_count.nd rfl (by first | exact Or.inl rfl | exact Or.inr rfl)) (pss_one (ps_aug (i := 1) sc_check_count.nd rfl (by first | exact Or.inl rfl | exact Or.inr rfl) (pe_callB call_len_seq (by rfl) T.len PySem.boot_len (pa_cons (pv 2) pa_nil)) iop_mul)))
    (pss_one (ps_if (pt_cmpR op_gt (pv 1) (pe_glob (v := V.int 1024) (by rfl) T.mc.choose_spec ⟨_, rfl⟩) (nomark _)) pss_never pss_nil)))), ?_⟩
  rintro as d ⟨ch, rfl, hl, hc, rfl⟩
  refine .inr ⟨_, sx_seq (sx_set ex_int rfl) (sx_seq (sx_forT (enc := ti) (ys := ch) (S := fun a => [.val (.lst (ch.map ti)), .val (.int a), .no]) (fun a m => a * (m.length : Int)) 1 (ew_list (ea_var rfl)) fun pre m post h => ⟨_, [2], gx_name (by simp), sx_weak (sx_aug rfl (ex_lenT (enc := D.int) (ea_var rfl)) (og_iC (C := CMul) (f := fun i j => i * j) (by
    have := hl m (mem_mid h)
    exact .inr ⟨by omega, by omega⟩)) rfl) (by repeat (first | exact Le.nil | apply Le.same | apply Le.drop))⟩) (sx_ifF (ext_test (ex_gtI (ea_var rfl) ex_int)) (decide_eq_false ?_) (sx_nil rfl))), rfl⟩
  unfold cntM at hc
  omega
def N_coefficient_choices : List Str := ["row", "inputs", "signs"]
abbrev ps_coefficient_choices : List Str := ["row", "inputs"]
theorem sc_coefficient_choices : FnScope N_coefficient_choices ps_coefficient_choices (defScope (top 47)) := ⟨rfl, rfl, rfl, by decide +kernel, rfl, by decide +kernel, by decide +kernel⟩
def R_choices : FP := fun as d => ∃ (row : List (List Int)) (p : Nat), p ≤ 5 ∧ as = [.v (.lst (row.map ti)), .v (rowsD p)] ∧ chOk row p = true ∧ d = .lst ((chM row p).map ti)
theorem cut_nat {α : Type} (xs : List α) (a b : Nat) : cutL xs (some (a : Int)) (some (b : Int)) = (xs.drop a).take (b - a) := by
  unfold cutL
  rw [HT.sIx_nat, HT.sIx_nat]
  by_cases h : a ≤ xs.length
  · rw [Nat.min_eq_left h]
    by_cases h2 : b ≤ xs.length
    · rw [Nat.min_eq_left h2]
    · rw [Nat.min_eq_right (by omega), List.take_of_length_le (by rw [List.length_drop]; omega), List.take_of_length_le (by rw [List.length_drop]; omega)]
  · rw [Nat.min_eq_right (a := a) (by omega), List.drop_of_length_le (Nat.le_refl _), List.drop_of_length_le (by omega)]
    simp
theorem cut_from {α : Type} (xs : List α) (a : Nat) : cutL xs (some (a : Int)) none = xs.drop a := by
  unfold cutL
  rw [HT.sIx_nat, HT.sIx_none]
  by_cases h : a ≤ xs.length
  · rw [Nat.min_eq_left h, List.take_of_length_le (by rw [List.length_drop]; omega)]
  · rw [Nat.min_eq_right (by omega), List.drop_of_length_le (Nat.le_refl _), List.drop_of_length_le (by omega)]
    simp
theorem cut_1 {α : Type} (xs : List α) : cutL xs (some 1) none = xs.drop 1 := cut_from xs 1
theorem w_coefficient_choices (c_subgroup_at : C8.Cal P w W.K mg base 1 "subgroup_at" (spOf W R_subgroup_at) []) (c_weight : C8.Cal P w W.K mg base 1 "weight" (spOf W R_weight) []) : BodyOk P w W mg base 1 N_coefficient_choices "coefficient_choices" (top 47) R_choices := by
  intro f cdv A outer s H E hr
  refine ⟨_, (pss_one (ps_ret (pe_op op_cat (pe_lst (pa_cons (pe_tup (pa_cons pe_int pa_nil)) pa_nil)) (pe_lc (own := [("signs", 2)]) rfl sc_coefficient_choices.nd (pi_list (pe_slice sl_list (pv 1) (po_some pe_int) po_none)) (blkOk_by (N := N_coefficient_choices) (sc := defScope (top 47)) (by decide +kernel)) (fun _ _ _ _ _ => pg_cast (pg_name (i := 2) sc_coefficient_choices.nd rfl (by first | exact Or.inl rfl | exact Or.inr rfl)) (by first | exact rfl | (dsimp only [blk_K]; done) | (dsimp only [blk_K]; exact rfl))) (fun _ _ _ _ _ => pts_cast pts_nil (by first | exact rfl | (dsimp only [blk_K]; done) | (dsimp only [blk_K]; exact rfl))) (fun _ _ _ _ _ => pe_cast (C8.pe_c c_subgroup_at hr (by decide) (by rfl) (pa_cons (pv 0) (pa_cons (C8.pe_c c_weight hr (by decide) (by rfl) (pa_cons (pv 2) pa_nil)) pa_nil))) (by first | exact rfl | (dsimp only [blk_K]; done) | (dsimp only [blk_K]; exact rfl))))))), ?_⟩
  rintro as d ⟨row, p, hp, rfl, ho, rfl⟩
  have h2 := two_pow_le hp
  have h4 := rowsP_len hp
  unfold chOk at ho
  rw [List.all_eq_true] at ho
  have hd : ((rowsP p).drop 1).length ≤ 32 := by rw [List.length_drop]; omega
  refine .inl (sx_ret (Ex.to (b := .lst ((chM row p).map ti)) (ExF.ex (exf_cat (xs := [ti [0]]) (ys := (((rowsP p).drop 1).map fun s => (sgAt row (wt s)).getD []).map ti) (ExF.m (exf_lst (ds := [ti [0]]) (show 1 ≤ sizeLine by decide) (exa_cons (ex_tup (ds := [.int 0]) (show 1 ≤ sizeLine by decide) (exa_cons ex_int exa_nil)) exa_nil))) (ExF.m (ExF.to (exf_lcT1 (enc := ti) (ys := (rowsP p).drop 1) (fun s => ti ((sgAt row (wt s)).getD [])) (ew_list (Ex.to (ExF.ex (exf_sl (EA.toL (ea_var rfl)) (eo_some ex_int) eo_none)) (by rw [cut_1, List.map_drop]))) (fun s hs => ⟨_, gx_name (by simp), ex_call (R := R_subgroup_at) ⟨row, wt s, _, rfl, getD_some (ho s hs), rfl⟩ (exa_cons (ea_var rfl) (exa_cons (ex_call (R := R_weight) ⟨s, by have := rowsP_small hp s (List.mem_of_mem_drop hs); omega, rfl, rfl⟩ (exa_cons (ea_var rfl) exa_nil)) exa_nil))⟩) (small_of (by omega))) (by rw [List.map_map]; rfl))) (by rw [List.length_map, List.length_map]; exact small_of (by show 1 + _ ≤ _; omega)))) rfl) rfl)
end
end K9
/-! text KP -/
set_option Elab.async false
set_option linter.all false
set_option maxRecDepth 100000
set_option maxHeartbeats 2000000
set_option autoImplicit false
/-! the data layer of a generator that is left at its first item -/
namespace K9
open PySem PySem.Spec PyProof.Rows L2 LamX GenW
inductive OutG where
  | nx (δ : Sto) | yd (d : D)
def FinG (W : Wd) (B0 H0 Bc : Hp) (D : GD) : OutG → Prop
  | .nx δ => ∀ σ B H, Ext W B0 H0 B H → Same Bc B → Slots W H0 B H σ δ → D.nx σ H
  | .yd d => ∀ v B H, Ext W B0 H0 B H → Same Bc B → Den W B d v → D.yd v H
def GXS (W : Wd) (t : TG1) (δ : Sto) (o : OutG) : Prop := ∀ (B0 H0 : Hp) (D : GD) (σ : L2.St) (B H : Hp), Ext W B0 H0 B H → Slots W H0 B H σ δ → FinG W B0 H0 B D o → t D σ H
section
variable {W : Wd} {δ δ' : Sto} {o : OutG}
theorem FinG.up {B0 H0 B B1 : Hp} {D : GD} (s : Same B B1) : ∀ {o : OutG}, FinG W B0 H0 B D o → FinG W B0 H0 B1 D o
  | .nx _, h => fun σ B2 H2 e s2 sl => h σ B2 H2 e (s.trans s2) sl
  | .yd _, h => fun v B2 H2 e s2 d => h v B2 H2 e (s.trans s2) d
theorem gs_ps {t : TS} (h : SX W t δ (.nx δ')) : GXS W (tP1 t) δ (.nx δ') := fun B0 H0 D σ B H e s f => h B0 H0 D.ends σ B H e s f
theorem gs_seq {t u : TG1} (h1 : GXS W t δ (.nx δ')) (h2 : GXS W u δ' o) : GXS W (tT1 t u) δ o := fun B0 H0 D σ B H e s f =>
  h1 B0 H0 { D with nx := u D } σ B H e s fun σ1 B1 H1 e1 s1 sl => h2 B0 H0 D σ1 B1 H1 e1 sl (f.up s1)
theorem gs_seqY {t u : TG1} {d : D} (h1 : GXS W t δ (.yd d)) : GXS W (tT1 t u) δ (.yd d) := fun B0 H0 D σ B H e s f => h1 B0 H0 { D with nx := u D } σ B H e s f
theorem gs_one {t : TG1} (h1 : GXS W t δ o) : GXS W (tT1 t fun D σ H => D.nx σ H) δ o := fun B0 H0 D σ B H e s f => h1 B0 H0 _ σ B H e s f
theorem gs_yield {te : TE} {d : D} (h : Ex W te δ d) : GXS W (tY1 te) δ (.yd d) := fun B0 H0 D σ B H e s f => h H0 B H σ (e.at_ s) _ fun v B1 H1 e1 hv => f v B1 H1 (e.trans e1) e1.bb hv.den
theorem gs_if {c : TT} {t u : TG1} {b : Bool} (hc : ExT W c δ b) (h1 : b = true → GXS W t δ o) (h2 : b = false → GXS W u δ o) : GXS W (tIf1 c t u) δ o := fun B0 H0 D σ B H e s f =>
  hc H0 B H σ (e.at_ s) _ fun B1 H1 e1 => by
    cases b with
    | true => exact h1 rfl B0 H0 D σ B1 H1 (e.trans e1) (s.ext e1) (f.up e1.bb)
    | false => exact h2 rfl B0 H0 D σ B1 H1 (e.trans e1) (s.ext e1) (f.up e1.bb)
theorem gs_weak {t : TG1} {δ1 : Sto} (h : GXS W t δ (.nx δ1)) (l : Le δ1 δ') : GXS W t δ (.nx δ') := fun B0 H0 D σ B H e s f => h B0 H0 D σ B H e s fun σ1 B1 H1 e1 s1 sl => f σ1 B1 H1 e1 s1 (sl.weak l)
def Stp.og {A : Type} (S : A → Sto) : Stp A → OutG
  | .go a => .nx (S a)
  | .out d => .yd d
theorem gs_while {c : TT} {tb : TG1} {A : Type} {S : A → Sto} (cd : A → Bool) (F : A → Option (Stp A)) (n : Nat) (a : A) (r : Stp A) (hr : loopX cd F n a = some r) (hc : ∀ a, ExT W c (S a) (cd a)) (hb : ∀ a z, cd a = true → F a = some z → GXS W tb (S a) (z.og S)) : GXS W (tW1 c tb) (S a) (r.og S) := fun B0 H0 D σ B H e s f => by
  refine ⟨fun m σ2 H2 => ∃ B2 a2, Ext W B0 H0 B2 H2 ∧ Same B B2 ∧ Slots W H0 B2 H2 σ2 (S a2) ∧ loopX cd F m a2 = some r, ⟨n, B, a, e, Same.refl _, s, hr⟩, ?_⟩
  rintro m σ2 H2 ⟨B2, a2, ee, sb, sl, hl⟩
  cases m with
  | zero => cases hl
  | succ m =>
    unfold loopX at hl
    refine hc a2 H0 B2 H2 σ2 (ee.at_ sl) _ fun B3 H3 e3 => ?_
    cases q : cd a2 with
    | false =>
      rw [q, if_neg Bool.false_ne_true] at hl
      cases hl
      rw [if_neg Bool.false_ne_true]
      exact f σ2 B3 H3 (ee.trans e3) (sb.trans e3.bb) (sl.ext e3)
    | true =>
      rw [q, if_pos rfl] at hl
      rw [if_pos rfl]
      cases eF : F a2 with
      | none => rw [eF] at hl; cases hl
      | some z =>
        rw [eF] at hl
        refine ⟨fun σ4 H4 => ∃ B4 a4, Ext W B0 H0 B4 H4 ∧ Same B B4 ∧ Slots W H0 B4 H4 σ4 (S a4) ∧ loopX cd F m a4 = some r, fun σ4 H4 h => ⟨m, Nat.lt_succ_self _, h⟩, ?_⟩
        have k := hb a2 z q eF
        cases z with
        | go a' => exact k B0 H0 _ σ2 B3 H3 (ee.trans e3) (sl.ext e3) fun σ5 B5 H5 e5 sb5 s5 => ⟨B5, a', e5, (sb.trans e3.bb).trans sb5, s5, hl⟩
        | out d =>
          cases hl
          exact k B0 H0 _ σ2 B3 H3 (ee.trans e3) (sl.ext e3) fun v B5 H5 e5 sb5 d5 => f v B5 H5 e5 ((sb.trans e3.bb).trans sb5) d5
/-! ### the def and the loop over it -/
abbrev FG := List AD → Option D → Prop
def spG (W : Wd) (R : FG) : SpG1 := fun vs H Qy Qe => ∃ B as z, Pr W B H ∧ ArgsOk W B H as vs ∧ R as z ∧ (∀ d, z = some d → ∀ v B' H', Ext W B H B' H' → Den W B' d v → Qy v H') ∧ (z = none → ∀ B' H', Ext W B H B' H' → Qe H')
def GivesG (W : Wd) (t : TG1) (δ : Sto) : Option D → Prop
  | some d => GXS W t δ (.yd d)
  | none => ∃ δ', GXS W t δ (.nx δ')
theorem bodyG_of {t : TG1} {R : FG} {N : List Str} {vs : List V} {H : Hp} {Qy : VK} {Qe : Hp → Prop} (hsp : spG W R vs H Qy Qe) (h : ∀ as z, R as z → GivesG W t (sto0 N.length as) z) : t { nx := fun _ H' => Qe H', rt := fun v H' => v = .non ∧ Qe H', yd := Qy } (L2.start N vs) H := by
  obtain ⟨B, as, z, P, ha, hR, q1, q2⟩ := hsp
  have k := h as z hR
  cases z with
  | some d => exact k B H _ _ B H (Ext.refl P) (slots_start ha) fun v B' H' e _ hd => q1 d rfl v B' H' e hd
  | none =>
    obtain ⟨δ', k⟩ := k
    exact k B H _ _ B H (Ext.refl P) (slots_start ha) fun σ B' H' e _ _ => q2 rfl B' H' e
theorem spG_len {R : FG} {n : Nat} (h : ∀ as d, R as d → as.length = n) {vs : List V} {H : Hp} {Q : VK} {E : Hp → Prop} (hsp : spG W R vs H Q E) : vs.length = n := by
  obtain ⟨B, as, d, P, ha, hR, q⟩ := hsp
  rw [ha.len]
  exact h as d hR
theorem sx_forG_some {R : FG} {t : TA} {g : TG} {tb : TS} {as : List AD} {d e : D} {vs : List Nat} {δ1 : Sto} (hR : R as (some d)) (ht : ExA W t δ as) (hg : GX W g d vs δ δ1) (hb : SX W tb δ1 (.rt e)) : SX W (tForG (spG W R) t g tb) δ (.rt e) := fun B0 H0 D σ B H ee s f =>
  ht H0 B H σ (ee.at_ s) _ fun xs B1 H1 e1 ax => ⟨B1, as, some d, e1.ok, ax, hR, fun d' hd v B2 H2 e2 hv => by
    cases hd
    have e12 := e1.trans e2
    refine hg H0 B2 H2 σ v ((ee.at_ s).ext e12) hv _ fun σ3 s3 _ => ?_
    exact hb B0 H0 _ σ3 B2 H2 (ee.trans e12) s3 fun v5 B5 H5 e5 sb5 d5 => f v5 B5 H5 e5 (e12.bb.trans sb5) d5, fun z => by cases z⟩
theorem sx_forG_none {R : FG} {t : TA} {g : TG} {tb : TS} {as : List AD} (hR : R as none) (ht : ExA W t δ as) : SX W (tForG (spG W R) t g tb) δ (.nx δ) := fun B0 H0 D σ B H ee s f =>
  ht H0 B H σ (ee.at_ s) _ fun xs B1 H1 e1 ax => ⟨B1, as, none, e1.ok, ax, hR, fun d' hd => (by cases hd), fun _ B2 H2 e2 => f σ B2 H2 (ee.trans (e1.trans e2)) (e1.trans e2).bb (s.ext (e1.trans e2))⟩
end
/-- a generator's body -/
def BodyG (P : Program) (w : World) (W : Wd) (mg : Str → Option Value) (base : Heap) (k : Nat) (N : List Str) (qual : Str) (st : Stmt) (R : FG) : Prop :=
  ∀ (f : Addr) (cdv : Value) (A : Around) (outer : List Env) (s : Shared) (H : Hp), Room k (A.deeper (envOfC qual (defScope st) s.heap.objs.size f cdv)) → ∃ t, GSs1 (gX P w W.K mg base N qual (defScope st) f cdv A outer s H) (defBody st) t ∧ ∀ as z, R as z → GivesG W t (sto0 N.length as) z
theorem gfn_of {P : Program} {w : World} {W : Wd} {mg : Str → Option Value} {base : Heap} {k : Nat} {x : Str} {st : Stmt} {R : FG} {N ps : List Str} {f : Addr} {fd : FuncData} (hb : BodyG P w W mg base k N x st R) (S : GScope N ps (defScope st)) (hl : ∀ as d, R as d → as.length = ps.length) (F : FnP W.K x st f fd) (b : Binds W.K fd ps []) : GFn1 P w W.K mg base (k + 1) f (spG W R) := by
  obtain ⟨oc, od, dV, kV, doc, pm, an, cdv, ct, osl, rfl, lk, hcd, _, _⟩ := F.ex
  refine gfn1_of lk hcd S b (fun vs H Q E h => spG_len hl h) fun A outer s H vs Qy Qe hr h => ?_
  obtain ⟨t, h1, h2⟩ := hb f cdv A outer s H hr
  exact ⟨t, h1, bodyG_of h h2⟩
end K9
/-! text W10 -/
set_option Elab.async false
set_option linter.all false
set_option maxRecDepth 100000
set_option maxHeartbeats 2000000
set_option autoImplicit false
/-! walks: the search for entries -/
namespace K9
open PySem PySem.Spec PyProof.Rows L2 LamX GenW
/-! ### plain -/
def underAt (p at_ : Nat) : List Int := ((List.range at_).filter fun k => lies ((rowsP p).getD k []) ((rowsP p).getD at_ [])).map fun k => ((k : Nat) : Int)
def underM (p : Nat) : List (List Int) := (List.range (2 ^ p)).map (underAt p)
def belStep (rows : List (List Int)) (m : List Int) (b : Int) (k : Int) : Option Int :=
  match atI m k with
  | none => none
  | some mk => match atI rows b with
    | none => none
    | some row => atI row mk
def seOk (tab e : List Int) (ent : Int) : Bool := ((List.range e.length).filter fun k => decide (e.getD k 0 = ent)).all fun k => decide (tab.getD k 0 = tab.getD e.length 0)
abbrev Brs := List (List Int × List Int)
def pushStep (rows : List (List Int)) (tab m e : List Int) (below : Int) (br : Brs) (mem : Int) : Option Brs :=
  match atI rows below with
  | none => none
  | some row => match atI row mem with
    | none => none
    | some ent => if seOk tab e ent = true then (if br.length < 900 then some (br ++ [(m ++ [mem], e ++ [ent])]) else none) else some br
def seTurn (rows : List (List Int)) (p : Nat) (ch : List (List Int)) (tab : List Int) (brs : Brs) : Option (Stp Brs) :=
  match brs.getLast? with
  | none => none
  | some (m, e) =>
    if e.length = 2 ^ p then some (.out (ti e)) else
    if (decide (e.length < 2 ^ p) && decide (m.length ≤ 100)) = true then (match (underAt p e.length).foldlM (belStep rows m) 0 with
      | none => none
      | some b => match atI ch (e.length : Nat) with
        | none => none
        | some c => match c.reverse.foldlM (pushStep rows tab m e b) brs.dropLast with
          | none => none
          | some r => some (.go r)) else none
def seC (brs : Brs) : Bool := !(brs.map fun b => (D.tup [ti b.1, ti b.2])).isEmpty
def seM (rows : List (List Int)) (p : Nat) (ch : List (List Int)) (tab : List Int) : Option (Stp Brs) := loopX seC (seTurn rows p ch tab) 5000 [([], [])]
def Stp.z {A : Type} : Stp A → Option D
  | .go _ => none
  | .out d => some d
theorem givesG_of {W : Wd} {t : TG1} {δ : Sto} {A : Type} {S : A → Sto} {r : Stp A} (h : GXS W t δ (r.og S)) : GivesG W t δ r.z := by
  cases r with
  | go a => exact ⟨_, h⟩
  | out d => exact h
theorem gs_weakX {W : Wd} {t : TG1} {δ : Sto} {A : Type} {S' : A → Sto} {z : Stp A} {a : A} {δ1 : Sto} (hz : z = .go a) (h : GXS W t δ (.nx δ1)) (l : Le δ1 (S' a)) : GXS W t δ (z.og S') := by
  rw [hz]
  exact gs_weak h l
theorem ex_catI {W : Wd} {δ : Sto} {ta tb : TE} {xs : List Int} {y : Int} (ha : Ex W ta δ (ti xs)) (hb : Ex W tb δ (.int y)) (hl : xs.length ≤ 500) : Ex W (tOp (rCatA W.K) ta (tTup (tCons tb tNil))) δ (ti (xs ++ [y])) := by
  refine Ex.to (ex_op (og_catA (small_of ?_)) ha (ex_tup (ds := [.int y]) (show 1 ≤ sizeLine by decide) (exa_cons hb exa_nil))) ?_
  · rw [List.length_map]
    show _ + 1 ≤ _
    omega
  · rw [show ti (xs ++ [y]) = .tup ((xs ++ [y]).map D.int) from rfl, List.map_append]
    rfl
theorem getLast_split {α : Type} {xs : List α} {a : α} (h : xs.getLast? = some a) : xs = xs.dropLast ++ [a] := by
  cases xs with
  | nil => cases h
  | cons x xs =>
    have h1 : (x :: xs) ≠ [] := by simp
    rw [List.getLast?_eq_some_getLast h1] at h
    cases h
    exact (List.dropLast_concat_getLast h1).symm
section
variable {P : Program} {w : World} {W : Wd} {mg : Str → Option Value} {base : Heap} {k : Nat}
def N_searched_entries : List Str := ["group", "inputs", "choices", "table", "under", "k", "at", "signs", "branches", "members", "entries", "below", "member", "entry"]
abbrev ps_searched_entries : List Str := ["group", "inputs", "choices", "table"]
theorem sc_searched_entries : GScope N_searched_entries ps_searched_entries (defScope (top 49)) := ⟨rfl, rfl, rfl, by decide +kernel, rfl, by decide +kernel, by decide +kernel⟩
abbrev brD (b : List Int × List Int) : D := .tup [ti b.1, ti b.2]
def R_searched : FG := fun as z => ∃ (rows : List (List Int)) (p : Nat) (ch : List (List Int)) (tab : List Int) (r : Stp Brs), p ≤ 5 ∧ as = [.v (grpD rows), .v (rowsD p), .v (.lst (ch.map ti)), .v (ti tab)] ∧ tab.length = 2 ^ p ∧ seM rows p ch tab = some r ∧ z = r.z
theorem w_searched_entries (T : Tx W.K mg) (X : Kx W) (c_lies_under : C8.Cal P w W.K mg base 1 "lies_under" (spOf W R_lies_under) []) : BodyG P w W mg base 1 N_searched_entries "searched_entries" (top 49) R_searched := by
  intro f cdv A outer s H hr
  refine ⟨_, (g1s_cons (g1_ps mute_gX (ps_setLc (i := 4) (own := [("at", 6), ("signs", 7)]) rfl sc_searched_entries.nd rfl rfl (sw_true rfl rfl rfl (by decide +kernel)) (pi_enum (by rfl) T.enum (pa_cons (pv 1) pa_nil)) (blkOk_by (N := N_searched_entries) (sc := defScope (top 49)) (by decide +kernel)) (fun _ _ _ _ _ => pg_cast (pg_tup (n := 2) rfl (pgs_cons (pg_name (i := 6) sc_searched_entries.nd rfl (by first | exact Or.inl rfl | exact Or.inr rfl)) (pgs_cons (pg_name (i := 7) sc_searched_entries.nd rfl (by first | exact Or.inl rfl | exact Or.inr rfl)) pgs_nil))) (by first | exact rfl | (dsimp only [blk_K]; done) | (dsimp only [blk_K]; exact rfl))) (fun _ _ _ _ _ => pts_cast pts_nil (by first | exact rfl | (dsimp only [blk_K]; done) | (dsimp only [blk_K]; exact rfl))) (fun _ _ _ _ _ => pe_cast (pe_lc (own := [("k", 5)]) rfl sc_searched_entries.nd (pi_range1 (by rfl) T.range (pa_cons (pv 6) pa_nil)) (blkOk_by (by rfl)) (fun _ _ _ _ _ => pg_cast (pg_name (i := 5) sc_searched_entries.nd rfl (by first | exact Or.inl rfl | exact Or.inr rfl)) (by first | exact rfl | (dsimp only [blk_K]; done) | (dsimp only [blk_K]; exact rfl))) (fun _ _ _ _ _ => pts_cast (pts_one (pt_val (C8.pe_c c_lies_under hr (by decide) (by rfl) (pa_cons (pe_ix ix_list (pv 1) (pv 5) (fun _ _ => rfl)) (pa_cons (pv 7) pa_nil))))) (by first | exact rfl | (dsimp only [blk_K]; done) | (dsimp only [blk_K]; exact rfl))) (fun _ _ _ _ _ => pe_cast (pv 5) (by first | exact rfl | (dsimp only [blk_K]; done) | (dsimp only [blk_K]; exact rfl)))) (by first | exact rfl | (dsimp only [blk_K]; done) | (dsimp only [blk_K]; exact rfl)))))
    (g1s_cons (g1_ps mute_gX (ps_set (i := 8) sc_searched_entries.nd rfl (by first | exact Or.inl rfl | exact Or.inr rfl) (pe_lst (pa_cons (pe_tup (pa_cons (pe_tup pa_nil) (pa_cons (pe_tup pa_nil) pa_nil))) pa_nil))))
    (g1s_one (g1_while mute_gX (pt_truth (pv 8) (fun _ => rfl)) (g1s_cons (g1_ps mute_gX (ps_asg (pe_bm0 PySem.F.plainAttrs_list PySem.F.slot_list_pop PySem.F.type_list_pop mt_pop (pv 8)) (pg_tup (n := 2) rfl (pgs_cons (pg_name (i := 9) sc_searched_entries.nd rfl (by first | exact Or.inl rfl | exact Or.inr rfl)) (pgs_cons (pg_name (i := 10) sc_searched_entries.nd rfl (by first | exact Or.inl rfl | exact Or.inr rfl)) pgs_nil)))))
     (g1s_cons (g1_ps mute_gX (ps_set (i := 6) sc_searched_entries.nd rfl (by first | exact Or.inl rfl | exact Or.inr rfl) (pe_callB call_len_seq (by rfl) T.len PySem.boot_len (pa_cons (pv 10) pa_nil))))
     (g1s_one (g1_if mute_gX (pt_cmpR op_eq (pv 6) (pe_callB call_len_seq (by rfl) T.len PySem.boot_len (pa_cons (pv 1) pa_nil)) (nomark _)) (g1s_one (g1_yield mute_gX (pv 10))) (g1s_pss mute_gX (pss_cons (ps_set (i := 11) sc_searched_entries.nd rfl (by first | exact Or.inl rfl | exact Or.inr rfl) pe_int)
      (pss_cons (ps_for PassesOwn.never rfl (pi_list (pe_ix ix_list (pv 4) (pv 6) (fun _ _ => rfl))) (pg_name (i := 5) sc_searched_entries.nd rfl (by first | exact Or.inl rfl | exact Or.inr rfl)) (pss_one (ps_set (i := 11) sc_searched_entries.nd rfl (by first | exact Or.inl rfl | exact Or.inr rfl) (pe_ix ix_tup (pe_ix ix_tup (pe_fld (pv 0) rfl) (pv 11) (fun _ _ => rfl)) (pe_ix ix_tup (pv 9) (pv 5) (fun _ _ => rfl)) (fun _ _ => rfl)))))
      (pss_one (ps_for PassesOwn.never rfl (pi_tup (pe_revT (pe_ix ix_list (pv 2) (pv 6) (fun _ _ => rfl)))) (pg_name (i := 12) sc_searched_entries.nd rfl (by first | exact Or.inl rfl | exact Or.inr rfl)) (pss_cons (ps_set (i := 13) sc_searched_entries.nd rfl (by first | exact Or.inl rfl | exact Or.inr rfl) (pe_ix ix_tup (pe_ix ix_tup (pe_fld (pv 0) rfl) (pv 11) (fun _ _ => rfl)) (pv 12) (fun _ _ => rfl)))
       (pss_one (ps_if (pt_val (pe_callB (cr_all rfl) (by rfl) T.all (by rfl) (pa_cons (pe_lc (own := [("k", 5)]) rfl sc_searched_entries.nd (pi_range1 (by rfl) T.range (pa_cons (pv 6) pa_nil)) (blkOk_by (N := N_searched_entries) (sc := defScope (top 49)) (by decide +kernel)) (fun _ _ _ _ _ => pg_cast (pg_name (i := 5) sc_searched_entries.nd rfl (by first | exact Or.inl rfl | exact Or.inr rfl)) (by first | exact rfl | (dsimp only [blk_K]; done) | (dsimp only [blk_K]; exact rfl))) (fun _ _ _ _ _ => pts_cast (pts_one (pt_cmpR op_eq (pe_ix ix_tup (pv 10) (pv 5) (fun _ _ => rfl)) (pv 13) (nomark _))) (by first | exact rfl | (dsimp only [blk_K]; done) | (dsimp only [blk_K]; exact rfl))) (fun _ _ _ _ _ => pe_cast (pe_cmpR op_eq (pe_ix ix_tup (pv 3) (pv 5) (fun _ _ => rfl)) (pe_ix ix_tup (pv 3) (pv 6) (fun _ _ => rfl)) (nomark _)) (by first | exact rfl | (dsimp only [blk_K]; done) | (dsimp only [blk_K]; exact rfl)))) pa_nil))) (pss_one (ps_expr (pe_bm PySem.F.plainAttrs_list PySem.F.slot_list_append PySem.F.type_list_append mt_append (pv 8) (pa_cons (pe_tup (pa_cons (pe_op op_catA (pv 9) (pe_tup (pa_cons (pv 12) pa_nil))) (pa_cons (pe_op op_catA (pv 10) (pe_tup (pa_cons (pv 13) pa_nil))) pa_nil))) pa_nil)))) pss_nil)))))))))))))))), ?_⟩
  rintro as z ⟨rows, p, ch, tab, r, hp, rfl, ht, hm, rfl⟩
  have h2 := two_pow_le hp
  have h4 := rowsP_len hp
  unfold seM at hm
  have hl1 : ∀ a, a ∈ List.range (2 ^ p) → ∀ k, k ∈ List.range a → ((rowsP p).getD k []).length ≤ 1000 := by
    intro a ha k hk
    have h5 : k < (rowsP p).length := by have := List.mem_range.mp ha; have := List.mem_range.mp hk; omega
    have h6 : (rowsP p).getD k [] ∈ rowsP p := by
      rw [List.getD_eq_getElem?_getD, List.getElem?_eq_getElem h5]
      exact List.getElem_mem h5
    have := rowsP_small hp _ h6
    omega
  refine givesG_of (gs_seq (gs_ps (sx_setM (ExF.to (b := (underM p).map li) (exf_lcT1 (enc := fun k : Nat => .tup [.int (k : Nat), ti ((rowsP p).getD k [])]) (ys := List.range (2 ^ p)) (fun a => li (underAt p a)) (EW.to (ew_enumLr (f := ti) [] (ea_var rfl)) (by rw [h4])) (fun a ha => ⟨_, gx_two (by simp) (by simp), Ex.to (ExF.ex (exf_lcT (enc := fun n : Nat => .int (n : Nat)) (ys := List.range a) (fun k => lies ((rowsP p).getD k []) ((rowsP p).getD a [])) (fun k => .int ((k : Nat) : Int)) (ew_rg1 (ea_var rfl) (by have := List.mem_range.mp ha; omega)) (fun k hk => ⟨_, gx_name (by simp), ext_val (ex_call (R := R_lies_under) ⟨_, _, hl1 a ha k hk, rfl, rfl⟩ (exa_cons (ex_ixL (enc := ti) (EA.toL (ea_var rfl)) (ea_var rfl) (getD_at (by have := List.mem_range.mp ha; have := List.mem_range.mp hk; omega))) (exa_cons (ea_var rfl) exa_nil))), fun _ => ea_var rfl⟩) (by rw [List.length_range]; exact small_of (by have := List.mem_range.mp ha; omega)))) (by unfold underAt li; rw [List.map_map]; rfl)⟩) (by rw [List.length_range]; exact small_of (by omega))) (by unfold underM; rw [List.map_map]; rfl)) rfl))
    (gs_seq (gs_ps (sx_setM (exf_one (enc := brD) ([], []) (ex_tup (ds := [ti [], ti []]) (show 2 ≤ sizeLine by decide) (exa_cons (ex_tup (ds := []) (by decide) exa_nil) (exa_cons (ex_tup (ds := []) (by decide) exa_nil) exa_nil)))) rfl))
    (gs_one (gs_while (S := fun br => [.val (grpD rows), .val (rowsD p), .val (.lst (ch.map ti)), .val (ti tab), .mu ((underM p).map li), .no, .no, .no, .mu (br.map brD), .no, .no, .no, .no, .no]) seC (seTurn rows p ch tab) 5000 [([], [])] r hm (fun br => ext_truL (ea_mu rfl)) fun br z _ hz => ?_))))
  unfold seTurn at hz
  split at hz
  · cases hz
  rename_i m e hge
  obtain ⟨init, rfl⟩ : ∃ init, br = init ++ [(m, e)] := ⟨_, getLast_split hge⟩
  have hdl : (init ++ [(m, e)]).dropLast = init := by simp
  rw [hdl] at hz
  refine gs_seq (gs_ps (sx_pop (i := 8) (ds := init.map brD) (d := brD (m, e)) (by show some (Sl.mu ((init ++ [(m, e)]).map brD)) = _; rw [List.map_append]; rfl) (gx_two (vs := [9, 10]) (by simp) (by simp)) rfl)) (gs_seq (gs_ps (sx_set (ex_lenT (enc := D.int) (ea_var rfl)) rfl)) (gs_one (gs_if (b := decide ((e.length : Int) = ((2 ^ p : Nat) : Int))) (ext_test (ex_eqI (ea_var rfl) (Ex.to (ex_lenL (enc := ti) (ea_var rfl)) (by rw [h4])))) (fun hb => ?_) fun hb => ?_)))
  · have hb := of_decide_eq_true hb
    rw [if_pos (by omega)] at hz
    cases hz
    exact gs_one (gs_yield (ea_var rfl))
  · have hb := of_decide_eq_false hb
    rw [if_neg (by omega)] at hz
    split at hz
    · rename_i hgd
      rw [Bool.and_eq_true] at hgd
      have hlt := of_decide_eq_true hgd.1
      have hml := of_decide_eq_true hgd.2
      split at hz
      · cases hz
      rename_i b hbel
      split at hz
      · cases hz
      rename_i c hc
      split at hz
      · cases hz
      rename_i r2 hr2
      cases hz
      refine gs_weak (gs_ps (sx_seq (sx_set ex_int rfl) (sx_seq (sx_forM (enc := D.int) (ys := underAt p e.length) (S := fun b => [.val (grpD rows), .val (rowsD p), .val (.lst (ch.map ti)), .val (ti tab), .mu ((underM p).map li), .no, .val (.int (e.length : Nat)), .no, .mu (init.map brD), .val (ti m), .val (ti e), .val (.int b), .no, .no]) (belStep rows m) 0 b hbel (ew_list (ex_ixL (enc := li) (ys := underM p) (ea_mu rfl) (ea_var rfl) ?u1)) fun b0 k b1 hk hF => ⟨_, [5], gx_name (by simp), ?_⟩)
        (sx_forM (enc := D.int) (ys := c.reverse) (S := fun br => [.val (grpD rows), .val (rowsD p), .val (.lst (ch.map ti)), .val (ti tab), .mu ((underM p).map li), .no, .val (.int (e.length : Nat)), .no, .mu (br.map brD), .val (ti m), .val (ti e), .val (.int b), .no, .no]) (pushStep rows tab m e b) init r2 hr2 (EW.to (ew_tup (ex_revT (ex_ixL (enc := ti) (EA.toL (ea_var rfl)) (ea_var rfl) hc))) (by rw [List.map_reverse])) fun br0 mem br1 hmem hF => ⟨_, [12], gx_name (by simp), ?_⟩)))) (by repeat (first | exact Le.nil | apply Le.same | apply Le.drop))
      case u1 =>
        refine atI_nat ?_
        unfold underM
        rw [List.getElem?_map, List.getElem?_range hlt]
        rfl
      · unfold belStep at hF
        split at hF
        · cases hF
        rename_i mk hmk
        split at hF
        · cases hF
        rename_i row hrow
        exact sx_weak (sx_set (ex_ixT (enc := D.int) (ex_ixT (enc := ti) (ex_fld X.c0 X.n0r (ea_var rfl) rfl) (ea_var rfl) hrow) (ex_ixT (enc := D.int) (ea_var rfl) (ea_var rfl) hmk) hF) rfl) (by repeat (first | exact Le.nil | apply Le.same | apply Le.drop))
      · unfold pushStep at hF
        split at hF
        · cases hF
        rename_i row hrow
        split at hF
        · cases hF
        rename_i ent hent
        refine sx_seq (sx_set (ex_ixT (enc := D.int) (ex_ixT (enc := ti) (ex_fld X.c0 X.n0r (ea_var rfl) rfl) (ea_var rfl) hrow) (ea_var rfl) hent) rfl) (sx_if (b := seOk tab e ent) (ext_val (ex_allF (exf_lcT (enc := fun n : Nat => .int (n : Nat)) (ys := List.range e.length) (fun k => decide (e.getD k 0 = ent)) (fun k => .bl (decide (tab.getD k 0 = tab.getD e.length 0))) (ew_rg1 (ea_var rfl) (by omega)) (fun k hk => ⟨_, gx_name (by simp), ext_test (ex_eqI (ex_ixT (enc := D.int) (ea_var rfl) (ea_var rfl) (getD_at (List.mem_range.mp hk))) (ea_var rfl)), fun _ => ex_eqI (ex_ixT (enc := D.int) (ea_var rfl) (ea_var rfl) (getD_at (by have := List.mem_range.mp hk; omega))) (ex_ixT (enc := D.int) (ea_var rfl) (ea_var rfl) (getD_at (by omega)))⟩) (by rw [List.length_range]; exact small_of (by omega))))) (fun ho => ?_) fun ho => ?_)
        · rw [if_pos ho] at hF
          split at hF
          · rename_i h9
            cases hF
            exact sx_weak (sx_appendT (enc := brD) (y := (m ++ [mem], e ++ [ent])) rfl (ex_tup (ds := [ti (m ++ [mem]), ti (e ++ [ent])]) (show 2 ≤ sizeLine by decide) (exa_cons (ex_catI (ea_var rfl) (ea_var rfl) (by omega)) (exa_cons (ex_catI (ea_var rfl) (ea_var rfl) (by omega)) exa_nil))) (small_lt (by omega)) rfl) (by repeat (first | exact Le.nil | apply Le.same | apply Le.drop))
          · cases hF
        · rw [if_neg (by rw [ho]; exact Bool.false_ne_true)] at hF
          cases hF
          exact sx_weak (sx_nil rfl) (by repeat (first | exact Le.nil | apply Le.same | apply Le.drop))
    · cases hz
end
end K9
/-! text W11 -/
set_option Elab.async false
set_option linter.all false
set_option maxRecDepth 100000
set_option maxHeartbeats 2000000
set_option autoImplicit false
/-! walks: charts made, found -/
namespace K9
open PySem PySem.Spec PyProof.Rows L2 LamX GenW
/-- a generator def that may be called by its name -/
structure CalG (P : Program) (w : World) (K : PySem.W.Frag) (mg : Str → Option Value) (base : Heap) (k : Nat) (x : Str) (sp : SpG1) : Prop where
  ex : ∃ f : Addr, GFn1 P w K mg base k f sp ∧ mg x = some (.ref f) ∧ PySem.W.keepIn K (.ref f) = true
def resOk (rows : List (List Int)) (p : Nat) (r : Stp Brs) (d : D) : Prop := (∃ a, r = .go a ∧ d = .non) ∨ ∃ es : List Int, r = .out (ti es) ∧ es.length = 2 ^ p ∧ (∀ e ∈ es, InR rows e) ∧ d = chrD rows p es
section
variable {P : Program} {w : World} {W : Wd} {mg : Str → Option Value} {base : Heap} {k : Nat}
/-- two ways of one __init__ -/
theorem mak_of2 {x m : Str} {qual : Str} {st : Stmt} {c n : Nat} {R1 R2 : FI} {N ps : List Str} {f : Addr} {fd : FuncData} (h1 : InitOk P w W mg base k N qual st c R1) (h2 : InitOk P w W mg base k N qual st c R2) (S : FnScope N ps (defScope st)) (hp : ps.length = n + 1) (hl1 : ∀ as fs, R1 as fs → as.length = n) (hl2 : ∀ as fs, R2 as fs → as.length = n) (hN : 1 ≤ N.length)
    (F : FunD W.K m qual (defArgs st) (defBody st) (defScope st) [] [] f fd) (M : Mk W.K (W.cl c) f) (hm : mg x = some (.ref (W.cl c))) (b : Binds W.K fd ps []) : C8.Mak P w W.K mg base (k + 1) x (W.cl c) (spI W c fun as fs => R1 as fs ∨ R2 as fs) [] := by
  have sep : ∀ {vs H Q E}, spI W c (fun as fs => R1 as fs ∨ R2 as fs) vs H Q E → spI W c R1 vs H Q E ∨ spI W c R2 vs H Q E := fun {vs H Q E} h => by
    obtain ⟨B, H, x, dx, rest, as, fs, e1, hx, hdx, hne, e2, P, ha, hR, q⟩ := h
    rcases hR with hR | hR
    · exact .inl ⟨B, H, x, dx, rest, as, fs, e1, hx, hdx, hne, e2, P, ha, hR, q⟩
    · exact .inr ⟨B, H, x, dx, rest, as, fs, e1, hx, hdx, hne, e2, P, ha, hR, q⟩
  refine ⟨f, fd, ps, [], M, F.ok S (fun vs H Q E h => ?_) (fun cdv A outer s H vs Q E hr h => ?_), hm, b, .nil⟩
  · rw [hp]
    rcases sep h with h | h
    · exact spi_len hl1 h
    · exact spi_len hl2 h
  · rcases sep h with h | h
    · obtain ⟨t, k1, k2⟩ := h1 f cdv A outer s H E hr
      exact ⟨t, PSs.nox k1, init_of h k2 hN⟩
    · obtain ⟨t, k1, k2⟩ := h2 f cdv A outer s H E hr
      exact ⟨t, PSs.nox k1, init_of h k2 hN⟩
def N_Chart___init__ : List Str := ["self", "group", "shape", "entries", "entry"]
abbrev ps_Chart___init__ : List Str := ["self", "group", "shape", "entries"]
theorem sc_Chart___init__ : FnScope N_Chart___init__ ps_Chart___init__ (defScope (itm 27 0)) := ⟨rfl, rfl, rfl, by decide +kernel, rfl, by decide +kernel, by decide +kernel⟩
def R_ChartL : FI := fun as fs => ∃ (rows : List (List Int)) (p : Nat) (es : List Int), p ≤ 5 ∧ as = [.v (grpD rows), .v (shp p), .v (li es)] ∧ es.length = 2 ^ p ∧ (∀ e ∈ es, InR rows e) ∧ fs = chrF rows p es
def R_ChartT : FI := fun as fs => ∃ (rows : List (List Int)) (p : Nat) (es : List Int), p ≤ 5 ∧ as = [.v (grpD rows), .v (shp p), .v (ti es)] ∧ es.length = 2 ^ p ∧ (∀ e ∈ es, InR rows e) ∧ fs = chrF rows p es
abbrev R_Chart : FI := fun as fs => R_ChartL as fs ∨ R_ChartT as fs
theorem w_ChartL (T : Tx W.K mg) (X : Kx W) (c_check_shape : C8.Cal P w W.K mg base 1 "check_shape" (spOf W R_check_shape) []) (c_count_inputs : C8.Cal P w W.K mg base 1 "count_inputs" (spOf W R_count_inputs) []) (m_Group_check : C8.Met P w W.K mg base 1 (W.cl 0) "check" (spOf W R_check) []) : InitOk P w W mg base 1 N_Chart___init__ "Chart.__init__" (itm 27 0) 1 R_ChartL := by
  intro f cdv A outer s H E hr
  refine ⟨_, (pss_cons (ps_expr (C8.pe_c c_check_shape hr (by decide) (by rfl) (pa_cons (pv 2) pa_nil)))
    (pss_cons (ps_if (pt_cmpR op_ne (pe_callB call_len_seq (by rfl) T.len PySem.boot_len (pa_cons (pv 3) pa_nil)) (C8.pe_c c_count_inputs hr (by decide) (by rfl) (pa_cons (pv 2) pa_nil)) (nomark _)) pss_never pss_nil)
    (pss_cons (ps_for PassesOwn.never rfl (pi_list (pv 3)) (pg_name (i := 4) sc_Chart___init__.nd rfl (by first | exact Or.inl rfl | exact Or.inr rfl)) (pss_one (ps_expr (C8.pe_mt m_Group_check hr (by decide) (pv 1) (pa_cons (pv 4) pa_nil)))))
    (pss_cons (ps_fld (pv 0) (pv 1) rfl)
    (pss_cons (ps_fld (pv 0) (pe_callTy call_tuple_of (by rfl) T.tuple boot_tuple (pa_cons (pv 2) pa_nil)) rfl)
    (pss_one (ps_fld (pv 0) (pe_callTy call_tuple_of (by rfl) T.tuple boot_tuple (pa_cons (pv 3) pa_nil)) rfl))))))), ?_⟩
  rintro x as fs ⟨rows, p, es, hp, rfl, hl, hin, rfl⟩
  have h2 := two_pow_le hp
  exact ⟨_, sx_seq (sx_drop (ex_call (R := R_check_shape) ⟨p, hp, rfl, rfl⟩ (exa_cons (ea_var rfl) exa_nil)) rfl) (sx_seq (sx_ifF (ext_test (ex_neI (ex_lenL (enc := D.int) (ea_var rfl)) (ex_call (R := R_count_inputs) ⟨p, hp, rfl, rfl⟩ (exa_cons (ea_var rfl) exa_nil)))) (by rw [hl]; simp) (sx_nil rfl))
    (sx_seq (sx_forT (enc := D.int) (ys := es) (S := fun _ : Unit => [.obj x 1 [], .val (grpD rows), .val (shp p), .val (li es), .no]) (fun _ _ => ()) () (ew_list (ea_var rfl)) fun pre y post h => ⟨_, [4], gx_name (by simp), sx_weak (sx_drop (ex_meth (R := R_check) (ea_var rfl) rfl ⟨rows, y, rfl, hin y (mem_mid h), rfl⟩ (exa_cons (ea_var rfl) exa_nil)) rfl) (by repeat (first | exact Le.nil | apply Le.same | apply Le.drop))⟩)
    (sx_seq (sx_fld X.c1 X.n1g rfl (ea_var rfl) (by show (0 : Nat) < 1000; decide) rfl) (sx_seq (sx_fld X.c1 X.n1s rfl (ex_tupT (ea_var rfl)) (by show (1 : Nat) < 1000; decide) rfl) (sx_fld X.c1 X.n1e rfl (ex_tupL (EA.toL (ea_var rfl))) (by show (2 : Nat) < 1000; decide) rfl))))), rfl⟩
theorem w_ChartT (T : Tx W.K mg) (X : Kx W) (c_check_shape : C8.Cal P w W.K mg base 1 "check_shape" (spOf W R_check_shape) []) (c_count_inputs : C8.Cal P w W.K mg base 1 "count_inputs" (spOf W R_count_inputs) []) (m_Group_check : C8.Met P w W.K mg base 1 (W.cl 0) "check" (spOf W R_check) []) : InitOk P w W mg base 1 N_Chart___init__ "Chart.__init__" (itm 27 0) 1 R_ChartT := by
  intro f cdv A outer s H E hr
  refine ⟨_, (pss_cons (ps_expr (C8.pe_c c_check_shape hr (by decide) (by rfl) (pa_cons (pv 2) pa_nil)))
    (pss_cons (ps_if (pt_cmpR op_ne (pe_callB call_len_seq (by rfl) T.len PySem.boot_len (pa_cons (pv 3) pa_nil)) (C8.pe_c c_count_inputs hr (by decide) (by rfl) (pa_cons (pv 2) pa_nil)) (nomark _)) pss_never pss_nil)
    (pss_cons (ps_for PassesOwn.never rfl (pi_tup (pv 3)) (pg_name (i := 4) sc_Chart___init__.nd rfl (by first | exact Or.inl rfl | exact Or.inr rfl)) (pss_one (ps_expr (C8.pe_mt m_Group_check hr (by decide) (pv 1) (pa_cons (pv 4) pa_nil)))))
    (pss_cons (ps_fld (pv 0) (pv 1) rfl)
    (pss_cons (ps_fld (pv 0) (pe_callTy call_tuple_of (by rfl) T.tuple boot_tuple (pa_cons (pv 2) pa_nil)) rfl)
    (pss_one (ps_fld (pv 0) (pe_callTy call_tuple_of (by rfl) T.tuple boot_tuple (pa_cons (pv 3) pa_nil)) rfl))))))), ?_⟩
  rintro x as fs ⟨rows, p, es, hp, rfl, hl, hin, rfl⟩
  have h2 := two_pow_le hp
  exact ⟨_, sx_seq (sx_drop (ex_call (R := R_check_shape) ⟨p, hp, rfl, rfl⟩ (exa_cons (ea_var rfl) exa_nil)) rfl) (sx_seq (sx_ifF (ext_test (ex_neI (ex_lenT (enc := D.int) (ea_var rfl)) (ex_call (R := R_count_inputs) ⟨p, hp, rfl, rfl⟩ (exa_cons (ea_var rfl) exa_nil)))) (by rw [hl]; simp) (sx_nil rfl))
    (sx_seq (sx_forT (enc := D.int) (ys := es) (S := fun _ : Unit => [.obj x 1 [], .val (grpD rows), .val (shp p), .val (ti es), .no]) (fun _ _ => ()) () (ew_tup (ea_var rfl)) fun pre y post h => ⟨_, [4], gx_name (by simp), sx_weak (sx_drop (ex_meth (R := R_check) (ea_var rfl) rfl ⟨rows, y, rfl, hin y (mem_mid h), rfl⟩ (exa_cons (ea_var rfl) exa_nil)) rfl) (by repeat (first | exact Le.nil | apply Le.same | apply Le.drop))⟩)
    (sx_seq (sx_fld X.c1 X.n1g rfl (ea_var rfl) (by show (0 : Nat) < 1000; decide) rfl) (sx_seq (sx_fld X.c1 X.n1s rfl (ex_tupT (ea_var rfl)) (by show (1 : Nat) < 1000; decide) rfl) (sx_fld X.c1 X.n1e rfl (ex_tupT (ea_var rfl)) (by show (2 : Nat) < 1000; decide) rfl))))), rfl⟩
def N_chart_by_row : List Str := ["group", "row", "shape", "table", "marked", "label", "inputs", "choices", "entries"]
abbrev ps_chart_by_row : List Str := ["group", "row", "shape", "table"]
theorem sc_chart_by_row : FnScope N_chart_by_row ps_chart_by_row (defScope (top 50)) := ⟨rfl, rfl, rfl, by decide +kernel, rfl, by decide +kernel, by decide +kernel⟩
def R_chart_by_row : FP := fun as d => ∃ (rows row : List (List Int)) (p : Nat) (tab : List Int) (r : Stp Brs), p ≤ 5 ∧ as = [.v (grpD rows), .v (.lst (row.map ti)), .v (shp p), .v (ti tab)] ∧ tab.length = 2 ^ p ∧ atI row (-1) = some [0] ∧ chOk row p = true ∧ (∀ m ∈ chM row p, m.length ≤ 60) ∧ cntM (chM row p) ≤ 1024 ∧ seM rows p (chM row p) tab = some r ∧ resOk rows p r d
theorem w_chart_by_row (c_inputs_of : C8.Cal P w W.K mg base 7 "inputs_of" (spOf W R_inputs_of) []) (c_coefficient_choices : C8.Cal P w W.K mg base 2 "coefficient_choices" (spOf W R_choices) []) (c_check_count : C8.Cal P w W.K mg base 1 "check_count" (spOf W R_check_count) []) (c_Chart : C8.Mak P w W.K mg base 2 "Chart" (W.cl 1) (spI W 1 R_Chart) []) (c_searched_entries : CalG P w W.K mg base 2 "searched_entries" (spG W R_searched)) : BodyOk P w W mg base 7 N_chart_by_row "chart_by_row" (top 50) R_chart_by_row := by
  obtain ⟨gf, gF, gM, gK⟩ := c_searched_entries.ex
  intro f cdv A outer s H E hr
  refine ⟨_, (pss_cons (ps_if (pt_cmpR (op_neD hr.units) (pe_ix ix_list (pv 1) (pe_un un_neg pe_int) (fun _ _ => rfl)) (pe_tup (pa_cons pe_int pa_nil)) (nomark _)) pss_never pss_nil)
    (pss_cons (ps_set (i := 6) sc_chart_by_row.nd rfl (by first | exact Or.inl rfl | exact Or.inr rfl) (C8.pe_c c_inputs_of hr (by decide) (by rfl) (pa_cons (pv 2) pa_nil)))
    (pss_cons (ps_set (i := 7) sc_chart_by_row.nd rfl (by first | exact Or.inl rfl | exact Or.inr rfl) (C8.pe_c c_coefficient_choices hr (by decide) (by rfl) (pa_cons (pv 1) (pa_cons (pv 6) pa_nil))))
    (pss_cons (ps_expr (C8.pe_c c_check_count hr (by decide) (by rfl) (pa_cons (pv 7) pa_nil)))
    (pss_cons (ps_forG gF (hr.mono (by decide)) rfl (fun _ _ h => h) (by rfl) gM gK (pa_cons (pv 0) (pa_cons (pv 6) (pa_cons (pv 7) (pa_cons (pv 3) pa_nil)))) (pg_name (i := 8) sc_chart_by_row.nd rfl (by first | exact Or.inl rfl | exact Or.inr rfl)) (pss_one (ps_ret (C8.pe_mk c_Chart hr (by decide) (by rfl) (pa_cons (pv 0) (pa_cons (pv 2) (pa_cons (pv 8) pa_nil)))))) (fun _ _ => rfl))
    (pss_one (ps_ret pe_non))))))), ?_⟩
  rintro as d ⟨rows, row, p, tab, r, hp, rfl, ht, hlast, hch, hch2, hcnt, hse, hres⟩
  rcases hres with ⟨a, rfl, rfl⟩ | ⟨es, rfl, hl, hin, rfl⟩
  · exact .inl (sx_seq (sx_ifF (ext_test (ex_neT (ys := [0]) (ex_ixL (enc := ti) (EA.toL (ea_var rfl)) (ex_neg ex_int) hlast) (ex_tup (ds := [.int 0]) (show 1 ≤ sizeLine by decide) (exa_cons ex_int exa_nil)))) rfl (sx_nil rfl)) (sx_seq (sx_set (ex_call (R := R_inputs_of) ⟨p, hp, rfl, rfl⟩ (exa_cons (ea_var rfl) exa_nil)) rfl) (sx_seq (sx_set (ex_call (R := R_choices) ⟨row, p, hp, rfl, hch, rfl⟩ (exa_cons (ea_var rfl) (exa_cons (ea_var rfl) exa_nil))) rfl) (sx_seq (sx_drop (ex_call (R := R_check_count) ⟨_, rfl, hch2, hcnt, rfl⟩ (exa_cons (ea_var rfl) exa_nil)) rfl)
      (sx_seq (sx_forG_none (R := R_searched) ⟨rows, p, chM row p, tab, _, hp, rfl, ht, hse, rfl⟩ (exa_cons (ea_var rfl) (exa_cons (ea_var rfl) (exa_cons (ea_var rfl) (exa_cons (ea_var rfl) exa_nil))))) (sx_ret ex_non rfl))))))
  · exact .inl (sx_seq (sx_ifF (ext_test (ex_neT (ys := [0]) (ex_ixL (enc := ti) (EA.toL (ea_var rfl)) (ex_neg ex_int) hlast) (ex_tup (ds := [.int 0]) (show 1 ≤ sizeLine by decide) (exa_cons ex_int exa_nil)))) rfl (sx_nil rfl)) (sx_seq (sx_set (ex_call (R := R_inputs_of) ⟨p, hp, rfl, rfl⟩ (exa_cons (ea_var rfl) exa_nil)) rfl) (sx_seq (sx_set (ex_call (R := R_choices) ⟨row, p, hp, rfl, hch, rfl⟩ (exa_cons (ea_var rfl) (exa_cons (ea_var rfl) exa_nil))) rfl) (sx_seq (sx_drop (ex_call (R := R_check_count) ⟨_, rfl, hch2, hcnt, rfl⟩ (exa_cons (ea_var rfl) exa_nil)) rfl)
      (sx_seq_rt (sx_forG_some (R := R_searched) ⟨rows, p, chM row p, tab, _, hp, rfl, ht, hse, rfl⟩ (exa_cons (ea_var rfl) (exa_cons (ea_var rfl) (exa_cons (ea_var rfl) (exa_cons (ea_var rfl) exa_nil)))) (gx_name (vs := [8]) (by simp)) (sx_ret (ex_make (R := R_Chart) (.inr ⟨rows, p, es, hp, rfl, hl, hin, rfl⟩) (exa_cons (ea_var rfl) (exa_cons (ea_var rfl) (exa_cons (ea_var rfl) exa_nil)))) rfl)))))))
def N_deciding_chart : List Str := ["group", "shape", "table"]
abbrev ps_deciding_chart : List Str := ["group", "shape", "table"]
theorem sc_deciding_chart : FnScope N_deciding_chart ps_deciding_chart (defScope (top 51)) := ⟨rfl, rfl, rfl, by decide +kernel, rfl, by decide +kernel, by decide +kernel⟩
def R_deciding_chart : FP := fun as d => ∃ (rows row : List (List Int)) (p : Nat) (tab : List Int) (r : Stp Brs), p ≤ 5 ∧ as = [.v (grpD rows), .v (shp p), .v (ti tab)] ∧ grpOk rows = true ∧ labOk p tab = true ∧ lowM rows = some (.out (.lst (row.map ti))) ∧ atI row (-1) = some [0] ∧ chOk row p = true ∧ (∀ m ∈ chM row p, m.length ≤ 60) ∧ cntM (chM row p) ≤ 1024 ∧ seM rows p (chM row p) tab = some r ∧ resOk rows p r d
theorem w_deciding_chart (c_check_table : C8.Cal P w W.K mg base 2 "check_table" (spOf W R_check_table) []) (c_lower_row : C8.Cal P w W.K mg base 4 "lower_row" (spOf W R_lower_row) []) (c_chart_by_row : C8.Cal P w W.K mg base 8 "chart_by_row" (spOf W R_chart_by_row) []) : BodyOk P w W mg base 8 N_deciding_chart "deciding_chart" (top 51) R_deciding_chart := by
  intro f cdv A outer s H E hr
  refine ⟨_, (pss_cons (ps_expr (C8.pe_c c_check_table hr (by decide) (by rfl) (pa_cons (pv 1) (pa_cons (pv 2) pa_nil))))
    (pss_one (ps_ret (C8.pe_c c_chart_by_row hr (by decide) (by rfl) (pa_cons (pv 0) (pa_cons (C8.pe_c c_lower_row hr (by decide) (by rfl) (pa_cons (pv 0) pa_nil)) (pa_cons (pv 1) (pa_cons (pv 2) pa_nil)))))))), ?_⟩
  rintro as d ⟨rows, row, p, tab, r, hp, rfl, hg, hl, hlow, hlast, hch, hch2, hcnt, hse, hres⟩
  exact .inl (sx_seq (sx_drop (ex_call (R := R_check_table) ⟨p, tab, hp, rfl, hl, rfl⟩ (exa_cons (ea_var rfl) (exa_cons (ea_var rfl) exa_nil))) rfl) (sx_ret (ex_call (R := R_chart_by_row) ⟨rows, row, p, tab, r, hp, rfl, lab_len hl, hlast, hch, hch2, hcnt, hse, hres⟩ (exa_cons (ea_var rfl) (exa_cons (ex_call (R := R_lower_row) ⟨rows, rfl, hg, hlow⟩ (exa_cons (ea_var rfl) exa_nil)) (exa_cons (ea_var rfl) (exa_cons (ea_var rfl) exa_nil))))) rfl))
end
end K9
/-! text W12 -/
set_option Elab.async false
set_option linter.all false
set_option maxRecDepth 100000
set_option maxHeartbeats 2000000
set_option autoImplicit false
/-! walks: coefficients, obstacles -/
namespace K9
open PySem PySem.Spec PyProof.Rows L2 LamX
/-! ### plain -/
def pbStep (rows : List (List Int)) (p : Nat) (mem : List Int) (a : Nat) (b : Int) (k : Nat) : Option Int :=
  if lies ((rowsP p).getD k []) ((rowsP p).getD a []) = true then (match atI rows b with
    | none => none
    | some row => match atI mem (k : Nat) with
      | none => none
      | some mk => atI row mk) else some b
def pbM (rows : List (List Int)) (p : Nat) (mem : List Int) (a : Nat) : Option Int := (List.range a).foldlM (pbStep rows p mem a) 0
def coStep (rows : List (List Int)) (p : Nat) (es : List Int) (found : List Int) (a : Nat) : Option (List Int) :=
  match pbM rows p found a with
  | none => none
  | some b => match atI (invsOf rows) b with
    | none => none
    | some i => match atI rows i with
      | none => none
      | some row => match atI row (es.getD a 0) with
        | none => none
        | some z => if found.length ≤ 100 then some (found ++ [z]) else none
def coM (rows : List (List Int)) (p : Nat) (es : List Int) : Option (List Int) := (List.range (2 ^ p)).foldlM (coStep rows p es) []
def obAt (row : List (List Int)) (q : List Int × Int) : Bool := match sgAt row (wt q.1) with
  | none => false
  | some g => decide (q.2 ∈ g)
def obOk (rows row : List (List Int)) (p : Nat) (es : List Int) : Bool := match coM rows p es with
  | none => false
  | some cs => ((rowsP p).zip cs).all (obAt row)
theorem rowsP_at {p : Nat} (h : p ≤ 5) {k : Nat} (hk : k < 2 ^ p) : (rowsP p).getD k [] ∈ rowsP p := by
  have h5 : k < (rowsP p).length := by rw [rowsP_len h]; exact hk
  rw [List.getD_eq_getElem?_getD, List.getElem?_eq_getElem h5]
  exact List.getElem_mem h5
section
variable {P : Program} {w : World} {W : Wd} {mg : Str → Option Value} {base : Heap} {k : Nat}
def N_product_below : List Str := ["group", "inputs", "members", "at", "product", "k"]
abbrev ps_product_below : List Str := ["group", "inputs", "members", "at"]
theorem sc_product_below : FnScope N_product_below ps_product_below (defScope (top 53)) := ⟨rfl, rfl, rfl, by decide +kernel, rfl, by decide +kernel, by decide +kernel⟩
def R_product_below : FP := fun as d => ∃ (rows : List (List Int)) (p : Nat) (mem : List Int) (a : Nat) (r : Int), p ≤ 5 ∧ as = [.v (grpD rows), .v (rowsD p), .l (mem.map D.int), .v (.int (a : Nat))] ∧ a < 2 ^ p ∧ pbM rows p mem a = some r ∧ d = .int r
theorem w_product_below (T : Tx W.K mg) (X : Kx W) (c_lies_under : C8.Cal P w W.K mg base 1 "lies_under" (spOf W R_lies_under) []) : BodyOk P w W mg base 1 N_product_below "product_below" (top 53) R_product_below := by
  intro f cdv A outer s H E hr
  refine ⟨_, (pss_cons (ps_set (i := 4) sc_product_below.nd rfl (by first | exact Or.inl rfl | exact Or.inr rfl) pe_int)
    (pss_cons (ps_for PassesOwn.never rfl (pi_range1 (by rfl) T.range (pa_cons (pv 3) pa_nil)) (pg_name (i := 5) sc_product_below.nd rfl (by first | exact Or.inl rfl | exact Or.inr rfl)) (pss_one (ps_if (pt_val (C8.pe_c c_lies_under hr (by decide) (by rfl) (pa_cons (pe_ix ix_list (pv 1) (pv 5) (fun _ _ => rfl)) (pa_cons (pe_ix ix_list (pv 1) (pv 3) (fun _ _ => rfl)) pa_nil)))) (pss_one (ps_set (i := 4) sc_product_below.nd rfl (by first | exact Or.inl rfl | exact Or.inr rfl) (pe_ix ix_tup (pe_ix ix_tup (pe_fld (pv 0) rfl) (pv 4) (fun _ _ => rfl)) (pe_ix ix_list (pv 2) (pv 5) (fun _ _ => rfl)) (fun _ _ => rfl)))) pss_nil)))
    (pss_one (ps_ret (pv 4))))), ?_⟩
  rintro as d ⟨rows, p, mem, a, r, hp, rfl, ha, hm, rfl⟩
  have h2 := two_pow_le hp
  have h4 := rowsP_len hp
  refine .inl (sx_seq (sx_set ex_int rfl) (sx_seq (sx_forM (enc := fun n : Nat => .int (n : Nat)) (ys := List.range a) (S := fun b => [.val (grpD rows), .val (rowsD p), .rd (mem.map D.int), .val (.int (a : Nat)), .val (.int b), .no]) (pbStep rows p mem a) 0 r hm (ew_rg1 (ea_var rfl) (by omega)) fun b k b' hk hF => ⟨_, [5], gx_name (by simp), ?_⟩) (sx_ret (ea_var rfl) rfl)))
  have hk2 := List.mem_range.mp hk
  have h6 := rowsP_small hp _ (rowsP_at hp (k := k) (by omega))
  unfold pbStep at hF
  refine sx_if (b := lies ((rowsP p).getD k []) ((rowsP p).getD a [])) (ext_val (ex_call (R := R_lies_under) ⟨_, _, by omega, rfl, rfl⟩ (exa_cons (ex_ixL (enc := ti) (EA.toL (ea_var rfl)) (ea_var rfl) (getD_at (by omega))) (exa_cons (ex_ixL (enc := ti) (EA.toL (ea_var rfl)) (ea_var rfl) (getD_at (by omega))) exa_nil)))) (fun hc => ?_) (fun hc => ?_)
  · rw [if_pos hc] at hF
    split at hF
    · cases hF
    rename_i row hrow
    split at hF
    · cases hF
    rename_i mk hmk
    exact sx_weak (sx_set (ex_ixT (enc := D.int) (ex_ixT (enc := ti) (ex_fld X.c0 X.n0r (ea_var rfl) rfl) (ea_var rfl) hrow) (ex_ixL (enc := D.int) (ea_rd rfl) (ea_var rfl) hmk) hF) rfl) (by repeat (first | exact Le.nil | apply Le.same | apply Le.drop))
  · rw [if_neg (by rw [hc]; exact Bool.false_ne_true)] at hF
    cases hF
    exact sx_weak (sx_nil rfl) (by repeat (first | exact Le.nil | apply Le.same | apply Le.drop))
def N_coefficients : List Str := ["chart", "group", "inputs", "found", "at", "entry", "below"]
abbrev ps_coefficients : List Str := ["chart"]
theorem sc_coefficients : FnScope N_coefficients ps_coefficients (defScope (top 54)) := ⟨rfl, rfl, rfl, by decide +kernel, rfl, by decide +kernel, by decide +kernel⟩
def R_coefficients : FP := fun as d => ∃ (rows : List (List Int)) (p : Nat) (es cs : List Int), p ≤ 5 ∧ as = [.v (chrD rows p es)] ∧ es.length = 2 ^ p ∧ coM rows p es = some cs ∧ d = ti cs
theorem w_coefficients (T : Tx W.K mg) (X : Kx W) (c_inputs_of : C8.Cal P w W.K mg base 7 "inputs_of" (spOf W R_inputs_of) []) (c_product_below : C8.Cal P w W.K mg base 2 "product_below" (spOf W R_product_below) []) : BodyOk P w W mg base 7 N_coefficients "coefficients" (top 54) R_coefficients := by
  intro f cdv A outer s H E hr
  refine ⟨_, (pss_cons (ps_set (i := 1) sc_coefficients.nd rfl (by first | exact Or.inl rfl | exact Or.inr rfl) (pe_fld (pv 0) rfl))
    (pss_cons (ps_set (i := 2) sc_coefficients.nd rfl (by first | exact Or.inl rfl | exact Or.inr rfl) (C8.pe_c c_inputs_of hr (by decide) (by rfl) (pa_cons (pe_fld (pv 0) rfl) pa_nil)))
    (pss_cons (ps_set (i := 3) sc_coefficients.nd rfl (by first | exact Or.inl rfl | exact Or.inr rfl) (pe_lst pa_nil))
    (pss_cons (ps_for PassesOwn.never rfl (pi_enumT (by rfl) T.enum (pa_cons (pe_fld (pv 0) rfl) pa_nil)) (pg_tup (n := 2) rfl (pgs_cons (pg_name (i := 4) sc_coefficients.nd rfl (by first | exact Or.inl rfl | exact Or.inr rfl)) (pgs_cons (pg_name (i := 5) sc_coefficients.nd rfl (by first | exact Or.inl rfl | exact Or.inr rfl)) pgs_nil))) (pss_cons (ps_set (i := 6) sc_coefficients.nd rfl (by first | exact Or.inl rfl | exact Or.inr rfl) (C8.pe_c c_product_below hr (by decide) (by rfl) (pa_cons (pv 1) (pa_cons (pv 2) (pa_cons (pv 3) (pa_cons (pv 4) pa_nil))))))
     (pss_one (ps_expr (pe_bm PySem.F.plainAttrs_list PySem.F.slot_list_append PySem.F.type_list_append mt_append (pv 3) (pa_cons (pe_ix ix_tup (pe_ix ix_tup (pe_fld (pv 1) rfl) (pe_ix ix_tup (pe_fld (pv 1) rfl) (pv 6) (fun _ _ => rfl)) (fun _ _ => rfl)) (pv 5) (fun _ _ => rfl)) pa_nil))))))
    (pss_one (ps_ret (pe_callTy call_tuple_of (by rfl) T.tuple boot_tuple (pa_cons (pv 3) pa_nil)))))))), ?_⟩
  rintro as d ⟨rows, p, es, cs, hp, rfl, hes, hm, rfl⟩
  refine .inl (sx_seq (sx_set (ex_fld X.c1 X.n1g (ea_var rfl) rfl) rfl) (sx_seq (sx_set (ex_call (R := R_inputs_of) ⟨p, hp, rfl, rfl⟩ (exa_cons (ex_fld X.c1 X.n1s (ea_var rfl) rfl) exa_nil)) rfl) (sx_seq (sx_setM (exf_nil (enc := D.int)) rfl) (sx_seq (sx_forM (enc := fun k : Nat => .tup [.int (k : Nat), .int (es.getD k 0)]) (ys := List.range (2 ^ p)) (S := fun fo : List Int => [.val (chrD rows p es), .val (grpD rows), .val (rowsD p), .mu (fo.map D.int), .no, .no, .no]) (coStep rows p es) [] cs hm (EW.to (ew_enumTr (f := D.int) 0 (ex_fld X.c1 X.n1e (ea_var rfl) rfl)) (by rw [hes])) fun fo a fo' ha hF => ⟨_, [4, 5], gx_two (by simp) (by simp), ?_⟩) (sx_ret (ex_tupL (ea_mu rfl)) rfl)))))
  unfold coStep at hF
  split at hF
  · cases hF
  rename_i b hb
  split at hF
  · cases hF
  rename_i i hi
  split at hF
  · cases hF
  rename_i row hrow
  split at hF
  · cases hF
  rename_i z hz
  split at hF
  · rename_i hl
    cases hF
    exact sx_weak (sx_seq (sx_set (ex_call (R := R_product_below) ⟨rows, p, fo, a, b, hp, rfl, List.mem_range.mp ha, hb, rfl⟩ (exa_cons (ea_var rfl) (exa_cons (ea_var rfl) (exa_cons (ea_mu rfl) (exa_cons (ea_var rfl) exa_nil))))) rfl) (sx_appendT (enc := D.int) rfl (ex_ixT (enc := D.int) (ex_ixT (enc := ti) (ex_fld X.c0 X.n0r (ea_var rfl) rfl) (ex_ixT (enc := D.int) (ex_fld X.c0 X.n0i (ea_var rfl) rfl) (ea_var rfl) hi) hrow) (ea_var rfl) hz) (small_lt (by omega)) rfl)) (by repeat (first | exact Le.nil | apply Le.same | apply Le.drop))
  · cases hF
def N_obstacle : List Str := ["chart", "row", "signs", "member"]
abbrev ps_obstacle : List Str := ["chart"]
theorem sc_obstacle : FnScope N_obstacle ps_obstacle (defScope (top 56)) := ⟨rfl, rfl, rfl, by decide +kernel, rfl, by decide +kernel, by decide +kernel⟩
def R_obstacle : FP := fun as d => ∃ (rows row : List (List Int)) (p : Nat) (es : List Int), p ≤ 5 ∧ as = [.v (chrD rows p es)] ∧ es.length = 2 ^ p ∧ grpOk rows = true ∧ lowM rows = some (.out (.lst (row.map ti))) ∧ obOk rows row p es = true ∧ d = .non
theorem w_obstacle (T : Tx W.K mg) (X : Kx W) (c_lower_row : C8.Cal P w W.K mg base 4 "lower_row" (spOf W R_lower_row) []) (c_inputs_of : C8.Cal P w W.K mg base 7 "inputs_of" (spOf W R_inputs_of) []) (c_coefficients : C8.Cal P w W.K mg base 8 "coefficients" (spOf W R_coefficients) []) (c_subgroup_at : C8.Cal P w W.K mg base 1 "subgroup_at" (spOf W R_subgroup_at) []) (c_weight : C8.Cal P w W.K mg base 1 "weight" (spOf W R_weight) []) : BodyOk P w W mg base 8 N_obstacle "obstacle" (top 56) R_obstacle := by
  intro f cdv A outer s H E hr
  refine ⟨_, (pss_cons (ps_set (i := 1) sc_obstacle.nd rfl (by first | exact Or.inl rfl | exact Or.inr rfl) (C8.pe_c c_lower_row hr (by decide) (by rfl) (pa_cons (pe_fld (pv 0) rfl) pa_nil)))
    (pss_cons (ps_for PassesOwn.never rfl (pi_zipM (by rfl) T.zip (pa_cons (C8.pe_c c_inputs_of hr (by decide) (by rfl) (pa_cons (pe_fld (pv 0) rfl) pa_nil)) (pa_cons (C8.pe_c c_coefficients hr (by decide) (by rfl) (pa_cons (pv 0) pa_nil)) pa_nil))) (pg_tup (n := 2) rfl (pgs_cons (pg_name (i := 2) sc_obstacle.nd rfl (by first | exact Or.inl rfl | exact Or.inr rfl)) (pgs_cons (pg_name (i := 3) sc_obstacle.nd rfl (by first | exact Or.inl rfl | exact Or.inr rfl)) pgs_nil))) (pss_one (ps_if (pt_cmpR op_notIn_seq (pv 3) (C8.pe_c c_subgroup_at hr (by decide) (by rfl) (pa_cons (pv 1) (pa_cons (C8.pe_c c_weight hr (by decide) (by rfl) (pa_cons (pv 2) pa_nil)) pa_nil))) (by with_unfolding_all rfl)) (pss_one (ps_ret (pv 2))) pss_nil)))
    (pss_one (ps_ret pe_non)))), ?_⟩
  rintro as d ⟨rows, row, p, es, hp, rfl, hes, hg, hlow, hob, rfl⟩
  unfold obOk at hob
  split at hob
  · cases hob
  rename_i cs hcs
  refine .inl (sx_seq (sx_set (ex_call (R := R_lower_row) ⟨rows, rfl, hg, hlow⟩ (exa_cons (ex_fld X.c1 X.n1g (ea_var rfl) rfl) exa_nil)) rfl) (sx_seq (sx_forM (enc := fun q : List Int × Int => .tup [ti q.1, .int q.2]) (ys := (rowsP p).zip cs) (S := fun _ : Unit => [.val (chrD rows p es), .val (.lst (row.map ti)), .no, .no]) _ () () (foldlM_unit _ _ hob) (ew_zipMm (ex_call (R := R_inputs_of) ⟨p, hp, rfl, rfl⟩ (exa_cons (ex_fld X.c1 X.n1s (ea_var rfl) rfl) exa_nil)) (ex_call (R := R_coefficients) ⟨rows, p, es, cs, hp, rfl, hes, hcs, rfl⟩ (exa_cons (ea_var rfl) exa_nil))) fun _ q _ hq hF => ⟨_, [2, 3], gx_two (by simp) (by simp), ?_⟩) (sx_ret ex_non rfl)))
  split at hF
  · rename_i ho
    unfold obAt at ho
    split at ho
    · cases ho
    rename_i g hgg
    have hqs := rowsP_small hp _ (List.of_mem_zip hq).1
    exact sx_weak (sx_ifF (ext_test (ex_notInI (ea_var rfl) (EA.tupS (ex_call (R := R_subgroup_at) ⟨row, wt q.1, g, rfl, hgg, rfl⟩ (exa_cons (ea_var rfl) (exa_cons (ex_call (R := R_weight) ⟨q.1, by omega, rfl, rfl⟩ (exa_cons (ea_var rfl) exa_nil)) exa_nil)))))) (by rw [ho]; rfl) (sx_nil rfl)) (by repeat (first | exact Le.nil | apply Le.same | apply Le.drop))
  · cases hF
def N_is_programmable : List Str := ["chart"]
abbrev ps_is_programmable : List Str := ["chart"]
theorem sc_is_programmable : FnScope N_is_programmable ps_is_programmable (defScope (top 57)) := ⟨rfl, rfl, rfl, by decide +kernel, rfl, by decide +kernel, by decide +kernel⟩
def R_is_programmable : FP := fun as d => ∃ (rows row : List (List Int)) (p : Nat) (es : List Int), p ≤ 5 ∧ as = [.v (chrD rows p es)] ∧ es.length = 2 ^ p ∧ grpOk rows = true ∧ lowM rows = some (.out (.lst (row.map ti))) ∧ obOk rows row p es = true ∧ d = .bl true
theorem w_is_programmable (c_obstacle : C8.Cal P w W.K mg base 9 "obstacle" (spOf W R_obstacle) []) : BodyOk P w W mg base 9 N_is_programmable "is_programmable" (top 57) R_is_programmable := by
  intro f cdv A outer s H E hr
  refine ⟨_, (pss_one (ps_ret (pe_cmpR op_isN (C8.pe_c c_obstacle hr (by decide) (by rfl) (pa_cons (pv 0) pa_nil)) pe_non (nomark _)))), ?_⟩
  rintro as d ⟨rows, row, p, es, hp, rfl, hes, hg, hlow, hob, rfl⟩
  exact .inl (sx_ret (ex_op og_isN (ex_call (R := R_obstacle) ⟨rows, row, p, es, hp, rfl, hes, hg, hlow, hob, rfl⟩ (exa_cons (ea_var rfl) exa_nil)) ex_non) rfl)
end
end K9
/-! text W13 -/
set_option Elab.async false
set_option linter.all false
set_option maxRecDepth 100000
set_option maxHeartbeats 2000000
set_option autoImplicit false
/-! walks: moves -/
namespace K9
open PySem PySem.Spec PyProof.Rows L2 LamX
/-! ### plain -/
def folM (a b : List Int) : Option (List Int) := if (a.all fun q => (atI b q).isSome) = true then some (a.map fun q => (atI b q).getD 0) else none
def mvOk (mv : List (List Int)) : Bool := decide (0 < mv.length) && decide (mv.length ≤ 60) && decide ((mv.getD 0 []).length ≤ 60) && mv.all fun m => decide (isort leI m = rangeI (mv.getD 0 []).length)
abbrev CmS := List (List Int) × List (List Key × V)
def cmStep (a0 : Nat) (st : CmS) (move : List Int) : Option CmS :=
  match atI st.1 (a0 : Nat) with
  | none => none
  | some cur => if cur.length ≤ 500 then (match folM cur move with
    | none => none
    | some made => if (valV st.2 (kK made)).isSome = true then some st else
      if (decide (st.1.length < 60) && decide (st.2.length < 900)) = true then some (st.1 ++ [made], putK st.2 (kK made) (.bl true)) else none) else none
def cmTurn (mv : List (List Int)) (st : CmS × Nat) : Option (CmS × Nat) :=
  match mv.foldlM (cmStep st.2) st.1 with
  | none => none
  | some r => some (r, st.2 + 1)
def cmC (st : CmS × Nat) : Bool := decide (((st.2 : Nat) : Int) < (st.1.1.length : Nat))
def cmInit (mv : List (List Int)) : CmS × Nat := (([rangeI (mv.getD 0 []).length], [(kK (rangeI (mv.getD 0 []).length), .bl true)]), 0)
def srtB (n : Nat) (found zs : List (List Int)) : Bool := decide (found.length < 64) && (found.all fun x => decide (x.length = n) && x.all fun m => decide (0 ≤ m) && decide (m < (n : Int))) && decide (zs.Perm found) && decide (zs.Pairwise fun a b => TS.code (n : Int) a ≤ TS.code (n : Int) b)
  && found.all fun a => found.all fun b => !decide (TS.code (n : Int) a ≤ TS.code (n : Int) b) || !decide (TS.code (n : Int) b ≤ TS.code (n : Int) a) || decide (a = b)
def cmM (mv : List (List Int)) : Option (List (List Int)) := match loopM cmC (cmTurn mv) 100 (cmInit mv) with
  | none => none
  | some st => if srtB (mv.getD 0 []).length st.1.1 (isort lexB st.1.1) = true then some (isort lexB st.1.1) else none
section
variable {W : Wd} {δ : Sto}
theorem ex_cD {v : V} {d : D} (h : ∀ B, Den W B d v) : Ex W (tC v) δ d := fun H0 B H σ a Q q => q _ B H (Ext.refl a.pr) (h B)
end
/-- .. the derivation chosen by the data -/
def BodyOkD (P : Program) (w : World) (W : Wd) (mg : Str → Option Value) (base : Heap) (k : Nat) (N : List Str) (qual : Str) (st : Stmt) (R : FP) : Prop :=
  ∀ (f : Addr) (cdv : Value) (A : Around) (outer : List Env) (s : Shared) (H : Hp) (E : XK), Room k (A.deeper (envOfC qual (defScope st) s.heap.objs.size f cdv)) → ∀ as d, R as d → ∃ t, PSs (cxD P w W.K mg base N qual (defScope st) f cdv A outer s H E) (defBody st) t ∧ Gives W t (sto0 N.length as) d
section
variable {P : Program} {w : World} {W : Wd} {mg : Str → Option Value} {base : Heap} {k : Nat}
theorem cal_ofD {x : Str} {st : Stmt} {R : FP} {N ps : List Str} {f : Addr} {fd : FuncData} (hb : BodyOkD P w W mg base k N x st R) (S : FnScope N ps (defScope st)) (hl : ∀ as d, R as d → as.length = ps.length) (F : FnP W.K x st f fd) (hm : mg x = some (.ref f)) (b : Binds W.K fd ps []) : C8.Cal P w W.K mg base (k + 1) x (spOf W R) [] := by
  refine ⟨f, fd, ps, [], F.ok S (fun vs H Q E h => sp_len hl h) (fun cdv A outer s H vs Q E hr h => ?_), hm, F.kp, b, .nil⟩
  obtain ⟨B, as, d, P2, ha, hR, q⟩ := h
  obtain ⟨t, h1, h2⟩ := hb f cdv A outer s H E hr as d hR
  refine ⟨t, PSs.nox h1, body_of (R := fun as' d' => as' = as ∧ d' = d) (E := E) ⟨B, as, d, P2, ha, ⟨rfl, rfl⟩, q⟩ ?_⟩
  rintro _ _ ⟨rfl, rfl⟩
  exact h2
theorem pe_c0 {X : Cx} {k j : Nat} {x : Str} {sp : Sp} {dvs : List V} {p pos : Pos} (c : C8.Cal X.prog X.w X.K X.mg X.base k x sp dvs) (hr : Room j X.A) (hk : k ≤ j) (hg : Gl X x) (hdb : (x == ("__debug__" : Str)) = false := by decide) : PE X (.Call (.Name x p) [] [] pos) (tCall sp dvs C8.E0 tNil) := by
  obtain ⟨f, fd, ps, ds, F, hm, kp, b, d⟩ := c.ex
  exact pe_call0 F (hr.mono hk) hg hm kp b d C8.pass0 hdb
def N_check_moves : List Str := ["moves", "places", "at", "move"]
abbrev ps_check_moves : List Str := ["moves"]
theorem sc_check_moves : FnScope N_check_moves ps_check_moves (defScope (top 59)) := ⟨rfl, rfl, rfl, by decide +kernel, rfl, by decide +kernel, by decide +kernel⟩
abbrev mvD (mv : List (List Int)) : D := .tup (mv.map ti)
def R_check_moves : FP := fun as d => ∃ mv : List (List Int), as = [.v (mvD mv)] ∧ mvOk mv = true ∧ d = .non
theorem w_check_moves (T : Tx W.K mg) : BodyOk P w W mg base k N_check_moves "check_moves" (top 59) R_check_moves := by
  intro f cdv A outer s H E hr
  refine ⟨_, (pss_cons (ps_set (i := 1) sc_check_moves.nd rfl (by first | exact Or.inl rfl | exact Or.inr rfl) (pe_listRg rfl (by rfl) T.list (prg_1 (by rfl) T.range (pe_callB call_len_seq (by rfl) T.len PySem.boot_len (pa_cons (pe_ix ix_tup (pv 0) pe_int (fun _ _ => rfl)) pa_nil)))))
    (pss_one (ps_for PassesOwn.never rfl (pi_enumT (by rfl) T.enum (pa_cons (pv 0) pa_nil)) (pg_tup (n := 2) rfl (pgs_cons (pg_name (i := 2) sc_check_moves.nd rfl (by first | exact Or.inl rfl | exact Or.inr rfl)) (pgs_cons (pg_name (i := 3) sc_check_moves.nd rfl (by first | exact Or.inl rfl | exact Or.inr rfl)) pgs_nil))) (pss_one (ps_if (pt_cmpR (op_neD hr.units) (pe_callB cr_srtT (by rfl) T.sorted (by rfl) (pa_cons (pv 3) pa_nil)) (pv 1) (nomark _)) pss_never pss_nil))))), ?_⟩
  rintro as d ⟨mv, rfl, ho, rfl⟩
  unfold mvOk at ho
  simp only [Bool.and_eq_true, List.all_eq_true, decide_eq_true_eq] at ho
  obtain ⟨⟨⟨h0, h60⟩, hn⟩, hs⟩ := ho
  refine .inr ⟨_, sx_seq (sx_set (ExF.ex (exf_rgI (ex_lenT (enc := D.int) (ex_ixT (enc := ti) (ea_var rfl) ex_int (atI_0 (d := []) h0))) (by omega))) rfl) (sx_forT (enc := fun k : Nat => .tup [.int (k : Nat), ti (mv.getD k [])]) (ys := List.range mv.length) (S := fun _ : Unit => [.val (mvD mv), .val (li (rangeI (mv.getD 0 []).length)), .no, .no]) (fun _ _ => ()) () (ew_enumTr (f := ti) [] (ea_var rfl)) fun pre k post h => ⟨_, [2, 3], gx_two (by simp) (by simp), ?_⟩), rfl⟩
  have hk := List.mem_range.mp (mem_mid h)
  have hm : mv.getD k [] ∈ mv := by
    rw [List.getD_eq_getElem?_getD, List.getElem?_eq_getElem hk]
    exact List.getElem_mem hk
  have e := hs _ hm
  exact sx_weak (sx_ifF (ext_test (ex_neL (ExF.l (exf_srtT (ea_var rfl) (isort_perm leI _) (isortI_sorted _))) (EA.toL (ea_var rfl)))) (by rw [decide_eq_true e]; rfl) (sx_nil rfl)) (by repeat (first | exact Le.nil | apply Le.same | apply Le.drop))
def N_followed : List Str := ["first", "second", "place"]
abbrev ps_followed : List Str := ["first", "second"]
theorem sc_followed : FnScope N_followed ps_followed (defScope (top 60)) := ⟨rfl, rfl, rfl, by decide +kernel, rfl, by decide +kernel, by decide +kernel⟩
def R_followed : FP := fun as d => ∃ a b r : List Int, as = [.v (ti a), .v (ti b)] ∧ a.length ≤ 500 ∧ folM a b = some r ∧ d = tki r
theorem w_followed (T : Tx W.K mg) : BodyOk P w W mg base k N_followed "followed" (top 60) R_followed := by
  intro f cdv A outer s H E hr
  refine ⟨_, (pss_one (ps_ret (pe_callTy call_tuple_of (by rfl) T.tuple boot_tuple (pa_cons (pe_lc (own := [("place", 2)]) rfl sc_followed.nd (pi_tup (pv 0)) (blkOk_by (N := N_followed) (sc := defScope (top 60)) (by decide +kernel)) (fun _ _ _ _ _ => pg_cast (pg_name (i := 2) sc_followed.nd rfl (by first | exact Or.inl rfl | exact Or.inr rfl)) (by first | exact rfl | (dsimp only [blk_K]; done) | (dsimp only [blk_K]; exact rfl))) (fun _ _ _ _ _ => pts_cast pts_nil (by first | exact rfl | (dsimp only [blk_K]; done) | (dsimp only [blk_K]; exact rfl))) (fun _ _ _ _ _ => pe_cast (pe_ix ix_tup (pv 1) (pv 2) (fun _ _ => rfl)) (by first | exact rfl | (dsimp only [blk_K]; done) | (dsimp only [blk_K]; exact rfl)))) pa_nil)))), ?_⟩
  rintro as d ⟨a, b, r, rfl, hl, hf, rfl⟩
  unfold folM at hf
  split at hf
  · rename_i ha
    cases hf
    rw [List.all_eq_true] at ha
    exact .inl (sx_ret (ex_tupFk (ExF.to (b := (a.map fun q => (atI b q).getD 0).map D.int) (exf_lcT1 (enc := D.int) (ys := a) (fun q => .int ((atI b q).getD 0)) (ew_tup (ea_var rfl)) (fun q hq => ⟨_, gx_name (by simp), ex_ixT (enc := D.int) (ea_var rfl) (ea_var rfl) (getD_some (ha q hq))⟩) (small_of (by omega))) (by rw [List.map_map]; rfl))) rfl)
  · cases hf
def N_closed_moves : List Str := ["moves", "same", "found", "known", "at", "move", "made"]
abbrev ps_closed_moves : List Str := ["moves"]
theorem sc_closed_moves : FnScope N_closed_moves ps_closed_moves (defScope (top 61)) := ⟨rfl, rfl, rfl, by decide +kernel, rfl, by decide +kernel, by decide +kernel⟩
def R_closed_moves : FP := fun as d => ∃ mv zs : List (List Int), as = [.v (mvD mv)] ∧ 0 < mv.length ∧ 0 < (mv.getD 0 []).length ∧ (mv.getD 0 []).length ≤ 60 ∧ cmM mv = some zs ∧ d = .lst (zs.map tki)
theorem w_closed_moves (T : Tx W.K mg) (c_followed : C8.Cal P w W.K mg base 1 "followed" (spOf W R_followed) []) : BodyOkD P w W mg base 1 N_closed_moves "closed_moves" (top 61) R_closed_moves := by
  intro f cdv A outer s H E hr
  rintro as d ⟨mv, zs, rfl, h0, h1, h60, hm, rfl⟩
  refine ⟨_, (pss_cons (ps_set (i := 1) sc_closed_moves.nd rfl (by first | exact Or.inl rfl | exact Or.inr rfl) (pe_tupRg rfl (by rfl) T.tuple (prg_1 (by rfl) T.range (pe_callB call_len_seq (by rfl) T.len PySem.boot_len (pa_cons (pe_ix ix_tup (pv 0) pe_int (fun _ _ => rfl)) pa_nil)))))
    (pss_cons (ps_set (i := 2) sc_closed_moves.nd rfl (by first | exact Or.inl rfl | exact Or.inr rfl) (pe_lst (pa_cons (pv 1) pa_nil)))
    (pss_cons (ps_set (i := 3) sc_closed_moves.nd rfl (by first | exact Or.inl rfl | exact Or.inr rfl) (pe_dsp1 (hu_of hr) (pv 1) pe_bl))
    (pss_cons (ps_set (i := 4) sc_closed_moves.nd rfl (by first | exact Or.inl rfl | exact Or.inr rfl) pe_int)
    (pss_cons (ps_while PassesOwn.never (pt_cmpR op_lt (pv 4) (pe_callB call_len_seq (by rfl) T.len PySem.boot_len (pa_cons (pv 2) pa_nil)) (nomark _)) (pss_cons (ps_for PassesOwn.never rfl (pi_tup (pv 0)) (pg_name (i := 5) sc_closed_moves.nd rfl (by first | exact Or.inl rfl | exact Or.inr rfl)) (pss_cons (ps_set (i := 6) sc_closed_moves.nd rfl (by first | exact Or.inl rfl | exact Or.inr rfl) (C8.pe_c c_followed hr (by decide) (by rfl) (pa_cons (pe_ix ix_list (pv 2) (pv 4) (fun _ _ => rfl)) (pa_cons (pv 5) pa_nil))))
      (pss_one (ps_if (pt_cmp (pc_dnotin (hu_of hr) (pv 6) (pv 3))) (pss_cons (ps_if (pt_cmpR op_eq (pe_callB call_len_seq (by rfl) T.len PySem.boot_len (pa_cons (pv 2) pa_nil)) (pe_glob (v := V.int 60) (by rfl) T.mm.choose_spec ⟨_, rfl⟩) (nomark _)) pss_never pss_nil)
       (pss_cons (ps_dput (hu_of hr) (pv 3) (pv 6) pe_bl rfl)
       (pss_one (ps_expr (pe_bm PySem.F.plainAttrs_list PySem.F.slot_list_append PySem.F.type_list_append mt_append (pv 2) (pa_cons (pv 6) pa_nil)))))) pss_nil))))
     (pss_one (ps_aug (i := 4) sc_closed_moves.nd rfl (by first | exact Or.inl rfl | exact Or.inr rfl) pe_int iop_add))))
    (pss_one (ps_ret (pe_callB (cr_sortT (d := (mv.getD 0 []).length) (B := ((mv.getD 0 []).length : Int)) h1) (by rfl) T.sorted (by rfl) (pa_cons (pv 2) pa_nil))))))))), ?_⟩
  unfold cmM at hm
  split at hm
  · cases hm
  rename_i st hst
  split at hm
  · rename_i hs
    cases hm
    unfold srtB at hs
    simp only [Bool.and_eq_true, List.all_eq_true, decide_eq_true_eq, Bool.or_eq_true, Bool.not_eq_true', decide_eq_false_iff_not] at hs
    obtain ⟨⟨⟨⟨hs1, hs2⟩, hs3⟩, hs4⟩, hs5⟩ := hs
    refine .inl (sx_seq (sx_set (ex_trgK (ex_lenT (enc := D.int) (ex_ixT (enc := ti) (ea_var rfl) ex_int (atI_0 (d := []) h0))) (by omega)) rfl) (sx_seq (sx_setM (exf_one (enc := tki) _ (ea_var rfl)) rfl) (sx_seq (sx_setD (exdt_one (ea_var rfl) ex_bl rfl) rfl) (sx_seq (sx_set ex_int rfl) (sx_seq (sx_whM (S := fun st : CmS × Nat => [.val (mvD mv), .val (tki (rangeI (mv.getD 0 []).length)), .mu (st.1.1.map tki), .dt st.1.2, .val (.int (st.2 : Nat)), .no, .no]) cmC (cmTurn mv) 100 (cmInit mv) st hst (fun st => ext_test (ex_ltI (ea_var rfl) (ex_lenM (ea_mu rfl)))) fun st st' _ ht => ?_) (sx_ret (exf_srtU (ea_mu rfl) hs1 (fun x hx => ⟨(hs2 x hx).1, fun m hm => (hs2 x hx).2 m hm⟩) hs3 hs4 (fun a ha b hb l1 l2 => ?_)).ex rfl))))))
    · unfold cmTurn at ht
      split at ht
      · cases ht
      rename_i r hr
      cases ht
      obtain ⟨st, a0⟩ := st
      refine sx_weak (sx_seq (sx_forM (enc := ti) (ys := mv) (S := fun st : CmS => [.val (mvD mv), .val (tki (rangeI (mv.getD 0 []).length)), .mu (st.1.map tki), .dt st.2, .val (.int (a0 : Nat)), .no, .no]) (cmStep a0) st r hr (ew_tup (ea_var rfl)) fun a move a' hx hF => ⟨_, [5], gx_name (by simp), ?_⟩) (sx_aug rfl ex_int (og_ii (f := fun i j => i + j)) rfl)) (by repeat (first | exact Le.nil | apply Le.same | apply Le.drop))
      unfold cmStep at hF
      split at hF
      · cases hF
      rename_i cur hcur
      split at hF
      · rename_i hl5
        split at hF
        · cases hF
        rename_i made hmade
        refine sx_seq (sx_set (ex_call (R := R_followed) ⟨cur, move, made, rfl, hl5, hmade, rfl⟩ (exa_cons (EA.tk (ex_ixL (enc := tki) (ea_mu rfl) (ea_var rfl) hcur)) (exa_cons (ea_var rfl) exa_nil))) rfl) (sx_if (b := !(valV a.2 (kK made)).isSome) (ext_val (ex_dnotin rfl (ea_var rfl))) (fun hb => ?_) fun hb => ?_)
        · rw [Bool.not_eq_true'] at hb
          rw [if_neg (by rw [hb]; exact Bool.false_ne_true)] at hF
          split at hF
          · rename_i hg
            rw [Bool.and_eq_true] at hg
            have g1 := of_decide_eq_true hg.1
            have g2 := of_decide_eq_true hg.2
            cases hF
            exact sx_weak (sx_seq (sx_ifF (ext_test (ex_eqI (ex_lenM (ea_mu rfl)) ex_int)) (decide_eq_false (by omega)) (sx_nil rfl)) (sx_seq (sx_dput (i := 3) rfl (ea_var rfl) ex_bl rfl (small_lt (by omega)) rfl) (sx_appendT (enc := tki) rfl (ea_var rfl) (small_lt (by omega)) rfl))) (by repeat (first | exact Le.nil | apply Le.same | apply Le.drop))
          · cases hF
        · rw [Bool.not_eq_false'] at hb
          rw [if_pos hb] at hF
          cases hF
          exact sx_weak (sx_nil rfl) (by repeat (first | exact Le.nil | apply Le.same | apply Le.drop))
      · cases hF
    · rcases hs5 a ha b hb with (h | h) | h
      · exact absurd l1 h
      · exact absurd l2 h
      · exact h
  · cases hm
end
end K9
/-! text W14 -/
set_option Elab.async false
set_option linter.all false
set_option maxRecDepth 100000
set_option maxHeartbeats 2000000
set_option autoImplicit false
/-! walks: groups of moves, the shelf -/
namespace K9
open PySem PySem.Spec PyProof.Rows L2 LamX
/-! ### plain -/
def numKvs (zs : List (List Int)) : List (List Key × V) := (List.range zs.length).foldl (fun a k => putK a (kK (zs.getD k [])) (.int ((k : Nat) : Int))) []
def gomAt (zs : List (List Int)) (a b : List Int) : Option Int := match folM a b with
  | none => none
  | some r => match valV (numKvs zs) (kK r) with
    | some (.int z) => some z
    | _ => none
theorem gomAt_some {zs : List (List Int)} {a b : List Int} (h : (gomAt zs a b).isSome = true) : ∃ r, folM a b = some r ∧ valV (numKvs zs) (kK r) = some (.int ((gomAt zs a b).getD 0)) := by
  unfold gomAt at h ⊢
  cases q : folM a b with
  | none => rw [q] at h; cases h
  | some r =>
    rw [q] at h
    refine ⟨r, rfl, ?_⟩
    simp only at h ⊢
    split at h
    · rename_i z hz
      rw [hz]
      rfl
    · cases h
def gomRows (zs : List (List Int)) : List (List Int) := zs.map fun a => zs.map fun b => (gomAt zs a b).getD 0
def gomOk (mv zs : List (List Int)) : Bool := mvOk mv && decide (0 < (mv.getD 0 []).length) && decide (cmM mv = some zs) && decide (zs.length ≤ 60) && (zs.all fun a => decide (a.length ≤ 500) && zs.all fun b => (gomAt zs a b).isSome) && grpOk (gomRows zs)
def shF (nm : Str) (_ : Unit) (e : Str × List (List Int)) : Option (Stp Unit) := if e.1 = nm then (match cmM e.2 with
  | none => none
  | some zs => if gomOk e.2 zs = true then some (.out (grpD (gomRows zs))) else none) else some (.go ())
def shG (nm : Str) : Option (Stp Unit) := runX (shF nm) () shelf
section
variable {P : Program} {w : World} {W : Wd} {mg : Str → Option Value} {base : Heap} {k : Nat}
def N_group_of_moves : List Str := ["moves", "numbered", "number", "at", "move", "rows", "b", "a"]
abbrev ps_group_of_moves : List Str := ["moves"]
theorem sc_group_of_moves : FnScope N_group_of_moves ps_group_of_moves (defScope (top 62)) := ⟨rfl, rfl, rfl, by decide +kernel, rfl, by decide +kernel, by decide +kernel⟩
def R_group_of_moves : FP := fun as d => ∃ mv zs : List (List Int), as = [.v (mvD mv)] ∧ gomOk mv zs = true ∧ d = .tup [grpD (gomRows zs), .lst (zs.map tki)]
theorem w_group_of_moves (T : Tx W.K mg) (c_check_moves : C8.Cal P w W.K mg base 1 "check_moves" (spOf W R_check_moves) []) (c_closed_moves : C8.Cal P w W.K mg base 2 "closed_moves" (spOf W R_closed_moves) []) (c_followed : C8.Cal P w W.K mg base 1 "followed" (spOf W R_followed) []) (c_Group : C8.Mak P w W.K mg base 5 "Group" (W.cl 0) (spI W 0 R_Group) []) : BodyOk P w W mg base 6 N_group_of_moves "group_of_moves" (top 62) R_group_of_moves := by
  intro f cdv A outer s H E hr
  refine ⟨_, (pss_cons (ps_expr (C8.pe_c c_check_moves hr (by decide) (by rfl) (pa_cons (pv 0) pa_nil)))
    (pss_cons (ps_set (i := 1) sc_group_of_moves.nd rfl (by first | exact Or.inl rfl | exact Or.inr rfl) (C8.pe_c c_closed_moves hr (by decide) (by rfl) (pa_cons (pv 0) pa_nil)))
    (pss_cons (ps_set (i := 2) sc_group_of_moves.nd rfl (by first | exact Or.inl rfl | exact Or.inr rfl) (pe_dcT (own := [("at", 3), ("move", 4)]) rfl (hu_of hr) sc_group_of_moves.nd (pi_enum (by rfl) T.enum (pa_cons (pv 1) pa_nil)) (blkOk_by (N := N_group_of_moves) (sc := defScope (top 62)) (by decide +kernel)) (fun _ _ _ _ _ => pg_cast (pg_tup (n := 2) rfl (pgs_cons (pg_name (i := 3) sc_group_of_moves.nd rfl (by first | exact Or.inl rfl | exact Or.inr rfl)) (pgs_cons (pg_name (i := 4) sc_group_of_moves.nd rfl (by first | exact Or.inl rfl | exact Or.inr rfl)) pgs_nil))) (by first | exact rfl | (dsimp only [blk_K]; done) | (dsimp only [blk_K]; exact rfl))) (fun _ _ _ _ _ => pe_cast (pv 4) (by first | exact rfl | (dsimp only [blk_K]; done) | (dsimp only [blk_K]; exact rfl))) (fun _ _ _ _ _ => pe_cast (pv 3) (by first | exact rfl | (dsimp only [blk_K]; done) | (dsimp only [blk_K]; exact rfl)))))
    (pss_cons (ps_setLc (i := 5) (own := [("a", 7)]) rfl sc_group_of_moves.nd rfl rfl (sw_true rfl rfl rfl (by decide +kernel)) (pi_list (pv 1)) (blkOk_by (N := N_group_of_moves) (sc := defScope (top 62)) (by decide +kernel)) (fun _ _ _ _ _ => pg_cast (pg_name (i := 7) sc_group_of_moves.nd rfl (by first | exact Or.inl rfl | exact Or.inr rfl)) (by first | exact rfl | (dsimp only [blk_K]; done) | (dsimp only [blk_K]; exact rfl))) (fun _ _ _ _ _ => pts_cast pts_nil (by first | exact rfl | (dsimp only [blk_K]; done) | (dsimp only [blk_K]; exact rfl))) (fun _ _ _ _ _ => pe_cast (pe_lc (own := [("b", 6)]) rfl sc_group_of_moves.nd (pi_list (pv 1)) (blkOk_by (by rfl)) (fun _ _ _ _ _ => pg_cast (pg_name (i := 6) sc_group_of_moves.nd rfl (by first | exact Or.inl rfl | exact Or.inr rfl)) (by first | exact rfl | (dsimp only [blk_K]; done) | (dsimp only [blk_K]; exact rfl))) (fun _ _ _ _ _ => pts_cast pts_nil (by first | exact rfl | (dsimp only [blk_K]; done) | (dsimp only [blk_K]; exact rfl))) (fun _ _ _ _ _ => pe_cast (pe_dget (hu_of hr) (pv 2) (C8.pe_c c_followed hr (by decide) (by rfl) (pa_cons (pv 7) (pa_cons (pv 6) pa_nil))) (fun _ _ => rfl)) (by first | exact rfl | (dsimp only [blk_K]; done) | (dsimp only [blk_K]; exact rfl)))) (by first | exact rfl | (dsimp only [blk_K]; done) | (dsimp only [blk_K]; exact rfl))))
    (pss_one (ps_ret (pe_tup (pa_cons (C8.pe_mk c_Group hr (by decide) (by rfl) (pa_cons (pv 5) pa_nil)) (pa_cons (pv 1) pa_nil))))))))), ?_⟩
  rintro as d ⟨mv, zs, rfl, ho, rfl⟩
  unfold gomOk at ho
  simp only [Bool.and_eq_true, List.all_eq_true, decide_eq_true_eq] at ho
  obtain ⟨⟨⟨⟨⟨hm, hn⟩, hc⟩, h60⟩, ha⟩, hg⟩ := ho
  have hm2 := hm
  unfold mvOk at hm2
  simp only [Bool.and_eq_true, List.all_eq_true, decide_eq_true_eq] at hm2
  obtain ⟨⟨⟨h0, _⟩, hn60⟩, _⟩ := hm2
  refine .inl (sx_seq (sx_drop (ex_call (R := R_check_moves) ⟨mv, rfl, hm, rfl⟩ (exa_cons (ea_var rfl) exa_nil)) rfl) (sx_seq (sx_set (ex_call (R := R_closed_moves) ⟨mv, zs, rfl, h0, hn, hn60, hc, rfl⟩ (exa_cons (ea_var rfl) exa_nil)) rfl)
    (sx_seq (sx_setD (kvs := numKvs zs) (exdt_dc (enc := fun k : Nat => .tup [.int (k : Nat), tki (zs.getD k [])]) (ys := List.range zs.length) (fun k => zs.getD k []) (fun k => ((k : Nat) : Int)) (ew_enumLr (f := tki) [] (ea_var rfl)) (fun k hk => ⟨_, gx_two (by simp) (by simp), ea_var rfl, ea_var rfl⟩) (by rw [List.length_range]; omega)) rfl)
    (sx_seq (sx_set (Ex.to (b := lliD (gomRows zs)) (ExF.ex (exf_lcT1 (enc := tki) (ys := zs) (fun a => li (zs.map fun b => (gomAt zs a b).getD 0)) (ew_list (ea_var rfl)) (fun a hza => ⟨_, gx_name (by simp), Ex.to (ExF.ex (exf_lcT1 (enc := tki) (ys := zs) (fun b => .int ((gomAt zs a b).getD 0)) (ew_list (ea_var rfl)) (fun b hzb => ⟨_, gx_name (by simp), by
    obtain ⟨r, h1, h2⟩ := gomAt_some ((ha a hza).2 b hzb)
    exact ex_dget (i := 2) rfl (ex_call (R := R_followed) ⟨a, b, r, rfl, (ha a hza).1, h1, rfl⟩ (exa_cons (EA.tk (ea_var rfl)) (exa_cons (EA.tk (ea_var rfl)) exa_nil))) h2⟩) (small_of (by omega)))) (by unfold li; rw [List.map_map]; rfl)⟩) (small_of (by omega)))) (by unfold gomRows lliD; rw [List.map_map]; rfl)) rfl)
    (sx_ret (ex_tup (ds := [grpD (gomRows zs), .lst (zs.map tki)]) (show 2 ≤ sizeLine by decide) (exa_cons (ex_make (R := R_Group) ⟨gomRows zs, rfl, hg, rfl⟩ (exa_cons (ea_var rfl) exa_nil)) (exa_cons (ea_var rfl) exa_nil))) rfl)))))
def N_shelf_names : List Str := ["name", "moves"]
abbrev ps_shelf_names : List Str := []
theorem sc_shelf_names : FnScope N_shelf_names ps_shelf_names (defScope (top 65)) := ⟨rfl, rfl, rfl, by decide +kernel, rfl, by decide +kernel, by decide +kernel⟩
def R_shelf_names : FP := fun as d => as = [] ∧ d = .lst ((shelf.map (·.1)).map D.str)
theorem w_shelf_names {aSHELF : Addr} (gSHELF : mg "SHELF" = some (.ref aSHELF)) (hS : ∀ B, Den W B shelfD (.ref aSHELF)) : BodyOk P w W mg base k N_shelf_names "shelf_names" (top 65) R_shelf_names := by
  intro f cdv A outer s H E hr
  refine ⟨_, (pss_one (ps_ret (pe_lc (own := [("name", 0), ("moves", 1)]) rfl sc_shelf_names.nd (pi_tup (pe_glob (v := V.ref aSHELF) (by rfl) gSHELF rfl)) (blkOk_by (N := N_shelf_names) (sc := defScope (top 65)) (by decide +kernel)) (fun _ _ _ _ _ => pg_cast (pg_tup (n := 2) rfl (pgs_cons (pg_name (i := 0) sc_shelf_names.nd rfl (by first | exact Or.inl rfl | exact Or.inr rfl)) (pgs_cons (pg_name (i := 1) sc_shelf_names.nd rfl (by first | exact Or.inl rfl | exact Or.inr rfl)) pgs_nil))) (by first | exact rfl | (dsimp only [blk_K]; done) | (dsimp only [blk_K]; exact rfl))) (fun _ _ _ _ _ => pts_cast pts_nil (by first | exact rfl | (dsimp only [blk_K]; done) | (dsimp only [blk_K]; exact rfl))) (fun _ _ _ _ _ => pe_cast (pv 0) (by first | exact rfl | (dsimp only [blk_K]; done) | (dsimp only [blk_K]; exact rfl)))))), ?_⟩
  rintro as d ⟨rfl, rfl⟩
  exact .inl (sx_ret (ExF.ex (ExF.to (b := (shelf.map (·.1)).map D.str) (exf_lcT1 (enc := entD) (ys := shelf) (fun e => .str e.1) (ew_tup (ex_cD hS)) (fun e he => ⟨_, gx_two (by simp) (by simp), ea_var rfl⟩) (by decide)) (by rw [List.map_map]; rfl))) rfl)
def N_shelf_group : List Str := ["name", "known", "moves"]
abbrev ps_shelf_group : List Str := ["name"]
theorem sc_shelf_group : FnScope N_shelf_group ps_shelf_group (defScope (top 66)) := ⟨rfl, rfl, rfl, by decide +kernel, rfl, by decide +kernel, by decide +kernel⟩
def R_shelf_group : FP := fun as d => ∃ nm : Str, as = [.v (.str nm)] ∧ shG nm = some (.out d)
theorem w_shelf_group {aSHELF : Addr} (gSHELF : mg "SHELF" = some (.ref aSHELF)) (hS : ∀ B, Den W B shelfD (.ref aSHELF)) (c_group_of_moves : C8.Cal P w W.K mg base 7 "group_of_moves" (spOf W R_group_of_moves) []) : BodyOk P w W mg base 7 N_shelf_group "shelf_group" (top 66) R_shelf_group := by
  intro f cdv A outer s H E hr
  refine ⟨_, (pss_cons (ps_for PassesOwn.never rfl (pi_tup (pe_glob (v := V.ref aSHELF) (by rfl) gSHELF rfl)) (pg_tup (n := 2) rfl (pgs_cons (pg_name (i := 1) sc_shelf_group.nd rfl (by first | exact Or.inl rfl | exact Or.inr rfl)) (pgs_cons (pg_name (i := 2) sc_shelf_group.nd rfl (by first | exact Or.inl rfl | exact Or.inr rfl)) pgs_nil))) (pss_one (ps_if (pt_cmpR op_eq (pv 1) (pv 0) (nomark _)) (pss_one (ps_ret (pe_ix ix_tup (C8.pe_c c_group_of_moves hr (by decide) (by rfl) (pa_cons (pv 2) pa_nil)) pe_int (fun _ _ => rfl)))) pss_nil)))
    (pss_one ps_never)), ?_⟩
  rintro as d ⟨nm, rfl, hm⟩
  unfold shG at hm
  refine .inl (sx_seq_rt (sx_forXM (S := fun _ : Unit => [.val (.str nm), .no, .no]) (shF nm) () (.out d) hm (ew_tup (ex_cD hS)) fun _ e z he hz => ⟨_, [1, 2], gx_two (by simp) (by simp), ?_⟩))
  unfold shF at hz
  refine sx_if (b := decide (e.1 = nm)) (ext_test (ex_eqS (ea_var rfl) (ea_var rfl))) (fun hb => ?_) fun hb => ?_
  · rw [if_pos (of_decide_eq_true hb)] at hz
    split at hz
    · cases hz
    rename_i zs hzs
    split at hz
    · rename_i ho
      cases hz
      exact sx_ret (ex_op (og_ixT (d := grpD (gomRows zs)) rfl) (ex_call (R := R_group_of_moves) ⟨e.2, zs, rfl, ho, rfl⟩ (exa_cons (ea_var rfl) exa_nil)) ex_int) rfl
    · cases hz
  · rw [if_neg (of_decide_eq_false hb)] at hz
    cases hz
    exact sx_weak (sx_nil rfl) (by repeat (first | exact Le.nil | apply Le.same | apply Le.drop))
def N_least_group : List Str := ["shape", "table", "name"]
abbrev ps_least_group : List Str := ["shape", "table"]
theorem sc_least_group : FnScope N_least_group ps_least_group (defScope (top 68)) := ⟨rfl, rfl, rfl, by decide +kernel, rfl, by decide +kernel, by decide +kernel⟩
abbrev decR (rows : List (List Int)) (p : Nat) (tab : List Int) (d : D) : Prop := R_deciding_chart [.v (grpD rows), .v (shp p), .v (ti tab)] d
def R_least_group : FP := fun as d => ∃ (p : Nat) (tab : List Int) (pre : List Str) (nm : Str) (post : List Str), as = [.v (shp p), .v (ti tab)] ∧ shelf.map (·.1) = pre ++ nm :: post ∧ (∀ x ∈ pre, ∃ rows, shG x = some (.out (grpD rows)) ∧ decR rows p tab .non) ∧ (∃ rows e, shG nm = some (.out (grpD rows)) ∧ decR rows p tab e ∧ e.isNon = false) ∧ d = .str nm
theorem w_least_group (c_shelf_names : C8.Cal P w W.K mg base 1 "shelf_names" (spOf W R_shelf_names) []) (c_shelf_group : C8.Cal P w W.K mg base 8 "shelf_group" (spOf W R_shelf_group) []) (c_deciding_chart : C8.Cal P w W.K mg base 9 "deciding_chart" (spOf W R_deciding_chart) []) : BodyOk P w W mg base 9 N_least_group "least_group" (top 68) R_least_group := by
  intro f cdv A outer s H E hr
  refine ⟨_, (pss_cons (ps_for PassesOwn.never rfl (pi_list (pe_c0 c_shelf_names hr (by decide) (by rfl))) (pg_name (i := 2) sc_least_group.nd rfl (by first | exact Or.inl rfl | exact Or.inr rfl)) (pss_one (ps_if (pt_cmpR op_notN (C8.pe_c c_deciding_chart hr (by decide) (by rfl) (pa_cons (C8.pe_c c_shelf_group hr (by decide) (by rfl) (pa_cons (pv 2) pa_nil)) (pa_cons (pv 0) (pa_cons (pv 1) pa_nil)))) pe_non (nomark _)) (pss_one (ps_ret (pv 2))) pss_nil)))
    (pss_one (ps_ret pe_non))), ?_⟩
  rintro as d ⟨p, tab, pre, nm, post, rfl, hsp, hpre, ⟨rows, e, hg, hd, he⟩, rfl⟩
  refine .inl (sx_seq_rt (sx_forTX (enc := D.str) (S := fun _ : Unit => [.val (shp p), .val (ti tab), .no]) (fun _ _ => ()) () hsp (ew_list (ex_call (R := R_shelf_names) ⟨rfl, rfl⟩ exa_nil)) (fun pre1 y post1 hy => ⟨_, [2], gx_name (by simp), ?_⟩) ⟨_, [2], gx_name (by simp), sx_ifT (ext_test (ex_op og_notN (ex_call (R := R_deciding_chart) hd (exa_cons (ex_call (R := R_shelf_group) ⟨nm, rfl, hg⟩ (exa_cons (ea_var rfl) exa_nil)) (exa_cons (ea_var rfl) (exa_cons (ea_var rfl) exa_nil)))) ex_non)) (by rw [he]; rfl) (sx_ret (ea_var rfl) rfl)⟩))
  obtain ⟨rows1, hg1, hd1⟩ := hpre y (mem_mid hy)
  exact sx_weak (sx_ifF (ext_test (ex_op og_notN (ex_call (R := R_deciding_chart) hd1 (exa_cons (ex_call (R := R_shelf_group) ⟨y, rfl, hg1⟩ (exa_cons (ea_var rfl) exa_nil)) (exa_cons (ea_var rfl) (exa_cons (ea_var rfl) exa_nil)))) ex_non)) rfl (sx_nil rfl)) (by repeat (first | exact Le.nil | apply Le.same | apply Le.drop))
end
end K9
/-! text W15 -/
set_option Elab.async false
set_option linter.all false
set_option maxRecDepth 100000
set_option maxHeartbeats 2000000
set_option autoImplicit false
/-! walks: programs -/
namespace K9
open PySem PySem.Spec PyProof.Rows L2 LamX
/-! ### x(..), x an instance with a __call__ -/
def tCallI (C : Addr) (sp : Sp) (E : XK) (tf : TE) (t : TA) : TE := fun σ H Q => tf σ H fun y H1 => ∃ a, y = V.ref a ∧ t σ H1 fun vs H2 => (∃ dx fs, H2 a = some (.ins C dx fs)) ∧ sp (V.ref a :: vs) H2 Q E
theorem pe_callI {X : Cx} {CX : CXT} {k : Nat} {C g : Addr} {sp : Sp} {E : XK} {e fe : Expr} {es : List Expr} {tf : TE} {t : TA} {pos : Pos} (hf : PE X fe tf) (c : StX.CallO X.K C g) (F : FnR X.prog X.w X.K X.mg X.base CX k g sp) (hr : Room k X.A) (hx : Passes CX X E) (ha : PA X (e :: es) t)
    (ht : eval (.Call fe (e :: es) [] pos) X.env = (do callWith pos (← eval fe X.env) [] (backTo pos (starEach (e :: es) X.env)) (backToKw pos (keywordEach [] X.env))) := by rfl)
    (he : starEach (e :: es) X.env = (false, eval e X.env) :: starEach es X.env := by rfl) (hpl : (backTo pos (starEach es X.env)).any (·.1) = false := by rfl) : PE X (.Call fe (e :: es) [] pos) (tCallI C sp E tf t) := by
  refine ⟨fun pins s σ H Q I h => ?_⟩
  refine Call_ (thn (hf.run pins s σ H _ I h) fun u s1 ⟨y, H1, I1, ry, a, ey, q⟩ => ?_) ht
  subst ey
  obtain rfl : u = Value.ref a := ry
  refine StX.callO_with (thn (ha.run pos pins s1 σ H1 _ I1 q) fun us s2 ⟨vs, H2, I2, r, ⟨dx, fs, hi⟩, q2⟩ => ?_) he hpl
  have hi2 : StX.InsC X H2 a C := .inr ⟨dx, fs, hi⟩
  obtain ⟨ox, od, J, hd⟩ := StX.insC_at I2 hi2
  exact ⟨⟨C, ox, od, J, hd⟩, StX.run_callO c F hr hx I2 hi2 r q2⟩
theorem ex_callI {W : Wd} {δ : Sto} {c : Nat} {E : XK} {R : FP} {tf : TE} {t : TA} {as : List AD} {fs : List (Str × D)} {d : D} (h : Ex W tf δ (.ins c fs)) (hR : R (.v (.ins c fs) :: as) d) (ht : ExA W t δ as) : Ex W (tCallI (W.cl c) (spOf W R) E tf t) δ d := fun H0 B H σ s Q q =>
  h H0 B H σ s _ fun x B1 H1 e1 ax => by
    obtain ⟨p, dx, gs, rfl, hp, hf⟩ := Den.ins_iff.mp ax.den
    refine ⟨p, rfl, ?_⟩
    exact ht H0 B1 H1 σ (s.ext e1) _ fun xs B2 H2 e2 axs => ⟨⟨dx, gs, e2.ok.sub _ _ (e2.bb _ _ hp)⟩, B2, .v (.ins c fs) :: as, d, e2.ok, ⟨.ref p, xs, rfl, ax.ext e2, axs⟩, hR, fun v B3 H3 e3 d3 => q v B3 H3 ((e1.trans e2).trans e3) d3⟩
/-! ### plain -/
inductive Sp1 where
  | put (m : Int) | ife (pl : Nat) (v m : Int)
def Sp1.d : Sp1 → D
  | .put m => .tup [.str "put", .int m]
  | .ife pl v m => .tup [.str "if", .int (pl : Nat), .int v, .int m]
def Sp1.ok (rows : List (List Int)) (p : Nat) : Sp1 → Prop
  | .put m => InR rows m
  | .ife pl v m => pl < p ∧ 0 ≤ v ∧ v < 2 ∧ InR rows m
def Sp1.on (signs : List Int) : Sp1 → Bool
  | .put _ => true
  | .ife pl v _ => decide (signs.getD pl 0 = v)
def Sp1.m : Sp1 → Int
  | .put m => m
  | .ife _ _ m => m
def runP (rows : List (List Int)) (sts : List Sp1) (signs : List Int) : Int := sts.foldl (fun r st => if st.on signs = true then tot rows r st.m else r) 0
abbrev prgF (rows : List (List Int)) (p : Nat) (sts : List Sp1) : List (Str × D) := [("group", grpD rows), ("shape", shp p), ("steps", .tup (sts.map Sp1.d))]
abbrev prgD (rows : List (List Int)) (p : Nat) (sts : List Sp1) : D := .ins 2 (prgF rows p sts)
theorem shp_at {p pl : Nat} (h : pl < p) : atI (List.replicate p (2 : Int)) ((pl : Nat) : Int) = some 2 := by
  rw [atI_n (by rw [List.length_replicate]; exact h), List.getElem_replicate]
section
variable {P : Program} {w : World} {W : Wd} {mg : Str → Option Value} {base : Heap} {k : Nat}
def N_is_step : List Str := ["group", "shape", "step"]
abbrev ps_is_step : List Str := ["group", "shape", "step"]
theorem sc_is_step : FnScope N_is_step ps_is_step (defScope (top 70)) := ⟨rfl, rfl, rfl, by decide +kernel, rfl, by decide +kernel, by decide +kernel⟩
def R_is_step : FP := fun as d => ∃ (rows : List (List Int)) (p : Nat) (st : Sp1), as = [.v (grpD rows), .v (shp p), .v st.d] ∧ st.ok rows p ∧ d = .bl true
theorem w_is_step {gI : Addr} (T : Tx W.K mg) (hIn : Spc W.K (W.cl 0) "__contains__" gI) (fIn : FnR P w W.K mg base C8.CX0 1 gI (spOf W R_gin)) : BodyOk P w W mg base 1 N_is_step "is_step" (top 70) R_is_step := by
  intro f cdv A outer s H E hr
  refine ⟨_, (pss_cons (ps_if (pt_cmpR op_eq (pe_ix ix_tup (pv 2) pe_int (fun _ _ => rfl)) pe_str (nomark _)) (pss_one (ps_ret (pe_and (pe_cmpR op_eq (pe_callB call_len_seq (by rfl) T.len PySem.boot_len (pa_cons (pv 2) pa_nil)) pe_int (nomark _)) (pe_one (pe_cmpR (op_inO (E := C8.E0) hIn fIn (hr.mono (by decide)) C8.pass0) (pe_ix ix_tup (pv 2) pe_int (fun _ _ => rfl)) (pv 0) (by with_unfolding_all rfl)))))) pss_nil)
    (pss_cons (ps_if (PW.pt (pw_or (pt_cmpR op_ne (pe_ix ix_tup (pv 2) pe_int (fun _ _ => rfl)) pe_str (nomark _)) (pw_or (pt_cmpR op_ne (pe_callB call_len_seq (by rfl) T.len PySem.boot_len (pa_cons (pv 2) pa_nil)) pe_int (nomark _)) (pw_or1 (pt_not (pt_chain op_le op_lt pe_int (pe_ix ix_tup (pv 2) pe_int (fun _ _ => rfl)) (pe_callB call_len_seq (by rfl) T.len PySem.boot_len (pa_cons (pv 1) pa_nil)))))))) (pss_one (ps_ret pe_bl)) pss_nil)
    (pss_one (ps_ret (pe_and (pe_chain op_le op_lt pe_int (pe_ix ix_tup (pv 2) pe_int (fun _ _ => rfl)) (pe_ix ix_tup (pv 1) (pe_ix ix_tup (pv 2) pe_int (fun _ _ => rfl)) (fun _ _ => rfl))) (pe_one (pe_cmpR (op_inO (E := C8.E0) hIn fIn (hr.mono (by decide)) C8.pass0) (pe_ix ix_tup (pv 2) pe_int (fun _ _ => rfl)) (pv 0) (by with_unfolding_all rfl)))))))), ?_⟩
  rintro as d ⟨rows, p, st, rfl, hok, rfl⟩
  cases st with
  | put m =>
    exact .inl (sx_seq_rt (sx_ifT (ext_test (ex_eqS (ex_op (og_ixT (d := .str "put") rfl) (ea_var rfl) ex_int) ex_str)) rfl (sx_ret (ex_andV (ex_eqI (ex_len (EA.tupS (ea_var rfl)) rfl) ex_int) (fun _ => ex_op (og_inO (R := R_gin) ⟨rows, m, rfl, rfl⟩) (ex_op (og_ixT (d := .int m) rfl) (ea_var rfl) ex_int) (ea_var rfl)) (fun h => by cases h)) (by rw [decide_eq_true hok.1, decide_eq_true hok.2]; rfl))))
  | ife pl v m =>
    obtain ⟨h1, h2, h3, h4⟩ := hok
    refine .inl (sx_seq (sx_ifF (ext_test (ex_eqS (ex_op (og_ixT (d := .str "if") rfl) (ea_var rfl) ex_int) ex_str)) rfl (sx_nil rfl)) (sx_seq (sx_ifF (ext_or (ext_test (ex_neS (ex_op (og_ixT (d := .str "if") rfl) (ea_var rfl) ex_int) ex_str)) fun _ => ext_or (ext_test (ex_neI (ex_len (n := 4) (EA.tupS (ea_var rfl)) rfl) ex_int)) fun _ => ext_not (ext_test (ex_chainI (f := fun i j => decide (i ≤ j)) (g := fun i j => decide (i < j)) ex_int (ex_op (og_ixT (d := .int (pl : Nat)) rfl) (ea_var rfl) ex_int) (Ex.to (ex_lenT (enc := D.int) (ea_var rfl)) (by rw [List.length_replicate]))))) ?_ (sx_nil rfl))
      (sx_ret (ex_andV (ex_chainI (f := fun i j => decide (i ≤ j)) (g := fun i j => decide (i < j)) ex_int (ex_op (og_ixT (d := .int v) rfl) (ea_var rfl) ex_int) (ex_ixT (enc := D.int) (ea_var rfl) (ex_op (og_ixT (d := .int (pl : Nat)) rfl) (ea_var rfl) ex_int) (shp_at h1))) (fun _ => ex_op (og_inO (R := R_gin) ⟨rows, m, rfl, rfl⟩) (ex_op (og_ixT (d := .int m) rfl) (ea_var rfl) ex_int) (ea_var rfl)) (fun h => ?_)) ?_)))
    · rw [decide_eq_true (show (0 : Int) ≤ ((pl : Nat) : Int) by omega), decide_eq_true (show ((pl : Nat) : Int) < ((p : Nat) : Int) by omega)]
      rfl
    · rw [decide_eq_true h2, decide_eq_true h3] at h
      cases h
    · rw [decide_eq_true h4.1, decide_eq_true h4.2]
      rfl
end
end K9
/-! text W16 -/
set_option Elab.async false
set_option linter.all false
set_option maxRecDepth 100000
set_option maxHeartbeats 2000000
set_option autoImplicit false
/-! walks: programs made, run -/
namespace K9
open PySem PySem.Spec PyProof.Rows L2 LamX
section
variable {P : Program} {w : World} {W : Wd} {mg : Str → Option Value} {base : Heap} {k : Nat}
def N_Program___init__ : List Str := ["self", "group", "shape", "steps", "at", "step"]
abbrev ps_Program___init__ : List Str := ["self", "group", "shape", "steps"]
theorem sc_Program___init__ : FnScope N_Program___init__ ps_Program___init__ (defScope (itm 71 0)) := ⟨rfl, rfl, rfl, by decide +kernel, rfl, by decide +kernel, by decide +kernel⟩
def R_Program : FI := fun as fs => ∃ (rows : List (List Int)) (p : Nat) (sts : List Sp1), p ≤ 5 ∧ as = [.v (grpD rows), .v (shp p), .v (.lst (sts.map Sp1.d))] ∧ (∀ st ∈ sts, st.ok rows p) ∧ fs = prgF rows p sts
theorem w_Program___init__ (T : Tx W.K mg) (X : Kx W) (c_check_shape : C8.Cal P w W.K mg base 1 "check_shape" (spOf W R_check_shape) []) (c_is_step : C8.Cal P w W.K mg base 2 "is_step" (spOf W R_is_step) []) : InitOk P w W mg base 2 N_Program___init__ "Program.__init__" (itm 71 0) 2 R_Program := by
  intro f cdv A outer s H E hr
  refine ⟨_, (pss_cons (ps_expr (C8.pe_c c_check_shape hr (by decide) (by rfl) (pa_cons (pv 2) pa_nil)))
    (pss_cons (ps_for PassesOwn.never rfl (pi_enum (by rfl) T.enum (pa_cons (pv 3) pa_nil)) (pg_tup (n := 2) rfl (pgs_cons (pg_name (i := 4) sc_Program___init__.nd rfl (by first | exact Or.inl rfl | exact Or.inr rfl)) (pgs_cons (pg_name (i := 5) sc_Program___init__.nd rfl (by first | exact Or.inl rfl | exact Or.inr rfl)) pgs_nil))) (pss_one (ps_if (pt_not (pt_val (C8.pe_c c_is_step hr (by decide) (by rfl) (pa_cons (pv 1) (pa_cons (pv 2) (pa_cons (pv 5) pa_nil)))))) pss_never pss_nil)))
    (pss_cons (ps_fld (pv 0) (pv 1) rfl)
    (pss_cons (ps_fld (pv 0) (pe_callTy call_tuple_of (by rfl) T.tuple boot_tuple (pa_cons (pv 2) pa_nil)) rfl)
    (pss_one (ps_fld (pv 0) (pe_callTy call_tuple_of (by rfl) T.tuple boot_tuple (pa_cons (pv 3) pa_nil)) rfl)))))), ?_⟩
  rintro x as fs ⟨rows, p, sts, hp, rfl, hok, rfl⟩
  refine ⟨_, sx_seq (sx_drop (ex_call (R := R_check_shape) ⟨p, hp, rfl, rfl⟩ (exa_cons (ea_var rfl) exa_nil)) rfl)
    (sx_seq (sx_forT (enc := fun k : Nat => .tup [.int (k : Nat), (sts.getD k (.put 0)).d]) (ys := List.range sts.length) (S := fun _ : Unit => [.obj x 2 [], .val (grpD rows), .val (shp p), .val (.lst (sts.map Sp1.d)), .no, .no]) (fun _ _ => ()) () (ew_enumLr (f := Sp1.d) (.put 0) (ea_var rfl)) fun pre k post h => ⟨_, [4, 5], gx_two (by simp) (by simp), sx_weak (sx_ifF (ext_not (ext_val (ex_call (R := R_is_step) ⟨rows, p, sts.getD k (.put 0), rfl, hok _ ?_, rfl⟩ (exa_cons (ea_var rfl) (exa_cons (ea_var rfl) (exa_cons (ea_var rfl) exa_nil)))))) rfl (sx_nil rfl)) (by repeat (first | exact Le.nil | apply Le.same | apply Le.drop))⟩)
    (sx_seq (sx_fld X.c2 X.n2g rfl (ea_var rfl) (by show (0 : Nat) < 1000; decide) rfl) (sx_seq (sx_fld X.c2 X.n2s rfl (ex_tupT (ea_var rfl)) (by show (1 : Nat) < 1000; decide) rfl) (sx_fld X.c2 X.n2e rfl (ex_tupL (EA.toL (ea_var rfl))) (by show (2 : Nat) < 1000; decide) rfl)))), rfl⟩
  have hk := List.mem_range.mp (mem_mid h)
  rw [List.getD_eq_getElem?_getD, List.getElem?_eq_getElem hk]
  exact List.getElem_mem hk
def N_check_input : List Str := ["shape", "signs", "sign", "most"]
abbrev ps_check_input : List Str := ["shape", "signs"]
theorem sc_check_input : FnScope N_check_input ps_check_input (defScope (top 18)) := ⟨rfl, rfl, rfl, by decide +kernel, rfl, by decide +kernel, by decide +kernel⟩
def sgOk (p : Nat) (signs : List Int) : Prop := signs.length = p ∧ ∀ s ∈ signs, 0 ≤ s ∧ s < 2
def R_check_input : FP := fun as d => ∃ (p : Nat) (signs : List Int), p ≤ 5 ∧ as = [.v (shp p), .v (ti signs)] ∧ sgOk p signs ∧ d = .non
theorem w_check_input (T : Tx W.K mg) : BodyOk P w W mg base k N_check_input "check_input" (top 18) R_check_input := by
  intro f cdv A outer s H E hr
  refine ⟨_, (pss_one (ps_if (PW.pt (pw_or (pt_cmpR op_ne (pe_callB call_len_seq (by rfl) T.len PySem.boot_len (pa_cons (pv 1) pa_nil)) (pe_callB call_len_seq (by rfl) T.len PySem.boot_len (pa_cons (pv 0) pa_nil)) (nomark _)) (pw_or1 (pt_not (pt_val (pe_callB (cr_all rfl) (by rfl) T.all (by rfl) (pa_cons (pe_lc (own := [("sign", 2), ("most", 3)]) rfl sc_check_input.nd (RZ.pi_zipA (by rfl) T.zip (pa_cons (pv 1) (pa_cons (pv 0) pa_nil))) (blkOk_by (N := N_check_input) (sc := defScope (top 18)) (by decide +kernel)) (fun _ _ _ _ _ => pg_cast (pg_tup (n := 2) rfl (pgs_cons (pg_name (i := 2) sc_check_input.nd rfl (by first | exact Or.inl rfl | exact Or.inr rfl)) (pgs_cons (pg_name (i := 3) sc_check_input.nd rfl (by first | exact Or.inl rfl | exact Or.inr rfl)) pgs_nil))) (by first | exact rfl | (dsimp only [blk_K]; done) | (dsimp only [blk_K]; exact rfl))) (fun _ _ _ _ _ => pts_cast pts_nil (by first | exact rfl | (dsimp only [blk_K]; done) | (dsimp only [blk_K]; exact rfl))) (fun _ _ _ _ _ => pe_cast (pe_chain op_le op_lt pe_int (pv 2) (pv 3)) (by first | exact rfl | (dsimp only [blk_K]; done) | (dsimp only [blk_K]; exact rfl)))) pa_nil))))))) pss_never pss_nil)), ?_⟩
  rintro as d ⟨p, signs, hp, rfl, ⟨hl, hs⟩, rfl⟩
  refine .inr ⟨_, sx_ifF (ext_or (ext_test (ex_neI (ex_lenT (enc := D.int) (ea_var rfl)) (ex_lenT (enc := D.int) (ea_var rfl)))) fun _ => ext_not (ext_val (ex_allF (exf_lcT1 (enc := fun q : Int × Int => .tup [.int q.1, .int q.2]) (ys := signs.zip (List.replicate p 2)) (fun q => .bl (decide (0 ≤ q.1) && decide (q.1 < q.2))) (ew_zipTm (ea_var rfl) (ea_var rfl)) (fun q hq => ⟨_, gx_two (by simp) (by simp), ex_chainI (f := fun i j => decide (i ≤ j)) (g := fun i j => decide (i < j)) ex_int (ea_var rfl) (ea_var rfl)⟩) (zip_small (by omega)))))) ?_ (sx_nil rfl), rfl⟩
  rw [List.length_replicate, hl, Bool.or_eq_false_iff]
  refine ⟨by simp, ?_⟩
  rw [Bool.not_eq_false', List.all_eq_true]
  intro q hq
  have h1 := hs q.1 (List.of_mem_zip hq).1
  have h2 : q.2 = 2 := List.eq_of_mem_replicate (List.of_mem_zip hq).2
  rw [h2, decide_eq_true h1.1, decide_eq_true h1.2]
  rfl
def N_Program___call__ : List Str := ["self", "signs", "result", "step"]
abbrev ps_Program___call__ : List Str := ["self", "signs"]
theorem sc_Program___call__ : FnScope N_Program___call__ ps_Program___call__ (defScope (itm 71 3)) := ⟨rfl, rfl, rfl, by decide +kernel, rfl, by decide +kernel, by decide +kernel⟩
def R_pcall : FP := fun as d => ∃ (rows : List (List Int)) (p : Nat) (sts : List Sp1) (signs : List Int), p ≤ 5 ∧ as = [.v (prgD rows p sts), .v (ti signs)] ∧ grpOk rows = true ∧ (∀ st ∈ sts, st.ok rows p) ∧ sgOk p signs ∧ d = .int (runP rows sts signs)
theorem zero_in {rows : List (List Int)} (hg : grpOk rows = true) : InR rows 0 := ⟨by omega, by have := (grp_small hg).1; omega⟩
theorem runP_in {rows : List (List Int)} {p : Nat} (hg : grpOk rows = true) (signs : List Int) : ∀ (sts : List Sp1) (r : Int), InR rows r → (∀ st ∈ sts, st.ok rows p) → InR rows (sts.foldl (fun r st => if st.on signs = true then tot rows r st.m else r) r)
  | [], r, h, _ => h
  | st :: sts, r, h, ho => by
    rw [List.foldl_cons]
    refine runP_in hg signs sts _ ?_ fun x hx => ho x (List.mem_cons_of_mem _ hx)
    split
    · refine tot_in hg h ?_
      have := ho st List.mem_cons_self
      cases st with
      | put m => exact this
      | ife pl v m => exact this.2.2.2
    · exact h
theorem w_Program___call__ (X : Kx W) (c_check_input : C8.Cal P w W.K mg base 1 "check_input" (spOf W R_check_input) []) : BodyOk P w W mg base 1 N_Program___call__ "Program.__call__" (itm 71 3) R_pcall := by
  intro f cdv A outer s H E hr
  refine ⟨_, (pss_cons (ps_expr (C8.pe_c c_check_input hr (by decide) (by rfl) (pa_cons (pe_fld (pv 0) rfl) (pa_cons (pv 1) pa_nil))))
    (pss_cons (ps_set (i := 2) sc_Program___call__.nd rfl (by first | exact Or.inl rfl | exact Or.inr rfl) pe_int)
    (pss_cons (ps_for PassesOwn.never rfl (pi_tup (pe_fld (pv 0) rfl)) (pg_name (i := 3) sc_Program___call__.nd rfl (by first | exact Or.inl rfl | exact Or.inr rfl)) (pss_one (ps_if (PW.pt (pw_or (pt_cmpR op_eq (pe_ix ix_tup (pv 3) pe_int (fun _ _ => rfl)) pe_str (nomark _)) (pw_or1 (pt_cmpR op_eq (pe_ix ix_tup (pv 1) (pe_ix ix_tup (pv 3) pe_int (fun _ _ => rfl)) (fun _ _ => rfl)) (pe_ix ix_tup (pv 3) pe_int (fun _ _ => rfl)) (nomark _))))) (pss_one (ps_set (i := 2) sc_Program___call__.nd rfl (by first | exact Or.inl rfl | exact Or.inr rfl) (pe_ix ix_tup (pe_ix ix_tup (pe_fld (pe_fld (pv 0) rfl) rfl) (pv 2) (fun _ _ => rfl)) (pe_ix ix_tup (pv 3) (pe_un un_neg pe_int) (fun _ _ => rfl)) (fun _ _ => rfl)))) pss_nil)))
    (pss_one (ps_ret (pv 2)))))), ?_⟩
  rintro as d ⟨rows, p, sts, signs, hp, rfl, hg, hok, hsg, rfl⟩
  refine .inl (sx_seq (sx_drop (ex_call (R := R_check_input) ⟨p, signs, hp, rfl, hsg, rfl⟩ (exa_cons (ex_fld X.c2 X.n2s (ea_var rfl) rfl) (exa_cons (ea_var rfl) exa_nil))) rfl) (sx_seq (sx_set ex_int rfl) (sx_seq (sx_forT (enc := Sp1.d) (ys := sts) (S := fun r : Int => [.val (prgD rows p sts), .val (ti signs), .val (.int r), .no]) (fun r st => if st.on signs = true then tot rows r st.m else r) 0 (ew_tup (ex_fld X.c2 X.n2e (ea_var rfl) rfl)) fun pre st post h => ⟨_, [3], gx_name (by simp), ?_⟩) (sx_ret (ea_var rfl) rfl))))
  have hin := runP_in hg signs pre 0 (zero_in hg) fun x hx => hok x (mem_pre h hx)
  have ho := hok st (mem_mid h)
  generalize pre.foldl (fun r st => if st.on signs = true then tot rows r st.m else r) 0 = r at hin
  cases st with
  | put m =>
    exact sx_weak (sx_ifT (ext_or (ext_test (ex_eqS (ex_op (og_ixT (d := .str "put") rfl) (ea_var rfl) ex_int) ex_str)) (b := false) fun h => by cases h) rfl (sx_set (ex_ixT (enc := D.int) (ex_ixT (enc := ti) (ex_fld X.c0 X.n0r (ex_fld X.c2 X.n2g (ea_var rfl) rfl) rfl) (ea_var rfl) (row_at hg hin)) (ex_op (og_ixT (d := .int m) rfl) (ea_var rfl) (ex_neg ex_int)) (tot_at hg hin ho)) rfl)) (by repeat (first | exact Le.nil | apply Le.same | apply Le.drop))
  | ife pl v m =>
    obtain ⟨h1, h2, h3, h4⟩ := ho
    refine sx_if (b := decide (signs.getD pl 0 = v)) (ExT.to (ext_or (ext_test (ex_eqS (ex_op (og_ixT (d := .str "if") rfl) (ea_var rfl) ex_int) ex_str)) fun _ => ext_test (ex_eqI (ex_ixT (enc := D.int) (ea_var rfl) (ex_op (og_ixT (d := .int (pl : Nat)) rfl) (ea_var rfl) ex_int) (getD_at (by rw [hsg.1]; exact h1))) (ex_op (og_ixT (d := .int v) rfl) (ea_var rfl) ex_int))) rfl) (fun hb => ?_) (fun hb => ?_)
    · rw [if_pos (show Sp1.on signs (.ife pl v m) = true from hb)]
      exact sx_weak (sx_set (ex_ixT (enc := D.int) (ex_ixT (enc := ti) (ex_fld X.c0 X.n0r (ex_fld X.c2 X.n2g (ea_var rfl) rfl) rfl) (ea_var rfl) (row_at hg hin)) (ex_op (og_ixT (d := .int m) rfl) (ea_var rfl) (ex_neg ex_int)) (tot_at hg hin h4)) rfl) (by repeat (first | exact Le.nil | apply Le.same | apply Le.drop))
    · rw [if_neg (show ¬ Sp1.on signs (.ife pl v m) = true by show ¬ decide (signs.getD pl 0 = v) = true; rw [hb]; exact Bool.false_ne_true)]
      exact sx_weak (sx_nil rfl) (by repeat (first | exact Le.nil | apply Le.same | apply Le.drop))
def N_Program_chart : List Str := ["self", "signs"]
abbrev ps_Program_chart : List Str := ["self"]
theorem sc_Program_chart : FnScope N_Program_chart ps_Program_chart (defScope (itm 71 10)) := ⟨rfl, rfl, rfl, by decide +kernel, rfl, by decide +kernel, by decide +kernel⟩
def pChart (rows : List (List Int)) (p : Nat) (sts : List Sp1) : List Int := (rowsP p).map (runP rows sts)
theorem rowsP_sg : ∀ p : _root_.Fin 6, ∀ r ∈ rowsP p, r.length = (p : Nat) ∧ ∀ s ∈ r, 0 ≤ s ∧ s < 2 := by decide +kernel
def R_pchart : FP := fun as d => ∃ (rows : List (List Int)) (p : Nat) (sts : List Sp1), p ≤ 5 ∧ as = [.v (prgD rows p sts)] ∧ grpOk rows = true ∧ (∀ st ∈ sts, st.ok rows p) ∧ d = chrD rows p (pChart rows p sts)
theorem w_Program_chart {gC : Addr} (X : Kx W) (hCO : StX.CallO W.K (W.cl 2) gC) (fCO : FnR P w W.K mg base C8.CX0 2 gC (spOf W R_pcall)) (c_inputs_of : C8.Cal P w W.K mg base 7 "inputs_of" (spOf W R_inputs_of) []) (c_Chart : C8.Mak P w W.K mg base 2 "Chart" (W.cl 1) (spI W 1 R_Chart) []) : BodyOk P w W mg base 7 N_Program_chart "Program.chart" (itm 71 10) R_pchart := by
  intro f cdv A outer s H E hr
  refine ⟨_, (pss_one (ps_ret (C8.pe_mk c_Chart hr (by decide) (by rfl) (pa_cons (pe_fld (pv 0) rfl) (pa_cons (pe_fld (pv 0) rfl) (pa_cons (pe_lc (own := [("signs", 1)]) rfl sc_Program_chart.nd (pi_list (C8.pe_c c_inputs_of hr (by decide) (by rfl) (pa_cons (pe_fld (pv 0) rfl) pa_nil))) (blkOk_by (N := N_Program_chart) (sc := defScope (itm 71 10)) (by decide +kernel)) (fun _ _ _ _ _ => pg_cast (pg_name (i := 1) sc_Program_chart.nd rfl (by first | exact Or.inl rfl | exact Or.inr rfl)) (by first | exact rfl | (dsimp only [blk_K]; done) | (dsimp only [blk_K]; exact rfl))) (fun _ _ _ _ _ => pts_cast pts_nil (by first | exact rfl | (dsimp only [blk_K]; done) | (dsimp only [blk_K]; exact rfl))) (fun _ _ _ _ _ => pe_cast (pe_callI (E := C8.E0) (pv 0) hCO fCO (hr.mono (by decide)) C8.pass0 (pa_cons (pv 1) pa_nil)) (by first | exact rfl | (dsimp only [blk_K]; done) | (dsimp only [blk_K]; exact rfl)))) pa_nil)))))), ?_⟩
  rintro as d ⟨rows, p, sts, hp, rfl, hg, hok, rfl⟩
  have h4 := rowsP_len hp
  have h2 := two_pow_le hp
  refine .inl (sx_ret (ex_make (R := R_Chart) (.inl ⟨rows, p, pChart rows p sts, hp, rfl, by unfold pChart; rw [List.length_map, h4], fun e he => ?_, rfl⟩) (exa_cons (ex_fld X.c2 X.n2g (ea_var rfl) rfl) (exa_cons (ex_fld X.c2 X.n2s (ea_var rfl) rfl) (exa_cons (Ex.to (b := li (pChart rows p sts)) (ExF.ex (exf_lcT1 (enc := ti) (ys := rowsP p) (fun r => .int (runP rows sts r)) (ew_list (ex_call (R := R_inputs_of) ⟨p, hp, rfl, rfl⟩ (exa_cons (ex_fld X.c2 X.n2s (ea_var rfl) rfl) exa_nil))) (fun r hr => ⟨_, gx_name (by simp), ex_callI (R := R_pcall) (ea_var rfl) ⟨rows, p, sts, r, hp, rfl, hg, hok, rowsP_sg ⟨p, by omega⟩ r hr, rfl⟩ (exa_cons (ea_var rfl) exa_nil)⟩) (small_of (by omega)))) (by unfold pChart li; rw [List.map_map]; rfl)) exa_nil)))) rfl)
  unfold pChart at he
  obtain ⟨r, _, rfl⟩ := List.mem_map.mp he
  exact runP_in hg r sts 0 (zero_in hg) hok
end
end K9
/-! text W17 -/
set_option Elab.async false
set_option linter.all false
set_option maxRecDepth 100000
set_option maxHeartbeats 2000000
set_option autoImplicit false
/-! walks: the law's numbers, its comparing -/
namespace K9
open PySem PySem.Spec PyProof.Rows L2 LamX
/-! ### plain -/
def numMix (cell : Int) (k : Nat) : Int :=
  let m1 := (cell * 48271 + (((k : Nat) : Int) + 1) * 69621) % 2147483647
  let m2 := (m1 * m1 + (((k : Nat) : Int) + 3) * 40692) % 2147483399
  (m2 * 16807 + cell + ((k : Nat) : Int)) % 2147483647
def numStep (cell : Int) (st : Int × List Int) (k : Nat) : Int × List Int := if decide (0 < st.1) = true then (st.1 / 1000, st.2 ++ [st.1 % 1000]) else (st.1, st.2 ++ [numMix cell k / 5])
def numRest (cell : Int) : Int := if decide (10 ^ 18 ≤ cell) = true then cell - 10 ^ 18 else 0
def numsM (cell : Int) (count : Nat) : List Int := ((List.range count).foldl (numStep cell) (numRest cell, [])).2
theorem numFold_len (cell : Int) : ∀ (ks : List Nat) (st : Int × List Int), (ks.foldl (numStep cell) st).2.length = st.2.length + ks.length
  | [], st => rfl
  | k :: ks, st => by
    rw [List.foldl_cons, numFold_len cell ks]
    unfold numStep
    split
    · simp; omega
    · simp; omega
theorem numsM_len (cell : Int) (count : Nat) : (numsM cell count).length = count := by
  unfold numsM
  rw [numFold_len, List.length_range]
  show 0 + count = count
  omega
/-- data that _law_same goes through, n deep -/
def sameD : Nat → D → Prop
  | 0, _ => False
  | _ + 1, .non => True
  | _ + 1, .bl _ => True
  | _ + 1, .int _ => True
  | n + 1, .tup ds => ds.length ≤ 1000 ∧ ∀ d ∈ ds, sameD n d
  | _ + 1, _ => False
theorem same_ti {n : Nat} {xs : List Int} (h : xs.length ≤ 1000) : sameD (n + 2) (ti xs) := by
  refine ⟨by rw [List.length_map]; exact h, fun d hd => ?_⟩
  obtain ⟨x, _, rfl⟩ := List.mem_map.mp hd
  trivial
theorem same_tab {n : Nat} {rows : List (List Int)} (h : rows.length ≤ 1000) (h2 : ∀ r ∈ rows, r.length ≤ 1000) : sameD (n + 3) (tabT rows) := by
  refine ⟨by rw [List.length_map]; exact h, fun d hd => ?_⟩
  obtain ⟨r, hr, rfl⟩ := List.mem_map.mp hd
  exact same_ti (h2 r hr)
section
variable {W : Wd} {δ : Sto}
theorem ex_isi {te : TE} {d : D} {n c : String} {b : Bool} (h : Ex W te δ d) (hn : d.tyn = some n) (hk : kitB n c = some b) : Ex W (tCB (rIsi W.K) (tCons te (tCons (tC (.ty c)) tNil))) δ (.bl b) := ex_cb (rg_isi hn hk) (exa_cons h (exa_cons ea_c exa_nil))
theorem ex_pow18 : Ex W (tOp (rI CPow fun i j => .int (i ^ j.toNat)) (tC (.int 10)) (tC (.int 18))) δ (.int (10 ^ 18)) := ex_op (og_iC (C := CPow) (f := fun i j => i ^ j.toNat) ⟨by decide, by decide, by decide⟩) ex_int ex_int
end
section
variable {P : Program} {w : World} {W : Wd} {mg : Str → Option Value} {base : Heap} {k : Nat}
def N__law_numbers : List Str := ["_law_cell", "_law_count", "_law_rest", "_law_numbers_here", "_law_k", "_law_mixed"]
abbrev ps__law_numbers : List Str := ["_law_cell", "_law_count"]
theorem sc__law_numbers : FnScope N__law_numbers ps__law_numbers (defScope (top 73)) := ⟨rfl, rfl, rfl, by decide +kernel, rfl, by decide +kernel, by decide +kernel⟩
def R__law_numbers : FP := fun as d => ∃ (cell : Int) (count : Nat), as = [.v (.int cell), .v (.int (count : Nat))] ∧ count ≤ 100 ∧ d = li (numsM cell count)
theorem w__law_numbers (T : Tx W.K mg) : BodyOk P w W mg base k N__law_numbers "_law_numbers" (top 73) R__law_numbers := by
  intro f cdv A outer s H E hr
  refine ⟨_, (pss_cons (ps_set (i := 2) sc__law_numbers.nd rfl (by first | exact Or.inl rfl | exact Or.inr rfl) pe_int)
    (pss_cons (ps_if (pt_cmpR op_ge (pv 0) (pe_op op_pow pe_int pe_int) (nomark _)) (pss_one (ps_set (i := 2) sc__law_numbers.nd rfl (by first | exact Or.inl rfl | exact Or.inr rfl) (pe_op op_sub (pv 0) (pe_op op_pow pe_int pe_int)))) pss_nil)
    (pss_cons (ps_set (i := 3) sc__law_numbers.nd rfl (by first | exact Or.inl rfl | exact Or.inr rfl) (pe_lst pa_nil))
    (pss_cons (ps_for PassesOwn.never rfl (pi_range1 (by rfl) T.range (pa_cons (pv 1) pa_nil)) (pg_name (i := 4) sc__law_numbers.nd rfl (by first | exact Or.inl rfl | exact Or.inr rfl)) (pss_one (ps_if (pt_cmpR op_gt (pv 2) pe_int (nomark _)) (pss_cons (ps_expr (pe_bm PySem.F.plainAttrs_list PySem.F.slot_list_append PySem.F.type_list_append mt_append (pv 3) (pa_cons (pe_op op_mod (pe_callTy call_int1 (by rfl) T.int boot_int (pa_cons (pv 2) pa_nil)) pe_int) pa_nil)))
      (pss_one (ps_set (i := 2) sc__law_numbers.nd rfl (by first | exact Or.inl rfl | exact Or.inr rfl) (pe_op op_fdiv (pv 2) pe_int)))) (pss_cons (ps_set (i := 5) sc__law_numbers.nd rfl (by first | exact Or.inl rfl | exact Or.inr rfl) (pe_op op_mod (pe_callTy call_int1 (by rfl) T.int boot_int (pa_cons (pe_op op_add (pe_op op_mul (pv 0) pe_int) (pe_op op_mul (pe_op op_add (pv 4) pe_int) pe_int)) pa_nil)) pe_int))
      (pss_cons (ps_set (i := 5) sc__law_numbers.nd rfl (by first | exact Or.inl rfl | exact Or.inr rfl) (pe_op op_mod (pe_callTy call_int1 (by rfl) T.int boot_int (pa_cons (pe_op op_add (pe_op op_mul (pv 5) (pv 5)) (pe_op op_mul (pe_op op_add (pv 4) pe_int) pe_int)) pa_nil)) pe_int))
      (pss_cons (ps_set (i := 5) sc__law_numbers.nd rfl (by first | exact Or.inl rfl | exact Or.inr rfl) (pe_op op_mod (pe_callTy call_int1 (by rfl) T.int boot_int (pa_cons (pe_op op_add (pe_op op_add (pe_op op_mul (pv 5) pe_int) (pv 0)) (pv 4)) pa_nil)) pe_int))
      (pss_one (ps_expr (pe_bm PySem.F.plainAttrs_list PySem.F.slot_list_append PySem.F.type_list_append mt_append (pv 3) (pa_cons (pe_op op_fdiv (pv 5) pe_int) pa_nil))))))))))
    (pss_one (ps_ret (pv 3))))))), ?_⟩
  rintro as d ⟨cell, count, rfl, hc, rfl⟩
  refine .inl (sx_seq (sx_set ex_int rfl) (sx_seq (δ' := [.val (.int cell), .val (.int (count : Nat)), .val (.int (numRest cell)), .no, .no, .no]) (sx_if (b := decide (10 ^ 18 ≤ cell)) (ext_test (ex_geI (ea_var rfl) ex_pow18)) (fun hb => ?_) (fun hb => ?_)) (sx_seq (sx_setM (exf_nil (enc := D.int)) rfl) (sx_seq (sx_forT (enc := fun n : Nat => .int (n : Nat)) (ys := List.range count) (S := fun st : Int × List Int => [.val (.int cell), .val (.int (count : Nat)), .val (.int st.1), .mu (st.2.map D.int), .no, .no]) (numStep cell) (numRest cell, []) (ew_rg1 (ea_var rfl) (by omega)) fun pre k post h => ⟨_, [4], gx_name (by simp), ?_⟩) (sx_freeze (i := 3) rfl (sx_ret (ea_var rfl) rfl))))))
  · unfold numRest
    rw [if_pos hb]
    exact sx_set (ex_subI (ea_var rfl) ex_pow18) rfl
  · unfold numRest
    rw [if_neg (by rw [hb]; exact Bool.false_ne_true)]
    exact sx_nil rfl
  · have hl := numFold_len cell pre (numRest cell, [])
    have hp := pre_len h
    rw [List.length_range] at hp
    generalize pre.foldl (numStep cell) (numRest cell, []) = st at hl
    have hl2 : st.2.length ≤ 1000 := by rw [hl]; show 0 + _ ≤ _; omega
    refine sx_if (b := decide (0 < st.1)) (ext_test (ex_gtI (ea_var rfl) ex_int)) (fun hb => ?_) (fun hb => ?_)
    · unfold numStep
      rw [if_pos hb]
      exact sx_weak (sx_seq (sx_appendT (enc := D.int) rfl (ex_modI (ex_intI (ea_var rfl)) ex_int (by decide)) (small_lt hl2) rfl) (sx_set (ex_fdivI (ea_var rfl) ex_int ⟨by decide, by decide⟩) rfl)) (by repeat (first | exact Le.nil | apply Le.same | apply Le.drop))
    · unfold numStep
      rw [if_neg (by rw [hb]; exact Bool.false_ne_true)]
      have hm1 : 0 ≤ (cell * 48271 + (((k : Nat) : Int) + 1) * 69621) % 2147483647 ∧ (cell * 48271 + (((k : Nat) : Int) + 1) * 69621) % 2147483647 < 2147483647 := ⟨Int.emod_nonneg _ (by decide), Int.emod_lt_of_pos _ (by decide)⟩
      refine sx_weak (sx_seq (sx_set (ex_modI (ex_intI (ex_addI (ex_mulI (ea_var rfl) ex_int (.inr ⟨by decide, by decide⟩)) (ex_mulI (ex_addI (ea_var rfl) ex_int) ex_int (.inr ⟨by decide, by decide⟩)))) ex_int (by decide)) rfl) (sx_seq (sx_set (ex_modI (ex_intI (ex_addI (ex_mulI (ea_var rfl) (ea_var rfl) (.inl ⟨?_, ?_⟩)) (ex_mulI (ex_addI (ea_var rfl) ex_int) ex_int (.inr ⟨by decide, by decide⟩)))) ex_int (by decide)) rfl) (sx_seq (sx_set (ex_modI (ex_intI (ex_addI (ex_addI (ex_mulI (ea_var rfl) ex_int (.inr ⟨by decide, by decide⟩)) (ea_var rfl)) (ea_var rfl))) ex_int (by decide)) rfl) (sx_appendT (enc := D.int) (y := numMix cell k / 5) rfl (ex_fdivI (ea_var rfl) ex_int ⟨by decide, by decide⟩) (small_lt hl2) rfl)))) (by repeat (first | exact Le.nil | apply Le.same | apply Le.drop))
      · omega
      · omega
def N__law_same : List Str := ["_law_actual", "_law_due", "_law_k"]
abbrev ps__law_same : List Str := ["_law_actual", "_law_due"]
theorem sc__law_same : FnScope N__law_same ps__law_same (defScope (top 74)) := ⟨rfl, rfl, rfl, by decide +kernel, rfl, by decide +kernel, by decide +kernel⟩
def R_same (n : Nat) : FP := fun as d => ∃ x, sameD n x ∧ as = [.v x, .v x] ∧ d = .bl true
theorem w_same0 : BodyOk P w W mg base k N__law_same "_law_same" (top 74) (R_same 0) := by
  intro f cdv A outer s H E hr
  refine ⟨_, pss_never, ?_⟩
  rintro as d ⟨x, h, _⟩
  exact h.elim
theorem w__law_same (T : Tx W.K mg) (n : Nat) (c__law_same : C8.Cal P w W.K mg base (n + 1) "_law_same" (spOf W (R_same n)) []) : BodyOk P w W mg base (n + 1) N__law_same "_law_same" (top 74) (R_same (n + 1)) := by
  intro f cdv A outer s H E hr
  refine ⟨_, (pss_cons (ps_if (pt_cmpR op_isN (pv 1) pe_non (nomark _)) (pss_one (ps_ret (pe_cmpR op_isN (pv 0) pe_non (nomark _)))) pss_nil)
    (pss_cons (ps_if (pt_val (pe_callB call_isi (by rfl) T.isi (by rfl) (pa_cons (pv 1) (pa_cons (pe_bltn (v := V.ty "bool") (by rfl) T.bool boot_bool rfl) pa_nil)))) (pss_one (ps_ret (pe_and (pe_callB call_isi (by rfl) T.isi (by rfl) (pa_cons (pv 0) (pa_cons (pe_bltn (v := V.ty "bool") (by rfl) T.bool boot_bool rfl) pa_nil))) (pe_one (pe_cmpR op_eq (pv 0) (pv 1) (nomark _)))))) pss_nil)
    (pss_cons (ps_if (pt_val (pe_callB call_isi (by rfl) T.isi (by rfl) (pa_cons (pv 1) (pa_cons (pe_bltn (v := V.ty "int") (by rfl) T.int boot_int rfl) pa_nil)))) (pss_one (ps_ret (pe_and (pe_callB call_isi (by rfl) T.isi (by rfl) (pa_cons (pv 0) (pa_cons (pe_bltn (v := V.ty "int") (by rfl) T.int boot_int rfl) pa_nil))) (pe_and (pe_not (pe_callB call_isi (by rfl) T.isi (by rfl) (pa_cons (pv 0) (pa_cons (pe_bltn (v := V.ty "bool") (by rfl) T.bool boot_bool rfl) pa_nil)))) (pe_one (pe_cmpR op_eq (pv 0) (pv 1) (nomark _))))))) pss_nil)
    (pss_cons (ps_if (pt_val (pe_callB call_isi (by rfl) T.isi (by rfl) (pa_cons (pv 1) (pa_cons (pe_bltn (v := V.ty "str") (by rfl) T.str boot_str rfl) pa_nil)))) (pss_one (ps_ret (pe_and (pe_callB call_isi (by rfl) T.isi (by rfl) (pa_cons (pv 0) (pa_cons (pe_bltn (v := V.ty "str") (by rfl) T.str boot_str rfl) pa_nil))) (pe_one (pe_cmpR op_eq (pv 0) (pv 1) (nomark _)))))) pss_nil)
    (pss_cons (ps_if (PW.pt (pw_or (pt_cmpR op_ne (pe_callB call_isi (by rfl) T.isi (by rfl) (pa_cons (pv 1) (pa_cons (pe_bltn (v := V.ty "tuple") (by rfl) T.tuple boot_tuple rfl) pa_nil))) (pe_callB call_isi (by rfl) T.isi (by rfl) (pa_cons (pv 0) (pa_cons (pe_bltn (v := V.ty "tuple") (by rfl) T.tuple boot_tuple rfl) pa_nil))) (nomark _)) (pw_or1 (pt_cmpR op_ne (pe_callB call_isi (by rfl) T.isi (by rfl) (pa_cons (pv 1) (pa_cons (pe_bltn (v := V.ty "list") (by rfl) T.list boot_list rfl) pa_nil))) (pe_callB call_isi (by rfl) T.isi (by rfl) (pa_cons (pv 0) (pa_cons (pe_bltn (v := V.ty "list") (by rfl) T.list boot_list rfl) pa_nil))) (nomark _))))) (pss_one (ps_ret pe_bl)) pss_nil)
    (pss_cons (ps_if (PW.pt (pw_or (pt_not (pt_val (pe_callB call_isiT (by rfl) T.isi (by rfl) (pa_cons (pv 1) (pa_cons (pe_tup (pa_cons (pe_bltn (v := V.ty "tuple") (by rfl) T.tuple boot_tuple rfl) (pa_cons (pe_bltn (v := V.ty "list") (by rfl) T.list boot_list rfl) pa_nil))) pa_nil))))) (pw_or1 (pt_cmpR op_ne (pe_callB call_len_seq (by rfl) T.len PySem.boot_len (pa_cons (pv 0) pa_nil)) (pe_callB call_len_seq (by rfl) T.len PySem.boot_len (pa_cons (pv 1) pa_nil)) (nomark _))))) (pss_one (ps_ret pe_bl)) pss_nil)
    (pss_cons (ps_for PassesOwn.never rfl (pi_range1 (by rfl) T.range (pa_cons (pe_callB call_len_seq (by rfl) T.len PySem.boot_len (pa_cons (pv 1) pa_nil)) pa_nil)) (pg_name (i := 2) sc__law_same.nd rfl (by first | exact Or.inl rfl | exact Or.inr rfl)) (pss_one (ps_if (pt_not (pt_val (C8.pe_c c__law_same hr (Nat.le_refl _) (by rfl) (pa_cons (pe_ix ix_seq (pv 0) (pv 2) (fun _ _ => rfl)) (pa_cons (pe_ix ix_seq (pv 1) (pv 2) (fun _ _ => rfl)) pa_nil))))) (pss_one (ps_ret pe_bl)) pss_nil)))
    (pss_one (ps_ret pe_bl))))))))), ?_⟩
  rintro as d ⟨x, hx, rfl, rfl⟩
  cases x with
  | non => exact .inl (sx_seq_rt (sx_ifT (ext_test (ex_op og_isN (ea_var rfl) ex_non)) rfl (sx_ret (ex_op og_isN (ea_var rfl) ex_non) rfl)))
  | bl b => exact .inl (sx_seq (sx_ifF (ext_test (ex_op og_isN (ea_var rfl) ex_non)) rfl (sx_nil rfl)) (sx_seq_rt (sx_ifT (ext_val (ex_isi (ea_var rfl) rfl (b := true) (by decide +kernel))) rfl (sx_ret (ex_andV (ex_isi (ea_var rfl) rfl (b := true) (by decide +kernel)) (fun _ => ex_op og_eqB (ea_var rfl) (ea_var rfl)) (fun h => by cases h)) (by simp)))))
  | int i => exact .inl (sx_seq (sx_ifF (ext_test (ex_op og_isN (ea_var rfl) ex_non)) rfl (sx_nil rfl)) (sx_seq (sx_ifF (ext_val (ex_isi (ea_var rfl) rfl (b := false) (by decide +kernel))) rfl (sx_nil rfl)) (sx_seq_rt (sx_ifT (ext_val (ex_isi (ea_var rfl) rfl (b := true) (by decide +kernel))) rfl (sx_ret (ex_andV (ex_isi (ea_var rfl) rfl (b := true) (by decide +kernel)) (fun _ => ex_andV (ex_notV (ex_isi (ea_var rfl) rfl (b := false) (by decide +kernel))) (fun _ => ex_eqI (ea_var rfl) (ea_var rfl)) (fun h => by cases h)) (fun h => by cases h)) (by simp))))))
  | tup ds =>
    obtain ⟨hl, hd⟩ := hx
    refine .inl (sx_seq (sx_ifF (ext_test (ex_op og_isN (ea_var rfl) ex_non)) rfl (sx_nil rfl)) (sx_seq (sx_ifF (ext_val (ex_isi (ea_var rfl) rfl (b := false) (by decide +kernel))) rfl (sx_nil rfl)) (sx_seq (sx_ifF (ext_val (ex_isi (ea_var rfl) rfl (b := false) (by decide +kernel))) rfl (sx_nil rfl)) (sx_seq (sx_ifF (ext_val (ex_isi (ea_var rfl) rfl (b := false) (by decide +kernel))) rfl (sx_nil rfl))
      (sx_seq (sx_ifF (ext_or (ext_test (ex_op og_neB (ex_isi (ea_var rfl) rfl (b := true) (by decide +kernel)) (ex_isi (ea_var rfl) rfl (b := true) (by decide +kernel)))) fun _ => ext_test (ex_op og_neB (ex_isi (ea_var rfl) rfl (b := false) (by decide +kernel)) (ex_isi (ea_var rfl) rfl (b := false) (by decide +kernel)))) rfl (sx_nil rfl))
      (sx_seq (sx_ifF (ext_or (ext_not (ext_val (ex_isiT (ea_var rfl) rfl (b1 := true) (b2 := false) (by decide +kernel) (by decide +kernel)))) fun _ => ext_test (ex_neI (ex_len (EA.tupS (ea_var rfl)) rfl) (ex_len (EA.tupS (ea_var rfl)) rfl))) (by simp) (sx_nil rfl))
      (sx_seq (sx_forT (enc := fun n : Nat => .int (n : Nat)) (ys := List.range ds.length) (S := fun _ : Unit => [.val (.tup ds), .val (.tup ds), .no]) (fun _ _ => ()) () (ew_rg1 (ex_len (EA.tupS (ea_var rfl)) rfl) (by omega)) fun pre k post h => ⟨_, [2], gx_name (by simp), ?_⟩) (sx_ret ex_bl rfl))))))))
    have hk := List.mem_range.mp (mem_mid h)
    exact sx_weak (sx_ifF (ext_not (ext_val (ex_call (R := R_same n) ⟨ds[k], hd _ (List.getElem_mem hk), rfl, rfl⟩ (exa_cons (ex_op (og_ixS (atI_n hk)) (EA.tupS (ea_var rfl)) (ea_var rfl)) (exa_cons (ex_op (og_ixS (atI_n hk)) (EA.tupS (ea_var rfl)) (ea_var rfl)) exa_nil))))) rfl (sx_nil rfl)) (by repeat (first | exact Le.nil | apply Le.same | apply Le.drop))
  | _ => exact hx.elim
end
end K9
/-! text W18 -/
set_option Elab.async false
set_option linter.all false
set_option maxRecDepth 100000
set_option maxHeartbeats 2000000
set_option autoImplicit false
/-! walks: the law's helpers -/
namespace K9
open PySem PySem.Spec PyProof.Rows L2 LamX
/-! ### plain -/
def ordStep (nums : List Int) (r : List Int) (k : Nat) : List Int :=
  let o := (nums.getD k 0) % (((k : Nat) : Int) + 1)
  (r.set k (r.getD o.toNat 0)).set o.toNat (r.getD k 0)
def ordM (nums : List Int) (count : Nat) : List Int := (List.range' 1 (count - 1)).foldl (ordStep nums) (rangeI count)
theorem ordStep_len (nums r : List Int) (k : Nat) : (ordStep nums r k).length = r.length := by unfold ordStep; rw [List.length_set, List.length_set]
theorem ordFold_len (nums : List Int) : ∀ (ks : List Nat) (r : List Int), (ks.foldl (ordStep nums) r).length = r.length
  | [], r => rfl
  | k :: ks, r => by rw [List.foldl_cons, ordFold_len nums ks, ordStep_len]
theorem rangeI_len (n : Nat) : (rangeI n).length = n := by unfold rangeI; rw [List.length_map, List.length_range]
def ncStep (es tab : List Int) (lab : List Int) (k : Nat) : Option (List Int) :=
  if lab.length = 61 then (if decide (lab.getD (es.getD k 0).toNat 0 = 1 - tab.getD k 0) = true then none else some (lab.set (es.getD k 0).toNat (tab.getD k 0))) else none
def ncM (es tab : List Int) : Option (List Int) := (List.range es.length).foldlM (ncStep es tab) (List.replicate 61 (-1))
def absI (i : Int) : Int := if i < 0 then -i else i
def drawM (ns : List Int) (k : Nat) : Int := if k < ns.length then absI (ns.getD k 0) else if ns.length = 0 then 7919 * ((k : Nat) : Int) else (absI (ns.getD (((k : Nat) : Int) % ((ns.length : Nat) : Int)).toNat 0) + 7919 * ((k : Nat) : Int)) % 1000000007
def cntL (p : Nat) (cs : List Int) : List Int := (rowsP p).map fun s => if decide (wt s ∈ cs) = true then 1 else 0
section
variable {P : Program} {w : World} {W : Wd} {mg : Str → Option Value} {base : Heap} {k : Nat}
def N__law_chart_is : List Str := ["_law_chart", "_law_table", "_law_shape", "_law_entries", "_law_row"]
abbrev ps__law_chart_is : List Str := ["_law_chart", "_law_table", "_law_shape", "_law_entries"]
theorem sc__law_chart_is : FnScope N__law_chart_is ps__law_chart_is (defScope (top 75)) := ⟨rfl, rfl, rfl, by decide +kernel, rfl, by decide +kernel, by decide +kernel⟩
def R__law_chart_is : FP := fun as d => ∃ (rows : List (List Int)) (p : Nat) (es : List Int), p ≤ 5 ∧ rows.length ≤ 60 ∧ (∀ r ∈ rows, r.length ≤ 60) ∧ es.length ≤ 100 ∧ as = [.v (chrD rows p es), .v (lliD rows), .v (shp p), .v (li es)] ∧ d = .bl true
theorem w__law_chart_is (T : Tx W.K mg) (X : Kx W) (c__law_same : C8.Cal P w W.K mg base 4 "_law_same" (spOf W (R_same 3)) []) : BodyOk P w W mg base 4 N__law_chart_is "_law_chart_is" (top 75) R__law_chart_is := by
  intro f cdv A outer s H E hr
  refine ⟨_, (pss_cons (ps_if (pt_not (pt_val (C8.pe_c c__law_same hr (by decide) (by rfl) (pa_cons (pe_fld (pe_fld (pv 0) rfl) rfl) (pa_cons (pe_callTy call_tuple_of (by rfl) T.tuple boot_tuple (pa_cons (pe_lc (own := [("_law_row", 4)]) rfl sc__law_chart_is.nd (pi_list (pv 1)) (blkOk_by (N := N__law_chart_is) (sc := defScope (top 75)) (by decide +kernel)) (fun _ _ _ _ _ => pg_cast (pg_name (i := 4) sc__law_chart_is.nd rfl (by first | exact Or.inl rfl | exact Or.inr rfl)) (by first | exact rfl | (dsimp only [blk_K]; done) | (dsimp only [blk_K]; exact rfl))) (fun _ _ _ _ _ => pts_cast pts_nil (by first | exact rfl | (dsimp only [blk_K]; done) | (dsimp only [blk_K]; exact rfl))) (fun _ _ _ _ _ => pe_cast (pe_callTy call_tuple_of (by rfl) T.tuple boot_tuple (pa_cons (pv 4) pa_nil)) (by first | exact rfl | (dsimp only [blk_K]; done) | (dsimp only [blk_K]; exact rfl)))) pa_nil)) pa_nil))))) (pss_one (ps_ret pe_bl)) pss_nil)
    (pss_one (ps_ret (pe_and (C8.pe_c c__law_same hr (by decide) (by rfl) (pa_cons (pe_fld (pv 0) rfl) (pa_cons (pe_callTy call_tuple_of (by rfl) T.tuple boot_tuple (pa_cons (pv 2) pa_nil)) pa_nil))) (pe_one (C8.pe_c c__law_same hr (by decide) (by rfl) (pa_cons (pe_fld (pv 0) rfl) (pa_cons (pe_callTy call_tuple_of (by rfl) T.tuple boot_tuple (pa_cons (pv 3) pa_nil)) pa_nil)))))))), ?_⟩
  rintro as d ⟨rows, p, es, hp, hr1, hr2, hes, rfl, rfl⟩
  refine .inl (sx_seq (sx_ifF (ext_not (ext_val (ex_call (R := R_same 3) ⟨tabT rows, same_tab (by omega) (fun r h => by have := hr2 r h; omega), rfl, rfl⟩ (exa_cons (ex_fld X.c0 X.n0r (ex_fld X.c1 X.n1g (ea_var rfl) rfl) rfl) (exa_cons (ex_tupF (exf_lcT1 (enc := li) (ys := rows) ti (ew_list (ea_var rfl)) (fun r h => ⟨_, gx_name (by simp), ex_tupL (EA.toL (ea_var rfl))⟩) (small_of (by omega)))) exa_nil))))) rfl (sx_nil rfl))
    (sx_ret (ex_andV (ex_call (R := R_same 3) ⟨shp p, same_ti (n := 1) (by rw [List.length_replicate]; omega), rfl, rfl⟩ (exa_cons (ex_fld X.c1 X.n1s (ea_var rfl) rfl) (exa_cons (ex_tupT (ea_var rfl)) exa_nil))) (fun _ => ex_call (R := R_same 3) ⟨ti es, same_ti (n := 1) (by omega), rfl, rfl⟩ (exa_cons (ex_fld X.c1 X.n1e (ea_var rfl) rfl) (exa_cons (ex_tupL (EA.toL (ea_var rfl))) exa_nil))) (fun h => by cases h)) rfl))
def N__law_order : List Str := ["_law_numbers_here", "_law_count", "_law_ranked", "_law_k", "_law_other", "_law_held"]
abbrev ps__law_order : List Str := ["_law_numbers_here", "_law_count"]
theorem sc__law_order : FnScope N__law_order ps__law_order (defScope (top 78)) := ⟨rfl, rfl, rfl, by decide +kernel, rfl, by decide +kernel, by decide +kernel⟩
def R__law_order : FP := fun as d => ∃ (nums : List Int) (count : Nat), as = [.v (li nums), .v (.int (count : Nat))] ∧ count ≤ nums.length ∧ count ≤ 100 ∧ d = li (ordM nums count)
theorem w__law_order (T : Tx W.K mg) : BodyOk P w W mg base k N__law_order "_law_order" (top 78) R__law_order := by
  intro f cdv A outer s H E hr
  refine ⟨_, (pss_cons (ps_set (i := 2) sc__law_order.nd rfl (by first | exact Or.inl rfl | exact Or.inr rfl) (pe_listRg rfl (by rfl) T.list (prg_1 (by rfl) T.range (pv 1))))
    (pss_cons (ps_for PassesOwn.never rfl (pi_range2 (by rfl) T.range (pa_cons pe_int (pa_cons (pv 1) pa_nil))) (pg_name (i := 3) sc__law_order.nd rfl (by first | exact Or.inl rfl | exact Or.inr rfl)) (pss_cons (ps_set (i := 4) sc__law_order.nd rfl (by first | exact Or.inl rfl | exact Or.inr rfl) (pe_op op_mod (pe_callTy call_int1 (by rfl) T.int boot_int (pa_cons (pe_ix ix_list (pv 0) (pv 3) (fun _ _ => rfl)) pa_nil)) (pe_op op_add (pv 3) pe_int)))
     (pss_cons (ps_set (i := 5) sc__law_order.nd rfl (by first | exact Or.inl rfl | exact Or.inr rfl) (pe_ix ix_list (pv 2) (pv 3) (fun _ _ => rfl)))
     (pss_cons (ps_asg (pe_ix ix_list (pv 2) (pv 4) (fun _ _ => rfl)) (pg_sub (pv 2) (pv 3) set_list))
     (pss_one (ps_asg (pv 5) (pg_sub (pv 2) (pv 4) set_list)))))))
    (pss_one (ps_ret (pv 2))))), ?_⟩
  rintro as d ⟨nums, count, rfl, hl, hc, rfl⟩
  refine .inl (sx_seq (sx_setM (exf_rgI (ea_var rfl) (by omega)) rfl) (sx_seq (sx_forT (enc := fun n : Nat => .int (n : Nat)) (ys := List.range' 1 (count - 1)) (S := fun r : List Int => [.val (li nums), .val (.int (count : Nat)), .mu (r.map D.int), .no, .no, .no]) (ordStep nums) (rangeI count) (ew_rg2 (m := 1) (n := count) ex_int (ea_var rfl) (by omega) (by omega)) fun pre k post h => ⟨_, [3], gx_name (by simp), ?_⟩) (sx_freeze (i := 2) rfl (sx_ret (ea_var rfl) rfl))))
  have hrl := ordFold_len nums pre (rangeI count)
  rw [rangeI_len] at hrl
  generalize pre.foldl (ordStep nums) (rangeI count) = r at hrl
  obtain ⟨i, hi, hik⟩ := List.mem_range'.mp (mem_mid h)
  have hk : k < count := by omega
  have ho1 : 0 ≤ (nums.getD k 0) % (((k : Nat) : Int) + 1) := Int.emod_nonneg _ (by omega)
  have ho2 : (nums.getD k 0) % (((k : Nat) : Int) + 1) < ((k : Nat) : Int) + 1 := Int.emod_lt_of_pos _ (by omega)
  have e : (nums.getD k 0) % (((k : Nat) : Int) + 1) = ((((nums.getD k 0) % (((k : Nat) : Int) + 1)).toNat : Nat) : Int) := by omega
  unfold ordStep
  refine sx_weak (sx_seq (sx_set (ex_modI (ex_intI (ex_ixL (enc := D.int) (EA.toL (ea_var rfl)) (ea_var rfl) (getD_at (by omega)))) (ex_addI (ea_var rfl) ex_int) (by omega)) rfl) (sx_seq (sx_set (ex_ixL (enc := D.int) (ea_mu rfl) (ea_var rfl) (getD_at (d := 0) (by omega))) rfl) (sx_seq (sx_setitemT (enc := D.int) (y := r.getD ((nums.getD k 0) % (((k : Nat) : Int) + 1)).toNat 0) (j := k) rfl (ex_ixL (enc := D.int) (ea_mu rfl) (ea_var rfl) (atI_i 0 ho1 (by omega))) (ea_var rfl) (ixN_n (by omega)) rfl) (sx_setitemT (enc := D.int) (y := r.getD k 0) (j := ((nums.getD k 0) % (((k : Nat) : Int) + 1)).toNat) rfl (ea_var rfl) (ea_var rfl) (by rw [List.length_set, e, Int.toNat_natCast]; exact ixN_n (by omega)) rfl)))) (by repeat (first | exact Le.nil | apply Le.same | apply Le.drop))
def N__law_no_clash : List Str := ["_law_entries", "_law_labels", "_law_label", "_law_k"]
abbrev ps__law_no_clash : List Str := ["_law_entries", "_law_labels"]
theorem sc__law_no_clash : FnScope N__law_no_clash ps__law_no_clash (defScope (top 79)) := ⟨rfl, rfl, rfl, by decide +kernel, rfl, by decide +kernel, by decide +kernel⟩
def R__law_no_clash : FP := fun as d => ∃ (es tab lab : List Int), as = [.v (ti es), .v (ti tab)] ∧ es.length = tab.length ∧ es.length ≤ 100 ∧ (∀ e ∈ es, 0 ≤ e ∧ e < 61) ∧ ncM es tab = some lab ∧ d = .bl true
theorem w__law_no_clash (T : Tx W.K mg) : BodyOk P w W mg base k N__law_no_clash "_law_no_clash" (top 79) R__law_no_clash := by
  intro f cdv A outer s H E hr
  refine ⟨_, (pss_cons (ps_setLc (i := 2) (own := [("_law_k", 3)]) rfl sc__law_no_clash.nd rfl rfl (sw_true rfl rfl rfl (by decide +kernel)) (pi_range1 (by rfl) T.range (pa_cons pe_int pa_nil)) (blkOk_by (N := N__law_no_clash) (sc := defScope (top 79)) (by decide +kernel)) (fun _ _ _ _ _ => pg_cast (pg_name (i := 3) sc__law_no_clash.nd rfl (by first | exact Or.inl rfl | exact Or.inr rfl)) (by first | exact rfl | (dsimp only [blk_K]; done) | (dsimp only [blk_K]; exact rfl))) (fun _ _ _ _ _ => pts_cast pts_nil (by first | exact rfl | (dsimp only [blk_K]; done) | (dsimp only [blk_K]; exact rfl))) (fun _ _ _ _ _ => pe_cast (pe_un un_neg pe_int) (by first | exact rfl | (dsimp only [blk_K]; done) | (dsimp only [blk_K]; exact rfl))))
    (pss_cons (ps_for PassesOwn.never rfl (pi_range1 (by rfl) T.range (pa_cons (pe_callB call_len_seq (by rfl) T.len PySem.boot_len (pa_cons (pv 0) pa_nil)) pa_nil)) (pg_name (i := 3) sc__law_no_clash.nd rfl (by first | exact Or.inl rfl | exact Or.inr rfl)) (pss_cons (ps_if (pt_cmpR op_eq (pe_ix ix_list (pv 2) (pe_ix ix_tup (pv 0) (pv 3) (fun _ _ => rfl)) (fun _ _ => rfl)) (pe_op op_sub pe_int (pe_ix ix_tup (pv 1) (pv 3) (fun _ _ => rfl))) (nomark _)) (pss_one (ps_ret pe_bl)) pss_nil)
     (pss_one (ps_asg (pe_ix ix_tup (pv 1) (pv 3) (fun _ _ => rfl)) (pg_sub (pv 2) (pe_ix ix_tup (pv 0) (pv 3) (fun _ _ => rfl)) set_list)))))
    (pss_one (ps_ret pe_bl)))), ?_⟩
  rintro as d ⟨es, tab, lab, rfl, hl, h100, he, hm, rfl⟩
  refine .inl (sx_seq (sx_setM (ExF.to (b := (List.replicate 61 (-1 : Int)).map D.int) (exf_lcT1 (enc := fun n : Nat => .int (n : Nat)) (ys := List.range 61) (fun _ => .int (-1)) (ew_rg1 (n := 61) ex_int (by decide)) (fun k hk => ⟨_, gx_name (by simp), ex_neg ex_int⟩) (by decide)) rfl) rfl) (sx_seq (sx_forM (enc := fun n : Nat => .int (n : Nat)) (ys := List.range es.length) (S := fun lab : List Int => [.val (ti es), .val (ti tab), .mu (lab.map D.int), .no]) (ncStep es tab) (List.replicate 61 (-1)) lab hm (ew_rg1 (ex_lenT (enc := D.int) (ea_var rfl)) (by omega)) fun l k l' hk hF => ⟨_, [3], gx_name (by simp), ?_⟩) (sx_ret ex_bl rfl)))
  have hk := List.mem_range.mp hk
  have hin := he (es.getD k 0) (by
    rw [List.getD_eq_getElem?_getD, List.getElem?_eq_getElem hk]
    exact List.getElem_mem hk)
  have e : es.getD k 0 = (((es.getD k 0).toNat : Nat) : Int) := by omega
  unfold ncStep at hF
  split at hF
  · rename_i h61
    have hix : ixN l.length (es.getD k 0) = some (es.getD k 0).toNat := by
      rw [e, Int.toNat_natCast]
      exact ixN_n (by omega)
    refine sx_if (b := decide (l.getD (es.getD k 0).toNat 0 = 1 - tab.getD k 0)) (ext_test (ex_eqI (ex_ixL (enc := D.int) (ea_mu rfl) (ex_ixT (enc := D.int) (ea_var rfl) (ea_var rfl) (getD_at hk)) (atI_i 0 hin.1 (by omega))) (ex_subI ex_int (ex_ixT (enc := D.int) (ea_var rfl) (ea_var rfl) (getD_at (by omega)))))) (fun hb => ?_) (fun hb => ?_)
    · rw [if_pos hb] at hF
      cases hF
    · rw [if_neg (by rw [hb]; exact Bool.false_ne_true)] at hF
      cases hF
      exact sx_weak (sx_setitemT (enc := D.int) (y := tab.getD k 0) (k := es.getD k 0) rfl (ex_ixT (enc := D.int) (ea_var rfl) (ea_var rfl) (getD_at (by omega))) (ex_ixT (enc := D.int) (ea_var rfl) (ea_var rfl) (getD_at hk)) hix rfl) (by repeat (first | exact Le.nil | apply Le.same | apply Le.drop))
  · cases hF
def N__law_draw : List Str := ["_law_script", "_law_k"]
abbrev ps__law_draw : List Str := ["_law_script", "_law_k"]
theorem sc__law_draw : FnScope N__law_draw ps__law_draw (defScope (top 80)) := ⟨rfl, rfl, rfl, by decide +kernel, rfl, by decide +kernel, by decide +kernel⟩
def R__law_draw : FP := fun as d => ∃ (ns : List Int) (k : Nat), as = [.l (ns.map D.int), .v (.int (k : Nat))] ∧ d = .int (drawM ns k)
theorem w__law_draw (T : Tx W.K mg) : BodyOk P w W mg base k N__law_draw "_law_draw" (top 80) R__law_draw := by
  intro f cdv A outer s H E hr
  refine ⟨_, (pss_cons (ps_if (pt_cmpR op_lt (pv 1) (pe_callB call_len_seq (by rfl) T.len PySem.boot_len (pa_cons (pv 0) pa_nil)) (nomark _)) (pss_one (ps_ret (pe_callB call_abs (by rfl) T.abs (by rfl) (pa_cons (pe_ix ix_list (pv 0) (pv 1) (fun _ _ => rfl)) pa_nil)))) pss_nil)
    (pss_cons (ps_if (pt_cmpR op_eq (pe_callB call_len_seq (by rfl) T.len PySem.boot_len (pa_cons (pv 0) pa_nil)) pe_int (nomark _)) (pss_one (ps_ret (pe_op op_mul pe_int (pv 1)))) pss_nil)
    (pss_one (ps_ret (pe_op op_mod (pe_callTy call_int1 (by rfl) T.int boot_int (pa_cons (pe_op op_add (pe_callB call_abs (by rfl) T.abs (by rfl) (pa_cons (pe_ix ix_list (pv 0) (pe_op op_mod (pe_callTy call_int1 (by rfl) T.int boot_int (pa_cons (pv 1) pa_nil)) (pe_callB call_len_seq (by rfl) T.len PySem.boot_len (pa_cons (pv 0) pa_nil))) (fun _ _ => rfl)) pa_nil)) (pe_op op_mul pe_int (pv 1))) pa_nil)) pe_int))))), ?_⟩
  rintro as d ⟨ns, k, rfl, rfl⟩
  unfold drawM
  by_cases h1 : k < ns.length
  · rw [if_pos h1]
    exact .inl (sx_seq_rt (sx_ifT (ext_test (ex_ltI (ea_var rfl) (ex_lenM (ea_rd rfl)))) (decide_eq_true (by omega)) (sx_ret (ex_cb rg_abs (exa_cons (ex_ixL (enc := D.int) (ea_rd rfl) (ea_var rfl) (getD_at h1)) exa_nil)) rfl)))
  · rw [if_neg h1]
    by_cases h2 : ns.length = 0
    · rw [if_pos h2]
      exact .inl (sx_seq (sx_ifF (ext_test (ex_ltI (ea_var rfl) (ex_lenM (ea_rd rfl)))) (decide_eq_false (by omega)) (sx_nil rfl)) (sx_seq_rt (sx_ifT (ext_test (ex_eqI (ex_lenM (ea_rd rfl)) ex_int)) (decide_eq_true (by omega)) (sx_ret (ex_mulI ex_int (ea_var rfl) (.inl ⟨by decide, by decide⟩)) rfl))))
    · rw [if_neg h2]
      have e1 : 0 ≤ ((k : Nat) : Int) % ((ns.length : Nat) : Int) := Int.emod_nonneg _ (by omega)
      have e2 : ((k : Nat) : Int) % ((ns.length : Nat) : Int) < ((ns.length : Nat) : Int) := Int.emod_lt_of_pos _ (by omega)
      exact .inl (sx_seq (sx_ifF (ext_test (ex_ltI (ea_var rfl) (ex_lenM (ea_rd rfl)))) (decide_eq_false (by omega)) (sx_nil rfl)) (sx_seq (sx_ifF (ext_test (ex_eqI (ex_lenM (ea_rd rfl)) ex_int)) (decide_eq_false (by omega)) (sx_nil rfl)) (sx_ret (ex_modI (ex_intI (ex_addI (ex_cb rg_abs (exa_cons (ex_ixL (enc := D.int) (ea_rd rfl) (ex_modI (ex_intI (ea_var rfl)) (ex_lenM (ea_rd rfl)) (by omega)) (atI_i 0 e1 e2)) exa_nil)) (ex_mulI ex_int (ea_var rfl) (.inl ⟨by decide, by decide⟩)))) ex_int (by decide)) rfl)))
def N_counted : List Str := ["places", "counts", "signs"]
abbrev ps_counted : List Str := ["places", "counts"]
theorem sc_counted : FnScope N_counted ps_counted (defScope (top 42)) := ⟨rfl, rfl, rfl, by decide +kernel, rfl, by decide +kernel, by decide +kernel⟩
def R_counted : FP := fun as d => ∃ (p : Nat) (cs : List Int), p ≤ 5 ∧ as = [.v (.int (p : Nat)), .v (ti cs)] ∧ d = ti (cntL p cs)
theorem w_counted (T : Tx W.K mg) (c_inputs_of : C8.Cal P w W.K mg base 7 "inputs_of" (spOf W R_inputs_of) []) (c_weight : C8.Cal P w W.K mg base 1 "weight" (spOf W R_weight) []) : BodyOk P w W mg base 7 N_counted "counted" (top 42) R_counted := by
  intro f cdv A outer s H E hr
  refine ⟨_, (pss_one (ps_ret (pe_callTy call_tuple_of (by rfl) T.tuple boot_tuple (pa_cons (pe_lc (own := [("signs", 2)]) rfl sc_counted.nd (pi_list (C8.pe_c c_inputs_of hr (by decide) (by rfl) (pa_cons (pe_op (op_repAny) (pe_tup (pa_cons pe_int pa_nil)) (pv 0)) pa_nil))) (blkOk_by (N := N_counted) (sc := defScope (top 42)) (by decide +kernel)) (fun _ _ _ _ _ => pg_cast (pg_name (i := 2) sc_counted.nd rfl (by first | exact Or.inl rfl | exact Or.inr rfl)) (by first | exact rfl | (dsimp only [blk_K]; done) | (dsimp only [blk_K]; exact rfl))) (fun _ _ _ _ _ => pts_cast pts_nil (by first | exact rfl | (dsimp only [blk_K]; done) | (dsimp only [blk_K]; exact rfl))) (fun _ _ _ _ _ => pe_cast (pe_ifExp (pt_cmpR op_in_seq (C8.pe_c c_weight hr (by decide) (by rfl) (pa_cons (pv 2) pa_nil)) (pv 1) (by with_unfolding_all rfl)) pe_int pe_int) (by first | exact rfl | (dsimp only [blk_K]; done) | (dsimp only [blk_K]; exact rfl)))) pa_nil)))), ?_⟩
  rintro as d ⟨p, cs, hp, rfl, rfl⟩
  have h4 := rowsP_len hp
  have h2 := two_pow_le hp
  refine .inl (sx_ret (ex_tupF (ExF.to (b := (cntL p cs).map D.int) (exf_lcT1 (enc := ti) (ys := rowsP p) (fun s => .int (if decide (wt s ∈ cs) = true then 1 else 0)) (ew_list (ex_call (R := R_inputs_of) ⟨p, hp, rfl, rfl⟩ (exa_cons (Ex.to (ex_op (og_repAny (d := .int 2) (k := p) (by omega)) (ex_tup (ds := [.int 2]) (show 1 ≤ sizeLine by decide) (exa_cons ex_int exa_nil)) (ea_var rfl)) (by rw [show shp p = .tup ((List.replicate p (2 : Int)).map D.int) from rfl, List.map_replicate])) exa_nil))) (fun s hs => ⟨_, gx_name (by simp), ex_if (c := decide (wt s ∈ cs)) (ext_test (ex_inI (ex_call (R := R_weight) ⟨s, by have := rowsP_small hp s hs; omega, rfl, rfl⟩ (exa_cons (ea_var rfl) exa_nil)) (EA.tupS (ea_var rfl)))) (fun h => Ex.to ex_int (by rw [if_pos h])) (fun h => Ex.to ex_int (by rw [if_neg (by rw [h]; exact Bool.false_ne_true)]))⟩) (small_of (by omega))) (by unfold cntL; rw [List.map_map]; rfl))) rfl)
/-- counted(p, c, ..), its values written -/
def spS (W : Wd) (R : FP) : Sp := fun vs H Q _ => ∃ (B : Hp) (p : Int) (cs : List Int) (d : D), Pr W B H ∧ vs = .int p :: cs.map V.int ∧ cs.length ≤ 1000 ∧ R [.v (.int p), .v (ti cs)] d ∧ ∀ v B' H', Ext W B H B' H' → Den W B' d v → Q v H'
structure CalS (P : Program) (w : World) (K : PySem.W.Frag) (mg : Str → Option Value) (base : Heap) (k : Nat) (x : Str) (sp : Sp) : Prop where
  ex : ∃ f : Addr, FnR P w K mg base C8.CX0 k f sp ∧ mg x = some (.ref f) ∧ PySem.W.keepIn K (.ref f) = true
def tStarC (sp : Sp) (E : XK) (t : TA) : TE := fun σ H Q => t σ H fun vs H1 => sp vs H1 Q E
theorem pe_star {X : Cx} {k j : Nat} {sp : Sp} {x : Str} {e : Expr} {es : List Expr} {t : TA} {p pos : Pos} (c : CalS X.prog X.w X.K X.mg X.base k x sp) (hr : Room j X.A) (hk : k ≤ j) (hg : Gl X x) (ha : PA X (e :: es) t) (hd : (x == ("__debug__" : Str)) = false := by decide)
    (he : starEach (e :: es) X.env = (false, eval e X.env) :: starEach es X.env := by rfl) (hpl : (backTo pos (starEach es X.env)).any (·.1) = false := by rfl) : PE X (.Call (.Name x p) (e :: es) [] pos) (tStarC sp C8.E0 t) := by
  obtain ⟨f, F, hm, kp⟩ := c.ex
  refine ⟨fun pins s σ H Q I h => ?_⟩
  refine wpAny_Call_Name_kw (ld_glob I hg hm ?_ hd)
  refine PySem.W.callWith_K (h₀ := X.base) I.ok.mod.kin kp (thn (ha.run pos pins s σ H _ I h) fun us s1 ⟨vs, H1, I1, r, q⟩ => ⟨I1.kIn, ?_⟩) he hpl
  exact wpAny_call (run_fnR F (hr.mono hk) C8.pass0 I1 r q)
theorem argsI {B H : Hp} : ∀ {cs : List Int} {xs : List V}, ArgsOk W B H (cs.map fun c => .v (.int c)) xs → xs = cs.map V.int
  | [], _, h => h
  | c :: cs, _, ⟨x, r, h1, h2, h3⟩ => by rw [h1, h2.int, argsI h3]; rfl
theorem ex_star {δ : Sto} {R : FP} {t : TA} {p : Int} {cs : List Int} {d : D} (hR : R [.v (.int p), .v (ti cs)] d) (hl : cs.length ≤ 1000) (ht : ExA W t δ ((p :: cs).map fun c => .v (.int c))) : Ex W (tStarC (spS W R) C8.E0 t) δ d := fun H0 B H σ s Q q =>
  ht H0 B H σ s _ fun xs B1 H1 e1 ax => ⟨B1, p, cs, d, e1.ok, argsI ax, hl, hR, fun v B2 H2 e2 d2 => q v B2 H2 (e1.trans e2) d2⟩
theorem star_of {R : FP} {N : List Str} {st : Stmt} {f : Addr} {fd : FuncData} {x : Str} {p1 pv : Str} (hb : BodyOk P w W mg base k N x st R) (S : FnScope N ([p1] ++ [pv]) (defScope st)) (F : FnP W.K x st f fd)
    (hbind : ∀ (kV doc pm : Value) (an : Option Addr) (cdv ct : Value) (us rest : List Value), us.length = 1 → bindArgs (PySem.W.fnOf x x (defArgs st) (defBody st) (defScope st) .none kV doc pm an cdv ct) ⟨us ++ rest, []⟩ = (newTuple rest >>= fun t => pure ([p1].zip us ++ [(pv, t)])))
    (hl : ∀ as d, R as d → as.length = 2) : FnR P w W.K mg base C8.CX0 (k + 1) f (spS W R) := by
  obtain ⟨oc, od, dV, kV, doc, pm, an, cdv, ct, osl, rfl, lk, hcd, hD, _⟩ := F.ex
  have hdV : dV = .none := by
    rcases hD with ⟨_, h⟩ | ⟨e, _⟩
    · exact h
    · exact absurd rfl e
  subst hdV
  have h := StX.fn_star (P := P) (w := w) (mg := mg) (base := base) (k := k) (CX := C8.CX0) (ps := [p1]) (pv := pv) (sp := spOf W R) lk hcd S (fun _ _ _ _ _ _ _ _ _ _ _ z => z) (fun us rest hu => hbind kV doc pm an cdv ct us rest hu) (fun A outer s H vs Q E hr h => by
    obtain ⟨t, h1, h2⟩ := hb f cdv A outer s H E hr
    exact ⟨t, PSs.nox h1, body_of h h2⟩)
  refine h.imp fun vs H Q E hs => ?_
  obtain ⟨B, p, cs, d, P1, rfl, hl, hR, q⟩ := hs
  refine ⟨[.int p], cs.map V.int, rfl, rfl, by rw [List.length_map]; exact small_of hl, fun a ha => ?_⟩
  have e := Ext.new (o := .tup (cs.map V.int)) P1 ha tup_ne
  exact ⟨_, [.v (.int p), .v (ti cs)], d, e.ok, ⟨_, _, rfl, (show Den W (upd B a (.tup (cs.map V.int))) (.int p) (.int p) from Den.int_), _, _, rfl, (show Den W (upd B a (.tup (cs.map V.int))) (ti cs) (.ref a) from Den.tup_iff.mpr ⟨a, _, rfl, .inl (.inl upd_same), DenL.ints_ cs⟩), rfl⟩, hR, fun v B' H' e2 hv => q v B' H' (e.trans e2) hv⟩
theorem ex_lx {δ : Sto} {i : Nat} {cs : List Int} (h : δ[i]? = some (.val (li cs))) {j : Nat} {c : Int} (hj : cs[j]? = some c) : Ex W (tOp (rIxL W.K) (tVar i) (tC (.int ((j : Nat) : Int)))) δ (.int c) := ex_ixL (enc := D.int) (EA.toL (ea_var h)) ex_int (atI_nat hj)
def N__law_counted : List Str := ["_law_places", "_law_counts"]
abbrev ps__law_counted : List Str := ["_law_places", "_law_counts"]
theorem sc__law_counted : FnScope N__law_counted ps__law_counted (defScope (top 81)) := ⟨rfl, rfl, rfl, by decide +kernel, rfl, by decide +kernel, by decide +kernel⟩
def R__law_counted : FP := fun as d => ∃ (p : Nat) (cs : List Int), p ≤ 5 ∧ cs.length ≤ 6 ∧ as = [.v (.int (p : Nat)), .v (li cs)] ∧ d = ti (cntL p cs)
theorem w__law_counted (T : Tx W.K mg) (c_counted : CalS P w W.K mg base 8 "counted" (spS W R_counted)) : BodyOk P w W mg base 8 N__law_counted "_law_counted" (top 81) R__law_counted := by
  intro f cdv A outer s H E hr
  refine ⟨_, (pss_cons (ps_if (pt_cmpR op_eq (pe_callB call_len_seq (by rfl) T.len PySem.boot_len (pa_cons (pv 1) pa_nil)) pe_int (nomark _)) (pss_one (ps_ret (pe_star c_counted hr (by decide) (by rfl) (pa_cons (pv 0) pa_nil)))) pss_nil)
    (pss_cons (ps_if (pt_cmpR op_eq (pe_callB call_len_seq (by rfl) T.len PySem.boot_len (pa_cons (pv 1) pa_nil)) pe_int (nomark _)) (pss_one (ps_ret (pe_star c_counted hr (by decide) (by rfl) (pa_cons (pv 0) (pa_cons (pe_ix ix_list (pv 1) pe_int (fun _ _ => rfl)) pa_nil))))) pss_nil)
    (pss_cons (ps_if (pt_cmpR op_eq (pe_callB call_len_seq (by rfl) T.len PySem.boot_len (pa_cons (pv 1) pa_nil)) pe_int (nomark _)) (pss_one (ps_ret (pe_star c_counted hr (by decide) (by rfl) (pa_cons (pv 0) (pa_cons (pe_ix ix_list (pv 1) pe_int (fun _ _ => rfl)) (pa_cons (pe_ix ix_list (pv 1) pe_int (fun _ _ => rfl)) pa_nil)))))) pss_nil)
    (pss_cons (ps_if (pt_cmpR op_eq (pe_callB call_len_seq (by rfl) T.len PySem.boot_len (pa_cons (pv 1) pa_nil)) pe_int (nomark _)) (pss_one (ps_ret (pe_star c_counted hr (by decide) (by rfl) (pa_cons (pv 0) (pa_cons (pe_ix ix_list (pv 1) pe_int (fun _ _ => rfl)) (pa_cons (pe_ix ix_list (pv 1) pe_int (fun _ _ => rfl)) (pa_cons (pe_ix ix_list (pv 1) pe_int (fun _ _ => rfl)) pa_nil))))))) pss_nil)
    (pss_cons (ps_if (pt_cmpR op_eq (pe_callB call_len_seq (by rfl) T.len PySem.boot_len (pa_cons (pv 1) pa_nil)) pe_int (nomark _)) (pss_one (ps_ret (pe_star c_counted hr (by decide) (by rfl) (pa_cons (pv 0) (pa_cons (pe_ix ix_list (pv 1) pe_int (fun _ _ => rfl)) (pa_cons (pe_ix ix_list (pv 1) pe_int (fun _ _ => rfl)) (pa_cons (pe_ix ix_list (pv 1) pe_int (fun _ _ => rfl)) (pa_cons (pe_ix ix_list (pv 1) pe_int (fun _ _ => rfl)) pa_nil)))))))) pss_nil)
    (pss_cons (ps_if (pt_cmpR op_eq (pe_callB call_len_seq (by rfl) T.len PySem.boot_len (pa_cons (pv 1) pa_nil)) pe_int (nomark _)) (pss_one (ps_ret (pe_star c_counted hr (by decide) (by rfl) (pa_cons (pv 0) (pa_cons (pe_ix ix_list (pv 1) pe_int (fun _ _ => rfl)) (pa_cons (pe_ix ix_list (pv 1) pe_int (fun _ _ => rfl)) (pa_cons (pe_ix ix_list (pv 1) pe_int (fun _ _ => rfl)) (pa_cons (pe_ix ix_list (pv 1) pe_int (fun _ _ => rfl)) (pa_cons (pe_ix ix_list (pv 1) pe_int (fun _ _ => rfl)) pa_nil))))))))) pss_nil)
    (pss_one (ps_ret (pe_star c_counted hr (by decide) (by rfl) (pa_cons (pv 0) (pa_cons (pe_ix ix_list (pv 1) pe_int (fun _ _ => rfl)) (pa_cons (pe_ix ix_list (pv 1) pe_int (fun _ _ => rfl)) (pa_cons (pe_ix ix_list (pv 1) pe_int (fun _ _ => rfl)) (pa_cons (pe_ix ix_list (pv 1) pe_int (fun _ _ => rfl)) (pa_cons (pe_ix ix_list (pv 1) pe_int (fun _ _ => rfl)) (pa_cons (pe_ix ix_list (pv 1) pe_int (fun _ _ => rfl)) pa_nil)))))))))))))))), ?_⟩
  rintro as d ⟨p, cs, hp, hl, rfl, rfl⟩
  have hR : R_counted [.v (.int (p : Nat)), .v (ti cs)] (ti (cntL p cs)) := ⟨p, cs, hp, rfl, rfl⟩
  have hl2 : cs.length ≤ 1000 := by omega
  match cs, hl, hR, hl2 with
  | [], _, hR, hl2 => exact .inl (sx_seq_rt (sx_ifT (ext_test (ex_eqI (ex_lenL (enc := D.int) (ea_var rfl)) ex_int)) rfl (sx_ret (ex_star hR hl2 (exa_cons (ea_var rfl) exa_nil)) rfl)))
  | [a], _, hR, hl2 => exact .inl (sx_seq (sx_ifF (ext_test (ex_eqI (ex_lenL (enc := D.int) (ea_var rfl)) ex_int)) rfl (sx_nil rfl)) (sx_seq_rt (sx_ifT (ext_test (ex_eqI (ex_lenL (enc := D.int) (ea_var rfl)) ex_int)) rfl (sx_ret (ex_star hR hl2 (exa_cons (ea_var rfl) (exa_cons (ex_lx rfl (j := 0) rfl) exa_nil))) rfl))))
  | [a, b], _, hR, hl2 => exact .inl (sx_seq (sx_ifF (ext_test (ex_eqI (ex_lenL (enc := D.int) (ea_var rfl)) ex_int)) rfl (sx_nil rfl)) (sx_seq (sx_ifF (ext_test (ex_eqI (ex_lenL (enc := D.int) (ea_var rfl)) ex_int)) rfl (sx_nil rfl)) (sx_seq_rt (sx_ifT (ext_test (ex_eqI (ex_lenL (enc := D.int) (ea_var rfl)) ex_int)) rfl (sx_ret (ex_star hR hl2 (exa_cons (ea_var rfl) (exa_cons (ex_lx rfl (j := 0) rfl) (exa_cons (ex_lx rfl (j := 1) rfl) exa_nil)))) rfl)))))
  | [a, b, c], _, hR, hl2 => exact .inl (sx_seq (sx_ifF (ext_test (ex_eqI (ex_lenL (enc := D.int) (ea_var rfl)) ex_int)) rfl (sx_nil rfl)) (sx_seq (sx_ifF (ext_test (ex_eqI (ex_lenL (enc := D.int) (ea_var rfl)) ex_int)) rfl (sx_nil rfl)) (sx_seq (sx_ifF (ext_test (ex_eqI (ex_lenL (enc := D.int) (ea_var rfl)) ex_int)) rfl (sx_nil rfl)) (sx_seq_rt (sx_ifT (ext_test (ex_eqI (ex_lenL (enc := D.int) (ea_var rfl)) ex_int)) rfl (sx_ret (ex_star hR hl2 (exa_cons (ea_var rfl) (exa_cons (ex_lx rfl (j := 0) rfl) (exa_cons (ex_lx rfl (j := 1) rfl) (exa_cons (ex_lx rfl (j := 2) rfl) exa_nil))))) rfl))))))
  | [a, b, c, e], _, hR, hl2 => exact .inl (sx_seq (sx_ifF (ext_test (ex_eqI (ex_lenL (enc := D.int) (ea_var rfl)) ex_int)) rfl (sx_nil rfl)) (sx_seq (sx_ifF (ext_test (ex_eqI (ex_lenL (enc := D.int) (ea_var rfl)) ex_int)) rfl (sx_nil rfl)) (sx_seq (sx_ifF (ext_test (ex_eqI (ex_lenL (enc := D.int) (ea_var rfl)) ex_int)) rfl (sx_nil rfl)) (sx_seq (sx_ifF (ext_test (ex_eqI (ex_lenL (enc := D.int) (ea_var rfl)) ex_int)) rfl (sx_nil rfl)) (sx_seq_rt (sx_ifT (ext_test (ex_eqI (ex_lenL (enc := D.int) (ea_var rfl)) ex_int)) rfl (sx_ret (ex_star hR hl2 (exa_cons (ea_var rfl) (exa_cons (ex_lx rfl (j := 0) rfl) (exa_cons (ex_lx rfl (j := 1) rfl) (exa_cons (ex_lx rfl (j := 2) rfl) (exa_cons (ex_lx rfl (j := 3) rfl) exa_nil)))))) rfl)))))))
  | [a, b, c, e, g], _, hR, hl2 => exact .inl (sx_seq (sx_ifF (ext_test (ex_eqI (ex_lenL (enc := D.int) (ea_var rfl)) ex_int)) rfl (sx_nil rfl)) (sx_seq (sx_ifF (ext_test (ex_eqI (ex_lenL (enc := D.int) (ea_var rfl)) ex_int)) rfl (sx_nil rfl)) (sx_seq (sx_ifF (ext_test (ex_eqI (ex_lenL (enc := D.int) (ea_var rfl)) ex_int)) rfl (sx_nil rfl)) (sx_seq (sx_ifF (ext_test (ex_eqI (ex_lenL (enc := D.int) (ea_var rfl)) ex_int)) rfl (sx_nil rfl)) (sx_seq (sx_ifF (ext_test (ex_eqI (ex_lenL (enc := D.int) (ea_var rfl)) ex_int)) rfl (sx_nil rfl)) (sx_seq_rt (sx_ifT (ext_test (ex_eqI (ex_lenL (enc := D.int) (ea_var rfl)) ex_int)) rfl (sx_ret (ex_star hR hl2 (exa_cons (ea_var rfl) (exa_cons (ex_lx rfl (j := 0) rfl) (exa_cons (ex_lx rfl (j := 1) rfl) (exa_cons (ex_lx rfl (j := 2) rfl) (exa_cons (ex_lx rfl (j := 3) rfl) (exa_cons (ex_lx rfl (j := 4) rfl) exa_nil))))))) rfl))))))))
  | [a, b, c, e, g, i], _, hR, hl2 => exact .inl (sx_seq (sx_ifF (ext_test (ex_eqI (ex_lenL (enc := D.int) (ea_var rfl)) ex_int)) rfl (sx_nil rfl)) (sx_seq (sx_ifF (ext_test (ex_eqI (ex_lenL (enc := D.int) (ea_var rfl)) ex_int)) rfl (sx_nil rfl)) (sx_seq (sx_ifF (ext_test (ex_eqI (ex_lenL (enc := D.int) (ea_var rfl)) ex_int)) rfl (sx_nil rfl)) (sx_seq (sx_ifF (ext_test (ex_eqI (ex_lenL (enc := D.int) (ea_var rfl)) ex_int)) rfl (sx_nil rfl)) (sx_seq (sx_ifF (ext_test (ex_eqI (ex_lenL (enc := D.int) (ea_var rfl)) ex_int)) rfl (sx_nil rfl)) (sx_seq (sx_ifF (ext_test (ex_eqI (ex_lenL (enc := D.int) (ea_var rfl)) ex_int)) rfl (sx_nil rfl)) (sx_ret (ex_star hR hl2 (exa_cons (ea_var rfl) (exa_cons (ex_lx rfl (j := 0) rfl) (exa_cons (ex_lx rfl (j := 1) rfl) (exa_cons (ex_lx rfl (j := 2) rfl) (exa_cons (ex_lx rfl (j := 3) rfl) (exa_cons (ex_lx rfl (j := 4) rfl) (exa_cons (ex_lx rfl (j := 5) rfl) exa_nil)))))))) rfl)))))))
  | _ :: _ :: _ :: _ :: _ :: _ :: _ :: r, h, _, _ => simp at h
end
end K9
/-! text W19 -/
set_option Elab.async false
set_option linter.all false
set_option maxRecDepth 100000
set_option maxHeartbeats 2000000
set_option autoImplicit false
/-! walks: drawn counts, first clash -/
namespace K9
open PySem PySem.Spec PyProof.Rows L2 LamX
/-! ### plain -/
def dcBits (nums : List Int) : List Int := ((nums.drop 1).take 9).map fun x => x % 2
def dcSel (nums : List Int) (p : Nat) (f : Nat → Nat) : List Int := ((List.range (p + 1)).filter fun c => decide ((dcBits nums).getD (f c) 0 = 1)).map fun c => ((c : Nat) : Int)
def dcRev (nums : List Int) (cs : List Int) : List Int := if decide (nums.getD 16 0 % 2 = 0) = true then cs.reverse else cs
def dcApp (nums : List Int) (cs : List Int) : List Int := if (decide ((cs.length : Int) < 6) && (decide (0 < (cs.length : Int)) && decide (nums.getD 17 0 % 3 = 0))) = true then cs ++ [cs.getD 0 0] else cs
def dcM (nums : List Int) (p many : Nat) : List Int :=
  if decide (nums.getD 0 0 % 4 = 0) = true then ((nums.drop 10).take (nums.getD 1 0 % 7).toNat).map fun x => x % (((p : Nat) : Int) + 4) - 2
  else dcApp nums (dcRev nums (if decide (nums.getD 0 0 % 4 = 1) = true then dcSel nums p fun c => c else dcSel nums p fun c => (((c : Nat) : Int) % ((many : Nat) : Int)).toNat))
theorem dcSel_len (nums : List Int) (p : Nat) (f : Nat → Nat) : (dcSel nums p f).length ≤ p + 1 := by
  unfold dcSel
  rw [List.length_map]
  refine Nat.le_trans (List.length_filter_le _ _) ?_
  rw [List.length_range]
  exact Nat.le_refl _
theorem dcM_len {nums : List Int} {p many : Nat} (hp : p ≤ 5) : (dcM nums p many).length ≤ 6 := by
  unfold dcM
  split
  · rw [List.length_map, List.length_take]
    have := Int.emod_lt_of_pos (nums.getD 1 0) (show (0 : Int) < 7 by decide)
    omega
  · have key : ∀ cs : List Int, cs.length ≤ 6 → (dcApp nums (dcRev nums cs)).length ≤ 6 := fun cs h => by
      have h1 : (dcRev nums cs).length = cs.length := by
        unfold dcRev
        split
        · rw [List.length_reverse]
        · rfl
      unfold dcApp
      split
      · rename_i hc
        rw [Bool.and_eq_true] at hc
        have := of_decide_eq_true hc.1
        rw [List.length_append]
        show _ + 1 ≤ 6
        omega
      · omega
    refine key _ ?_
    split
    · have := dcSel_len nums p fun c => c
      omega
    · have := dcSel_len nums p fun c => (((c : Nat) : Int) % ((many : Nat) : Int)).toNat
      omega
theorem dec_comm (a b : Int) : decide (a = b) = decide (b = a) := by
  by_cases h : a = b
  · subst h; rfl
  · rw [decide_eq_false h, decide_eq_false fun e => h e.symm]
section
variable {P : Program} {w : World} {W : Wd} {mg : Str → Option Value} {base : Heap} {k : Nat}
theorem sx_reverseT {δ : Sto} {o : Out} {α : Type} {enc : α → D} {i : Nat} {ys : List α} (hi : δ[i]? = some (.mu (ys.map enc))) (ho : o = .nx (δ.set i (.mu (ys.reverse.map enc)))) : SX W (tDrop (tBM0 W.K "list" rReverse (tVar i))) δ o := sx_reverse hi (by rw [ho, List.map_reverse])
def N__law_drawn_counts : List Str := ["_law_numbers_here", "_law_places", "_law_many", "_law_kind", "_law_bits", "_law_number", "_law_counts", "_law_count"]
abbrev ps__law_drawn_counts : List Str := ["_law_numbers_here", "_law_places", "_law_many"]
theorem sc__law_drawn_counts : FnScope N__law_drawn_counts ps__law_drawn_counts (defScope (top 82)) := ⟨rfl, rfl, rfl, by decide +kernel, rfl, by decide +kernel, by decide +kernel⟩
def R__law_drawn_counts : FP := fun as d => ∃ (nums : List Int) (p many : Nat), p ≤ 5 ∧ 1 ≤ many ∧ many ≤ 8 ∧ nums.length = 20 ∧ as = [.v (li nums), .v (.int (p : Nat)), .v (.int (many : Nat))] ∧ d = li (dcM nums p many)
theorem w__law_drawn_counts (T : Tx W.K mg) : BodyOk P w W mg base k N__law_drawn_counts "_law_drawn_counts" (top 82) R__law_drawn_counts := by
  intro f cdv A outer s H E hr
  refine ⟨_, (pss_cons (ps_set (i := 3) sc__law_drawn_counts.nd rfl (by first | exact Or.inl rfl | exact Or.inr rfl) (pe_op op_mod (pe_callTy call_int1 (by rfl) T.int boot_int (pa_cons (pe_ix ix_list (pv 0) pe_int (fun _ _ => rfl)) pa_nil)) pe_int))
    (pss_cons (ps_set (i := 4) sc__law_drawn_counts.nd rfl (by first | exact Or.inl rfl | exact Or.inr rfl) (pe_lc (own := [("_law_number", 5)]) rfl sc__law_drawn_counts.nd (pi_list (pe_slice sl_list (pv 0) (po_some pe_int) (po_some pe_int))) (blkOk_by (N := N__law_drawn_counts) (sc := defScope (top 82)) (by decide +kernel)) (fun _ _ _ _ _ => pg_cast (pg_name (i := 5) sc__law_drawn_counts.nd rfl (by first | exact Or.inl rfl | exact Or.inr rfl)) (by first | exact rfl | (dsimp only [blk_K]; done) | (dsimp only [blk_K]; exact rfl))) (fun _ _ _ _ _ => pts_cast pts_nil (by first | exact rfl | (dsimp only [blk_K]; done) | (dsimp only [blk_K]; exact rfl))) (fun _ _ _ _ _ => pe_cast (pe_op op_mod (pe_callTy call_int1 (by rfl) T.int boot_int (pa_cons (pv 5) pa_nil)) pe_int) (by first | exact rfl | (dsimp only [blk_K]; done) | (dsimp only [blk_K]; exact rfl)))))
    (pss_cons (ps_if (pt_cmpR op_eq (pv 3) pe_int (nomark _)) (pss_one (ps_ret (pe_lc (own := [("_law_number", 5)]) rfl sc__law_drawn_counts.nd (pi_list (pe_slice sl_list (pv 0) (po_some pe_int) (po_some (pe_op op_add pe_int (pe_op op_mod (pe_callTy call_int1 (by rfl) T.int boot_int (pa_cons (pe_ix ix_list (pv 0) pe_int (fun _ _ => rfl)) pa_nil)) pe_int))))) (blkOk_by (N := N__law_drawn_counts) (sc := defScope (top 82)) (by decide +kernel)) (fun _ _ _ _ _ => pg_cast (pg_name (i := 5) sc__law_drawn_counts.nd rfl (by first | exact Or.inl rfl | exact Or.inr rfl)) (by first | exact rfl | (dsimp only [blk_K]; done) | (dsimp only [blk_K]; exact rfl))) (fun _ _ _ _ _ => pts_cast pts_nil (by first | exact rfl | (dsimp only [blk_K]; done) | (dsimp only [blk_K]; exact rfl))) (fun _ _ _ _ _ => pe_cast (pe_op op_sub (pe_op op_mod (pe_callTy call_int1 (by rfl) T.int boot_int (pa_cons (pv 5) pa_nil)) (pe_op op_add (pv 1) pe_int)) pe_int) (by first | exact rfl | (dsimp only [blk_K]; done) | (dsimp only [blk_K]; exact rfl)))))) pss_nil)
    (pss_cons (ps_if (pt_cmpR op_eq (pv 3) pe_int (nomark _)) (pss_one (ps_setLc (i := 6) (own := [("_law_count", 7)]) rfl sc__law_drawn_counts.nd rfl rfl (sw_true rfl rfl rfl (by decide +kernel)) (pi_range1 (by rfl) T.range (pa_cons (pe_op op_add (pv 1) pe_int) pa_nil)) (blkOk_by (N := N__law_drawn_counts) (sc := defScope (top 82)) (by decide +kernel)) (fun _ _ _ _ _ => pg_cast (pg_name (i := 7) sc__law_drawn_counts.nd rfl (by first | exact Or.inl rfl | exact Or.inr rfl)) (by first | exact rfl | (dsimp only [blk_K]; done) | (dsimp only [blk_K]; exact rfl))) (fun _ _ _ _ _ => pts_cast (pts_one (pt_cmpR op_eq (pe_ix ix_list (pv 4) (pv 7) (fun _ _ => rfl)) pe_int (nomark _))) (by first | exact rfl | (dsimp only [blk_K]; done) | (dsimp only [blk_K]; exact rfl))) (fun _ _ _ _ _ => pe_cast (pv 7) (by first | exact rfl | (dsimp only [blk_K]; done) | (dsimp only [blk_K]; exact rfl))))) (pss_one (ps_setLc (i := 6) (own := [("_law_count", 7)]) rfl sc__law_drawn_counts.nd rfl rfl (sw_true rfl rfl rfl (by decide +kernel)) (pi_range1 (by rfl) T.range (pa_cons (pe_op op_add (pv 1) pe_int) pa_nil)) (blkOk_by (N := N__law_drawn_counts) (sc := defScope (top 82)) (by decide +kernel)) (fun _ _ _ _ _ => pg_cast (pg_name (i := 7) sc__law_drawn_counts.nd rfl (by first | exact Or.inl rfl | exact Or.inr rfl)) (by first | exact rfl | (dsimp only [blk_K]; done) | (dsimp only [blk_K]; exact rfl))) (fun _ _ _ _ _ => pts_cast (pts_one (pt_cmpR op_eq (pe_ix ix_list (pv 4) (pe_op op_mod (pe_callTy call_int1 (by rfl) T.int boot_int (pa_cons (pv 7) pa_nil)) (pv 2)) (fun _ _ => rfl)) pe_int (nomark _))) (by first | exact rfl | (dsimp only [blk_K]; done) | (dsimp only [blk_K]; exact rfl))) (fun _ _ _ _ _ => pe_cast (pv 7) (by first | exact rfl | (dsimp only [blk_K]; done) | (dsimp only [blk_K]; exact rfl))))))
    (pss_cons (ps_if (pt_cmpR op_eq (pe_op op_mod (pe_callTy call_int1 (by rfl) T.int boot_int (pa_cons (pe_ix ix_list (pv 0) pe_int (fun _ _ => rfl)) pa_nil)) pe_int) pe_int (nomark _)) (pss_one (ps_expr (pe_bm0 PySem.F.plainAttrs_list PySem.F.slot_list_reverse PySem.F.type_list_reverse mt_reverse (pv 6)))) pss_nil)
    (pss_cons (ps_if (PW.pt (pw_and (pt_cmpR op_lt (pe_callB call_len_seq (by rfl) T.len PySem.boot_len (pa_cons (pv 6) pa_nil)) pe_int (nomark _)) (pw_and (pt_cmpR op_gt (pe_callB call_len_seq (by rfl) T.len PySem.boot_len (pa_cons (pv 6) pa_nil)) pe_int (nomark _)) (pw_and1 (pt_cmpR op_eq (pe_op op_mod (pe_callTy call_int1 (by rfl) T.int boot_int (pa_cons (pe_ix ix_list (pv 0) pe_int (fun _ _ => rfl)) pa_nil)) pe_int) pe_int (nomark _)))))) (pss_one (ps_expr (pe_bm PySem.F.plainAttrs_list PySem.F.slot_list_append PySem.F.type_list_append mt_append (pv 6) (pa_cons (pe_ix ix_list (pv 6) pe_int (fun _ _ => rfl)) pa_nil)))) pss_nil)
    (pss_one (ps_ret (pv 6))))))))), ?_⟩
  rintro as d ⟨nums, p, many, hp, hm1, hm8, hn, rfl, rfl⟩
  have hbl : (dcBits nums).length = 9 := by
    unfold dcBits
    rw [List.length_map, List.length_take, List.length_drop, hn]
    rfl
  have h7a := Int.emod_nonneg (nums.getD 1 0) (show (7 : Int) ≠ 0 by decide)
  have h7b := Int.emod_lt_of_pos (nums.getD 1 0) (show (0 : Int) < 7 by decide)
  have e7 : (10 : Int) + nums.getD 1 0 % 7 = ((10 + (nums.getD 1 0 % 7).toNat : Nat) : Int) := by omega
  unfold dcM
  by_cases hk : nums.getD 0 0 % 4 = 0
  · rw [if_pos (decide_eq_true hk)]
    refine .inl (sx_seq (sx_set (ex_modI (ex_intI (ex_ixL (enc := D.int) (EA.toL (ea_var rfl)) ex_int (atI_0 (d := 0) (by omega)))) ex_int (by decide)) rfl) (sx_seq (sx_set (Ex.to (b := li (dcBits nums)) (ExF.ex (exf_lcT1 (enc := D.int) (ys := (nums.drop 1).take 9) (fun x => .int (x % 2)) (ew_list (Ex.to (ExF.ex (exf_sl (EA.toL (ea_var rfl)) (eo_some ex_int) (eo_some ex_int))) (by rw [show (1 : Int) = ((1 : Nat) : Int) from rfl, show (10 : Int) = ((10 : Nat) : Int) from rfl, cut_nat, ← List.map_drop, ← List.map_take]))) (fun x hx => ⟨_, gx_name (by simp), ex_modI (ex_intI (ea_var rfl)) ex_int (by decide)⟩) (small_of (by rw [List.length_take]; omega)))) (by unfold dcBits li; rw [List.map_map]; rfl)) rfl)
      (sx_seq_rt (sx_ifT (ext_test (ex_eqI (ea_var rfl) ex_int)) (decide_eq_true hk) (sx_ret (Ex.to (ExF.ex (exf_lcT1 (enc := D.int) (ys := (nums.drop 10).take (nums.getD 1 0 % 7).toNat) (fun x => .int (x % (((p : Nat) : Int) + 4) - 2)) (ew_list (Ex.to (ExF.ex (exf_sl (EA.toL (ea_var rfl)) (eo_some ex_int) (eo_some (ex_addI ex_int (ex_modI (ex_intI (ex_ixL (enc := D.int) (EA.toL (ea_var rfl)) ex_int (getD_at (j := 1) (d := 0) (by omega)))) ex_int (by decide)))))) (by rw [e7, show (10 : Int) = ((10 : Nat) : Int) from rfl, cut_nat, ← List.map_drop, ← List.map_take, Nat.add_sub_cancel_left]))) (fun x hx => ⟨_, gx_name (by simp), ex_subI (ex_modI (ex_intI (ea_var rfl)) (ex_addI (ea_var rfl) ex_int) (by omega)) ex_int⟩) (small_of (by rw [List.length_take]; omega)))) (by unfold li; rw [List.map_map]; rfl)) rfl)))))
  · rw [if_neg (by rw [decide_eq_false hk]; exact Bool.false_ne_true)]
    have h4a := Int.emod_nonneg (nums.getD 0 0) (show (4 : Int) ≠ 0 by decide)
    refine .inl (sx_seq (sx_set (ex_modI (ex_intI (ex_ixL (enc := D.int) (EA.toL (ea_var rfl)) ex_int (atI_0 (d := 0) (by omega)))) ex_int (by decide)) rfl) (sx_seq (sx_set (Ex.to (b := li (dcBits nums)) (ExF.ex (exf_lcT1 (enc := D.int) (ys := (nums.drop 1).take 9) (fun x => .int (x % 2)) (ew_list (Ex.to (ExF.ex (exf_sl (EA.toL (ea_var rfl)) (eo_some ex_int) (eo_some ex_int))) (by rw [show (1 : Int) = ((1 : Nat) : Int) from rfl, show (10 : Int) = ((10 : Nat) : Int) from rfl, cut_nat, ← List.map_drop, ← List.map_take]))) (fun x hx => ⟨_, gx_name (by simp), ex_modI (ex_intI (ea_var rfl)) ex_int (by decide)⟩) (small_of (by rw [List.length_take]; omega)))) (by unfold dcBits li; rw [List.map_map]; rfl)) rfl)
      (sx_seq (sx_ifF (ext_test (ex_eqI (ea_var rfl) ex_int)) (decide_eq_false hk) (sx_nil rfl))
      (sx_seq (δ' := [.val (li nums), .val (.int (p : Nat)), .val (.int (many : Nat)), .val (.int (nums.getD 0 0 % 4)), .val (li (dcBits nums)), .no, .mu ((if decide (nums.getD 0 0 % 4 = 1) = true then dcSel nums p fun c => c else dcSel nums p fun c => (((c : Nat) : Int) % ((many : Nat) : Int)).toNat).map D.int), .no]) (sx_if (b := decide (nums.getD 0 0 % 4 = 1)) (ext_test (ex_eqI (ea_var rfl) ex_int)) (fun hb => ?_) (fun hb => ?_)) ?_))))
    · rw [if_pos hb]
      refine sx_weak (sx_setM (ExF.to (b := (dcSel nums p fun c => c).map D.int) (exf_lcT (enc := fun n : Nat => .int (n : Nat)) (ys := List.range (p + 1)) (fun c => decide ((dcBits nums).getD c 0 = 1)) (fun c => .int ((c : Nat) : Int)) (ew_rg1 (n := p + 1) (Ex.to (ex_addI (ea_var rfl) ex_int) (by simp)) (by omega)) (fun c hc => ⟨_, gx_name (by simp), ext_test (ex_eqI (ex_ixL (enc := D.int) (EA.toL (ea_var rfl)) (ea_var rfl) (getD_at (by have := List.mem_range.mp hc; omega))) ex_int), fun _ => ea_var rfl⟩) (by rw [List.length_range]; exact small_of (by omega))) (by unfold dcSel; rw [List.map_map]; rfl)) rfl) (by repeat (first | exact Le.nil | apply Le.same | apply Le.drop))
    · rw [if_neg (by rw [hb]; exact Bool.false_ne_true)]
      refine sx_weak (sx_setM (ExF.to (b := (dcSel nums p fun c => (((c : Nat) : Int) % ((many : Nat) : Int)).toNat).map D.int) (exf_lcT (enc := fun n : Nat => .int (n : Nat)) (ys := List.range (p + 1)) (fun c => decide ((dcBits nums).getD (((c : Nat) : Int) % ((many : Nat) : Int)).toNat 0 = 1)) (fun c => .int ((c : Nat) : Int)) (ew_rg1 (n := p + 1) (Ex.to (ex_addI (ea_var rfl) ex_int) (by simp)) (by omega)) (fun c hc => ⟨_, gx_name (by simp), ext_test (ex_eqI (ex_ixL (enc := D.int) (EA.toL (ea_var rfl)) (ex_modI (ex_intI (ea_var rfl)) (ea_var rfl) (by omega)) (atI_i 0 (Int.emod_nonneg _ (by omega)) (by have := Int.emod_lt_of_pos ((c : Nat) : Int) (show (0 : Int) < ((many : Nat) : Int) by omega); omega))) ex_int), fun _ => ea_var rfl⟩) (by rw [List.length_range]; exact small_of (by omega))) (by unfold dcSel; rw [List.map_map]; rfl)) rfl) (by repeat (first | exact Le.nil | apply Le.same | apply Le.drop))
    · have hlen : (if decide (nums.getD 0 0 % 4 = 1) = true then dcSel nums p fun c => c else dcSel nums p fun c => (((c : Nat) : Int) % ((many : Nat) : Int)).toNat).length ≤ 6 := by
        split
        · have := dcSel_len nums p fun c => c
          omega
        · have := dcSel_len nums p fun c => (((c : Nat) : Int) % ((many : Nat) : Int)).toNat
          omega
      generalize (if decide (nums.getD 0 0 % 4 = 1) = true then dcSel nums p fun c => c else dcSel nums p fun c => (((c : Nat) : Int) % ((many : Nat) : Int)).toNat) = cs at hlen
      have hrl : (dcRev nums cs).length = cs.length := by
        unfold dcRev
        split
        · rw [List.length_reverse]
        · rfl
      refine sx_seq (δ' := [.val (li nums), .val (.int (p : Nat)), .val (.int (many : Nat)), .val (.int (nums.getD 0 0 % 4)), .val (li (dcBits nums)), .no, .mu ((dcRev nums cs).map D.int), .no]) (sx_if (b := decide (nums.getD 16 0 % 2 = 0)) (ext_test (ex_eqI (ex_modI (ex_intI (ex_ixL (enc := D.int) (EA.toL (ea_var rfl)) ex_int (getD_at (j := 16) (d := 0) (by omega)))) ex_int (by decide)) ex_int)) (fun hb => ?_) (fun hb => ?_))
        (sx_seq (δ' := [.val (li nums), .val (.int (p : Nat)), .val (.int (many : Nat)), .val (.int (nums.getD 0 0 % 4)), .val (li (dcBits nums)), .no, .mu ((dcApp nums (dcRev nums cs)).map D.int), .no]) (sx_if (b := decide (((dcRev nums cs).length : Int) < 6) && (decide (0 < ((dcRev nums cs).length : Int)) && decide (nums.getD 17 0 % 3 = 0))) (ext_and (ext_test (ex_ltI (ex_lenM (ea_mu rfl)) ex_int)) fun _ => ext_and (ext_test (ex_gtI (ex_lenM (ea_mu rfl)) ex_int)) fun _ => ext_test (ex_eqI (ex_modI (ex_intI (ex_ixL (enc := D.int) (EA.toL (ea_var rfl)) ex_int (getD_at (j := 17) (d := 0) (by omega)))) ex_int (by decide)) ex_int)) (fun hb => ?_) (fun hb => ?_)) (sx_freeze (i := 6) rfl (sx_ret (ea_var rfl) rfl)))
      · unfold dcRev
        rw [if_pos hb]
        exact sx_reverseT rfl rfl
      · unfold dcRev
        rw [if_neg (by rw [hb]; exact Bool.false_ne_true)]
        exact sx_nil rfl
      · have h0 : 0 < (dcRev nums cs).length := by
          rw [Bool.and_eq_true, Bool.and_eq_true] at hb
          have := of_decide_eq_true hb.2.1
          omega
        unfold dcApp
        rw [if_pos hb]
        exact sx_appendT (enc := D.int) rfl (ex_ixL (enc := D.int) (ea_mu rfl) ex_int (atI_0 h0)) (small_lt (by omega)) rfl
      · unfold dcApp
        rw [if_neg (by rw [hb]; exact Bool.false_ne_true)]
        exact sx_nil rfl
def N__law_first_clash : List Str := ["_law_inputs_here", "_law_entries", "_law_labels", "_law_a", "_law_b"]
abbrev ps__law_first_clash : List Str := ["_law_inputs_here", "_law_entries", "_law_labels"]
theorem sc__law_first_clash : FnScope N__law_first_clash ps__law_first_clash (defScope (top 83)) := ⟨rfl, rfl, rfl, by decide +kernel, rfl, by decide +kernel, by decide +kernel⟩
def R__law_first_clash : FP := fun as d => ∃ (p : Nat) (es tab : List Int), p ≤ 5 ∧ as = [.v (rowsD p), .v (li es), .v (ti tab)] ∧ es.length = 2 ^ p ∧ tab.length = 2 ^ p ∧ d = fcM p es tab
theorem w__law_first_clash (T : Tx W.K mg) : BodyOk P w W mg base k N__law_first_clash "_law_first_clash" (top 83) R__law_first_clash := by
  intro f cdv A outer s H E hr
  refine ⟨_, (pss_cons (ps_for PassesOwn.never rfl (pi_range1 (by rfl) T.range (pa_cons (pe_callB call_len_seq (by rfl) T.len PySem.boot_len (pa_cons (pv 0) pa_nil)) pa_nil)) (pg_name (i := 3) sc__law_first_clash.nd rfl (by first | exact Or.inl rfl | exact Or.inr rfl)) (pss_one (ps_for PassesOwn.never rfl (pi_range2 (by rfl) T.range (pa_cons (pe_op op_add (pv 3) pe_int) (pa_cons (pe_callB call_len_seq (by rfl) T.len PySem.boot_len (pa_cons (pv 0) pa_nil)) pa_nil))) (pg_name (i := 4) sc__law_first_clash.nd rfl (by first | exact Or.inl rfl | exact Or.inr rfl)) (pss_one (ps_if (PW.pt (pw_and (pt_cmpR op_eq (pe_ix ix_list (pv 1) (pv 3) (fun _ _ => rfl)) (pe_ix ix_list (pv 1) (pv 4) (fun _ _ => rfl)) (nomark _)) (pw_and1 (pt_cmpR op_ne (pe_ix ix_tup (pv 2) (pv 3) (fun _ _ => rfl)) (pe_ix ix_tup (pv 2) (pv 4) (fun _ _ => rfl)) (nomark _))))) (pss_one (ps_ret (pe_tup (pa_cons (pe_ix ix_list (pv 0) (pv 3) (fun _ _ => rfl)) (pa_cons (pe_ix ix_list (pv 0) (pv 4) (fun _ _ => rfl)) pa_nil))))) pss_nil)))))
    (pss_one (ps_ret pe_non))), ?_⟩
  rintro as d ⟨p, es, tab, hp, rfl, hes, h3, rfl⟩
  have h2 := two_pow_le hp
  have h4 := rowsP_len hp
  obtain ⟨z, hz⟩ := fcR_some p es tab
  refine .inl (sx_seqX (z := z) (sx_forXM (S := fun _ : Unit => [.val (rowsD p), .val (li es), .val (ti tab), .no, .no]) (enc := fun k : Nat => .int (k : Nat)) (fcOut p es tab) () z hz (ew_rg1 (n := 2 ^ p) (Ex.to (ex_lenL (enc := ti) (ea_var rfl)) (by rw [h4])) (by omega)) fun _ low r hlow hr => ⟨_, [3], gx_name (by simp), ?_⟩) (fun _ e => sx_ret ex_non (by unfold fcM; rw [hz, e])) (fun d e => by unfold fcM; rw [hz, e]))
  have hlw := List.mem_range.mp hlow
  unfold fcOut at hr
  refine sx_weakX (sx_forXM (S := fun _ : Unit => [.val (rowsD p), .val (li es), .val (ti tab), .val (.int (low : Nat)), .no]) (enc := fun k : Nat => .int (k : Nat)) (fcIn p es tab low) () r hr (ew_rg2 (m := low + 1) (n := 2 ^ p) (Ex.to (ex_addI (ea_var rfl) ex_int) (by simp)) (Ex.to (ex_lenL (enc := ti) (ea_var rfl)) (by rw [h4])) (by omega) (by omega)) fun _ high z2 hhigh hz2 => ⟨_, [4], gx_name (by simp), ?_⟩) fun _ => (by repeat (first | exact Le.nil | apply Le.same | apply Le.drop))
  have hhg : high < 2 ^ p := by
    obtain ⟨i, hi, rfl⟩ := List.mem_range'.mp hhigh
    omega
  unfold fcIn at hz2
  refine sx_if (b := decide (es.getD low 0 = es.getD high 0) && !decide (tab.getD low 0 = tab.getD high 0)) (ext_and (ext_test (ex_eqI (ex_ixL (enc := D.int) (EA.toL (ea_var rfl)) (ea_var rfl) (getD_at (by omega))) (ex_ixL (enc := D.int) (EA.toL (ea_var rfl)) (ea_var rfl) (getD_at (by omega))))) fun _ => ext_test (ex_neI (ex_ixT (enc := D.int) (ea_var rfl) (ea_var rfl) (getD_at (by omega))) (ex_ixT (enc := D.int) (ea_var rfl) (ea_var rfl) (getD_at (by omega))))) (fun hc => ?_) (fun hc => ?_)
  · rw [dec_comm (es.getD low 0), dec_comm (tab.getD low 0)] at hc
    rw [if_pos hc] at hz2
    cases hz2
    exact sx_ret (ex_tup (ds := [ti ((rowsP p).getD low []), ti ((rowsP p).getD high [])]) (show 2 ≤ sizeLine by decide) (exa_cons (ex_ixL (enc := ti) (EA.toL (ea_var rfl)) (ea_var rfl) (getD_at (by omega))) (exa_cons (ex_ixL (enc := ti) (EA.toL (ea_var rfl)) (ea_var rfl) (getD_at (by omega))) exa_nil))) rfl
  · rw [dec_comm (es.getD low 0), dec_comm (tab.getD low 0)] at hc
    rw [if_neg (by rw [hc]; exact Bool.false_ne_true)] at hz2
    cases hz2
    exact sx_weak (sx_nil rfl) (by repeat (first | exact Le.nil | apply Le.same | apply Le.drop))
end
end K9
/-! text W20 -/
set_option Elab.async false
set_option linter.all false
set_option maxRecDepth 100000
set_option maxHeartbeats 2000000
set_option autoImplicit false
/-! walks: the law's program -/
namespace K9
open PySem PySem.Spec PyProof.Rows L2 LamX
/-! ### plain -/
def Sp1.x : Sp1 → Int
  | .put m => m
  | .ife pl _ _ => (pl : Nat)
def Sp1.keep (pl : Int) : Sp1 → Bool
  | .put _ => true
  | .ife q _ _ => !decide (((q : Nat) : Int) = pl)
def adIfs (nums : List Int) (p : Nat) (member : Int) : List Sp1 := (ordM nums p).map fun pl => .ife pl.toNat 1 member
def adIns (nums : List Int) (p : Nat) (member first : Int) : List Sp1 :=
  let i := (nums.getD 5 0 % (((p : Nat) : Int) + 1)).toNat
  (adIfs nums p member).take i ++ [.put first] ++ (adIfs nums p member).drop i
def adPl (nums : List Int) (p : Nat) (member first : Int) : Int := ((adIns nums p member first).getD 0 (.put 0)).x % ((p : Nat) : Int)
def adC (nums : List Int) (p : Nat) : Bool := decide (nums.getD 6 0 % 3 = 0) && decide (0 < ((p : Nat) : Int))
def adM (nums : List Int) (p many : Nat) (member first : Int) : List Sp1 :=
  if adC nums p = true then (adIns nums p member first).filter (Sp1.keep (adPl nums p member first)) ++ [.ife (adPl nums p member first).toNat 0 ((((many : Nat) : Int) - member) % ((many : Nat) : Int)), .put member]
  else adIns nums p member first
theorem set_mem {α : Type} {xs : List α} {i : Nat} {v x : α} (h : x ∈ xs.set i v) : x ∈ xs ∨ x = v := List.mem_or_eq_of_mem_set h
theorem ord_in (nums : List Int) (p : Nat) : ∀ (ks : List Nat) (r : List Int), r.length = p → (∀ k ∈ ks, k < p) → (∀ x ∈ r, 0 ≤ x ∧ x < ((p : Nat) : Int)) → ∀ x ∈ ks.foldl (ordStep nums) r, 0 ≤ x ∧ x < ((p : Nat) : Int)
  | [], r, _, _, h => h
  | k :: ks, r, hl, hk, h => by
    rw [List.foldl_cons]
    have hkp := hk k List.mem_cons_self
    refine ord_in nums p ks _ (by rw [ordStep_len, hl]) (fun k h => hk k (List.mem_cons_of_mem _ h)) fun x hx => ?_
    have gd : ∀ j : Nat, 0 ≤ r.getD j 0 ∧ r.getD j 0 < ((p : Nat) : Int) := fun j => by
      rw [List.getD_eq_getElem?_getD]
      cases q : r[j]? with
      | none => exact ⟨by decide, by show (0 : Int) < _; omega⟩
      | some y => exact h y (List.mem_of_getElem? q)
    unfold ordStep at hx
    rcases set_mem hx with hx | rfl
    · rcases set_mem hx with hx | rfl
      · exact h x hx
      · exact gd _
    · exact gd _
theorem ordM_in {nums : List Int} {p : Nat} : ∀ x ∈ ordM nums p, 0 ≤ x ∧ x < ((p : Nat) : Int) := by
  refine ord_in nums p _ _ (rangeI_len p) (fun k hk => ?_) fun x hx => ?_
  · obtain ⟨i, hi, rfl⟩ := List.mem_range'.mp hk
    omega
  · unfold rangeI at hx
    obtain ⟨j, hj, rfl⟩ := List.mem_map.mp hx
    have := List.mem_range.mp hj
    omega
theorem ordM_len (nums : List Int) (p : Nat) : (ordM nums p).length = p := by unfold ordM; rw [ordFold_len, rangeI_len]
theorem adIfs_len (nums : List Int) (p : Nat) (m : Int) : (adIfs nums p m).length = p := by unfold adIfs; rw [List.length_map, ordM_len]
theorem adIns_len (nums : List Int) (p : Nat) (m f : Int) : (adIns nums p m f).length = p + 1 := by
  unfold adIns
  simp only [List.length_append, List.length_take, List.length_drop, adIfs_len, List.length_singleton]
  omega
section
variable {rows : List (List Int)} {nums : List Int} {p many : Nat} {member first : Int}
theorem adIfs_ok (hm : InR rows member) : ∀ st ∈ adIfs nums p member, st.ok rows p := fun st h => by
  unfold adIfs at h
  obtain ⟨pl, hpl, rfl⟩ := List.mem_map.mp h
  have := ordM_in pl hpl
  exact ⟨by omega, by decide, by decide, hm⟩
theorem adIns_ok (hm : InR rows member) (hf : InR rows first) : ∀ st ∈ adIns nums p member first, st.ok rows p := fun st h => by
  unfold adIns at h
  rcases List.mem_append.mp h with h | h
  · rcases List.mem_append.mp h with h | h
    · exact adIfs_ok hm st (List.mem_of_mem_take h)
    · rw [List.mem_singleton.mp h]
      exact hf
  · exact adIfs_ok hm st (List.mem_of_mem_drop h)
theorem adM_ok (hn : rows.length = many) (hp : 0 < many) (hm : InR rows member) (hf : InR rows first) : ∀ st ∈ adM nums p many member first, st.ok rows p := fun st h => by
  unfold adM at h
  split at h
  · rename_i hc
    unfold adC at hc
    rw [Bool.and_eq_true] at hc
    have h0 := of_decide_eq_true hc.2
    rcases List.mem_append.mp h with h | h
    · exact adIns_ok hm hf st (List.mem_filter.mp h).1
    · rcases List.mem_cons.mp h with rfl | h
      · have h1 : 0 ≤ adPl nums p member first := Int.emod_nonneg _ (by omega)
        have h2 : adPl nums p member first < ((p : Nat) : Int) := Int.emod_lt_of_pos _ h0
        exact ⟨by omega, by decide, by decide, Int.emod_nonneg _ (by omega), by rw [hn]; exact Int.emod_lt_of_pos _ (by omega)⟩
      · rw [List.mem_singleton.mp h]
        exact hm
  · exact adIns_ok hm hf st h
end
section
variable {P : Program} {w : World} {W : Wd} {mg : Str → Option Value} {base : Heap} {k : Nat}
theorem sx_insertT {δ : Sto} {o : Out} {α : Type} {enc : α → D} {ta tb : TE} {i : Nat} {ys : List α} {y : α} {k : Int} (hi : δ[i]? = some (.mu (ys.map enc))) (ha : Ex W ta δ (.int k)) (h : Ex W tb δ (enc y)) (hl : ys.length < sizeLine) (h0 : 0 ≤ k) (h63 : k < 2 ^ 63) (ho : o = .nx (δ.set i (.mu ((ys.take k.toNat ++ [y] ++ ys.drop k.toNat).map enc)))) :
    SX W (tDrop (tBM W.K "list" (fun x vs H Q => ∃ (l : Addr) (xs : List V) (i : Int) (y : V), x = .ref l ∧ vs = [.int i, y] ∧ H l = some (.lst xs) ∧ xs.length < sizeLine ∧ 0 ≤ i ∧ i < 2 ^ 63 ∧
    Q .non (upd H l (.lst (xs.take i.toNat ++ [y] ++ xs.drop i.toNat)))) (tVar i) (tCons ta (tCons tb tNil)))) δ o :=
  sx_insert hi ha h (by rw [List.length_map]; exact hl) h0 h63 (by rw [ho, List.map_append, List.map_append, List.map_take, List.map_drop]; rfl)
theorem x_at {δ : Sto} {t : TE} {st : Sp1} (h : Ex W t δ st.d) : Ex W (tOp (rIxT W.K) t (tC (.int 1))) δ (.int st.x) := by
  cases st with
  | put m => exact ex_op (og_ixT rfl) h ex_int
  | ife pl v m => exact ex_op (og_ixT rfl) h ex_int
def N__law_adding : List Str := ["_law_group", "_law_many", "_law_shape", "_law_numbers_here", "_law_member", "_law_first", "_law_steps", "_law_place", "_law_undone", "_law_step"]
abbrev ps__law_adding : List Str := ["_law_group", "_law_many", "_law_shape", "_law_numbers_here", "_law_member", "_law_first"]
theorem sc__law_adding : FnScope N__law_adding ps__law_adding (defScope (top 85)) := ⟨rfl, rfl, rfl, by decide +kernel, rfl, by decide +kernel, by decide +kernel⟩
def R__law_adding : FP := fun as d => ∃ (rows : List (List Int)) (many p : Nat) (nums : List Int) (member first : Int), p ≤ 5 ∧ grpOk rows = true ∧ rows.length = many ∧ nums.length = 8 ∧ InR rows member ∧ InR rows first ∧ as = [.v (grpD rows), .v (.int (many : Nat)), .v (shp p), .v (li nums), .v (.int member), .v (.int first)] ∧ d = prgD rows p (adM nums p many member first)
theorem w__law_adding (T : Tx W.K mg) (c__law_order : C8.Cal P w W.K mg base 1 "_law_order" (spOf W R__law_order) []) (c_Program : C8.Mak P w W.K mg base 3 "Program" (W.cl 2) (spI W 2 R_Program) []) : BodyOk P w W mg base 4 N__law_adding "_law_adding" (top 85) R__law_adding := by
  intro f cdv A outer s H E hr
  refine ⟨_, (pss_cons (ps_setLc (i := 6) (own := [("_law_place", 7)]) rfl sc__law_adding.nd rfl rfl (sw_true rfl rfl rfl (by decide +kernel)) (pi_list (C8.pe_c c__law_order hr (by decide) (by rfl) (pa_cons (pv 3) (pa_cons (pe_callB call_len_seq (by rfl) T.len PySem.boot_len (pa_cons (pv 2) pa_nil)) pa_nil)))) (blkOk_by (N := N__law_adding) (sc := defScope (top 85)) (by decide +kernel)) (fun _ _ _ _ _ => pg_cast (pg_name (i := 7) sc__law_adding.nd rfl (by first | exact Or.inl rfl | exact Or.inr rfl)) (by first | exact rfl | (dsimp only [blk_K]; done) | (dsimp only [blk_K]; exact rfl))) (fun _ _ _ _ _ => pts_cast pts_nil (by first | exact rfl | (dsimp only [blk_K]; done) | (dsimp only [blk_K]; exact rfl))) (fun _ _ _ _ _ => pe_cast (pe_tup (pa_cons pe_str (pa_cons (pv 7) (pa_cons pe_int (pa_cons (pv 4) pa_nil))))) (by first | exact rfl | (dsimp only [blk_K]; done) | (dsimp only [blk_K]; exact rfl))))
    (pss_cons (ps_expr (pe_bm PySem.F.plainAttrs_list PySem.F.slot_list_insert PySem.F.type_list_insert mt_insert (pv 6) (pa_cons (pe_op op_mod (pe_callTy call_int1 (by rfl) T.int boot_int (pa_cons (pe_ix ix_list (pv 3) pe_int (fun _ _ => rfl)) pa_nil)) (pe_op op_add (pe_callB call_len_seq (by rfl) T.len PySem.boot_len (pa_cons (pv 6) pa_nil)) pe_int)) (pa_cons (pe_tup (pa_cons pe_str (pa_cons (pv 5) pa_nil))) pa_nil))))
    (pss_cons (ps_if (PW.pt (pw_and (pt_cmpR op_eq (pe_op op_mod (pe_callTy call_int1 (by rfl) T.int boot_int (pa_cons (pe_ix ix_list (pv 3) pe_int (fun _ _ => rfl)) pa_nil)) pe_int) pe_int (nomark _)) (pw_and1 (pt_cmpR op_gt (pe_callB call_len_seq (by rfl) T.len PySem.boot_len (pa_cons (pv 2) pa_nil)) pe_int (nomark _))))) (pss_cons (ps_set (i := 7) sc__law_adding.nd rfl (by first | exact Or.inl rfl | exact Or.inr rfl) (pe_op op_mod (pe_callTy call_int1 (by rfl) T.int boot_int (pa_cons (pe_ix ix_tup (pe_ix ix_list (pv 6) pe_int (fun _ _ => rfl)) pe_int (fun _ _ => rfl)) pa_nil)) (pe_callB call_len_seq (by rfl) T.len PySem.boot_len (pa_cons (pv 2) pa_nil))))
     (pss_cons (ps_set (i := 8) sc__law_adding.nd rfl (by first | exact Or.inl rfl | exact Or.inr rfl) (pe_op op_mod (pe_callTy call_int1 (by rfl) T.int boot_int (pa_cons (pe_op op_sub (pv 1) (pv 4)) pa_nil)) (pv 1)))
     (pss_cons (ps_setLc (i := 6) (own := [("_law_step", 9)]) rfl sc__law_adding.nd rfl rfl (sw_true rfl rfl rfl (by decide +kernel)) (pi_list (pv 6)) (blkOk_by (N := N__law_adding) (sc := defScope (top 85)) (by decide +kernel)) (fun _ _ _ _ _ => pg_cast (pg_name (i := 9) sc__law_adding.nd rfl (by first | exact Or.inl rfl | exact Or.inr rfl)) (by first | exact rfl | (dsimp only [blk_K]; done) | (dsimp only [blk_K]; exact rfl))) (fun _ _ _ _ _ => pts_cast (pts_one (PW.pt (pw_or (pt_cmpR op_eq (pe_ix ix_tup (pv 9) pe_int (fun _ _ => rfl)) pe_str (nomark _)) (pw_or1 (pt_cmpR op_ne (pe_ix ix_tup (pv 9) pe_int (fun _ _ => rfl)) (pv 7) (nomark _)))))) (by first | exact rfl | (dsimp only [blk_K]; done) | (dsimp only [blk_K]; exact rfl))) (fun _ _ _ _ _ => pe_cast (pv 9) (by first | exact rfl | (dsimp only [blk_K]; done) | (dsimp only [blk_K]; exact rfl))))
     (pss_one (ps_set (i := 6) sc__law_adding.nd rfl (by first | exact Or.inl rfl | exact Or.inr rfl) (pe_op op_cat (pv 6) (pe_lst (pa_cons (pe_tup (pa_cons pe_str (pa_cons (pv 7) (pa_cons pe_int (pa_cons (pv 8) pa_nil))))) (pa_cons (pe_tup (pa_cons pe_str (pa_cons (pv 4) pa_nil))) pa_nil))))))))) pss_nil)
    (pss_one (ps_ret (C8.pe_mk c_Program hr (by decide) (by rfl) (pa_cons (pv 0) (pa_cons (pv 2) (pa_cons (pv 6) pa_nil))))))))), ?_⟩
  rintro as d ⟨rows, many, p, nums, member, first, hp, hg, hrl, hn, hm, hf, rfl, rfl⟩
  have h0 := (grp_small hg).1
  have hok := adM_ok (nums := nums) (p := p) hrl (by omega) hm hf
  have hil := adIns_len nums p member first
  have h5a := Int.emod_nonneg (nums.getD 5 0) (show (((p : Nat) : Int) + 1) ≠ 0 by omega)
  have h5b := Int.emod_lt_of_pos (nums.getD 5 0) (show 0 < (((p : Nat) : Int) + 1) by omega)
  refine .inl (sx_seq (sx_setM (ExF.to (b := (adIfs nums p member).map Sp1.d) (exf_lcT1 (enc := D.int) (ys := ordM nums p) (fun pl => Sp1.d (.ife pl.toNat 1 member)) (ew_list (ex_call (R := R__law_order) ⟨nums, p, rfl, by omega, by omega, rfl⟩ (exa_cons (ea_var rfl) (exa_cons (Ex.to (ex_lenT (enc := D.int) (ea_var rfl)) (by rw [List.length_replicate])) exa_nil)))) (fun pl hpl => ⟨_, gx_name (by simp), Ex.to (ex_tup (ds := [.str "if", .int pl, .int 1, .int member]) (show 4 ≤ sizeLine by decide) (exa_cons ex_str (exa_cons (ea_var rfl) (exa_cons ex_int (exa_cons (ea_var rfl) exa_nil))))) (by
      have := ordM_in pl hpl
      have e : pl = ((pl.toNat : Nat) : Int) := by omega
      show _ = D.tup [.str "if", .int ((pl.toNat : Nat) : Int), .int 1, .int member]
      rw [← e])⟩) (small_of (by rw [ordM_len]; omega))) (by unfold adIfs; rw [List.map_map]; rfl)) rfl)
    (sx_seq (sx_insertT (enc := Sp1.d) (y := .put first) (k := nums.getD 5 0 % (((p : Nat) : Int) + 1)) rfl (ex_modI (ex_intI (ex_ixL (enc := D.int) (EA.toL (ea_var rfl)) ex_int (getD_at (j := 5) (d := 0) (by omega)))) (Ex.to (ex_addI (ex_lenM (enc := Sp1.d) (ea_mu rfl)) ex_int) (by rw [adIfs_len])) (by omega)) (ex_tup (ds := [.str "put", .int first]) (show 2 ≤ sizeLine by decide) (exa_cons ex_str (exa_cons (ea_var rfl) exa_nil))) (small_lt (by rw [adIfs_len]; omega)) h5a (by omega) rfl)
    (sx_seq (δ' := [.val (grpD rows), .val (.int (many : Nat)), .val (shp p), .val (li nums), .val (.int member), .val (.int first), .mu ((adM nums p many member first).map Sp1.d), .no, .no, .no]) (sx_if (b := adC nums p) (ext_and (ext_test (ex_eqI (ex_modI (ex_intI (ex_ixL (enc := D.int) (EA.toL (ea_var rfl)) ex_int (getD_at (j := 6) (d := 0) (by omega)))) ex_int (by decide)) ex_int)) fun _ => ext_test (ex_gtI (Ex.to (ex_lenT (enc := D.int) (ea_var rfl)) (by rw [List.length_replicate])) ex_int)) (fun hb => ?_) (fun hb => ?_))
    (sx_freeze (i := 6) rfl (sx_ret (ex_make (R := R_Program) ⟨rows, p, _, hp, rfl, hok, rfl⟩ (exa_cons (ea_var rfl) (exa_cons (ea_var rfl) (exa_cons (ea_var rfl) exa_nil)))) rfl)))))
  · unfold adM
    rw [if_pos hb]
    unfold adC at hb
    rw [Bool.and_eq_true] at hb
    have hp0 := of_decide_eq_true hb.2
    have h1 : 0 ≤ adPl nums p member first := Int.emod_nonneg _ (by omega)
    refine sx_weak (sx_freeze (i := 6) (ds := (adIns nums p member first).map Sp1.d) rfl (sx_seq (sx_set (d := .int (adPl nums p member first)) (ex_modI (ex_intI (x_at (ex_ixL (enc := Sp1.d) (EA.toL (ea_var rfl)) ex_int (atI_0 (d := Sp1.put 0) (by omega))))) (Ex.to (ex_lenT (enc := D.int) (ea_var rfl)) (by rw [List.length_replicate])) (by omega)) rfl)
      (sx_seq (sx_set (ex_modI (ex_intI (ex_subI (ea_var rfl) (ea_var rfl))) (ea_var rfl) (by omega)) rfl)
      (sx_seq (sx_setM (exf_lcT (enc := Sp1.d) (ys := adIns nums p member first) (Sp1.keep (adPl nums p member first)) Sp1.d (ew_list (ea_var rfl)) (fun st hst => ⟨_, gx_name (by simp), ?_, fun _ => ea_var rfl⟩) (small_of (by omega))) rfl)
      (sx_setM (ExF.to (b := ((adIns nums p member first).filter (Sp1.keep (adPl nums p member first)) ++ [Sp1.ife (adPl nums p member first).toNat 0 ((((many : Nat) : Int) - member) % ((many : Nat) : Int)), Sp1.put member]).map Sp1.d) (exf_cat (em_mu rfl) (ExF.m (exf_lst (ds := [.tup [.str "if", .int (adPl nums p member first), .int 0, .int ((((many : Nat) : Int) - member) % ((many : Nat) : Int))], .tup [.str "put", .int member]]) (show 2 ≤ sizeLine by decide) (exa_cons (ex_tup (ds := [.str "if", .int (adPl nums p member first), .int 0, .int ((((many : Nat) : Int) - member) % ((many : Nat) : Int))]) (show 4 ≤ sizeLine by decide) (exa_cons ex_str (exa_cons (ea_var rfl) (exa_cons ex_int (exa_cons (ea_var rfl) exa_nil))))) (exa_cons (ex_tup (ds := [.str "put", .int member]) (show 2 ≤ sizeLine by decide) (exa_cons ex_str (exa_cons (ea_var rfl) exa_nil))) exa_nil)))) ?_) ?_) rfl))))) (by repeat (first | exact Le.nil | apply Le.same | apply Le.drop))
    · cases st with
      | put m => exact ExT.to (ext_or (ext_test (ex_eqS (ex_op (og_ixT (d := .str "put") rfl) (ea_var rfl) ex_int) ex_str)) (b := false) fun h => by cases h) rfl
      | ife q v m => exact ExT.to (ext_or (ext_test (ex_eqS (ex_op (og_ixT (d := .str "if") rfl) (ea_var rfl) ex_int) ex_str)) fun _ => ext_test (ex_neI (ex_op (og_ixT (d := .int (q : Nat)) rfl) (ea_var rfl) ex_int) (ea_var rfl))) rfl
    · refine small_of ?_
      rw [List.length_map]
      have := List.length_filter_le (Sp1.keep (adPl nums p member first)) (adIns nums p member first)
      show _ + 2 ≤ _
      omega
    · rw [List.map_append]
      have e : adPl nums p member first = (((adPl nums p member first).toNat : Nat) : Int) := by omega
      congr 1
      show _ = [D.tup [.str "if", .int (((adPl nums p member first).toNat : Nat) : Int), .int 0, .int ((((many : Nat) : Int) - member) % ((many : Nat) : Int))], .tup [.str "put", .int member]]
      rw [← e]
  · unfold adM
    rw [if_neg (by rw [hb]; exact Bool.false_ne_true)]
    exact sx_weak (sx_nil rfl) (by repeat (first | exact Le.nil | apply Le.same | apply Le.drop))
end
end K9
/-! text W21 -/
set_option Elab.async false
set_option linter.all false
set_option maxRecDepth 100000
set_option maxHeartbeats 2000000
set_option autoImplicit false
/-! walks: the least group -/
namespace K9
open PySem PySem.Spec PyProof.Rows L2 LamX
theorem inV_strs (x : Str) (ys : List Str) : inV (D.val (.str x)) ((ys.map D.str).map D.val) = decide (x ∈ ys) := by
  rw [List.map_map]
  unfold inV
  induction ys with
  | nil => rfl
  | cons y ys ih =>
    rw [List.map_cons, List.any_cons, ih]
    have e : eqV ((D.val ∘ D.str) y) (D.val (.str x)) = decide (x = y) := by
      show eqV (.str y) (.str x) = _
      simp only [eqV]
      by_cases h : x = y
      · subst h; simp
      · rw [decide_eq_false h]
        exact beq_eq_false_iff_ne.mpr fun e => h e.symm
    rw [e]
    by_cases h : x = y
    · subst h; simp
    · simp [h]
theorem flats_strs (ys : List Str) : (ys.map D.str).all D.flat = true := by
  rw [List.all_map]
  exact List.all_eq_true.mpr fun _ _ => rfl
def constB (bw : List Int) : Bool := decide (bw.sum = 0) || decide (bw.sum = ((bw.length : Nat) : Int))
def stepsL (bw : List Int) (p : Nat) : List Int := ((List.range p).filter fun k => !decide (bw.getD k 0 = bw.getD (k + 1) 0)).map fun k => ((k : Nat) : Int)
section
variable {P : Program} {w : World} {W : Wd} {mg : Str → Option Value} {base : Heap} {k : Nat}
theorem ex_notInS {δ : Sto} {ta tb : TE} {x : Str} {ys : List Str} (ha : Ex W ta δ (.str x)) (hb : EA W tb δ (.s (ys.map D.str))) : Ex W (tOp (rIn W.K true) ta tb) δ (.bl (!decide (x ∈ ys))) := (ex_op (og_in rfl (flats_strs ys)) ha hb).to (by rw [inV_strs]; rfl)
def N__law_least_holds : List Str := ["_law_places", "_law_shape", "_law_labels", "_law_by_weight", "_law_name", "_law_constant", "_law_steps", "_law_k", "_law_chart"]
abbrev ps__law_least_holds : List Str := ["_law_places", "_law_shape", "_law_labels", "_law_by_weight"]
theorem sc__law_least_holds : FnScope N__law_least_holds ps__law_least_holds (defScope (top 84)) := ⟨rfl, rfl, rfl, by decide +kernel, rfl, by decide +kernel, by decide +kernel⟩
def R__law_least_holds : FP := fun as d => ∃ (p : Nat) (bw tab : List Int) (nm : Str) (rows : List (List Int)) (es lab : List Int), p ≤ 5 ∧ as = [.v (.int (p : Nat)), .v (shp p), .v (ti tab), .v (li bw)] ∧ bw.length = p + 1 ∧ R_least_group [.v (shp p), .v (ti tab)] (.str nm) ∧ shG nm = some (.out (grpD rows)) ∧ nm ∈ shelf.map (·.1) ∧ rows.length ≤ p + 1 ∧ decide (nm = "c1") = constB bw ∧ decide (nm = "c2") = (decide (0 < ((p : Nat) : Int)) && decide (((stepsL bw p).length : Int) = ((p : Nat) : Int))) ∧ decR rows p tab (chrD rows p es) ∧ es.length = tab.length ∧ es.length ≤ 100 ∧ (∀ e ∈ es, 0 ≤ e ∧ e < 61) ∧ ncM es tab = some lab ∧ d = .bl true
theorem w__law_least_holds {gL : Addr} (T : Tx W.K mg) (X : Kx W) (hLn : Spc W.K (W.cl 0) "__len__" gL) (fLn : FnR P w W.K mg base C8.CX0 1 gL (spOf W R_glen)) (c_least_group : C8.Cal P w W.K mg base 10 "least_group" (spOf W R_least_group) []) (c_shelf_names : C8.Cal P w W.K mg base 1 "shelf_names" (spOf W R_shelf_names) []) (c_shelf_group : C8.Cal P w W.K mg base 8 "shelf_group" (spOf W R_shelf_group) []) (c_deciding_chart : C8.Cal P w W.K mg base 9 "deciding_chart" (spOf W R_deciding_chart) []) (c__law_no_clash : C8.Cal P w W.K mg base 1 "_law_no_clash" (spOf W R__law_no_clash) []) : BodyOk P w W mg base 10 N__law_least_holds "_law_least_holds" (top 84) R__law_least_holds := by
  intro f cdv A outer s H E hr
  refine ⟨_, (pss_cons (ps_set (i := 4) sc__law_least_holds.nd rfl (by first | exact Or.inl rfl | exact Or.inr rfl) (C8.pe_c c_least_group hr (by decide) (by rfl) (pa_cons (pv 1) (pa_cons (pv 2) pa_nil))))
    (pss_cons (ps_if (PW.pt (pw_or (pt_not (pt_val (pe_callB call_isi (by rfl) T.isi (by rfl) (pa_cons (pv 4) (pa_cons (pe_bltn (v := V.ty "str") (by rfl) T.str boot_str rfl) pa_nil))))) (pw_or (pt_cmpR op_notIn_seq (pv 4) (pe_c0 c_shelf_names hr (by decide) (by rfl)) (by with_unfolding_all rfl)) (pw_or1 (pt_cmpR op_gt (pe_callB (call_lenO (E := C8.E0) hLn fLn (hr.mono (by decide)) C8.pass0) (by rfl) T.len PySem.boot_len (pa_cons (C8.pe_c c_shelf_group hr (by decide) (by rfl) (pa_cons (pv 4) pa_nil)) pa_nil)) (pe_op op_add (pv 0) pe_int) (nomark _)))))) (pss_one (ps_ret pe_bl)) pss_nil)
    (pss_cons (ps_set (i := 5) sc__law_least_holds.nd rfl (by first | exact Or.inl rfl | exact Or.inr rfl) (pe_or (pe_cmpR op_eq (pe_callB (cr_sum rfl) (by rfl) T.sum (by rfl) (pa_cons (pv 3) pa_nil)) pe_int (nomark _)) (pe_one (pe_cmpR op_eq (pe_callB (cr_sum rfl) (by rfl) T.sum (by rfl) (pa_cons (pv 3) pa_nil)) (pe_callB call_len_seq (by rfl) T.len PySem.boot_len (pa_cons (pv 3) pa_nil)) (nomark _)))))
    (pss_cons (ps_setLc (i := 6) (own := [("_law_k", 7)]) rfl sc__law_least_holds.nd rfl rfl (sw_true rfl rfl rfl (by decide +kernel)) (pi_range1 (by rfl) T.range (pa_cons (pv 0) pa_nil)) (blkOk_by (N := N__law_least_holds) (sc := defScope (top 84)) (by decide +kernel)) (fun _ _ _ _ _ => pg_cast (pg_name (i := 7) sc__law_least_holds.nd rfl (by first | exact Or.inl rfl | exact Or.inr rfl)) (by first | exact rfl | (dsimp only [blk_K]; done) | (dsimp only [blk_K]; exact rfl))) (fun _ _ _ _ _ => pts_cast (pts_one (pt_cmpR op_ne (pe_ix ix_list (pv 3) (pv 7) (fun _ _ => rfl)) (pe_ix ix_list (pv 3) (pe_op op_add (pv 7) pe_int) (fun _ _ => rfl)) (nomark _))) (by first | exact rfl | (dsimp only [blk_K]; done) | (dsimp only [blk_K]; exact rfl))) (fun _ _ _ _ _ => pe_cast (pv 7) (by first | exact rfl | (dsimp only [blk_K]; done) | (dsimp only [blk_K]; exact rfl))))
    (pss_cons (ps_if (PW.pt (pw_or (pt_cmpR op_ne (pe_cmpR op_eq (pv 4) pe_str (nomark _)) (pv 5) (nomark _)) (pw_or1 (pt_cmpR op_ne (pe_cmpR op_eq (pv 4) pe_str (nomark _)) (pe_and (pe_cmpR op_gt (pv 0) pe_int (nomark _)) (pe_one (pe_cmpR op_eq (pe_callB call_len_seq (by rfl) T.len PySem.boot_len (pa_cons (pv 6) pa_nil)) (pv 0) (nomark _)))) (nomark _))))) (pss_one (ps_ret pe_bl)) pss_nil)
    (pss_cons (ps_set (i := 8) sc__law_least_holds.nd rfl (by first | exact Or.inl rfl | exact Or.inr rfl) (C8.pe_c c_deciding_chart hr (by decide) (by rfl) (pa_cons (C8.pe_c c_shelf_group hr (by decide) (by rfl) (pa_cons (pv 4) pa_nil)) (pa_cons (pv 1) (pa_cons (pv 2) pa_nil)))))
    (pss_one (ps_ret (pe_and (pe_cmpR op_notN (pv 8) pe_non (nomark _)) (pe_one (C8.pe_c c__law_no_clash hr (by decide) (by rfl) (pa_cons (pe_fld (pv 8) rfl) (pa_cons (pv 2) pa_nil))))))))))))), ?_⟩
  rintro as d ⟨p, bw, tab, nm, rows, es, lab, hp, rfl, hbw, hlg, hsg, hnm, hlen, h1, h2, hd, he1, he2, he3, hnc, rfl⟩
  refine .inl (sx_seq (sx_set (ex_call (R := R_least_group) hlg (exa_cons (ea_var rfl) (exa_cons (ea_var rfl) exa_nil))) rfl)
    (sx_seq (sx_ifF (ext_or (ext_not (ext_val (ex_isi (ea_var rfl) rfl (b := true) (by decide +kernel)))) fun _ => ext_or (ext_test (ex_notInS (ea_var rfl) (EA.toS (ex_call (R := R_shelf_names) ⟨rfl, rfl⟩ exa_nil)))) fun _ => ext_test (ex_gtI (ex_lenO (R := R_glen) (ex_call (R := R_shelf_group) ⟨nm, rfl, hsg⟩ (exa_cons (ea_var rfl) exa_nil)) ⟨rows, rfl, rfl⟩ (by omega)) (ex_addI (ea_var rfl) ex_int))) ?b1 (sx_nil rfl))
    (sx_seq (sx_set (d := .bl (constB bw)) (ex_orV (ex_eqI (ex_sumM (EA.toL (ea_var rfl))) ex_int) (fun e => Ex.to (ex_eqI (ex_sumM (EA.toL (ea_var rfl))) (ex_lenL (enc := D.int) (ea_var rfl))) (by unfold constB; rw [e]; rfl)) (fun e => by unfold constB; rw [e]; rfl)) rfl)
    (sx_seq (sx_set (Ex.to (b := li (stepsL bw p)) (ExF.ex (exf_lcT (enc := fun n : Nat => .int (n : Nat)) (ys := List.range p) (fun k => !decide (bw.getD k 0 = bw.getD (k + 1) 0)) (fun k => .int ((k : Nat) : Int)) (ew_rg1 (ea_var rfl) (by omega)) (fun k hk => ⟨_, gx_name (by simp), ext_test (ex_neI (ex_ixL (enc := D.int) (EA.toL (ea_var rfl)) (ea_var rfl) (getD_at (by have := List.mem_range.mp hk; omega))) (ex_ixL (enc := D.int) (EA.toL (ea_var rfl)) (ex_addI (ea_var rfl) ex_int) (getD_at (j := k + 1) (by have := List.mem_range.mp hk; omega)))), fun _ => ea_var rfl⟩) (by rw [List.length_range]; exact small_of (by omega)))) (by unfold stepsL li; rw [List.map_map]; rfl)) rfl)
    (sx_seq (sx_ifF (ext_or (ext_test (ex_op og_neB (ex_eqS (ea_var rfl) ex_str) (ea_var rfl))) fun _ => ext_test (ex_op og_neB (ex_eqS (ea_var rfl) ex_str) (ex_andV (d := .bl (decide (0 < ((p : Nat) : Int)) && decide (((stepsL bw p).length : Int) = ((p : Nat) : Int)))) (ex_gtI (ea_var rfl) ex_int) (fun e => Ex.to (ex_eqI (ex_lenL (enc := D.int) (ea_var rfl)) (ea_var rfl)) (by rw [e]; rfl)) (fun e => by rw [e]; rfl)))) ?b2 (sx_nil rfl))
    (sx_seq (sx_set (ex_call (R := R_deciding_chart) hd (exa_cons (ex_call (R := R_shelf_group) ⟨nm, rfl, hsg⟩ (exa_cons (ea_var rfl) exa_nil)) (exa_cons (ea_var rfl) (exa_cons (ea_var rfl) exa_nil)))) rfl)
    (sx_ret (ex_andV (ex_op og_notN (ea_var rfl) ex_non) (fun _ => ex_call (R := R__law_no_clash) ⟨es, tab, lab, rfl, he1, he2, he3, hnc, rfl⟩ (exa_cons (ex_fld X.c1 X.n1e (ea_var rfl) rfl) (exa_cons (ea_var rfl) exa_nil))) (fun h => by cases h)) rfl)))))))
  case b1 =>
    rw [decide_eq_true hnm, decide_eq_false (by omega)]
    rfl
  case b2 =>
    rw [h1, h2]
    simp
end
end K9
/-! text W22 -/
set_option Elab.async false
set_option linter.all false
set_option maxRecDepth 100000
set_option maxHeartbeats 4000000
set_option autoImplicit false
/-! walks: the law -/
namespace K9
open PySem PySem.Spec PyProof.Rows L2 LamX
/-! ### plain -/
def plL : List Int := [0, 1, 2, 3, 4, 5, 3, 5, 2, 3]
def plM (h : List Int) : Int := plL.getD (h.getD 0 0 % 10).toNat 0
theorem plL_in : ∀ i : _root_.Fin 10, 0 ≤ plL.getD i 0 ∧ plL.getD i 0 ≤ 5 := by decide +kernel
theorem plM_in (h : List Int) : 0 ≤ plM h ∧ plM h ≤ 5 := by
  have h1 := Int.emod_nonneg (h.getD 0 0) (show (10 : Int) ≠ 0 by decide)
  have h2 := Int.emod_lt_of_pos (h.getD 0 0) (show (0 : Int) < 10 by decide)
  exact plL_in ⟨(h.getD 0 0 % 10).toNat, by omega⟩
def manyI (h : List Int) (p : Int) : Int := if decide (h.getD 2 0 % 4 = 0) = true then p + 1 else if decide (h.getD 2 0 % 4 < 3) = true then 2 + h.getD 1 0 % (if p - 1 > 1 then p - 1 else 1) else 1 + h.getD 1 0 % 8
theorem manyI_in {h : List Int} {p : Int} (h0 : 0 ≤ p) (h5 : p ≤ 5) : 1 ≤ manyI h p ∧ manyI h p ≤ 8 := by
  unfold manyI
  split
  · omega
  · split
    · split
      · have := Int.emod_nonneg (h.getD 1 0) (show p - 1 ≠ 0 by omega)
        have := Int.emod_lt_of_pos (h.getD 1 0) (show 0 < p - 1 by omega)
        omega
      · have := Int.emod_nonneg (h.getD 1 0) (show (1 : Int) ≠ 0 by decide)
        have := Int.emod_lt_of_pos (h.getD 1 0) (show (0 : Int) < 1 by decide)
        omega
    · have := Int.emod_nonneg (h.getD 1 0) (show (8 : Int) ≠ 0 by decide)
      have := Int.emod_lt_of_pos (h.getD 1 0) (show (0 : Int) < 8 by decide)
      omega
def memI (h : List Int) (many : Int) : Int := if decide (h.getD 3 0 % 3 = 0) = true then h.getD 4 0 % many else 1 - (if decide (many = 1) = true then 1 else 0)
theorem memI_in {h : List Int} {many : Int} (h1 : 1 ≤ many) : 0 ≤ memI h many ∧ memI h many < many := by
  unfold memI
  split
  · exact ⟨Int.emod_nonneg _ (by omega), Int.emod_lt_of_pos _ (by omega)⟩
  · split
    · rename_i h
      have := of_decide_eq_true h
      omega
    · rename_i h
      have : ¬ many = 1 := fun e => h (decide_eq_true e)
      omega
def bwM (p : Nat) (cs : List Int) : List Int := (List.range (p + 1)).map fun c => if decide (((c : Nat) : Int) ∈ cs) = true then (1 : Int) else 0
def labM (p : Nat) (bw : List Int) : List Int := (rowsP p).map fun s => bw.getD (wt s).toNat 0
def enM (p : Nat) (many member first : Int) : List Int := (rowsP p).map fun s => (first + member * wt s) % many
def closedL (p many : Nat) (bw : List Int) : List Int := ((List.range (p + 1 - many)).filter fun k => !decide (bw.getD k 0 = bw.getD (k + many) 0)).map fun k => ((k : Nat) : Int)
def closedB (p many : Nat) (bw : List Int) : Bool := decide (closedL p many bw = [])
def BwOk (p : Nat) (bw : List Int) : Prop := bw.length = p + 1 ∧ ∀ b ∈ bw, b = 0 ∨ b = 1
/-- the plain facts that the law's walk asks -/
structure Facts : Prop where
  k0 : ∀ (p : Nat) (cs : List Int), p ≤ 5 → cntL p cs = labM p (bwM p cs)
  k1 : ∀ (p many : Nat) (nums : List Int) (member first : Int), p ≤ 5 → 1 ≤ many → many ≤ 8 → 0 ≤ member → member < many → 0 ≤ first → first < many → nums.length = 8 → ∀ r ∈ rowsP p, runP (cyc many) (adM nums p many member first) r = (first + member * wt r) % many
  k2 : ∀ (p many : Nat) (first : Int) (bw : List Int), p ≤ 5 → 1 ≤ many → many ≤ 8 → 0 ≤ first → first < many → BwOk p bw → (fcM p (enM p many 1 first) (labM p bw)).isNon = closedB p many bw
  k3 : ∀ (p many : Nat) (bw : List Int), p ≤ 5 → 1 ≤ many → many ≤ 8 → BwOk p bw → closedB p many bw = true → many ^ p ≤ 64 → ∃ (row : List (List Int)) (es lab : List Int), decR (cyc many) p (labM p bw) (chrD (cyc many) p es) ∧ es.length = 2 ^ p ∧ (∀ e ∈ es, 0 ≤ e ∧ e < 61) ∧ ncM es (labM p bw) = some lab ∧ lowM (cyc many) = some (.out (.lst (row.map ti))) ∧ obOk (cyc many) row p es = true
  k4 : ∀ (p : Nat) (bw : List Int), p ≤ 4 → BwOk p bw → R__law_least_holds [.v (.int (p : Nat)), .v (shp p), .v (ti (labM p bw)), .v (li bw)] (.bl true)
theorem bwM_ok (p : Nat) (cs : List Int) : BwOk p (bwM p cs) := by
  refine ⟨by unfold bwM; rw [List.length_map, List.length_range], fun b hb => ?_⟩
  unfold bwM at hb
  obtain ⟨c, _, rfl⟩ := List.mem_map.mp hb
  split
  · exact .inr rfl
  · exact .inl rfl
theorem labM_ok {p : Nat} {bw : List Int} (hp : p ≤ 5) (h : BwOk p bw) : labOk p (labM p bw) = true := by
  unfold labOk
  rw [Bool.and_eq_true, List.all_eq_true]
  refine ⟨decide_eq_true (by unfold labM; rw [List.length_map, rowsP_len hp]), fun l hl => decide_eq_true ?_⟩
  unfold labM at hl
  obtain ⟨s, _, rfl⟩ := List.mem_map.mp hl
  rw [List.getD_eq_getElem?_getD]
  cases q : bw[(wt s).toNat]? with
  | none => exact List.mem_cons_self
  | some b =>
    rcases h.2 b (List.mem_of_getElem? q) with rfl | rfl
    · exact List.mem_cons_self
    · exact List.mem_cons_of_mem _ List.mem_cons_self
theorem runX_out {A α : Type} {F : A → α → Option (Stp A)} {d : D} : ∀ {xs : List α} {a : A}, runX F a xs = some (.out d) → ∃ a x, F a x = some (.out d)
  | [], a, h => by cases h
  | x :: xs, a, h => by
    unfold runX at h
    cases q : F a x with
    | none => rw [q] at h; cases h
    | some z =>
      rw [q] at h
      cases z with
      | go a' => exact runX_out h
      | out e =>
        cases h
        exact ⟨a, x, q⟩
theorem fcM_same {p : Nat} (hp : p ≤ 5) (es tab : List Int) : sameD 3 (fcM p es tab) := by
  unfold fcM
  split
  · rename_i d hd
    obtain ⟨_, low, h1⟩ := runX_out hd
    obtain ⟨_, high, h2⟩ := runX_out h1
    unfold fcIn at h2
    split at h2
    · cases h2
      have sm : ∀ j : Nat, ((rowsP p).getD j []).length ≤ 1000 := fun j => by
        rw [List.getD_eq_getElem?_getD]
        cases q : (rowsP p)[j]? with
        | none => exact Nat.zero_le _
        | some r =>
          have := rowsP_small hp r (List.mem_of_getElem? q)
          show r.length ≤ 1000
          omega
      refine ⟨by show 2 ≤ 1000; decide, fun d hd => ?_⟩
      rcases List.mem_cons.mp hd with rfl | hd
      · exact same_ti (n := 0) (sm _)
      · rw [List.mem_singleton.mp hd]
        exact same_ti (n := 0) (sm _)
    · cases h2
  · trivial
theorem wt_in {p : Nat} (hp : p ≤ 5) {s : List Int} (hs : s ∈ rowsP p) : 0 ≤ wt s ∧ wt s ≤ ((p : Nat) : Int) := by
  have h1 := (rowsP_sg ⟨p, by omega⟩ s hs).1
  unfold wt
  have := List.length_filter_le (fun z : Int => !decide (z = 0)) s
  have h1 : s.length = p := h1
  omega
section
variable {W : Wd} {δ : Sto}
theorem setSame {s : Sl} : ∀ {δ : Sto} {i : Nat}, δ[i]? = some s → δ.set i s = δ
  | [], i, h => by simp at h
  | x :: δ, 0, h => by
    rw [List.getElem?_cons_zero] at h
    cases h
    rfl
  | x :: δ, i + 1, h => by
    rw [List.getElem?_cons_succ] at h
    rw [List.set_cons_succ, setSame h]
theorem sx_ifSet {c : TT} {t u : TS} {b : Bool} {i : Nat} {d d1 d2 : D} (hc : ExT W c δ b) (h1 : b = true → SX W t δ (.nx (δ.set i (.val d1)))) (h2 : b = false → SX W u δ (.nx (δ.set i (.val d2)))) (e : d = if b = true then d1 else d2) : SX W (tIfS c t u) δ (.nx (δ.set i (.val d))) := by
  subst e
  refine sx_if hc (fun h => ?_) (fun h => ?_)
  · rw [if_pos h]; exact h1 h
  · rw [if_neg (by rw [h]; exact Bool.false_ne_true)]; exact h2 h
theorem sx_keep {i : Nat} {d : D} (h : δ[i]? = some (.val d)) : SX W tNext δ (.nx (δ.set i (.val d))) := by
  rw [setSame h]
  exact sx_nil rfl
theorem le_acc {i j : Nat} {s1 s2 s3 : Sl} (hj : δ[j]? = some .no) (hi : i < δ.length) (hij : i ≠ j) : Le (((δ.set i s1).set j s2).set i s3) (δ.set i s3) := fun k s h => by
  by_cases q : i = k
  · subst q
    left
    rw [List.getElem?_set_self hi] at h
    rw [List.getElem?_set_self (by rw [List.length_set, List.length_set]; exact hi)]
    exact h
  · rw [List.getElem?_set_ne q] at h
    rw [List.getElem?_set_ne q]
    by_cases q2 : j = k
    · subst q2
      right
      rw [hj] at h
      cases h
      refine ⟨rfl, ?_⟩
      rw [List.length_set, List.length_set, List.length_set]
      exact (List.getElem?_eq_some_iff.mp hj).1
    · left
      rw [List.getElem?_set_ne q2, List.getElem?_set_ne q]
      exact h
theorem sx_forAcc {α A : Type} {wi : TI} {tb : TS} {ys : List α} {enc : α → D} {f : A → D} (F : A → α → A) (a0 : A) {i j : Nat} (hi : δ[i]? = some (.val (f a0))) (hj : δ[j]? = some .no) (hij : i ≠ j) (hw : EW W wi δ (ys.map enc))
    (h : ∀ a x, x ∈ ys → SX W tb ((δ.set i (.val (f a))).set j (.val (enc x))) (.nx (((δ.set i (.val (f a))).set j (.val (enc x))).set i (.val (f (F a x)))))) : SX W (tFor wi (gName j) tb) δ (.nx (δ.set i (.val (f (ys.foldl F a0))))) := by
  have e0 : δ.set i (.val (f a0)) = δ := setSame hi
  have hl : i < δ.length := (List.getElem?_eq_some_iff.mp hi).1
  have k := sx_forT (W := W) (wi := wi) (g := gName j) (tb := tb) (ys := ys) (enc := enc) (S := fun a => δ.set i (.val (f a))) F a0 (by rw [e0]; exact hw) fun pre x post hx => ⟨_, [j], gx_name (by simp), sx_weak (h _ x (mem_mid hx)) (le_acc hj hl hij)⟩
  rw [e0] at k
  exact k
end
section
variable {P : Program} {w : World} {W : Wd} {mg : Str → Option Value} {base : Heap} {k : Nat}
def N_law : List Str := ["_law_script", "_law_head", "_law_places", "_law_many", "_law_member", "_law_first", "_law_counts", "_law_by_weight", "_law_count", "_law_shape", "_law_k", "_law_inputs_here", "_law_labels", "_law_signs", "_law_group", "_law_program", "_law_entries", "_law_chart", "_law_table", "_law_b", "_law_a", "_law_due", "_law_closed", "_law_choices", "_law_found"]
abbrev ps_law : List Str := ["_law_script"]
theorem sc_law : FnScope N_law ps_law (defScope (top 86)) := ⟨rfl, rfl, rfl, by decide +kernel, rfl, by decide +kernel, by decide +kernel⟩
def R_law : FP := fun as d => ∃ ns : List Int, as = [.l (ns.map D.int)] ∧ d = .bl true
theorem w_law {gG pG gC : Addr} {mc : Value} (K : Facts) (T : Tx W.K mg) (X : Kx W) (gGroup : mg "Group" = some (.ref (W.cl 0))) (hCR : ClX.CRead W.K (W.cl 0) mc) (hCM : ClX.CMet W.K (W.cl 0) mc "cyclic" pG gG) (fCY : FnR P w W.K mg base C8.CX0 7 gG (spOf W (R_cyclic W))) (hCO : StX.CallO W.K (W.cl 2) gC) (fCO : FnR P w W.K mg base C8.CX0 2 gC (spOf W R_pcall))
    (c__law_numbers : C8.Cal P w W.K mg base 1 "_law_numbers" (spOf W R__law_numbers) []) (c__law_draw : C8.Cal P w W.K mg base 1 "_law_draw" (spOf W R__law_draw) []) (c__law_drawn_counts : C8.Cal P w W.K mg base 1 "_law_drawn_counts" (spOf W R__law_drawn_counts) []) (c__law_inputs : C8.Cal P w W.K mg base 6 "_law_inputs" (spOf W R__law_inputs) []) (c__law_weight : C8.Cal P w W.K mg base 1 "_law_weight" (spOf W R_weight) [])
    (c__law_same : C8.Cal P w W.K mg base 4 "_law_same" (spOf W (R_same 3)) []) (c__law_counted : C8.Cal P w W.K mg base 9 "_law_counted" (spOf W R__law_counted) []) (c__law_adding : C8.Cal P w W.K mg base 5 "_law_adding" (spOf W R__law_adding) []) (m_Program_chart : C8.Met P w W.K mg base 8 (W.cl 2) "chart" (spOf W R_pchart) []) (c__law_chart_is : C8.Cal P w W.K mg base 5 "_law_chart_is" (spOf W R__law_chart_is) []) (c__law_first_clash : C8.Cal P w W.K mg base 1 "_law_first_clash" (spOf W R__law_first_clash) [])
    (c_clash : C8.Cal P w W.K mg base 8 "clash" (spOf W R_clash) []) (c_decides : C8.Cal P w W.K mg base 9 "decides" (spOf W R_decides) []) (c_deciding_chart : C8.Cal P w W.K mg base 9 "deciding_chart" (spOf W R_deciding_chart) []) (c__law_no_clash : C8.Cal P w W.K mg base 1 "_law_no_clash" (spOf W R__law_no_clash) []) (c_is_programmable : C8.Cal P w W.K mg base 10 "is_programmable" (spOf W R_is_programmable) []) (c__law_least_holds : C8.Cal P w W.K mg base 11 "_law_least_holds" (spOf W R__law_least_holds) []) : BodyOk P w W mg base 11 N_law "law" (top 86) R_law := by
  intro f cdv A outer s H E hr
  refine ⟨_, (pss_cons (ps_set (i := 1) sc_law.nd rfl (by first | exact Or.inl rfl | exact Or.inr rfl) (C8.pe_c c__law_numbers hr (by decide) (by rfl) (pa_cons (C8.pe_c c__law_draw hr (by decide) (by rfl) (pa_cons (pv 0) (pa_cons pe_int pa_nil))) (pa_cons pe_int pa_nil))))
    (pss_cons (ps_set (i := 2) sc_law.nd rfl (by first | exact Or.inl rfl | exact Or.inr rfl) (pe_ix ix_list (pe_lst (pa_cons pe_int (pa_cons pe_int (pa_cons pe_int (pa_cons pe_int (pa_cons pe_int (pa_cons pe_int (pa_cons pe_int (pa_cons pe_int (pa_cons pe_int (pa_cons pe_int pa_nil))))))))))) (pe_op op_mod (pe_callTy call_int1 (by rfl) T.int boot_int (pa_cons (pe_ix ix_list (pv 1) pe_int (fun _ _ => rfl)) pa_nil)) pe_int) (fun _ _ => rfl)))
    (pss_cons (ps_set (i := 3) sc_law.nd rfl (by first | exact Or.inl rfl | exact Or.inr rfl) (pe_op op_add pe_int (pe_op op_mod (pe_callTy call_int1 (by rfl) T.int boot_int (pa_cons (pe_ix ix_list (pv 1) pe_int (fun _ _ => rfl)) pa_nil)) pe_int)))
    (pss_cons (ps_if (pt_cmpR op_eq (pe_op op_mod (pe_callTy call_int1 (by rfl) T.int boot_int (pa_cons (pe_ix ix_list (pv 1) pe_int (fun _ _ => rfl)) pa_nil)) pe_int) pe_int (nomark _)) (pss_one (ps_set (i := 3) sc_law.nd rfl (by first | exact Or.inl rfl | exact Or.inr rfl) (pe_op op_add (pv 2) pe_int))) (pss_one (ps_if (pt_cmpR op_lt (pe_op op_mod (pe_callTy call_int1 (by rfl) T.int boot_int (pa_cons (pe_ix ix_list (pv 1) pe_int (fun _ _ => rfl)) pa_nil)) pe_int) pe_int (nomark _)) (pss_one (ps_set (i := 3) sc_law.nd rfl (by first | exact Or.inl rfl | exact Or.inr rfl) (pe_op op_add pe_int (pe_op op_mod (pe_callTy call_int1 (by rfl) T.int boot_int (pa_cons (pe_ix ix_list (pv 1) pe_int (fun _ _ => rfl)) pa_nil)) (pe_callB (call_max2 rfl) (by rfl) T.max (by rfl) (pa_cons pe_int (pa_cons (pe_op op_sub (pv 2) pe_int) pa_nil))))))) pss_nil)))
    (pss_cons (ps_set (i := 4) sc_law.nd rfl (by first | exact Or.inl rfl | exact Or.inr rfl) (pe_op op_sub pe_int (pe_callTy call_int1 (by rfl) T.int boot_int (pa_cons (pe_cmpR op_eq (pv 3) pe_int (nomark _)) pa_nil))))
    (pss_cons (ps_if (pt_cmpR op_eq (pe_op op_mod (pe_callTy call_int1 (by rfl) T.int boot_int (pa_cons (pe_ix ix_list (pv 1) pe_int (fun _ _ => rfl)) pa_nil)) pe_int) pe_int (nomark _)) (pss_one (ps_set (i := 4) sc_law.nd rfl (by first | exact Or.inl rfl | exact Or.inr rfl) (pe_op op_mod (pe_callTy call_int1 (by rfl) T.int boot_int (pa_cons (pe_ix ix_list (pv 1) pe_int (fun _ _ => rfl)) pa_nil)) (pv 3)))) pss_nil)
    (pss_cons (ps_set (i := 5) sc_law.nd rfl (by first | exact Or.inl rfl | exact Or.inr rfl) (pe_op op_mod (pe_callTy call_int1 (by rfl) T.int boot_int (pa_cons (pe_ix ix_list (pv 1) pe_int (fun _ _ => rfl)) pa_nil)) (pv 3)))
    (pss_cons (ps_set (i := 6) sc_law.nd rfl (by first | exact Or.inl rfl | exact Or.inr rfl) (C8.pe_c c__law_drawn_counts hr (by decide) (by rfl) (pa_cons (C8.pe_c c__law_numbers hr (by decide) (by rfl) (pa_cons (C8.pe_c c__law_draw hr (by decide) (by rfl) (pa_cons (pv 0) (pa_cons pe_int pa_nil))) (pa_cons pe_int pa_nil))) (pa_cons (pv 2) (pa_cons (pv 3) pa_nil)))))
    (pss_cons (ps_set (i := 7) sc_law.nd rfl (by first | exact Or.inl rfl | exact Or.inr rfl) (pe_lc (own := [("_law_count", 8)]) rfl sc_law.nd (pi_range1 (by rfl) T.range (pa_cons (pe_op op_add (pv 2) pe_int) pa_nil)) (blkOk_by (N := N_law) (sc := defScope (top 86)) (by decide +kernel)) (fun _ _ _ _ _ => pg_cast (pg_name (i := 8) sc_law.nd rfl (by first | exact Or.inl rfl | exact Or.inr rfl)) (by first | exact rfl | (dsimp only [blk_K]; done) | (dsimp only [blk_K]; exact rfl))) (fun _ _ _ _ _ => pts_cast pts_nil (by first | exact rfl | (dsimp only [blk_K]; done) | (dsimp only [blk_K]; exact rfl))) (fun _ _ _ _ _ => pe_cast (pe_callTy call_int1 (by rfl) T.int boot_int (pa_cons (pe_cmpR op_in_seq (pv 8) (pv 6) (by with_unfolding_all rfl)) pa_nil)) (by first | exact rfl | (dsimp only [blk_K]; done) | (dsimp only [blk_K]; exact rfl)))))
    (pss_cons (ps_set (i := 9) sc_law.nd rfl (by first | exact Or.inl rfl | exact Or.inr rfl) (pe_callTy call_tuple_of (by rfl) T.tuple boot_tuple (pa_cons (pe_lc (own := [("_law_k", 10)]) rfl sc_law.nd (pi_range1 (by rfl) T.range (pa_cons (pv 2) pa_nil)) (blkOk_by (N := N_law) (sc := defScope (top 86)) (by decide +kernel)) (fun _ _ _ _ _ => pg_cast (pg_name (i := 10) sc_law.nd rfl (by first | exact Or.inl rfl | exact Or.inr rfl)) (by first | exact rfl | (dsimp only [blk_K]; done) | (dsimp only [blk_K]; exact rfl))) (fun _ _ _ _ _ => pts_cast pts_nil (by first | exact rfl | (dsimp only [blk_K]; done) | (dsimp only [blk_K]; exact rfl))) (fun _ _ _ _ _ => pe_cast pe_int (by first | exact rfl | (dsimp only [blk_K]; done) | (dsimp only [blk_K]; exact rfl)))) pa_nil)))
    (pss_cons (ps_set (i := 11) sc_law.nd rfl (by first | exact Or.inl rfl | exact Or.inr rfl) (C8.pe_c c__law_inputs hr (by decide) (by rfl) (pa_cons (pv 9) pa_nil)))
    (pss_cons (ps_set (i := 12) sc_law.nd rfl (by first | exact Or.inl rfl | exact Or.inr rfl) (pe_callTy call_tuple_of (by rfl) T.tuple boot_tuple (pa_cons (pe_lc (own := [("_law_signs", 13)]) rfl sc_law.nd (pi_list (pv 11)) (blkOk_by (N := N_law) (sc := defScope (top 86)) (by decide +kernel)) (fun _ _ _ _ _ => pg_cast (pg_name (i := 13) sc_law.nd rfl (by first | exact Or.inl rfl | exact Or.inr rfl)) (by first | exact rfl | (dsimp only [blk_K]; done) | (dsimp only [blk_K]; exact rfl))) (fun _ _ _ _ _ => pts_cast pts_nil (by first | exact rfl | (dsimp only [blk_K]; done) | (dsimp only [blk_K]; exact rfl))) (fun _ _ _ _ _ => pe_cast (pe_ix ix_list (pv 7) (C8.pe_c c__law_weight hr (by decide) (by rfl) (pa_cons (pv 13) pa_nil)) (fun _ _ => rfl)) (by first | exact rfl | (dsimp only [blk_K]; done) | (dsimp only [blk_K]; exact rfl)))) pa_nil)))
    (pss_cons (ps_if (pt_not (pt_val (C8.pe_c c__law_same hr (by decide) (by rfl) (pa_cons (C8.pe_c c__law_counted hr (by decide) (by rfl) (pa_cons (pv 2) (pa_cons (pv 6) pa_nil))) (pa_cons (pv 12) pa_nil))))) (pss_one (ps_ret pe_bl)) pss_nil)
    (pss_cons (ps_set (i := 14) sc_law.nd rfl (by first | exact Or.inl rfl | exact Or.inr rfl) (ClX.pe_cmeth (E := C8.E0) (pe_glob (v := V.ref (W.cl 0)) (by rfl) gGroup rfl) hCR hCM fCY (hr.mono (by decide)) C8.pass0 (pa_cons (pv 3) pa_nil)))
    (pss_cons (ps_set (i := 15) sc_law.nd rfl (by first | exact Or.inl rfl | exact Or.inr rfl) (C8.pe_c c__law_adding hr (by decide) (by rfl) (pa_cons (pv 14) (pa_cons (pv 3) (pa_cons (pv 9) (pa_cons (pe_slice sl_list (pv 1) (po_some pe_int) (po_some pe_int)) (pa_cons (pv 4) (pa_cons (pv 5) pa_nil))))))))
    (pss_cons (ps_setLc (i := 16) (own := [("_law_signs", 13)]) rfl sc_law.nd rfl rfl (sw_true rfl rfl rfl (by decide +kernel)) (pi_list (pv 11)) (blkOk_by (N := N_law) (sc := defScope (top 86)) (by decide +kernel)) (fun _ _ _ _ _ => pg_cast (pg_name (i := 13) sc_law.nd rfl (by first | exact Or.inl rfl | exact Or.inr rfl)) (by first | exact rfl | (dsimp only [blk_K]; done) | (dsimp only [blk_K]; exact rfl))) (fun _ _ _ _ _ => pts_cast pts_nil (by first | exact rfl | (dsimp only [blk_K]; done) | (dsimp only [blk_K]; exact rfl))) (fun _ _ _ _ _ => pe_cast (pe_op op_mod (pe_callTy call_int1 (by rfl) T.int boot_int (pa_cons (pe_op op_add (pv 5) (pe_op op_mul (pv 4) (C8.pe_c c__law_weight hr (by decide) (by rfl) (pa_cons (pv 13) pa_nil)))) pa_nil)) (pv 3)) (by first | exact rfl | (dsimp only [blk_K]; done) | (dsimp only [blk_K]; exact rfl))))
    (pss_cons (ps_set (i := 17) sc_law.nd rfl (by first | exact Or.inl rfl | exact Or.inr rfl) (C8.pe_mt0 m_Program_chart hr (by decide) (pv 15)))
    (pss_cons (ps_setLc (i := 18) (own := [("_law_a", 20)]) rfl sc_law.nd rfl rfl (sw_true rfl rfl rfl (by decide +kernel)) (pi_range1 (by rfl) T.range (pa_cons (pv 3) pa_nil)) (blkOk_by (N := N_law) (sc := defScope (top 86)) (by decide +kernel)) (fun _ _ _ _ _ => pg_cast (pg_name (i := 20) sc_law.nd rfl (by first | exact Or.inl rfl | exact Or.inr rfl)) (by first | exact rfl | (dsimp only [blk_K]; done) | (dsimp only [blk_K]; exact rfl))) (fun _ _ _ _ _ => pts_cast pts_nil (by first | exact rfl | (dsimp only [blk_K]; done) | (dsimp only [blk_K]; exact rfl))) (fun _ _ _ _ _ => pe_cast (pe_lc (own := [("_law_b", 19)]) rfl sc_law.nd (pi_range1 (by rfl) T.range (pa_cons (pv 3) pa_nil)) (blkOk_by (by rfl)) (fun _ _ _ _ _ => pg_cast (pg_name (i := 19) sc_law.nd rfl (by first | exact Or.inl rfl | exact Or.inr rfl)) (by first | exact rfl | (dsimp only [blk_K]; done) | (dsimp only [blk_K]; exact rfl))) (fun _ _ _ _ _ => pts_cast pts_nil (by first | exact rfl | (dsimp only [blk_K]; done) | (dsimp only [blk_K]; exact rfl))) (fun _ _ _ _ _ => pe_cast (pe_op op_mod (pe_callTy call_int1 (by rfl) T.int boot_int (pa_cons (pe_op op_add (pv 20) (pv 19)) pa_nil)) (pv 3)) (by first | exact rfl | (dsimp only [blk_K]; done) | (dsimp only [blk_K]; exact rfl)))) (by first | exact rfl | (dsimp only [blk_K]; done) | (dsimp only [blk_K]; exact rfl))))
    (pss_cons (ps_if (PW.pt (pw_or (pt_not (pt_val (C8.pe_c c__law_chart_is hr (by decide) (by rfl) (pa_cons (pv 17) (pa_cons (pv 18) (pa_cons (pv 9) (pa_cons (pv 16) pa_nil))))))) (pw_or1 (pt_not (pt_val (C8.pe_c c__law_same hr (by decide) (by rfl) (pa_cons (pe_callI (E := C8.E0) (pv 15) hCO fCO (hr.mono (by decide)) C8.pass0 (pa_cons (pe_ix ix_list (pv 11) (pe_un un_neg pe_int) (fun _ _ => rfl)) pa_nil)) (pa_cons (pe_ix ix_list (pv 16) (pe_un un_neg pe_int) (fun _ _ => rfl)) pa_nil)))))))) (pss_one (ps_ret pe_bl)) pss_nil)
    (pss_cons (ps_set (i := 21) sc_law.nd rfl (by first | exact Or.inl rfl | exact Or.inr rfl) (C8.pe_c c__law_first_clash hr (by decide) (by rfl) (pa_cons (pv 11) (pa_cons (pv 16) (pa_cons (pv 12) pa_nil)))))
    (pss_cons (ps_if (PW.pt (pw_or (pt_not (pt_val (C8.pe_c c__law_same hr (by decide) (by rfl) (pa_cons (C8.pe_c c_clash hr (by decide) (by rfl) (pa_cons (pv 17) (pa_cons (pv 12) pa_nil))) (pa_cons (pv 21) pa_nil))))) (pw_or1 (pt_not (pt_val (C8.pe_c c__law_same hr (by decide) (by rfl) (pa_cons (C8.pe_c c_decides hr (by decide) (by rfl) (pa_cons (pv 17) (pa_cons (pv 12) pa_nil))) (pa_cons (pe_cmpR op_isN (pv 21) pe_non (nomark _)) pa_nil)))))))) (pss_one (ps_ret pe_bl)) pss_nil)
    (pss_cons (ps_set (i := 22) sc_law.nd rfl (by first | exact Or.inl rfl | exact Or.inr rfl) (pe_cmpR (op_eqD hr.units) (pe_lc (own := [("_law_k", 10)]) rfl sc_law.nd (pi_range1 (by rfl) T.range (pa_cons (pe_op op_sub (pe_op op_add (pv 2) pe_int) (pv 3)) pa_nil)) (blkOk_by (N := N_law) (sc := defScope (top 86)) (by decide +kernel)) (fun _ _ _ _ _ => pg_cast (pg_name (i := 10) sc_law.nd rfl (by first | exact Or.inl rfl | exact Or.inr rfl)) (by first | exact rfl | (dsimp only [blk_K]; done) | (dsimp only [blk_K]; exact rfl))) (fun _ _ _ _ _ => pts_cast (pts_one (pt_cmpR op_ne (pe_ix ix_list (pv 7) (pv 10) (fun _ _ => rfl)) (pe_ix ix_list (pv 7) (pe_op op_add (pv 10) (pv 3)) (fun _ _ => rfl)) (nomark _))) (by first | exact rfl | (dsimp only [blk_K]; done) | (dsimp only [blk_K]; exact rfl))) (fun _ _ _ _ _ => pe_cast (pv 10) (by first | exact rfl | (dsimp only [blk_K]; done) | (dsimp only [blk_K]; exact rfl)))) (pe_lst pa_nil) (nomark _)))
    (pss_cons (ps_if (PW.pt (pw_and (pt_cmpR op_eq (pv 4) pe_int (nomark _)) (pw_and1 (pt_cmpR op_ne (C8.pe_c c_decides hr (by decide) (by rfl) (pa_cons (pv 17) (pa_cons (pv 12) pa_nil))) (pv 22) (nomark _))))) (pss_one (ps_ret pe_bl)) pss_nil)
    (pss_cons (ps_if (PW.pt (pw_and (pt_cmpR op_gt (pv 3) (pv 2) (nomark _)) (pw_and (pt_cmpR op_eq (pv 4) pe_int (nomark _)) (pw_and1 (pt_not (pt_val (C8.pe_c c_decides hr (by decide) (by rfl) (pa_cons (pv 17) (pa_cons (pv 12) pa_nil))))))))) (pss_one (ps_ret pe_bl)) pss_nil)
    (pss_cons (ps_set (i := 23) sc_law.nd rfl (by first | exact Or.inl rfl | exact Or.inr rfl) pe_int)
    (pss_cons (ps_for PassesOwn.never rfl (pi_range1 (by rfl) T.range (pa_cons (pv 2) pa_nil)) (pg_name (i := 10) sc_law.nd rfl (by first | exact Or.inl rfl | exact Or.inr rfl)) (pss_one (ps_set (i := 23) sc_law.nd rfl (by first | exact Or.inl rfl | exact Or.inr rfl) (pe_op op_mul (pv 23) (pv 3)))))
    (pss_cons (ps_if (PW.pt (pw_and (pt_val (pv 22)) (pw_and1 (pt_cmpR op_le (pv 23) pe_int (nomark _))))) (pss_cons (ps_set (i := 24) sc_law.nd rfl (by first | exact Or.inl rfl | exact Or.inr rfl) (C8.pe_c c_deciding_chart hr (by decide) (by rfl) (pa_cons (pv 14) (pa_cons (pv 9) (pa_cons (pv 12) pa_nil)))))
     (pss_one (ps_if (PW.pt (pw_or (pt_cmpR op_isN (pv 24) pe_non (nomark _)) (pw_or (pt_not (pt_val (C8.pe_c c__law_no_clash hr (by decide) (by rfl) (pa_cons (pe_fld (pv 24) rfl) (pa_cons (pv 12) pa_nil))))) (pw_or1 (pt_not (pt_val (C8.pe_c c_is_programmable hr (by decide) (by rfl) (pa_cons (pv 24) pa_nil)))))))) (pss_one (ps_ret pe_bl)) pss_nil))) pss_nil)
    (pss_cons (ps_if (PW.pt (pw_or (pt_cmpR op_le (pv 2) pe_int (nomark _)) (pw_or1 (PW.pt (pw_and (pt_cmpR op_eq (pv 2) pe_int (nomark _)) (pw_and1 (pt_cmpR op_eq (pe_op op_mod (pe_callTy call_int1 (by rfl) T.int boot_int (pa_cons (pe_ix ix_list (pv 1) pe_int (fun _ _ => rfl)) pa_nil)) pe_int) pe_int (nomark _)))))))) (pss_one (ps_ret (C8.pe_c c__law_least_holds hr (by decide) (by rfl) (pa_cons (pv 2) (pa_cons (pv 9) (pa_cons (pv 12) (pa_cons (pv 7) pa_nil))))))) pss_nil)
    (pss_one (ps_ret pe_bl)))))))))))))))))))))))))))))), ?_⟩
  rintro as d ⟨ns, rfl, rfl⟩
  refine .inl ?_
  refine sx_seq (sx_set (ex_call (R := R__law_numbers) ⟨drawM ns 0, 16, rfl, by decide, rfl⟩ (exa_cons (ex_call (R := R__law_draw) ⟨ns, 0, rfl, rfl⟩ (exa_cons (ea_rd rfl) (exa_cons ex_int exa_nil))) (exa_cons ex_int exa_nil))) rfl) ?_
  have hh : (numsM (drawM ns 0) 16).length = 16 := numsM_len _ _
  generalize numsM (drawM ns 0) 16 = h at hh
  have hx : ∀ {δ : Sto} {i : Nat} (j : Nat), δ[i]? = some (.val (li h)) → j < 16 → Ex W (tCB rInt (tCons (tOp (rIxL W.K) (tVar i) (tC (.int ((j : Nat) : Int)))) tNil)) δ (.int (h.getD j 0)) := fun {δ i} j hi hj => ex_intI (ex_ixL (enc := D.int) (EA.toL (ea_var hi)) ex_int (getD_at (by omega)))
  obtain ⟨hp0, hp5⟩ := plM_in h
  obtain ⟨p, ep⟩ : ∃ p : Nat, plM h = ((p : Nat) : Int) := ⟨(plM h).toNat, by omega⟩
  have hp : p ≤ 5 := by omega
  refine sx_seq (sx_set (d := .int ((p : Nat) : Int)) (Ex.to (ex_ixL (enc := D.int) (ys := plL) (y := plM h) (ExF.l (exf_lst (ds := plL.map D.int) (by decide) (exa_cons ex_int (exa_cons ex_int (exa_cons ex_int (exa_cons ex_int (exa_cons ex_int (exa_cons ex_int (exa_cons ex_int (exa_cons ex_int (exa_cons ex_int (exa_cons ex_int exa_nil)))))))))))) (ex_modI (hx 0 rfl (by decide)) ex_int (by decide)) (atI_i 0 (Int.emod_nonneg _ (by decide)) (Int.emod_lt_of_pos _ (by decide)))) (by rw [ep])) rfl) ?_
  obtain ⟨hm1, hm8⟩ := manyI_in (h := h) hp0 hp5
  rw [ep] at hm1 hm8
  obtain ⟨many, em⟩ : ∃ m : Nat, manyI h ((p : Nat) : Int) = ((m : Nat) : Int) := ⟨(manyI h ((p : Nat) : Int)).toNat, by omega⟩
  rw [em] at hm1 hm8
  refine sx_seq (sx_set (ex_addI ex_int (ex_modI (hx 1 rfl (by decide)) ex_int (by decide))) rfl) ?_
  refine sx_seq (sx_ifSet (i := 3) (b := decide (h.getD 2 0 % 4 = 0)) (d := .int ((many : Nat) : Int)) (d1 := .int (((p : Nat) : Int) + 1)) (d2 := .int (if decide (h.getD 2 0 % 4 < 3) = true then 2 + h.getD 1 0 % (if ((p : Nat) : Int) - 1 > 1 then ((p : Nat) : Int) - 1 else 1) else 1 + h.getD 1 0 % 8)) (ext_test (ex_eqI (ex_modI (hx 2 rfl (by decide)) ex_int (by decide)) ex_int)) (fun _ => sx_set (ex_addI (ea_var rfl) ex_int) rfl)
    (fun _ => sx_ifSet (i := 3) (b := decide (h.getD 2 0 % 4 < 3)) (d1 := .int (2 + h.getD 1 0 % (if ((p : Nat) : Int) - 1 > 1 then ((p : Nat) : Int) - 1 else 1))) (d2 := .int (1 + h.getD 1 0 % 8)) (ext_test (ex_ltI (ex_modI (hx 2 rfl (by decide)) ex_int (by decide)) ex_int)) (fun _ => sx_set (ex_addI ex_int (ex_modI (hx 1 rfl (by decide)) (ex_cb rg_max (exa_cons ex_int (exa_cons (ex_subI (ea_var rfl) ex_int) exa_nil))) (by split <;> omega))) rfl) (fun _ => sx_keep rfl) (by split <;> rfl)) (by rw [← em]; unfold manyI; split <;> rfl)) ?_
  obtain ⟨he0, he1⟩ := memI_in (h := h) (many := ((many : Nat) : Int)) (by omega)
  generalize emb : memI h ((many : Nat) : Int) = member at he0 he1
  refine sx_seq (sx_set (ex_subI ex_int (ex_intB (ex_eqI (ea_var rfl) ex_int))) rfl) ?_
  refine sx_seq (sx_ifSet (i := 4) (b := decide (h.getD 3 0 % 3 = 0)) (d := .int member) (d1 := .int (h.getD 4 0 % ((many : Nat) : Int))) (d2 := .int (1 - (if decide (((many : Nat) : Int) = 1) = true then 1 else 0))) (ext_test (ex_eqI (ex_modI (hx 3 rfl (by decide)) ex_int (by decide)) ex_int)) (fun _ => sx_set (ex_modI (hx 4 rfl (by decide)) (ea_var rfl) (by omega)) rfl) (fun _ => sx_keep rfl) (by rw [← emb]; unfold memI; split <;> rfl)) ?_
  have hf0 : 0 ≤ h.getD 5 0 % ((many : Nat) : Int) := Int.emod_nonneg _ (by omega)
  have hf1 : h.getD 5 0 % ((many : Nat) : Int) < ((many : Nat) : Int) := Int.emod_lt_of_pos _ (by omega)
  refine sx_seq (sx_set (ex_modI (hx 5 rfl (by decide)) (ea_var rfl) (by omega)) rfl) ?_
  generalize h.getD 5 0 % ((many : Nat) : Int) = first at hf0 hf1
  show SX W _ [.rd (ns.map D.int), .val (li h), .val (.int ((p : Nat) : Int)), .val (.int ((many : Nat) : Int)), .val (.int member), .val (.int first), .no, .no, .no, .no, .no, .no, .no, .no, .no, .no, .no, .no, .no, .no, .no, .no, .no, .no, .no] _
  refine sx_seq (sx_set (ex_call (R := R__law_drawn_counts) ⟨numsM (drawM ns 1) 20, p, many, hp, by omega, by omega, numsM_len _ _, rfl, rfl⟩ (exa_cons (ex_call (R := R__law_numbers) ⟨drawM ns 1, 20, rfl, by decide, rfl⟩ (exa_cons (ex_call (R := R__law_draw) ⟨ns, 1, rfl, rfl⟩ (exa_cons (ea_rd rfl) (exa_cons ex_int exa_nil))) (exa_cons ex_int exa_nil))) (exa_cons (ea_var rfl) (exa_cons (ea_var rfl) exa_nil)))) rfl) ?_
  have hcl := dcM_len (nums := numsM (drawM ns 1) 20) (many := many) hp
  generalize dcM (numsM (drawM ns 1) 20) p many = cs at hcl
  refine sx_seq (sx_set (Ex.to (b := li (bwM p cs)) (ExF.ex (exf_lcT1 (enc := fun n : Nat => .int (n : Nat)) (ys := List.range (p + 1)) (fun c => .int (if decide (((c : Nat) : Int) ∈ cs) = true then 1 else 0)) (ew_rg1 (n := p + 1) (Ex.to (ex_addI (ea_var rfl) ex_int) (by simp)) (by omega)) (fun c hc => ⟨_, gx_name (by simp), ex_intB (ex_inI (ea_var rfl) (EA.toS (ea_var rfl)))⟩) (by rw [List.length_range]; exact small_of (by omega)))) (by unfold bwM li; rw [List.map_map]; rfl)) rfl) ?_
  have hbw := bwM_ok p cs
  have hk0 := K.k0 p cs hp
  generalize bwM p cs = bw at hbw hk0
  refine sx_seq (sx_set (ex_tupF (ExF.to (b := (List.replicate p (2 : Int)).map D.int) (exf_lcT1 (enc := fun n : Nat => .int (n : Nat)) (ys := List.range p) (fun _ => .int 2) (ew_rg1 (ea_var rfl) (by omega)) (fun c hc => ⟨_, gx_name (by simp), ex_int⟩) (by rw [List.length_range]; exact small_of (by omega))) (by rw [List.map_const', List.length_range, List.map_replicate]))) rfl) ?_
  refine sx_seq (sx_set (ex_call (R := R__law_inputs) ⟨p, hp, rfl, rfl⟩ (exa_cons (ea_var rfl) exa_nil)) rfl) ?_
  have hrl := rowsP_len hp
  have h2p := two_pow_le hp
  refine sx_seq (sx_set (d := ti (labM p bw)) (ex_tupF (ExF.to (exf_lcT1 (enc := ti) (ys := rowsP p) (fun s => .int (bw.getD (wt s).toNat 0)) (ew_list (ea_var rfl)) (fun s hs => ⟨_, gx_name (by simp), ex_ixL (enc := D.int) (EA.toL (ea_var rfl)) (ex_call (R := R_weight) ⟨s, by have := rowsP_small hp s hs; omega, rfl, rfl⟩ (exa_cons (ea_var rfl) exa_nil)) (atI_i 0 (wt_in hp hs).1 (by have := (wt_in hp hs).2; rw [hbw.1]; omega))⟩) (small_of (by omega))) (by unfold labM; rw [List.map_map]; rfl))) rfl) ?_
  have hlab := labM_ok hp hbw
  have hll := lab_len hlab
  refine sx_seq (sx_ifF (ext_not (ext_val (ex_call (R := R_same 3) ⟨ti (labM p bw), same_ti (n := 1) (by omega), rfl, rfl⟩ (exa_cons (Ex.to (ex_call (R := R__law_counted) ⟨p, cs, hp, hcl, rfl, rfl⟩ (exa_cons (ea_var rfl) (exa_cons (ea_var rfl) exa_nil))) (by rw [hk0])) (exa_cons (ea_var rfl) exa_nil))))) rfl (sx_nil rfl)) ?_
  show SX W _ [.rd (ns.map D.int), .val (li h), .val (.int ((p : Nat) : Int)), .val (.int ((many : Nat) : Int)), .val (.int member), .val (.int first), .val (li cs), .val (li bw), .no, .val (shp p), .no, .val (rowsD p), .val (ti (labM p bw)), .no, .no, .no, .no, .no, .no, .no, .no, .no, .no, .no, .no] _
  have hcy : grpOk (cyc many) = true := by
    have k := cyc_ok ⟨many - 1, by omega⟩
    rw [show ((⟨many - 1, by omega⟩ : _root_.Fin 8) : Nat) + 1 = many by show many - 1 + 1 = many; omega] at k
    exact k
  have hcl2 : (cyc many).length = many := by unfold cyc; rw [List.length_map, List.length_range]
  have hmi : InR (cyc many) member := ⟨he0, by rw [hcl2]; exact he1⟩
  have hfi : InR (cyc many) first := ⟨hf0, by rw [hcl2]; exact hf1⟩
  refine sx_seq (sx_set (ex_cmeth (R := R_cyclic W) ea_c ⟨many, by omega, by omega, rfl, rfl⟩ (exa_cons (ea_var rfl) exa_nil)) rfl) ?_
  have hn8 : ((h.drop 6).take 8).length = 8 := by rw [List.length_take, List.length_drop]; omega
  refine sx_seq (sx_set (ex_call (R := R__law_adding) ⟨cyc many, many, p, (h.drop 6).take 8, member, first, hp, hcy, hcl2, hn8, hmi, hfi, rfl, rfl⟩ (exa_cons (ea_var rfl) (exa_cons (ea_var rfl) (exa_cons (ea_var rfl) (exa_cons (Ex.to (b := li ((h.drop 6).take 8)) (ExF.ex (exf_sl (EA.toL (ea_var rfl)) (eo_some ex_int) (eo_some ex_int))) (by rw [show (6 : Int) = ((6 : Nat) : Int) from rfl, show (14 : Int) = ((14 : Nat) : Int) from rfl, cut_nat, ← List.map_drop, ← List.map_take])) (exa_cons (ea_var rfl) (exa_cons (ea_var rfl) exa_nil))))))) rfl) ?_
  have hk1 := K.k1 p many ((h.drop 6).take 8) member first hp (by omega) (by omega) he0 he1 hf0 hf1 hn8
  have hsok := adM_ok (nums := (h.drop 6).take 8) (p := p) hcl2 (by omega) hmi hfi
  generalize adM ((h.drop 6).take 8) p many member first = sts at hk1 hsok
  have hch : pChart (cyc many) p sts = enM p many member first := List.map_congr_left hk1
  refine sx_seq (sx_set (d := li (enM p many member first)) (Ex.to (ExF.ex (exf_lcT1 (enc := ti) (ys := rowsP p) (fun s => .int ((first + member * wt s) % ((many : Nat) : Int))) (ew_list (ea_var rfl)) (fun s hs => ⟨_, gx_name (by simp), ex_modI (ex_intI (ex_addI (ea_var rfl) (ex_mulI (ea_var rfl) (ex_call (R := R_weight) ⟨s, by have := rowsP_small hp s hs; omega, rfl, rfl⟩ (exa_cons (ea_var rfl) exa_nil)) (.inl ⟨by omega, by omega⟩)))) (ea_var rfl) (by omega)⟩) (small_of (by omega)))) (by unfold enM li; rw [List.map_map]; rfl)) rfl) ?_
  have hel : (enM p many member first).length = 2 ^ p := by unfold enM; rw [List.length_map, hrl]
  refine sx_seq (sx_set (d := chrD (cyc many) p (enM p many member first)) (Ex.to (ex_meth (R := R_pchart) (ea_var rfl) rfl ⟨cyc many, p, sts, hp, rfl, hcy, hsok, rfl⟩ exa_nil) (by rw [hch])) rfl) ?_
  show SX W _ [.rd (ns.map D.int), .val (li h), .val (.int ((p : Nat) : Int)), .val (.int ((many : Nat) : Int)), .val (.int member), .val (.int first), .val (li cs), .val (li bw), .no, .val (shp p), .no, .val (rowsD p), .val (ti (labM p bw)), .no, .val (grpD (cyc many)), .val (prgD (cyc many) p sts), .val (li (enM p many member first)), .val (chrD (cyc many) p (enM p many member first)), .no, .no, .no, .no, .no, .no, .no] _
  refine sx_seq (sx_set (Ex.to (b := lliD (cyc many)) (ExF.ex (exf_lcT1 (enc := fun n : Nat => .int (n : Nat)) (ys := List.range many) (fun a => li ((List.range many).map fun b => (((a : Nat) : Int) + ((b : Nat) : Int)) % ((many : Nat) : Int))) (ew_rg1 (ea_var rfl) (by omega)) (fun a ha => ⟨_, gx_name (by simp), (ExF.ex (exf_lcT1 (enc := fun n : Nat => .int (n : Nat)) (ys := List.range many) (fun b => .int ((((a : Nat) : Int) + ((b : Nat) : Int)) % ((many : Nat) : Int))) (ew_rg1 (ea_var rfl) (by omega)) (fun b hb => ⟨_, gx_name (by simp), ex_modI (ex_intI (ex_addI (ea_var rfl) (ea_var rfl))) (ea_var rfl) (by omega)⟩) (by rw [List.length_range]; exact small_of (by omega)))).to (by unfold li; rw [List.map_map]; rfl)⟩) (by rw [List.length_range]; exact small_of (by omega)))) (by unfold cyc lliD; rw [List.map_map]; rfl)) rfl) ?_
  show SX W _ [.rd (ns.map D.int), .val (li h), .val (.int ((p : Nat) : Int)), .val (.int ((many : Nat) : Int)), .val (.int member), .val (.int first), .val (li cs), .val (li bw), .no, .val (shp p), .no, .val (rowsD p), .val (ti (labM p bw)), .no, .val (grpD (cyc many)), .val (prgD (cyc many) p sts), .val (li (enM p many member first)), .val (chrD (cyc many) p (enM p many member first)), .val (lliD (cyc many)), .no, .no, .no, .no, .no, .no] _
  obtain ⟨init, last, hil⟩ : ∃ init last, rowsP p = init ++ [last] := by
    have hne : rowsP p ≠ [] := fun e => by
      rw [e] at hrl
      have := Nat.two_pow_pos p
      simp at hrl
      omega
    exact ⟨_, _, (List.dropLast_concat_getLast hne).symm⟩
  have hlm : last ∈ rowsP p := by rw [hil]; simp
  have hla : atI (rowsP p) (-1) = some last := by rw [hil]; exact atI_last _ _
  refine sx_seq (sx_ifF (ext_or (ext_not (ext_val (ex_call (R := R__law_chart_is) ⟨cyc many, p, enM p many member first, hp, by omega, fun r hr => by rw [(grp_small hcy).2.2.1 r hr]; omega, by omega, rfl, rfl⟩ (exa_cons (ea_var rfl) (exa_cons (ea_var rfl) (exa_cons (ea_var rfl) (exa_cons (ea_var rfl) exa_nil)))))))
    fun _ => ext_not (ext_val (ex_call (R := R_same 3) ⟨.int ((first + member * wt last) % ((many : Nat) : Int)), trivial, rfl, rfl⟩ (exa_cons (Ex.to (ex_callI (R := R_pcall) (ea_var rfl) ⟨cyc many, p, sts, last, hp, rfl, hcy, hsok, rowsP_sg ⟨p, by omega⟩ last hlm, rfl⟩ (exa_cons (ex_ixL (enc := ti) (EA.toL (ea_var rfl)) (ex_neg ex_int) hla) exa_nil)) (by rw [hk1 last hlm])) (exa_cons (ex_ixL (enc := D.int) (ys := enM p many member first) (EA.toL (ea_var rfl)) (ex_neg ex_int) (atI_map _ hla)) exa_nil))))) rfl (sx_nil rfl)) ?_
  show SX W _ [.rd (ns.map D.int), .val (li h), .val (.int ((p : Nat) : Int)), .val (.int ((many : Nat) : Int)), .val (.int member), .val (.int first), .val (li cs), .val (li bw), .no, .val (shp p), .no, .val (rowsD p), .val (ti (labM p bw)), .no, .val (grpD (cyc many)), .val (prgD (cyc many) p sts), .val (li (enM p many member first)), .val (chrD (cyc many) p (enM p many member first)), .val (lliD (cyc many)), .no, .no, .no, .no, .no, .no] _
  refine sx_seq (sx_set (ex_call (R := R__law_first_clash) ⟨p, enM p many member first, labM p bw, hp, rfl, hel, hll, rfl⟩ (exa_cons (ea_var rfl) (exa_cons (ea_var rfl) (exa_cons (ea_var rfl) exa_nil)))) rfl) ?_
  refine sx_seq (sx_ifF (ext_or (ext_not (ext_val (ex_call (R := R_same 3) ⟨fcM p (enM p many member first) (labM p bw), fcM_same hp _ _, rfl, rfl⟩ (exa_cons (ex_call (R := R_clash) ⟨cyc many, p, enM p many member first, labM p bw, hp, rfl, hel, hlab, rfl⟩ (exa_cons (ea_var rfl) (exa_cons (ea_var rfl) exa_nil))) (exa_cons (ea_var rfl) exa_nil))))) fun _ => ext_not (ext_val (ex_call (R := R_same 3) ⟨.bl (fcM p (enM p many member first) (labM p bw)).isNon, trivial, rfl, rfl⟩ (exa_cons (ex_call (R := R_decides) ⟨cyc many, p, enM p many member first, labM p bw, hp, rfl, hel, hlab, rfl⟩ (exa_cons (ea_var rfl) (exa_cons (ea_var rfl) exa_nil))) (exa_cons (ex_op og_isN (ea_var rfl) ex_non) exa_nil))))) rfl (sx_nil rfl)) ?_
  refine sx_seq (sx_set (d := .bl (closedB p many bw)) (ex_eqL (xs := closedL p many bw) (ys := []) (ExF.l (ExF.to (exf_lcT (enc := fun n : Nat => .int (n : Nat)) (ys := List.range (p + 1 - many)) (fun k => !decide (bw.getD k 0 = bw.getD (k + many) 0)) (fun k => .int ((k : Nat) : Int)) (EW.to (ew_range1 (j := ((p : Nat) : Int) + 1 - ((many : Nat) : Int)) (exa_cons (ex_subI (ex_addI (ea_var rfl) ex_int) (ea_var rfl)) exa_nil) (by omega) (by omega)) (by
    unfold rng
    rw [show (((p : Nat) : Int) + 1 - ((many : Nat) : Int)).toNat = p + 1 - many by omega]
    exact List.map_congr_left fun k _ => by rw [Int.zero_add])) (fun k hk => ⟨_, gx_name (by simp), ext_test (ex_neI (ex_ixL (enc := D.int) (EA.toL (ea_var rfl)) (ea_var rfl) (getD_at (by have := List.mem_range.mp hk; rw [hbw.1]; omega))) (ex_ixL (enc := D.int) (EA.toL (ea_var rfl)) (ex_addI (ea_var rfl) (ea_var rfl)) (getD_at (j := k + many) (by have := List.mem_range.mp hk; rw [hbw.1]; omega)))), fun _ => ea_var rfl⟩) (by rw [List.length_range]; exact small_of (by omega))) (by unfold closedL; rw [List.map_map]; rfl))) (ExF.l (exf_nil (enc := D.int)))) rfl) ?_
  have hk2 := K.k2 p many first bw hp (by omega) (by omega) hf0 hf1 hbw
  have hbig : many > p → closedB p many bw = true := fun hgt => by
    unfold closedB closedL
    rw [show p + 1 - many = 0 by omega]
    rfl
  show SX W _ [.rd (ns.map D.int), .val (li h), .val (.int ((p : Nat) : Int)), .val (.int ((many : Nat) : Int)), .val (.int member), .val (.int first), .val (li cs), .val (li bw), .no, .val (shp p), .no, .val (rowsD p), .val (ti (labM p bw)), .no, .val (grpD (cyc many)), .val (prgD (cyc many) p sts), .val (li (enM p many member first)), .val (chrD (cyc many) p (enM p many member first)), .val (lliD (cyc many)), .no, .no, .val (fcM p (enM p many member first) (labM p bw)), .val (.bl (closedB p many bw)), .no, .no] _
  refine sx_seq (sx_ifF (ext_and (ext_test (ex_eqI (ea_var rfl) ex_int)) fun _ => ext_test (ex_op og_neB (ex_call (R := R_decides) ⟨cyc many, p, enM p many member first, labM p bw, hp, rfl, hel, hlab, rfl⟩ (exa_cons (ea_var rfl) (exa_cons (ea_var rfl) exa_nil))) (ea_var rfl))) ?b1 (sx_nil rfl)) ?_
  case b1 =>
    by_cases hm : member = 1
    · subst hm
      rw [hk2]
      simp
    · rw [decide_eq_false hm]
      rfl
  refine sx_seq (sx_ifF (ext_and (ext_test (ex_gtI (ea_var rfl) (ea_var rfl))) fun _ => ext_and (ext_test (ex_eqI (ea_var rfl) ex_int)) fun _ => ext_not (ext_val (ex_call (R := R_decides) ⟨cyc many, p, enM p many member first, labM p bw, hp, rfl, hel, hlab, rfl⟩ (exa_cons (ea_var rfl) (exa_cons (ea_var rfl) exa_nil))))) ?b2 (sx_nil rfl)) ?_
  case b2 =>
    by_cases hgt : many > p
    · by_cases hm : member = 1
      · subst hm
        rw [hk2, hbig hgt]
        simp
      · rw [decide_eq_false hm]
        simp
    · rw [decide_eq_false (show ¬ ((p : Nat) : Int) < ((many : Nat) : Int) by omega)]
      rfl
  refine sx_seq (sx_set ex_int rfl) ?_
  refine sx_seq (sx_forAcc (f := fun a : Int => D.int a) (enc := fun n : Nat => .int (n : Nat)) (ys := List.range p) (fun a _ => a * ((many : Nat) : Int)) 1 (i := 23) rfl rfl (by decide) (ew_rg1 (ea_var rfl) (by omega)) fun a x hx => sx_set (ex_mulI (ea_var rfl) (ea_var rfl) (.inr ⟨by omega, by omega⟩)) rfl) ?_
  have hpw : ∀ (q : Nat) (a : Int), (List.range q).foldl (fun a _ => a * ((many : Nat) : Int)) a = a * ((many ^ q : Nat) : Int) := by
    intro q
    induction q with
    | zero => intro a; simp
    | succ q ih =>
      intro a
      rw [List.range_succ, List.foldl_append, ih]
      show a * ((many ^ q : Nat) : Int) * ((many : Nat) : Int) = _
      rw [Nat.pow_succ, Int.natCast_mul, Int.mul_assoc]
  rw [hpw, Int.one_mul]
  show SX W _ [.rd (ns.map D.int), .val (li h), .val (.int ((p : Nat) : Int)), .val (.int ((many : Nat) : Int)), .val (.int member), .val (.int first), .val (li cs), .val (li bw), .no, .val (shp p), .no, .val (rowsD p), .val (ti (labM p bw)), .no, .val (grpD (cyc many)), .val (prgD (cyc many) p sts), .val (li (enM p many member first)), .val (chrD (cyc many) p (enM p many member first)), .val (lliD (cyc many)), .no, .no, .val (fcM p (enM p many member first) (labM p bw)), .val (.bl (closedB p many bw)), .val (.int ((many ^ p : Nat) : Int)), .no] _
  refine sx_seq (δ' := [.rd (ns.map D.int), .val (li h), .val (.int ((p : Nat) : Int)), .val (.int ((many : Nat) : Int)), .val (.int member), .val (.int first), .val (li cs), .val (li bw), .no, .val (shp p), .no, .val (rowsD p), .val (ti (labM p bw)), .no, .val (grpD (cyc many)), .val (prgD (cyc many) p sts), .val (li (enM p many member first)), .val (chrD (cyc many) p (enM p many member first)), .val (lliD (cyc many)), .no, .no, .val (fcM p (enM p many member first) (labM p bw)), .val (.bl (closedB p many bw)), .val (.int ((many ^ p : Nat) : Int)), .no]) (sx_if (b := closedB p many bw && decide (((many ^ p : Nat) : Int) ≤ 64)) (ext_and (ext_val (ea_var rfl)) fun _ => ext_test (ex_leI (ea_var rfl) ex_int)) (fun hb => ?_) (fun _ => sx_nil rfl)) ?_
  · rw [Bool.and_eq_true] at hb
    have h64 := of_decide_eq_true hb.2
    obtain ⟨row, es, lab, hd, hes, hin, hnc, hlow, hob⟩ := K.k3 p many bw hp (by omega) (by omega) hbw hb.1 (by omega)
    exact sx_weak (sx_seq (sx_set (ex_call (R := R_deciding_chart) hd (exa_cons (ea_var rfl) (exa_cons (ea_var rfl) (exa_cons (ea_var rfl) exa_nil)))) rfl) (sx_ifF (ext_or (ext_test (ex_op og_isN (ea_var rfl) ex_non)) fun _ => ext_or (ext_not (ext_val (ex_call (R := R__law_no_clash) ⟨es, labM p bw, lab, rfl, by omega, by omega, hin, hnc, rfl⟩ (exa_cons (ex_fld X.c1 X.n1e (ea_var rfl) rfl) (exa_cons (ea_var rfl) exa_nil))))) fun _ => ext_not (ext_val (ex_call (R := R_is_programmable) ⟨cyc many, row, p, es, hp, rfl, hes, hcy, hlow, hob, rfl⟩ (exa_cons (ea_var rfl) exa_nil)))) rfl (sx_nil rfl))) (by repeat (first | exact Le.nil | apply Le.same | apply Le.drop))
  by_cases h4 : (decide (((p : Nat) : Int) ≤ 3) || (decide (((p : Nat) : Int) = 4) && decide (h.getD 14 0 % 2 = 0))) = true
  · have hp4 : p ≤ 4 := by
      rcases Bool.or_eq_true_iff.mp h4 with h | h
      · have := of_decide_eq_true h
        omega
      · rw [Bool.and_eq_true] at h
        have := of_decide_eq_true h.1
        omega
    exact sx_seq_rt (sx_ifT (ext_or (ext_test (ex_leI (ea_var rfl) ex_int)) fun _ => ext_and (ext_test (ex_eqI (ea_var rfl) ex_int)) fun _ => ext_test (ex_eqI (ex_modI (hx 14 rfl (by decide)) ex_int (by decide)) ex_int)) h4 (sx_ret (ex_call (R := R__law_least_holds) (K.k4 p bw hp4 hbw) (exa_cons (ea_var rfl) (exa_cons (ea_var rfl) (exa_cons (ea_var rfl) (exa_cons (ea_var rfl) exa_nil))))) rfl))
  · exact sx_seq (sx_ifF (ext_or (ext_test (ex_leI (ea_var rfl) ex_int)) fun _ => ext_and (ext_test (ex_eqI (ea_var rfl) ex_int)) fun _ => ext_test (ex_eqI (ex_modI (hx 14 rfl (by decide)) ex_int (by decide)) ex_int)) (by simpa using h4) (sx_nil rfl)) (sx_ret ex_bl rfl)
end
end K9
/-! text FA -/
set_option Elab.async false
set_option linter.all false
set_option maxRecDepth 100000
set_option maxHeartbeats 2000000
set_option autoImplicit false
/-! the plain law: labels, the program's value -/
namespace K9
open PySem PySem.Spec PyProof.Rows L2
theorem getD_map_range {α : Type} (f : Nat → α) (n k : Nat) (d : α) (h : k < n) : ((List.range n).map f).getD k d = f k := by
  rw [List.getD_eq_getElem?_getD, List.getElem?_map, List.getElem?_range h]
  rfl
theorem f_k0 (p : Nat) (cs : List Int) (hp : p ≤ 5) : cntL p cs = labM p (bwM p cs) := by
  unfold cntL labM
  refine List.map_congr_left fun s hs => ?_
  obtain ⟨h0, h1⟩ := wt_in hp hs
  unfold bwM
  rw [getD_map_range _ _ _ _ (by omega)]
  have e : (((wt s).toNat : Nat) : Int) = wt s := by omega
  rw [e]
/-! ### the cyclic group -/
theorem tot_cyc {n : Nat} {a b : Int} (ha : 0 ≤ a ∧ a < ((n : Nat) : Int)) (hb : 0 ≤ b ∧ b < ((n : Nat) : Int)) : tot (cyc n) a b = (a + b) % ((n : Nat) : Int) := by
  unfold tot cyc
  rw [getD_map_range _ _ _ _ (by omega), getD_map_range _ _ _ _ (by omega)]
  have e1 : ((a.toNat : Nat) : Int) = a := by omega
  have e2 : ((b.toNat : Nat) : Int) = b := by omega
  rw [e1, e2]
theorem cyc_len (n : Nat) : (cyc n).length = n := by unfold cyc; rw [List.length_map, List.length_range]
def act1 (signs : List Int) (st : Sp1) : Int := if st.on signs = true then st.m else 0
def act (signs : List Int) (sts : List Sp1) : Int := (sts.map (act1 signs)).sum
theorem act_nil (signs : List Int) : act signs [] = 0 := rfl
theorem act_cons (signs : List Int) (st : Sp1) (sts : List Sp1) : act signs (st :: sts) = act1 signs st + act signs sts := by
  unfold act
  rw [List.map_cons, List.sum_cons]
theorem act_append (signs : List Int) : ∀ a b : List Sp1, act signs (a ++ b) = act signs a + act signs b
  | [], b => by rw [List.nil_append, act_nil, Int.zero_add]
  | x :: a, b => by rw [List.cons_append, act_cons, act_cons, act_append signs a b, Int.add_assoc]
theorem run_cyc {n p : Nat} (signs : List Int) : ∀ (sts : List Sp1) (r : Int), 0 ≤ r ∧ r < ((n : Nat) : Int) → (∀ st ∈ sts, st.ok (cyc n) p) → sts.foldl (fun r st => if st.on signs = true then tot (cyc n) r st.m else r) r = (r + act signs sts) % ((n : Nat) : Int)
  | [], r, h, _ => by
    rw [act_nil, Int.add_zero, List.foldl_nil, Int.emod_eq_of_lt h.1 h.2]
  | st :: sts, r, h, ho => by
    have hm : 0 ≤ st.m ∧ st.m < ((n : Nat) : Int) := by
      have := ho st List.mem_cons_self
      cases st with
      | put m => have := this; unfold Sp1.ok InR at this; rw [cyc_len] at this; exact this
      | ife pl v m => have := this.2.2.2; unfold InR at this; rw [cyc_len] at this; exact this
    rw [List.foldl_cons, act_cons]
    unfold act1
    by_cases q : st.on signs = true
    · rw [if_pos q, if_pos q, tot_cyc h hm, run_cyc signs sts _ ⟨Int.emod_nonneg _ (by omega), Int.emod_lt_of_pos _ (by omega)⟩ fun x hx => ho x (List.mem_cons_of_mem _ hx), Int.emod_add_emod, Int.add_assoc]
    · rw [if_neg q, if_neg q, run_cyc signs sts _ h fun x hx => ho x (List.mem_cons_of_mem _ hx), Int.zero_add]
/-! ### the order is a change of places -/
theorem sum_set (f : Int → Int) : ∀ (r : List Int) (k : Nat) (v : Int), k < r.length → ((r.set k v).map f).sum = (r.map f).sum - f (r.getD k 0) + f v
  | [], k, v, h => by simp at h
  | x :: r, 0, v, _ => by
    simp only [List.set_cons_zero, List.map_cons, List.sum_cons, List.getD_cons_zero]
    omega
  | x :: r, k + 1, v, h => by
    have := sum_set f r k v (by simpa using h)
    simp only [List.set_cons_succ, List.map_cons, List.sum_cons, List.getD_cons_succ]
    omega
theorem getD_set (r : List Int) (k o : Nat) (v : Int) (ho : o < r.length) : (r.set k v).getD o 0 = if k = o then v else r.getD o 0 := by
  rw [List.getD_eq_getElem?_getD]
  by_cases h : k = o
  · subst h
    rw [List.getElem?_set_self ho, if_pos rfl]
    rfl
  · rw [List.getElem?_set_ne h, if_neg h, List.getD_eq_getElem?_getD]
theorem ordStep_sum (f : Int → Int) (nums r : List Int) (k : Nat) (hk : k < r.length) : ((ordStep nums r k).map f).sum = (r.map f).sum := by
  show (((r.set k (r.getD (nums.getD k 0 % (((k : Nat) : Int) + 1)).toNat 0)).set (nums.getD k 0 % (((k : Nat) : Int) + 1)).toNat (r.getD k 0)).map f).sum = _
  have h1 := Int.emod_nonneg (nums.getD k 0) (show (((k : Nat) : Int) + 1) ≠ 0 by omega)
  have h2 := Int.emod_lt_of_pos (nums.getD k 0) (show 0 < (((k : Nat) : Int) + 1) by omega)
  have ho : (nums.getD k 0 % (((k : Nat) : Int) + 1)).toNat < r.length := by omega
  generalize (nums.getD k 0 % (((k : Nat) : Int) + 1)).toNat = o at ho
  rw [sum_set f _ o _ (by rw [List.length_set]; exact ho), sum_set f r k _ hk, getD_set r k o _ ho]
  by_cases q : k = o
  · subst q
    rw [if_pos rfl]
    omega
  · rw [if_neg q]
    omega
theorem ordFold_sum (f : Int → Int) (nums : List Int) : ∀ (ks : List Nat) (r : List Int), (∀ k ∈ ks, k < r.length) → ((ks.foldl (ordStep nums) r).map f).sum = (r.map f).sum
  | [], r, _ => rfl
  | k :: ks, r, h => by
    rw [List.foldl_cons, ordFold_sum f nums ks _ (fun j hj => by rw [ordStep_len]; exact h j (List.mem_cons_of_mem _ hj)), ordStep_sum f nums r k (h k List.mem_cons_self)]
theorem ord_sum (f : Int → Int) (nums : List Int) (p : Nat) : ((ordM nums p).map f).sum = ((List.range p).map fun k => f ((k : Nat) : Int)).sum := by
  unfold ordM
  rw [ordFold_sum f nums _ _ (fun k hk => by
    obtain ⟨i, hi, rfl⟩ := List.mem_range'.mp hk
    rw [rangeI_len]
    omega)]
  unfold rangeI
  rw [List.map_map]
  rfl
theorem sum_but (F : Nat → Int) (k0 : Nat) : ∀ p : Nat, ((List.range p).map fun k => if k = k0 then 0 else F k).sum = ((List.range p).map F).sum - (if k0 < p then F k0 else 0)
  | 0 => by simp
  | p + 1 => by
    rw [List.range_succ, List.map_append, List.map_append, List.sum_append, List.sum_append, sum_but F k0 p]
    simp only [List.map_cons, List.map_nil, List.sum_cons, List.sum_nil]
    by_cases h : p = k0
    · subst h
      rw [if_pos rfl, if_neg (by omega), if_pos (by omega)]
      omega
    · rw [if_neg h]
      by_cases h2 : k0 < p
      · rw [if_pos h2, if_pos (by omega)]
        omega
      · rw [if_neg h2, if_neg (by omega)]
        omega
theorem wt_sum : ∀ p : _root_.Fin 6, ∀ r ∈ rowsP p, ((List.range p).map fun k => if r.getD k 0 = 1 then (1 : Int) else 0).sum = wt r := by decide +kernel
theorem sum_mul (c : Int) (g : Nat → Int) : ∀ l : List Nat, (l.map fun k => c * g k).sum = c * (l.map g).sum
  | [] => by simp
  | x :: l => by
    rw [List.map_cons, List.sum_cons, sum_mul c g l, List.map_cons, List.sum_cons, Int.mul_add]
theorem ife_act (signs : List Int) (k : Nat) (member : Int) : act1 signs (.ife k 1 member) = member * (if signs.getD k 0 = 1 then 1 else 0) := by
  unfold act1
  by_cases q : signs.getD k 0 = 1
  · rw [if_pos (show Sp1.on signs (.ife k 1 member) = true from decide_eq_true q), if_pos q]
    show member = member * 1
    omega
  · rw [if_neg (show ¬ Sp1.on signs (.ife k 1 member) = true from fun h => q (of_decide_eq_true h)), if_neg q]
    omega
theorem ifs_sum (g : Sp1 → Int) (nums : List Int) (p : Nat) (member : Int) : ((adIfs nums p member).map g).sum = ((List.range p).map fun k => g (.ife k 1 member)).sum := by
  unfold adIfs
  rw [List.map_map, ord_sum (g ∘ fun pl => Sp1.ife pl.toNat 1 member)]
  rfl
theorem ins_sum (g : Sp1 → Int) (nums : List Int) (p : Nat) (member first : Int) : ((adIns nums p member first).map g).sum = g (.put first) + ((List.range p).map fun k => g (.ife k 1 member)).sum := by
  rw [← ifs_sum g nums p member]
  unfold adIns
  simp only
  rw [List.map_append, List.map_append, List.sum_append, List.sum_append]
  have h : ((adIfs nums p member).map g).sum = (((adIfs nums p member).take (nums.getD 5 0 % (((p : Nat) : Int) + 1)).toNat).map g).sum + (((adIfs nums p member).drop (nums.getD 5 0 % (((p : Nat) : Int) + 1)).toNat).map g).sum := by
    rw [← List.sum_append, ← List.map_append, List.take_append_drop]
  rw [h]
  simp only [List.map_cons, List.map_nil, List.sum_cons, List.sum_nil]
  omega
theorem act_put (signs : List Int) (m : Int) : act1 signs (.put m) = m := by
  unfold act1
  rw [if_pos (show Sp1.on signs (.put m) = true from rfl)]
  rfl
theorem wt_act {p : Nat} (hp : p ≤ 5) (member : Int) {r : List Int} (hr : r ∈ rowsP p) : ((List.range p).map fun k => act1 r (.ife k 1 member)).sum = member * wt r := by
  rw [← wt_sum ⟨p, by omega⟩ r hr, ← sum_mul]
  congr 1
  exact List.map_congr_left fun k _ => ife_act r k member
theorem act_ins {p : Nat} (hp : p ≤ 5) (nums : List Int) (member first : Int) {r : List Int} (hr : r ∈ rowsP p) : act r (adIns nums p member first) = first + member * wt r := by
  unfold act
  rw [ins_sum, act_put, wt_act hp member hr]
theorem act_filter (signs : List Int) (q : Sp1 → Bool) : ∀ l : List Sp1, act signs (l.filter q) = (l.map fun st => if q st = true then act1 signs st else 0).sum
  | [] => rfl
  | x :: l => by
    rw [List.map_cons, List.sum_cons]
    by_cases h : q x = true
    · rw [List.filter_cons_of_pos h, act_cons, act_filter signs q l, if_pos h]
    · rw [List.filter_cons_of_neg h, act_filter signs q l, if_neg h, Int.zero_add]
theorem f_k1 (p many : Nat) (nums : List Int) (member first : Int) (hp : p ≤ 5) (h1 : 1 ≤ many) (h8 : many ≤ 8) (hm0 : 0 ≤ member) (hm1 : member < ((many : Nat) : Int)) (hf0 : 0 ≤ first) (hf1 : first < ((many : Nat) : Int)) (hn : nums.length = 8) : ∀ r ∈ rowsP p, runP (cyc many) (adM nums p many member first) r = (first + member * wt r) % ((many : Nat) : Int) := fun r hr => by
  have hmi : InR (cyc many) member := ⟨hm0, by rw [cyc_len]; exact hm1⟩
  have hfi : InR (cyc many) first := ⟨hf0, by rw [cyc_len]; exact hf1⟩
  unfold runP
  rw [run_cyc (p := p) r _ 0 ⟨by omega, by omega⟩ (adM_ok (cyc_len many) (by omega) hmi hfi), Int.zero_add]
  unfold adM
  split
  · rename_i hc
    unfold adC at hc
    rw [Bool.and_eq_true] at hc
    have hp0 := of_decide_eq_true hc.2
    have ha0 : 0 ≤ adPl nums p member first := Int.emod_nonneg _ (by omega)
    have ha1 : adPl nums p member first < ((p : Nat) : Int) := Int.emod_lt_of_pos _ hp0
    generalize adPl nums p member first = a at ha0 ha1
    have key : act r ((adIns nums p member first).filter (Sp1.keep a)) = first + member * wt r - (if r.getD a.toNat 0 = 1 then member else 0) := by
      rw [act_filter, ins_sum]
      have e1 : (if Sp1.keep a (.put first) = true then act1 r (.put first) else 0) = first := by
        rw [if_pos (show Sp1.keep a (.put first) = true from rfl), act_put]
      have e2 : ((List.range p).map fun k => if Sp1.keep a (.ife k 1 member) = true then act1 r (.ife k 1 member) else 0) = (List.range p).map fun k => if k = a.toNat then 0 else act1 r (.ife k 1 member) := by
        refine List.map_congr_left fun k _ => ?_
        by_cases h : k = a.toNat
        · rw [if_pos h, if_neg]
          show ¬ (!decide (((k : Nat) : Int) = a)) = true
          rw [decide_eq_true (show ((k : Nat) : Int) = a by omega)]
          exact Bool.false_ne_true
        · rw [if_neg h, if_pos]
          show (!decide (((k : Nat) : Int) = a)) = true
          rw [decide_eq_false (show ¬ ((k : Nat) : Int) = a by omega)]
          rfl
      rw [e1, e2, sum_but (fun k => act1 r (.ife k 1 member)) a.toNat p, if_pos (by omega), wt_act hp member hr, ife_act]
      by_cases q : r.getD a.toNat 0 = 1
      · rw [if_pos q, if_pos q]
        omega
      · rw [if_neg q, if_neg q]
        omega
    rw [act_append, key, act_cons, act_cons, act_nil, act_put]
    have hs := (rowsP_sg ⟨p, by omega⟩ r hr)
    have hl : r.length = p := hs.1
    have hv : r.getD a.toNat 0 = 0 ∨ r.getD a.toNat 0 = 1 := by
      have hlt : a.toNat < r.length := by omega
      rw [List.getD_eq_getElem?_getD, List.getElem?_eq_getElem hlt]
      have := hs.2 _ (List.getElem_mem hlt)
      show r[a.toNat] = 0 ∨ r[a.toNat] = 1
      omega
    rcases hv with q | q
    · have e3 : act1 r (.ife a.toNat 0 ((((many : Nat) : Int) - member) % ((many : Nat) : Int))) = (((many : Nat) : Int) - member) % ((many : Nat) : Int) := by
        unfold act1
        rw [if_pos (show Sp1.on r (.ife a.toNat 0 _) = true from decide_eq_true q)]
        rfl
      rw [e3, if_neg (by omega)]
      have e4 : first + member * wt r - 0 + ((((many : Nat) : Int) - member) % ((many : Nat) : Int) + (member + 0)) = (((many : Nat) : Int) - member) % ((many : Nat) : Int) + (first + member * wt r + member) := by omega
      rw [e4, Int.emod_add_emod]
      have e5 : ((many : Nat) : Int) - member + (first + member * wt r + member) = first + member * wt r + ((many : Nat) : Int) := by omega
      rw [e5, Int.add_emod_right]
    · have e3 : act1 r (.ife a.toNat 0 ((((many : Nat) : Int) - member) % ((many : Nat) : Int))) = 0 := by
        unfold act1
        rw [if_neg (show ¬ Sp1.on r (.ife a.toNat 0 _) = true from fun h => by
          have := of_decide_eq_true h
          rw [q] at this
          cases this)]
      rw [e3, if_pos q]
      congr 1
      omega
  · rw [act_ins hp nums member first hr]
end K9
/-! text FB -/
set_option Elab.async false
set_option linter.all false
set_option maxRecDepth 100000
set_option maxHeartbeats 2000000
set_option autoImplicit false
/-! the plain law: no clash iff closed -/
namespace K9
open PySem PySem.Spec PyProof.Rows L2
theorem runX_go {α : Type} {F : Unit → α → Option (Stp Unit)} (hs : ∀ x, ∃ z, F () x = some z) : ∀ xs : List α, runX F () xs = some (.go ()) ↔ ∀ x ∈ xs, F () x = some (.go ())
  | [] => ⟨fun _ x hx => by simp at hx, fun _ => rfl⟩
  | x :: xs => by
    obtain ⟨z, hz⟩ := hs x
    unfold runX
    rw [hz]
    cases z with
    | go u =>
      cases u
      show runX F () xs = some (.go ()) ↔ _
      rw [runX_go hs xs]
      constructor
      · intro h y hy
        rcases List.mem_cons.mp hy with rfl | hy
        · exact hz
        · exact h y hy
      · intro h y hy
        exact h y (List.mem_cons_of_mem _ hy)
    | out d =>
      constructor
      · intro h
        cases h
      · intro h
        have := h x List.mem_cons_self
        rw [hz] at this
        cases this
theorem fcIn_go {p : Nat} {es tab : List Int} {low high : Nat} : fcIn p es tab low () high = some (.go ()) ↔ ¬ (es.getD high 0 = es.getD low 0 ∧ ¬ tab.getD high 0 = tab.getD low 0) := by
  unfold fcIn
  by_cases h : (decide (es.getD high 0 = es.getD low 0) && !decide (tab.getD high 0 = tab.getD low 0)) = true
  · rw [if_pos h]
    rw [Bool.and_eq_true, Bool.not_eq_true', decide_eq_true_eq, decide_eq_false_iff_not] at h
    constructor
    · intro z; cases z
    · intro z; exact absurd h z
  · rw [if_neg h]
    rw [Bool.and_eq_true, Bool.not_eq_true', decide_eq_true_eq, decide_eq_false_iff_not] at h
    exact ⟨fun _ => h, fun _ => rfl⟩
theorem fcM_non (p : Nat) (es tab : List Int) : (fcM p es tab).isNon = true ↔ ∀ low high, low < high → high < 2 ^ p → es.getD high 0 = es.getD low 0 → tab.getD high 0 = tab.getD low 0 := by
  have main : (fcM p es tab).isNon = true ↔ fcR p es tab = some (.go ()) := by
    obtain ⟨z, hz⟩ := fcR_some p es tab
    unfold fcM
    rw [hz]
    cases z with
    | go u => cases u; exact ⟨fun _ => rfl, fun _ => rfl⟩
    | out d =>
      obtain ⟨_, low, h1⟩ := runX_out hz
      obtain ⟨_, high, h2⟩ := runX_out h1
      unfold fcIn at h2
      split at h2
      · cases h2
        constructor
        · intro h
          cases h
        · intro h
          cases h
      · cases h2
  rw [main]
  unfold fcR
  rw [runX_go (fcOut_some p es tab ())]
  constructor
  · intro h low high h1 h2 he
    have h3 := h low (List.mem_range.mpr (by omega))
    unfold fcOut at h3
    rw [runX_go (fun _ => ⟨_, rfl⟩)] at h3
    have h4 := h3 high (List.mem_range'.mpr ⟨high - (low + 1), by omega, by omega⟩)
    rw [fcIn_go] at h4
    by_cases q : tab.getD high 0 = tab.getD low 0
    · exact q
    · exact absurd ⟨he, q⟩ h4
  · intro h low hl
    unfold fcOut
    rw [runX_go (fun _ => ⟨_, rfl⟩)]
    intro high hh
    rw [fcIn_go]
    rintro ⟨h1, h2⟩
    obtain ⟨i, hi, rfl⟩ := List.mem_range'.mp hh
    exact h2 (h low _ (by omega) (by omega) h1)
theorem map_getD {α : Type} (f : α → Int) (xs : List α) (i : Nat) (d : α) (h : i < xs.length) : (xs.map f).getD i 0 = f (xs.getD i d) := by
  rw [List.getD_eq_getElem?_getD, List.getElem?_map, List.getElem?_eq_getElem h, List.getD_eq_getElem?_getD, List.getElem?_eq_getElem h]
  rfl
theorem wt_all : ∀ p : _root_.Fin 6, ∀ w ∈ List.range ((p : Nat) + 1), ∃ s ∈ rowsP p, wt s = ((w : Nat) : Int) := by decide +kernel
theorem closed_step {p many : Nat} {bw : List Int} (h : ∀ k, k + many ≤ p → bw.getD k 0 = bw.getD (k + many) 0) : ∀ (j k : Nat), k + j * many ≤ p → bw.getD k 0 = bw.getD (k + j * many) 0
  | 0, k, _ => by rw [Nat.zero_mul, Nat.add_zero]
  | j + 1, k, hk => by
    rw [Nat.succ_mul] at hk ⊢
    rw [closed_step h j k (by omega), h _ (by omega), Nat.add_assoc]
theorem closedB_iff (p many : Nat) (bw : List Int) : closedB p many bw = true ↔ ∀ k, k + many ≤ p → bw.getD k 0 = bw.getD (k + many) 0 := by
  unfold closedB closedL
  rw [decide_eq_true_eq, List.map_eq_nil_iff, List.filter_eq_nil_iff]
  constructor
  · intro h k hk
    have := h k (List.mem_range.mpr (by omega))
    simpa using this
  · intro h k hk
    have := h k (by have := List.mem_range.mp hk; omega)
    simpa using this
theorem f_k2 (p many : Nat) (first : Int) (bw : List Int) (hp : p ≤ 5) (h1 : 1 ≤ many) : (fcM p (enM p many 1 first) (labM p bw)).isNon = closedB p many bw := by
  have hrl := rowsP_len hp
  rw [Bool.eq_iff_iff, fcM_non, closedB_iff]
  have hes : ∀ i, i < 2 ^ p → (enM p many 1 first).getD i 0 = (first + 1 * wt ((rowsP p).getD i [])) % ((many : Nat) : Int) := fun i hi => map_getD _ _ i [] (by rw [hrl]; exact hi)
  have hlb : ∀ i, i < 2 ^ p → (labM p bw).getD i 0 = bw.getD (wt ((rowsP p).getD i [])).toNat 0 := fun i hi => map_getD _ _ i [] (by rw [hrl]; exact hi)
  constructor
  · intro h k hk
    obtain ⟨s1, hs1, w1⟩ := wt_all ⟨p, by omega⟩ k (List.mem_range.mpr (by show k < p + 1; omega))
    obtain ⟨s2, hs2, w2⟩ := wt_all ⟨p, by omega⟩ (k + many) (List.mem_range.mpr (by show k + many < p + 1; omega))
    obtain ⟨i1, hi1, e1⟩ := List.mem_iff_getElem.mp hs1
    obtain ⟨i2, hi2, e2⟩ := List.mem_iff_getElem.mp hs2
    have g1 : (rowsP p).getD i1 [] = s1 := by rw [List.getD_eq_getElem?_getD, List.getElem?_eq_getElem hi1, ← e1]; rfl
    have g2 : (rowsP p).getD i2 [] = s2 := by rw [List.getD_eq_getElem?_getD, List.getElem?_eq_getElem hi2, ← e2]; rfl
    have hi1' : i1 < 2 ^ p := by rw [← hrl]; exact hi1
    have hi2' : i2 < 2 ^ p := by rw [← hrl]; exact hi2
    have a1 := hes i1 hi1'
    have a2 := hes i2 hi2'
    have b1 := hlb i1 hi1'
    have b2 := hlb i2 hi2'
    rw [g1, w1] at a1 b1
    rw [g2, w2] at a2 b2
    rw [Int.toNat_natCast] at b1 b2
    have e : (enM p many 1 first).getD i2 0 = (enM p many 1 first).getD i1 0 := by
      rw [a1, a2]
      have : first + 1 * ((k + many : Nat) : Int) = (first + 1 * ((k : Nat) : Int)) + ((many : Nat) : Int) := by
        rw [Int.natCast_add]
        omega
      rw [this, Int.add_emod_right]
    rw [← b1, ← b2]
    rcases Nat.lt_trichotomy i1 i2 with q | q | q
    · exact (h i1 i2 q hi2' e).symm
    · rw [q]
    · exact h i2 i1 q hi1' e.symm
  · intro h low high hlt hhi he
    rw [hes low (by omega), hes high hhi] at he
    rw [hlb low (by omega), hlb high hhi]
    have m1 := wt_in hp (rowsP_at hp (k := low) (by omega))
    have m2 := wt_in hp (rowsP_at hp (k := high) hhi)
    generalize wt ((rowsP p).getD low []) = x at he m1
    generalize wt ((rowsP p).getD high []) = y at he m2
    have dv := Int.dvd_of_emod_eq_zero (Int.emod_eq_emod_iff_emod_sub_eq_zero.mp he)
    obtain ⟨c, hc⟩ := dv
    have hc2 : y - x = ((many : Nat) : Int) * c := by omega
    rcases Int.le_total 0 c with q | q
    · obtain ⟨j, rfl⟩ := Int.eq_ofNat_of_zero_le q
      have e : y.toNat = x.toNat + j * many := by
        have : ((many : Nat) : Int) * ((j : Nat) : Int) = ((j * many : Nat) : Int) := by rw [Int.natCast_mul, Int.mul_comm]
        omega
      rw [e]
      exact (closed_step h j x.toNat (by omega)).symm
    · obtain ⟨j, hj⟩ := Int.eq_ofNat_of_zero_le (show 0 ≤ -c by omega)
      have e : x.toNat = y.toNat + j * many := by
        have : ((many : Nat) : Int) * c = -((j * many : Nat) : Int) := by
          have e2 : c = -((j : Nat) : Int) := by omega
          rw [e2, Int.natCast_mul, Int.mul_neg, Int.mul_comm]
        omega
      rw [e]
      exact closed_step h j y.toNat (by omega)
end K9
/-! text FC -/
set_option Elab.async false
set_option linter.all false
set_option maxRecDepth 100000
set_option maxHeartbeats 0
set_option autoImplicit false
/-! the plain law: charts found, the least group (finite) -/
namespace K9
open PySem PySem.Spec PyProof.Rows L2
def deL : List D → Option (List Int)
  | [] => some []
  | .int i :: r => match deL r with
    | some s => some (i :: s)
    | none => none
  | _ => none
def deD : D → Option (List Int)
  | .tup ds => deL ds
  | _ => none
theorem deL_eq : ∀ {ds : List D} {es : List Int}, deL ds = some es → ds = es.map D.int
  | [], es, h => by
    cases h
    rfl
  | d :: ds, es, h => by
    cases d with
    | int i =>
      unfold deL at h
      cases q : deL ds with
      | none => rw [q] at h; cases h
      | some s =>
        rw [q] at h
        cases h
        rw [List.map_cons, ← deL_eq q]
    | _ => cases h
theorem deD_eq {d : D} {es : List Int} (h : deD d = some es) : d = ti es := by
  cases d with
  | tup ds => rw [deL_eq (show deL ds = some es from h)]
  | _ => cases h
def deM : List D → Option (List (List Int))
  | [] => some []
  | d :: r => match deD d, deM r with
    | some x, some s => some (x :: s)
    | _, _ => none
theorem deM_eq : ∀ {ds : List D} {es : List (List Int)}, deM ds = some es → ds = es.map ti
  | [], es, h => by
    cases h
    rfl
  | d :: ds, es, h => by
    unfold deM at h
    cases q1 : deD d with
    | none => rw [q1] at h; cases h
    | some x =>
      cases q2 : deM ds with
      | none => rw [q1, q2] at h; cases h
      | some s =>
        rw [q1, q2] at h
        cases h
        rw [List.map_cons, ← deM_eq q2, deD_eq q1]
def lowE (rows : List (List Int)) : Option (List (List Int)) := match lowM rows with
  | some (.out (.lst ds)) => deM ds
  | _ => none
theorem lowE_eq {rows row : List (List Int)} (h : lowE rows = some row) : lowM rows = some (.out (.lst (row.map ti))) := by
  unfold lowE at h
  split at h
  · rename_i ds hd
    rw [hd, deM_eq h]
  · cases h
def seE (rows : List (List Int)) (p : Nat) (ch : List (List Int)) (tab : List Int) : Option (List Int) := match seM rows p ch tab with
  | some (.out d) => deD d
  | _ => none
theorem seE_eq {rows : List (List Int)} {p : Nat} {ch : List (List Int)} {tab es : List Int} (h : seE rows p ch tab = some es) : seM rows p ch tab = some (.out (ti es)) := by
  unfold seE at h
  split at h
  · rename_i d hd
    rw [hd, deD_eq h]
  · cases h
/-- what deciding_chart asks of a group and its lower row -/
def decB (rows row : List (List Int)) (p : Nat) : Bool := grpOk rows && decide (lowE rows = some row) && decide (atI row (-1) = some [0]) && chOk row p && ((chM row p).all fun m => decide (m.length ≤ 60)) && decide (cntM (chM row p) ≤ 1024)
theorem dec_out {rows row : List (List Int)} {p : Nat} {tab es : List Int} (hp : p ≤ 5) (h : decB rows row p = true) (hl : labOk p tab = true) (hs : seE rows p (chM row p) tab = some es) (he : es.length = 2 ^ p) (hi : ∀ e ∈ es, InR rows e) : decR rows p tab (chrD rows p es) := by
  unfold decB at h
  simp only [Bool.and_eq_true, List.all_eq_true, decide_eq_true_eq] at h
  obtain ⟨⟨⟨⟨⟨h1, h2⟩, h3⟩, h4⟩, h5⟩, h6⟩ := h
  exact ⟨rows, row, p, tab, _, hp, rfl, h1, hl, lowE_eq h2, h3, h4, h5, h6, seE_eq hs, .inr ⟨es, rfl, he, hi, rfl⟩⟩
theorem dec_none {rows row : List (List Int)} {p : Nat} {tab : List Int} {a : Brs} (hp : p ≤ 5) (h : decB rows row p = true) (hl : labOk p tab = true) (hs : seM rows p (chM row p) tab = some (.go a)) : decR rows p tab .non := by
  unfold decB at h
  simp only [Bool.and_eq_true, List.all_eq_true, decide_eq_true_eq] at h
  obtain ⟨⟨⟨⟨⟨h1, h2⟩, h3⟩, h4⟩, h5⟩, h6⟩ := h
  exact ⟨rows, row, p, tab, _, hp, rfl, h1, hl, lowE_eq h2, h3, h4, h5, h6, hs, .inl ⟨a, rfl, rfl⟩⟩
def allBw : Nat → List (List Int)
  | 0 => [[]]
  | n + 1 => (allBw n).flatMap fun l => [0 :: l, 1 :: l]
theorem mem_allBw : ∀ (n : Nat) (bw : List Int), bw.length = n → (∀ b ∈ bw, b = 0 ∨ b = 1) → bw ∈ allBw n
  | 0, [], _, _ => List.mem_cons_self
  | 0, _ :: _, h, _ => by simp at h
  | n + 1, [], h, _ => by simp at h
  | n + 1, b :: bw, h, hb => by
    refine List.mem_flatMap.mpr ⟨bw, mem_allBw n bw (by simpa using h) fun x hx => hb x (List.mem_cons_of_mem _ hx), ?_⟩
    rcases hb b List.mem_cons_self with rfl | rfl
    · exact List.mem_cons_self
    · exact List.mem_cons_of_mem _ List.mem_cons_self
def lowRow (n : Nat) : List (List Int) := if n = 1 then [[0]] else [rangeI n, [0]]
/-! ### a closed table's chart -/
def goodB (rows row : List (List Int)) (p : Nat) (tab es : List Int) : Bool := decide (es.length = 2 ^ p) && (es.all fun e => decide (InR rows e)) && (ncM es tab).isSome
theorem good_of {rows row : List (List Int)} {p : Nat} {tab es : List Int} (hg : grpOk rows = true) (h : goodB rows row p tab es = true) : es.length = 2 ^ p ∧ (∀ e ∈ es, InR rows e) ∧ (∀ e ∈ es, 0 ≤ e ∧ e < 61) ∧ ∃ lab, ncM es tab = some lab := by
  unfold goodB at h
  simp only [Bool.and_eq_true, List.all_eq_true, decide_eq_true_eq] at h
  obtain ⟨⟨h1, h2⟩, h3⟩ := h
  refine ⟨h1, h2, fun e he => ?_, Option.isSome_iff_exists.mp h3⟩
  have k := h2 e he
  have k2 := (grp_small hg).2.1
  unfold InR at k
  omega
def k3B (p many : Nat) (bw : List Int) : Bool := decB (cyc many) (lowRow many) p && (match seE (cyc many) p (chM (lowRow many) p) (labM p bw) with
  | none => false
  | some es => goodB (cyc many) (lowRow many) p (labM p bw) es && obOk (cyc many) (lowRow many) p es)
theorem k3_all : ∀ p : _root_.Fin 6, ∀ m : _root_.Fin 8, ∀ bw ∈ allBw ((p : Nat) + 1), closedB p ((m : Nat) + 1) bw = true → ((m : Nat) + 1) ^ (p : Nat) ≤ 64 → k3B p ((m : Nat) + 1) bw = true := by decide +kernel
theorem f_k3 (p many : Nat) (bw : List Int) (hp : p ≤ 5) (h1 : 1 ≤ many) (h8 : many ≤ 8) (hb : BwOk p bw) (hc : closedB p many bw = true) (h64 : many ^ p ≤ 64) : ∃ (row : List (List Int)) (es lab : List Int), decR (cyc many) p (labM p bw) (chrD (cyc many) p es) ∧ es.length = 2 ^ p ∧ (∀ e ∈ es, 0 ≤ e ∧ e < 61) ∧ ncM es (labM p bw) = some lab ∧ lowM (cyc many) = some (.out (.lst (row.map ti))) ∧ obOk (cyc many) row p es = true := by
  have em : many - 1 + 1 = many := by omega
  have k := k3_all ⟨p, by omega⟩ ⟨many - 1, by omega⟩ bw (mem_allBw _ _ hb.1 hb.2)
  simp only [em] at k
  have k := k hc h64
  unfold k3B at k
  rw [Bool.and_eq_true] at k
  obtain ⟨k1, k2⟩ := k
  have hg : grpOk (cyc many) = true := by
    have := k1
    unfold decB at this
    simp only [Bool.and_eq_true] at this
    exact this.1.1.1.1.1
  have hlow : lowE (cyc many) = some (lowRow many) := by
    have := k1
    unfold decB at this
    simp only [Bool.and_eq_true, decide_eq_true_eq] at this
    exact this.1.1.1.1.2
  split at k2
  · cases k2
  · rename_i es hes
    rw [Bool.and_eq_true] at k2
    obtain ⟨g1, g2, g3, lab, g4⟩ := good_of hg k2.1
    exact ⟨lowRow many, es, lab, dec_out hp k1 (labM_ok hp hb) hes g1 g2, g1, g3, g4, lowE_eq hlow, k2.2⟩
end K9
/-! text FD -/
set_option Elab.async false
set_option linter.all false
set_option maxRecDepth 100000
set_option maxHeartbeats 0
set_option autoImplicit false
/-! the search by numbers: a quick twin -/
namespace K9
open PySem PySem.Spec PyProof.Rows L2
def fN {β : Type} (n : Nat) (k : Nat → β) : β := match n with
  | .zero => k .zero
  | .succ m => k (.succ m)
theorem fN_eq {β : Type} (n : Nat) (k : Nat → β) : fN n k = k n := by
  cases n <;> rfl
def fLN {β : Type} : List Nat → (List Nat → β) → β
  | [], k => k []
  | x :: xs, k => fN x fun y => fLN xs fun ys => k (y :: ys)
theorem fLN_eq {β : Type} : ∀ (xs : List Nat) (k : List Nat → β), fLN xs k = k xs
  | [], k => rfl
  | x :: xs, k => by
    unfold fLN
    rw [fN_eq, fLN_eq xs]
/-- the digit at the bits from s on -/
def nAt (M s : Nat) : Nat := Nat.land (Nat.shiftRight M s) 7
def belN (T M : Nat) : List Nat → Nat → Nat
  | [], b => b
  | s :: us, b => fN (nAt T (Nat.add (Nat.mul 24 b) (Nat.mul 3 (nAt M s)))) fun b => belN T M us b
def tryL (f : Nat → Nat × Option (List Nat)) : List Nat → Nat × Option (List Nat)
  | [] => (0, none)
  | c :: cs => match f c with
    | (k, some r) => (k, some r)
    | (k, none) => match tryL f cs with
      | (k', r) => fN (Nat.add k k') fun s => (s, r)
def kidN (T b l L M sh : Nat) (go : Nat → Nat → Nat → Nat × Option (List Nat)) (mem : Nat) : Nat × Option (List Nat) := fN (nAt T (Nat.add (Nat.mul 24 b) (Nat.mul 3 mem))) fun ent => match Nat.land 1 (Nat.shiftRight L (Nat.add (Nat.mul 2 ent) (Nat.sub 1 l))) with
  | .succ _ => (0, none)
  | .zero => fN (Nat.add M (Nat.shiftLeft mem sh)) fun M' => fN (Nat.lor L (Nat.shiftLeft 1 (Nat.add (Nat.mul 2 ent) l))) fun L' => fN (Nat.add sh 3) fun sh' => match go M' L' sh' with
    | (k, some r) => (k, some (ent :: r))
    | (k, none) => (k, none)
def upN : Nat × Option (List Nat) → Nat × Option (List Nat)
  | (k, r) => fN (.succ k) fun s => (s, r)
def dfs (T : Nat) : List (List Nat) → List (List Nat) → List Nat → Nat → Nat → Nat → Nat × Option (List Nat)
  | [], _, _, _, _, _ => (1, some [])
  | u :: us, cs, ls, M, L, sh => match cs with
    | [] => (0, none)
    | c :: cs => match ls with
      | [] => (0, none)
      | l :: ls => fN (belN T M u 0) fun b => upN (tryL (kidN T b l L M sh (dfs T us cs ls)) c)
abbrev iN (n : Nat) : Int := (n : Int)
def undN (p a : Nat) : List Nat := (List.range a).filter fun k => lies ((rowsP p).getD k []) ((rowsP p).getD a [])
theorem underAt_eq (p a : Nat) : underAt p a = (undN p a).map iN := rfl
/-- the twin's data are the search's data -/
structure Fo (T n p : Nat) (rows ch : List (List Int)) (tab : List Int) (US CS : List (List Nat)) (LS : List Nat) : Prop where
  n0 : 0 < n
  n8 : n ≤ 8
  p5 : 2 ^ p ≤ 32
  tb : ∀ b, b < n → ∀ c, c < n → ∃ row, rows[b]? = some row ∧ row[c]? = some (iN (nAt T (24 * b + 3 * c))) ∧ nAt T (24 * b + 3 * c) < n
  us : US = (List.range (2 ^ p)).map fun a => (undN p a).map (3 * ·)
  ch : ch = CS.map fun c => c.map iN
  cl : CS.length = 2 ^ p
  c8 : ∀ c ∈ CS, c.length ≤ 8 ∧ ∀ x ∈ c, x < n
  tl : tab = LS.map iN
  ll : LS.length = 2 ^ p
  l1 : ∀ l ∈ LS, l ≤ 1
/-- a branch and its numbers -/
structure Nd (n a M L : Nat) (tab m e : List Int) : Prop where
  ml : m.length = a
  el : e.length = a
  mb : M < 8 ^ a
  ma : ∀ k, k < a → m[k]? = some (iN (nAt M (3 * k))) ∧ nAt M (3 * k) < n
  la : ∀ x l, l ≤ 1 → (L.testBit (2 * x + l) = true ↔ ∃ k, k < a ∧ e.getD k 0 = iN x ∧ tab.getD k 0 = iN l)
theorem nAt_eq (M k : Nat) : nAt M (3 * k) = M / 8 ^ k % 8 := by
  show (M >>> (3 * k)) &&& 7 = _
  rw [Nat.shiftRight_eq_div_pow, show (7 : Nat) = 2 ^ 3 - 1 from rfl, Nat.and_two_pow_sub_one_eq_mod, Nat.pow_mul]
theorem nAt_lt (M k : Nat) : nAt M (3 * k) < 8 := by
  rw [nAt_eq]
  exact Nat.mod_lt _ (by decide)
theorem nAt_old {M x a k : Nat} (hk : k < a) : nAt (M + x * 8 ^ a) (3 * k) = nAt M (3 * k) := by
  rw [nAt_eq, nAt_eq]
  obtain ⟨d, rfl⟩ : ∃ d, a = k + (d + 1) := ⟨a - k - 1, by omega⟩
  rw [show x * 8 ^ (k + (d + 1)) = 8 ^ k * (x * 8 ^ d * 8) by rw [Nat.pow_add, Nat.pow_succ]; simp only [Nat.mul_left_comm, Nat.mul_comm, Nat.mul_assoc], Nat.add_mul_div_left _ _ (Nat.pow_pos (by decide)), Nat.add_mul_mod_self_right]
theorem nAt_new {M x a : Nat} (hM : M < 8 ^ a) (hx : x < 8) : nAt (M + x * 8 ^ a) (3 * a) = x := by
  rw [nAt_eq, Nat.add_mul_div_right _ _ (Nat.pow_pos (by decide)), Nat.div_eq_of_lt hM, Nat.zero_add, Nat.mod_eq_of_lt hx]
section
variable {T n p : Nat} {rows ch : List (List Int)} {tab : List Int} {US CS : List (List Nat)} {LS : List Nat}
theorem getD_app_old {xs : List Int} {x : Int} {k : Nat} (h : k < xs.length) : (xs ++ [x]).getD k 0 = xs.getD k 0 := by
  rw [List.getD_eq_getElem?_getD, List.getD_eq_getElem?_getD, List.getElem?_append_left h]
theorem getD_app_new (xs : List Int) (x : Int) : (xs ++ [x]).getD xs.length 0 = x := by
  rw [List.getD_eq_getElem?_getD, List.getElem?_append_right (Nat.le_refl _), Nat.sub_self]
  rfl
theorem Fo.lab (F : Fo T n p rows ch tab US CS LS) {a : Nat} (ha : a < 2 ^ p) : ∃ l, LS[a]? = some l ∧ l ≤ 1 ∧ tab.getD a 0 = iN l := by
  have hl : a < LS.length := by rw [F.ll]; exact ha
  refine ⟨LS[a], List.getElem?_eq_getElem hl, F.l1 _ (List.getElem_mem hl), ?_⟩
  rw [F.tl, List.getD_eq_getElem?_getD, List.getElem?_map, List.getElem?_eq_getElem hl]
  rfl
theorem Nd.grow {a M L : Nat} {m e : List Int} (N : Nd n a M L tab m e) (F : Fo T n p rows ch tab US CS LS) {x y l : Nat} (hx : x < n) (hl : l ≤ 1) (ht : tab.getD a 0 = iN l) : Nd n (a + 1) (M + x * 8 ^ a) (L ||| 1 <<< (2 * y + l)) tab (m ++ [iN x]) (e ++ [iN y]) := by
  have hx8 : x < 8 := Nat.lt_of_lt_of_le hx F.n8
  refine ⟨by rw [List.length_append, N.ml]; rfl, by rw [List.length_append, N.el]; rfl, ?_, fun k hk => ?_, fun z j hj => ?_⟩
  · have h1 := N.mb
    have h2 : x * 8 ^ a ≤ 7 * 8 ^ a := Nat.mul_le_mul_right _ (by omega)
    rw [Nat.pow_succ]
    omega
  · by_cases q : k < a
    · rw [nAt_old q, List.getElem?_append_left (by rw [N.ml]; exact q)]
      exact N.ma k q
    · have e1 : k = a := by omega
      subst e1
      rw [nAt_new N.mb hx8, List.getElem?_append_right (by rw [N.ml]; exact Nat.le_refl _), N.ml, Nat.sub_self]
      exact ⟨rfl, hx⟩
  · rw [Nat.testBit_or, Nat.one_shiftLeft, Nat.testBit_two_pow, Bool.or_eq_true, N.la z j hj, decide_eq_true_iff]
    constructor
    · rintro (⟨k, h1, h2, h3⟩ | h)
      · exact ⟨k, by omega, by rw [getD_app_old (by rw [N.el]; exact h1)]; exact h2, h3⟩
      · refine ⟨a, by omega, ?_, ?_⟩
        · have h4 := getD_app_new e (iN y)
          rw [N.el] at h4
          rw [h4, show y = z by omega]
        · rw [ht, show l = j by omega]
    · rintro ⟨k, h1, h2, h3⟩
      by_cases q : k < a
      · rw [getD_app_old (by rw [N.el]; exact q)] at h2
        exact .inl ⟨k, q, h2, h3⟩
      · have e1 : k = a := by omega
        subst e1
        have h4 := getD_app_new e (iN y)
        rw [N.el] at h4
        rw [h4] at h2
        rw [ht] at h3
        right
        have h2 : ((y : Nat) : Int) = ((z : Nat) : Int) := h2
        have h3 : ((l : Nat) : Int) = ((j : Nat) : Int) := h3
        have h5 : y = z := by omega
        have h6 : l = j := by omega
        rw [h5, h6]
theorem bel_ok (F : Fo T n p rows ch tab US CS LS) {a M L : Nat} {m e : List Int} (N : Nd n a M L tab m e) : ∀ (ks : List Nat), (∀ k ∈ ks, k < a) → ∀ b, b < n → (ks.map iN).foldlM (belStep rows m) (iN b) = some (iN (belN T M (ks.map (3 * ·)) b)) ∧ belN T M (ks.map (3 * ·)) b < n
  | [], _, b, hb => ⟨rfl, hb⟩
  | k :: ks, hk, b, hb => by
    obtain ⟨h1, h2⟩ := N.ma k (hk k List.mem_cons_self)
    obtain ⟨row, h3, h4, h5⟩ := F.tb b hb _ h2
    have ih := bel_ok F N ks (fun j hj => hk j (List.mem_cons_of_mem _ hj)) _ h5
    rw [List.map_cons, List.map_cons]
    unfold belN
    rw [fN_eq]
    refine ⟨?_, ih.2⟩
    rw [List.foldlM_cons]
    have e1 : belStep rows m (iN b) (iN k) = some (iN (nAt T (24 * b + 3 * nAt M (3 * k)))) := by
      unfold belStep
      rw [atI_nat h1, atI_nat h3]
      exact atI_nat h4
    rw [e1]
    exact ih.1
theorem seOk_eq (F : Fo T n p rows ch tab US CS LS) {a M L : Nat} {m e : List Int} (N : Nd n a M L tab m e) (ha : a < 2 ^ p) {l : Nat} (hl : l ≤ 1) (ht : tab.getD a 0 = iN l) (y : Nat) : seOk tab e (iN y) = !L.testBit (2 * y + (1 - l)) := by
  have k1 := N.la y (1 - l) (by omega)
  unfold seOk
  rw [N.el]
  cases q : L.testBit (2 * y + (1 - l)) with
  | true =>
    obtain ⟨k, h1, h2, h3⟩ := k1.mp q
    show _ = false
    rw [List.all_eq_false]
    refine ⟨k, List.mem_filter.mpr ⟨List.mem_range.mpr h1, decide_eq_true h2⟩, ?_⟩
    rw [h3, ht]
    simp only [decide_eq_true_eq]
    show ¬ ((1 - l : Nat) : Int) = ((l : Nat) : Int)
    omega
  | false =>
    show _ = true
    rw [List.all_eq_true]
    intro k hk
    obtain ⟨h1, h2⟩ := List.mem_filter.mp hk
    have h1 := List.mem_range.mp h1
    have h2 := of_decide_eq_true h2
    refine decide_eq_true ?_
    obtain ⟨j, _, h3, h4⟩ := F.lab (a := k) (by omega)
    rw [h4, ht]
    by_cases q2 : j = l
    · rw [q2]
    · have : L.testBit (2 * y + (1 - l)) = true := k1.mpr ⟨k, h1, h2, by rw [h4]; congr 1; omega⟩
      rw [q] at this
      cases this
theorem foldlM_one {α β : Type} (f : β → α → Option β) (b : β) (x : α) : [x].foldlM f b = f b x := by
  rw [List.foldlM_cons]
  cases f b x <;> rfl
/-- the child by a member, if it is let in -/
def kid (T b l L : Nat) (m e : List Int) (x : Nat) : Option (List Int × List Int) := if L.testBit (2 * nAt T (24 * b + 3 * x) + (1 - l)) = true then none else some (m ++ [iN x], e ++ [iN (nAt T (24 * b + 3 * x))])
theorem push_ok (F : Fo T n p rows ch tab US CS LS) {a M L : Nat} {m e : List Int} (N : Nd n a M L tab m e) (ha : a < 2 ^ p) {l : Nat} (hl : l ≤ 1) (ht : tab.getD a 0 = iN l) {b : Nat} (hb : b < n) : ∀ (c : List Nat) (st : Brs), (∀ x ∈ c, x < n) → st.length + c.length ≤ 900 → (c.map iN).reverse.foldlM (pushStep rows tab m e (iN b)) st = some (st ++ (c.filterMap (kid T b l L m e)).reverse)
  | [], st, _, _ => by simp
  | x :: c, st, hc, hs => by
    have hs1 : st.length + c.length < 900 := by rw [List.length_cons] at hs; omega
    rw [List.map_cons, List.reverse_cons, List.foldlM_append, push_ok F N ha hl ht hb c st (fun y hy => hc y (List.mem_cons_of_mem _ hy)) (by omega)]
    have hx := hc x List.mem_cons_self
    obtain ⟨row, h3, h4, h5⟩ := F.tb b hb x hx
    have hlen : (st ++ (c.filterMap (kid T b l L m e)).reverse).length < 900 := by
      rw [List.length_append, List.length_reverse]
      have := List.length_filterMap_le (kid T b l L m e) c
      omega
    show [iN x].foldlM (pushStep rows tab m e (iN b)) (st ++ (c.filterMap (kid T b l L m e)).reverse) = _
    rw [foldlM_one]
    unfold pushStep
    rw [atI_nat h3]
    simp only []
    rw [atI_nat h4]
    simp only []
    rw [seOk_eq F N ha hl ht, List.filterMap_cons]
    cases q : L.testBit (2 * nAt T (24 * b + 3 * x) + (1 - l)) with
    | true =>
      have e1 : kid T b l L m e x = none := by unfold kid; rw [if_pos q]
      rw [e1, Bool.not_true, if_neg Bool.false_ne_true]
    | false =>
      have e1 : kid T b l L m e x = some (m ++ [iN x], e ++ [iN (nAt T (24 * b + 3 * x))]) := by unfold kid; rw [if_neg (by rw [q]; exact Bool.false_ne_true)]
      rw [e1, Bool.not_false, if_pos rfl, if_pos hlen, List.reverse_cons, ← List.append_assoc]
abbrev lp (rows : List (List Int)) (p : Nat) (ch : List (List Int)) (tab : List Int) : Nat → Brs → Option (Stp Brs) := loopX seC (seTurn rows p ch tab)
/-- what the twin says of the loop -/
def Says (rows : List (List Int)) (p : Nat) (ch : List (List Int)) (tab : List Int) (st st2 : Brs) (e : List Int) : Nat × Option (List Nat) → Prop
  | (k, some r) => (∀ K, lp rows p ch tab (k + K) st = some (.out (ti (e ++ r.map iN))))
  | (k, none) => (∀ K, lp rows p ch tab (k + K) st = lp rows p ch tab K st2)
theorem try_ok {b l L : Nat} {m e : List Int} {st : Brs} {f : Nat → Nat × Option (List Nat)} : ∀ (c : List Nat),
    (∀ x ∈ c, ∀ c' : List Nat, c'.length ≤ c.length → Says rows p ch tab (st ++ (c'.filterMap (kid T b l L m e)).reverse ++ (match kid T b l L m e x with | some z => [z] | none => [])) (st ++ (c'.filterMap (kid T b l L m e)).reverse) e (f x)) →
    Says rows p ch tab (st ++ (c.filterMap (kid T b l L m e)).reverse) st e (tryL f c)
  | [], _ => fun K => by
    show lp rows p ch tab (0 + K) (st ++ []) = _
    rw [Nat.zero_add, List.append_nil]
  | x :: c, h => by
    have h1 := h x List.mem_cons_self c (by rw [List.length_cons]; omega)
    have ih := try_ok (f := f) c fun y hy c' hc => h y (List.mem_cons_of_mem _ hy) c' (by rw [List.length_cons]; omega)
    have e1 : st ++ ((x :: c).filterMap (kid T b l L m e)).reverse = st ++ (c.filterMap (kid T b l L m e)).reverse ++ (match kid T b l L m e x with | some z => [z] | none => []) := by
      rw [List.filterMap_cons]
      cases kid T b l L m e x with
      | none => simp
      | some z => simp
    rw [e1]
    unfold tryL
    cases q : f x with
    | mk k r =>
      rw [q] at h1
      cases r with
      | some r => exact h1
      | none =>
        cases q2 : tryL f c with
        | mk k' r' =>
          rw [q2] at ih
          simp only [fN_eq]
          have h1 : ∀ K, _ = _ := h1
          cases r' with
          | some r' =>
            intro K
            show lp rows p ch tab (k + k' + K) _ = _
            rw [Nat.add_assoc, h1]
            exact ih K
          | none =>
            intro K
            show lp rows p ch tab (k + k' + K) _ = _
            rw [Nat.add_assoc, h1]
            exact ih K
theorem kid_ok {T b l L M a : Nat} {m e : List Int} {S : Brs} {go : Nat → Nat → Nat → Nat × Option (List Nat)} {x : Nat}
    (h : L.testBit (2 * nAt T (24 * b + 3 * x) + (1 - l)) = false → Says rows p ch tab (S ++ [(m ++ [iN x], e ++ [iN (nAt T (24 * b + 3 * x))])]) S (e ++ [iN (nAt T (24 * b + 3 * x))]) (go (M + x * 8 ^ a) (L ||| 1 <<< (2 * nAt T (24 * b + 3 * x) + l)) (3 * (a + 1)))) :
    Says rows p ch tab (S ++ (match kid T b l L m e x with | some z => [z] | none => [])) S e (kidN T b l L M (3 * a) go x) := by
  unfold kidN
  simp only [fN_eq]
  show Says rows p ch tab _ _ _ (match 1 &&& (L >>> (2 * nAt T (24 * b + 3 * x) + (1 - l))) with
    | .succ _ => (0, none)
    | .zero => _)
  have e0 : L.testBit (2 * nAt T (24 * b + 3 * x) + (1 - l)) = (1 &&& (L >>> (2 * nAt T (24 * b + 3 * x) + (1 - l))) != 0) := rfl
  generalize hv : 1 &&& (L >>> (2 * nAt T (24 * b + 3 * x) + (1 - l))) = v at e0 ⊢
  cases v with
  | succ v =>
    have q : L.testBit (2 * nAt T (24 * b + 3 * x) + (1 - l)) = true := by rw [e0]; simp
    have e1 : kid T b l L m e x = none := by unfold kid; rw [if_pos q]
    rw [e1]
    intro K
    show lp rows p ch tab (0 + K) (S ++ []) = _
    rw [Nat.zero_add, List.append_nil]
  | zero =>
    have q : L.testBit (2 * nAt T (24 * b + 3 * x) + (1 - l)) = false := by rw [e0]; rfl
    have e1 : kid T b l L m e x = some (m ++ [iN x], e ++ [iN (nAt T (24 * b + 3 * x))]) := by unfold kid; rw [if_neg (by rw [q]; exact Bool.false_ne_true)]
    rw [e1]
    have hk := h q
    have e2 : M + (x <<< (3 * a)) = M + x * 8 ^ a := by rw [Nat.shiftLeft_eq, Nat.pow_mul]
    have e3 : 3 * a + 3 = 3 * (a + 1) := by omega
    show Says rows p ch tab _ _ _ (match go (M + (x <<< (3 * a))) (L ||| 1 <<< (2 * nAt T (24 * b + 3 * x) + l)) (3 * a + 3) with
      | (k, some r) => (k, some (nAt T (24 * b + 3 * x) :: r))
      | (k, none) => (k, none))
    rw [e2, e3]
    cases q2 : go (M + x * 8 ^ a) (L ||| 1 <<< (2 * nAt T (24 * b + 3 * x) + l)) (3 * (a + 1)) with
    | mk k1 r =>
      rw [q2] at hk
      cases r with
      | none => exact hk
      | some r =>
        intro K
        have hk := hk K
        rw [List.append_assoc] at hk
        exact hk
theorem loopX_succ {A : Type} (c : A → Bool) (F : A → Option (Stp A)) (k : Nat) (a : A) : loopX c F (k + 1) a = if c a = true then (match F a with
    | none => none
    | some (.go a') => loopX c F k a'
    | some (.out d) => some (.out d)) else some (.go a) := rfl
theorem last_app {st : Brs} {z : List Int × List Int} : (st ++ [z]).getLast? = some z ∧ (st ++ [z]).dropLast = st := by
  simp
theorem turn_ok (F : Fo T n p rows ch tab US CS LS) {a M L : Nat} {m e : List Int} (N : Nd n a M L tab m e) (ha : a < 2 ^ p) {l : Nat} (hl : l ≤ 1) (ht : tab.getD a 0 = iN l) {c : List Nat} (hc : CS[a]? = some c) {st : Brs} (hs : st.length + 8 ≤ 900) (K : Nat) :
    lp rows p ch tab (K + 1) (st ++ [(m, e)]) = lp rows p ch tab K (st ++ (c.filterMap (kid T (belN T M ((undN p a).map (3 * ·)) 0) l L m e)).reverse) := by
  have hcm := F.c8 c (List.mem_of_getElem? hc)
  obtain ⟨b1, b2⟩ := bel_ok F N (undN p a) (fun k hk => List.mem_range.mp (List.mem_filter.mp hk).1) 0 F.n0
  have hp := push_ok F N ha hl ht b2 c st hcm.2 (by omega)
  have h5 := F.p5
  have e1 : atI ch (a : Nat) = some (c.map iN) := by
    refine atI_nat ?_
    rw [F.ch, List.getElem?_map, hc]
    rfl
  have e2 : seTurn rows p ch tab (st ++ [(m, e)]) = some (.go (st ++ (c.filterMap (kid T (belN T M ((undN p a).map (3 * ·)) 0) l L m e)).reverse)) := by
    unfold seTurn
    rw [last_app.1, last_app.2]
    simp only []
    rw [N.el, if_neg (by omega), if_pos (by rw [N.ml, Bool.and_eq_true]; exact ⟨decide_eq_true ha, decide_eq_true (by omega)⟩), underAt_eq]
    show (match ((undN p a).map iN).foldlM (belStep rows m) (iN 0) with
      | none => none
      | some b => _) = _
    rw [b1]
    simp only []
    rw [e1]
    simp only []
    rw [hp]
  show loopX seC (seTurn rows p ch tab) (K + 1) (st ++ [(m, e)]) = _
  rw [loopX_succ, if_pos (by unfold seC; simp), e2]
theorem end_ok {m e : List Int} {st : Brs} (he : e.length = 2 ^ p) (K : Nat) : lp rows p ch tab (K + 1) (st ++ [(m, e)]) = some (.out (ti e)) := by
  have e2 : seTurn rows p ch tab (st ++ [(m, e)]) = some (.out (ti e)) := by
    unfold seTurn
    rw [last_app.1]
    simp only []
    rw [if_pos he]
  show loopX seC (seTurn rows p ch tab) (K + 1) (st ++ [(m, e)]) = _
  rw [loopX_succ, if_pos (by unfold seC; simp), e2]
theorem up_says {x : Nat × Option (List Nat)} {s1 s2 st2 : Brs} {e : List Int} (h : Says rows p ch tab s2 st2 e x) (ht : ∀ K, lp rows p ch tab (K + 1) s1 = lp rows p ch tab K s2) : Says rows p ch tab s1 st2 e (upN x) := by
  obtain ⟨k, r⟩ := x
  show Says rows p ch tab s1 st2 e (fN k.succ fun s => (s, r))
  rw [fN_eq]
  cases r with
  | none =>
    intro K
    show lp rows p ch tab (k + 1 + K) s1 = _
    rw [show k + 1 + K = (k + K) + 1 by omega, ht]
    exact h K
  | some r =>
    intro K
    show lp rows p ch tab (k + 1 + K) s1 = _
    rw [show k + 1 + K = (k + K) + 1 by omega, ht]
    exact h K
theorem dfs_ok (F : Fo T n p rows ch tab US CS LS) : ∀ (us : List (List Nat)) (a M L : Nat) (m e : List Int) (st : Brs), us = US.drop a → a ≤ 2 ^ p → Nd n a M L tab m e → st.length + 8 * us.length ≤ 890 →
    Says rows p ch tab (st ++ [(m, e)]) st e (dfs T us (CS.drop a) (LS.drop a) M L (3 * a))
  | [], a, M, L, m, e, st, hu, ha, N, hs => fun K => by
    have hl : US.length = 2 ^ p := by rw [F.us, List.length_map, List.length_range]
    have h1 : (US.drop a).length = 0 := by rw [← hu]; rfl
    rw [List.length_drop, hl] at h1
    show lp rows p ch tab (1 + K) (st ++ [(m, e)]) = some (.out (ti (e ++ [])))
    rw [Nat.add_comm, List.append_nil]
    exact end_ok (by rw [N.el]; omega) K
  | u :: us, a, M, L, m, e, st, hu, ha, N, hs => by
    have hl : US.length = 2 ^ p := by rw [F.us, List.length_map, List.length_range]
    have ha2 : a < 2 ^ p := by
      by_cases q : a < 2 ^ p
      · exact q
      · rw [List.drop_of_length_le (by omega)] at hu
        cases hu
    rw [List.drop_eq_getElem_cons (by rw [hl]; exact ha2)] at hu
    injection hu with hu1 hu2
    have hua : u = (undN p a).map (3 * ·) := by
      rw [hu1]
      have : US[a]? = some ((undN p a).map (3 * ·)) := by
        rw [F.us, List.getElem?_map, List.getElem?_range ha2]
        rfl
      rw [List.getElem?_eq_getElem (by rw [hl]; exact ha2)] at this
      exact Option.some.inj this
    obtain ⟨l, q1, q2, q3⟩ := F.lab ha2
    have hcl : a < CS.length := by rw [F.cl]; exact ha2
    have hll : a < LS.length := by rw [F.ll]; exact ha2
    rw [List.drop_eq_getElem_cons hcl, List.drop_eq_getElem_cons hll]
    have el : LS[a] = l := by
      rw [List.getElem?_eq_getElem hll] at q1
      exact Option.some.inj q1
    rw [el]
    have hc := F.c8 _ (List.getElem_mem hcl)
    show Says rows p ch tab (st ++ [(m, e)]) st e (fN (belN T M u 0) fun b => upN (tryL (kidN T b l L M (3 * a) (dfs T us (CS.drop (a + 1)) (LS.drop (a + 1)))) CS[a]))
    rw [fN_eq, hua]
    rw [List.length_cons] at hs
    refine up_says ?_ (fun K => turn_ok F N ha2 q2 q3 (List.getElem?_eq_getElem hcl) (by omega) K)
    refine try_ok CS[a] fun x hx c' hc' => ?_
    refine kid_ok fun hb => ?_
    refine dfs_ok F us (a + 1) _ _ _ _ _ hu2 ha2 (N.grow F (hc.2 x hx) q2 q3) ?_
    rw [List.length_append, List.length_reverse]
    have := List.length_filterMap_le (kid T (belN T M ((undN p a).map (3 * ·)) 0) l L m e) c'
    omega
/-- the search by its twin -/
theorem sem_ok (F : Fo T n p rows ch tab US CS LS) : match dfs T US CS LS 0 0 0 with
    | (k, some r) => k ≤ 5000 → seM rows p ch tab = some (.out (ti (r.map iN)))
    | (k, none) => k < 5000 → seM rows p ch tab = some (.go []) := by
  have N : Nd n 0 0 0 tab [] [] := ⟨rfl, rfl, by decide, fun k hk => absurd hk (by omega), fun x l hl => by
    rw [Nat.zero_testBit]
    constructor
    · intro h; cases h
    · rintro ⟨k, hk, _⟩
      omega⟩
  have hl : US.length = 2 ^ p := by rw [F.us, List.length_map, List.length_range]
  have h5 := F.p5
  have h := dfs_ok F US 0 0 0 [] [] [] rfl (Nat.zero_le _) N (by rw [hl]; show 0 + _ ≤ _; omega)
  rw [List.drop_zero, List.drop_zero] at h
  have h : Says rows p ch tab [([], [])] [] [] (dfs T US CS LS 0 0 0) := h
  cases q : dfs T US CS LS 0 0 0 with
  | mk k r =>
    rw [q] at h
    cases r with
    | some r =>
      intro hk
      have h := h (5000 - k)
      rw [show k + (5000 - k) = 5000 by omega] at h
      exact h
    | none =>
      intro hk
      have h := h (5000 - k)
      rw [show k + (5000 - k) = 5000 by omega, show 5000 - k = (4999 - k) + 1 by omega] at h
      exact h
end
end K9
/-! text FG -/
set_option Elab.async false
set_option linter.all false
set_option maxRecDepth 100000
set_option maxHeartbeats 0
set_option autoImplicit false
/-! the plain law: the least group (finite) -/
namespace K9
open PySem PySem.Spec PyProof.Rows L2
def tabOf (mv : List (List Int)) : List (List Int) := match cmM mv with
  | some zs => gomRows zs
  | none => []
def six : List (Str × List (List Int)) := shelf.take 6
theorem six_ok : ∀ e ∈ six, (match cmM e.2 with
  | some zs => gomOk e.2 zs
  | none => false) = true := by decide +kernel
theorem shelf_nodup : (shelf.map (·.1)).Nodup := by decide +kernel
theorem shG_at : ∀ (l : List (Str × List (List Int))) (e : Str × List (List Int)), e ∈ l → (l.map (·.1)).Nodup → (match cmM e.2 with
  | some zs => gomOk e.2 zs
  | none => false) = true → runX (shF e.1) () l = some (.out (grpD (tabOf e.2)))
  | [], e, h, _, _ => by simp at h
  | x :: l, e, h, hn, ho => by
    rw [List.map_cons, List.nodup_cons] at hn
    unfold runX shF
    by_cases q : x.1 = e.1
    · rw [if_pos q]
      have hx : x = e := by
        rcases List.mem_cons.mp h with r | r
        · exact r.symm
        · exact absurd (by rw [q]; exact List.mem_map.mpr ⟨e, r, rfl⟩) hn.1
      subst hx
      unfold tabOf
      cases z : cmM x.2 with
      | none => rw [z] at ho; cases ho
      | some zs =>
        rw [z] at ho
        have ho : gomOk x.2 zs = true := ho
        simp only [ho, if_true]
    · rw [if_neg q]
      refine shG_at l e ?_ hn.2 ho
      rcases List.mem_cons.mp h with r | r
      · exact absurd (by rw [r]) q
      · exact r
theorem shG_six {e : Str × List (List Int)} (h : e ∈ six) : shG e.1 = some (.out (grpD (tabOf e.2))) := shG_at shelf e (List.mem_of_mem_take h) shelf_nodup (six_ok e h)
def nRow (mv : List (List Int)) : List (List Int) := lowRow (tabOf mv).length
theorem six_dec : ∀ p : _root_.Fin 5, ∀ e ∈ six, decB (tabOf e.2) (nRow e.2) p = true := by decide +kernel
/-! ### the twin's data -/
def uL : Nat → List (List Nat)
  | 0 => [[]]
  | 1 => [[], [0]]
  | 2 => [[], [0], [0], [0, 3, 6]]
  | 3 => [[], [0], [0], [0], [0, 3, 6], [0, 3, 9], [0, 6, 9], [0, 3, 6, 9, 12, 15, 18]]
  | _ => [[], [0], [0], [0], [0], [0, 3, 6], [0, 3, 9], [0, 6, 9], [0, 3, 12], [0, 6, 12], [0, 9, 12], [0, 3, 6, 9, 15, 18, 21], [0, 3, 6, 12, 15, 24, 27], [0, 3, 9, 12, 18, 24, 30], [0, 6, 9, 12, 21, 27, 30], [0, 3, 6, 9, 12, 15, 18, 21, 24, 27, 30, 33, 36, 39, 42]]
theorem uL_ok : ∀ p : _root_.Fin 5, uL p = (List.range (2 ^ (p : Nat))).map fun a => (undN p a).map (3 * ·) := by decide +kernel
def cL (p n : Nat) : List (List Nat) := [0] :: (List.replicate p (List.range n) ++ List.replicate (2 ^ p - 1 - p) [0])
def sixT : List (Nat × Nat) := [(1, 0), (2, 16777224), (3, 18577348748116104), (4, 5152101984244323904915080), (4, 391956569511738440943240), (5, 1060072855709618763096933483431560)]
abbrev Zt : Type := (Str × List (List Int)) × (Nat × Nat)
def sixZ : List Zt := six.zip sixT
theorem six_map : sixZ.map (·.1) = six := rfl
def tblB (rows : List (List Int)) (n T : Nat) : Bool := (List.range n).all fun b => (List.range n).all fun c => (match rows[b]? with
  | some row => decide (row[c]? = some (iN (nAt T (24 * b + 3 * c))))
  | none => false) && decide (nAt T (24 * b + 3 * c) < n)
def fineB (p : Nat) (z : Zt) : Bool := decide (0 < z.2.1) && decide (z.2.1 ≤ 8) && decide ((tabOf z.1.2).length = z.2.1) && tblB (tabOf z.1.2) z.2.1 z.2.2 && decide (chM (nRow z.1.2) p = (cL p z.2.1).map fun c => c.map iN) && decide ((cL p z.2.1).length = 2 ^ p) && (cL p z.2.1).all fun c => decide (c.length ≤ 8) && c.all fun x => decide (x < z.2.1)
theorem six_fine : ∀ p : _root_.Fin 5, ∀ z ∈ sixZ, fineB p z = true := by decide +kernel
def labN (p : Nat) (bw : List Int) : List Nat := (labM p bw).map Int.toNat
theorem labN_ok {p : Nat} {bw : List Int} (h : labOk p (labM p bw) = true) : labM p bw = (labN p bw).map iN ∧ (labN p bw).length = 2 ^ p ∧ ∀ l ∈ labN p bw, l ≤ 1 := by
  have hl := lab_len h
  unfold labOk at h
  rw [Bool.and_eq_true, List.all_eq_true] at h
  have k : ∀ l ∈ labM p bw, l = 0 ∨ l = 1 := fun l hm => by
    have := of_decide_eq_true (h.2 l hm)
    simpa using this
  unfold labN
  refine ⟨?_, by rw [List.length_map, hl], fun l hm => ?_⟩
  · rw [List.map_map]
    refine (List.map_id _).symm.trans (List.map_congr_left fun l hm => ?_)
    rcases k l hm with rfl | rfl <;> rfl
  · obtain ⟨x, hx, rfl⟩ := List.mem_map.mp hm
    rcases k x hx with rfl | rfl <;> decide
theorem fo_of {p : Nat} (hp : p < 5) {z : Zt} (hf : fineB p z = true) {bw : List Int} (hl : labOk p (labM p bw) = true) : Fo z.2.2 z.2.1 p (tabOf z.1.2) (chM (nRow z.1.2) p) (labM p bw) (uL p) (cL p z.2.1) (labN p bw) := by
  unfold fineB at hf
  simp only [Bool.and_eq_true, decide_eq_true_eq] at hf
  obtain ⟨⟨⟨⟨⟨⟨f1, f2⟩, f3⟩, f4⟩, f5⟩, f6⟩, f7⟩ := hf
  obtain ⟨l1, l2, l3⟩ := labN_ok hl
  refine ⟨f1, f2, two_pow_le (by omega), fun b hb c hc => ?_, uL_ok ⟨p, hp⟩, f5, f6, fun c hc => ?_, l1, l2, l3⟩
  · unfold tblB at f4
    have k1 := List.all_eq_true.mp (List.all_eq_true.mp f4 b (List.mem_range.mpr hb)) c (List.mem_range.mpr hc)
    rw [Bool.and_eq_true] at k1
    obtain ⟨k1, k2⟩ := k1
    split at k1
    · rename_i row hrow
      exact ⟨row, hrow, of_decide_eq_true k1, of_decide_eq_true k2⟩
    · cases k1
  · have k1 := List.all_eq_true.mp f7 c hc
    rw [Bool.and_eq_true, List.all_eq_true] at k1
    exact ⟨of_decide_eq_true k1.1, fun x hx => of_decide_eq_true (k1.2 x hx)⟩
def fLLN {β : Type} : List (List Nat) → (List (List Nat) → β) → β
  | [], k => k []
  | x :: xs, k => fLN x fun y => fLLN xs fun ys => k (y :: ys)
theorem fLLN_eq {β : Type} : ∀ (xs : List (List Nat)) (k : List (List Nat) → β), fLLN xs k = k xs
  | [], k => rfl
  | x :: xs, k => by
    unfold fLLN
    rw [fLN_eq, fLLN_eq xs]
/-- the first group that decides -/
def goN (p : Nat) (US : List (List Nat)) (ls : List Nat) : List Zt → Option ((Str × List (List Int)) × Nat × List Nat)
  | [] => none
  | z :: r => match fN z.2.1 fun n => fN z.2.2 fun T => fLLN (cL p n) fun cs => dfs T US cs ls 0 0 0 with
    | (k, some es) => if k ≤ 5000 then some (z.1, z.2.1, es) else none
    | (k, none) => if k < 5000 then goN p US ls r else none
theorem goN_eq {p : Nat} (hp : p < 5) {bw : List Int} (hl : labOk p (labM p bw) = true) {e : Str × List (List Int)} {n : Nat} {es : List Nat} : ∀ {l : List Zt}, (∀ z ∈ l, fineB p z = true) → goN p (uL p) (labN p bw) l = some (e, n, es) →
    ∃ pre post T, l = pre ++ (e, n, T) :: post ∧ (∀ x ∈ pre, seM (tabOf x.1.2) p (chM (nRow x.1.2) p) (labM p bw) = some (.go [])) ∧ seM (tabOf e.2) p (chM (nRow e.2) p) (labM p bw) = some (.out (ti (es.map iN)))
  | [], _, h => by cases h
  | z :: r, hf, h => by
    have F := fo_of hp (hf z List.mem_cons_self) hl
    have k := sem_ok F
    unfold goN at h
    simp only [fN_eq, fLLN_eq] at h
    cases q : dfs z.2.2 (uL p) (cL p z.2.1) (labN p bw) 0 0 0 with
    | mk c o =>
      rw [q] at k h
      cases o with
      | some es2 =>
        have h : (if c ≤ 5000 then some (z.1, z.2.1, es2) else none) = some (e, n, es) := h
        split at h
        · rename_i hc
          cases h
          exact ⟨[], r, z.2.2, rfl, fun x hx => by simp at hx, k hc⟩
        · cases h
      | none =>
        have h : (if c < 5000 then goN p (uL p) (labN p bw) r else none) = some (e, n, es) := h
        split at h
        · rename_i hc
          obtain ⟨pre, post, T, h1, h2, h3⟩ := goN_eq hp hl (fun x hx => hf x (List.mem_cons_of_mem _ hx)) h
          refine ⟨z :: pre, post, T, by rw [h1]; rfl, fun x hx => ?_, h3⟩
          rcases List.mem_cons.mp hx with rfl | hx
          · exact k hc
          · exact h2 x hx
        · cases h
def k4C (p : Nat) (bw : List Int) (nm : Str) (n : Nat) (es : List Nat) : Bool := decide (n ≤ p + 1) && decide (decide (nm = "c1") = constB bw) && decide (decide (nm = "c2") = (decide (0 < ((p : Nat) : Int)) && decide (((stepsL bw p).length : Int) = ((p : Nat) : Int)))) && decide (es.length = 2 ^ p) && (es.all fun x => decide (x < n)) && (ncM (es.map iN) (labM p bw)).isSome
def k4B (p : Nat) (bw : List Int) : Bool := fLN (labN p bw) fun ls => match goN p (uL p) ls sixZ with
  | none => false
  | some (e, n, es) => fLN es fun es => k4C p bw e.1 n es
theorem k4_all0 : ∀ p : _root_.Fin 4, ∀ bw ∈ allBw ((p : Nat) + 1), k4B p bw = true := by decide +kernel
theorem k4_all4 : ∀ bw ∈ allBw 5, k4B 4 bw = true := by decide +kernel
theorem k4_all {p : Nat} (hp : p < 5) : ∀ bw ∈ allBw (p + 1), k4B p bw = true := by
  by_cases q : p < 4
  · exact k4_all0 ⟨p, q⟩
  · have e : p = 4 := by omega
    subst e
    exact k4_all4
theorem f_k4 (p : Nat) (bw : List Int) (hp : p ≤ 4) (hb : BwOk p bw) : R__law_least_holds [.v (.int (p : Nat)), .v (shp p), .v (ti (labM p bw)), .v (li bw)] (.bl true) := by
  have hp5 : p ≤ 5 := by omega
  have k := k4_all (show p < 5 by omega) bw (mem_allBw _ _ hb.1 hb.2)
  have hlab := labM_ok hp5 hb
  have hll := lab_len hlab
  have h2p := two_pow_le hp5
  unfold k4B at k
  rw [fLN_eq] at k
  split at k
  · cases k
  rename_i e n es hgo
  rw [fLN_eq] at k
  unfold k4C at k
  simp only [Bool.and_eq_true, decide_eq_true_eq, List.all_eq_true] at k
  obtain ⟨⟨⟨⟨⟨k1, k2⟩, k3⟩, k4⟩, k5⟩, k6⟩ := k
  have fine : ∀ z ∈ sixZ, fineB p z = true := six_fine ⟨p, by omega⟩
  obtain ⟨pre, post, T, e1, e2, e3⟩ := goN_eq (by omega) hlab fine hgo
  have dec : ∀ e ∈ six, decB (tabOf e.2) (nRow e.2) p = true := six_dec ⟨p, by omega⟩
  have hz : (e, n, T) ∈ sixZ := by rw [e1]; simp
  have inS : ∀ z ∈ sixZ, z.1 ∈ six := fun z hz => by
    rw [← six_map]
    exact List.mem_map.mpr ⟨z, hz, rfl⟩
  have hm : e ∈ six := inS _ hz
  have hd := dec _ hm
  have hn : (tabOf e.2).length = n := by
    have f := fine _ hz
    unfold fineB at f
    simp only [Bool.and_eq_true, decide_eq_true_eq] at f
    exact f.1.1.1.1.2
  have hn8 : n ≤ 8 := by
    have f := fine _ hz
    unfold fineB at f
    simp only [Bool.and_eq_true, decide_eq_true_eq] at f
    exact f.1.1.1.1.1.2
  have hes : (es.map iN).length = 2 ^ p := by rw [List.length_map, k4]
  have hin : ∀ x ∈ es.map iN, InR (tabOf e.2) x := fun x hx => by
    obtain ⟨y, hy, rfl⟩ := List.mem_map.mp hx
    have := k5 y hy
    unfold InR
    rw [hn]
    show 0 ≤ ((y : Nat) : Int) ∧ ((y : Nat) : Int) < _
    omega
  obtain ⟨lab, hlb⟩ := Option.isSome_iff_exists.mp k6
  have hse : seE (tabOf e.2) p (chM (nRow e.2) p) (labM p bw) = some (es.map iN) := by
    unfold seE
    rw [e3]
    show deL ((es.map iN).map D.int) = _
    generalize es.map iN = xs
    induction xs with
    | nil => rfl
    | cons x xs ih =>
      rw [List.map_cons]
      unfold deL
      rw [ih]
  have hdec := dec_out hp5 hd hlab hse hes hin
  have hsix : six = pre.map (·.1) ++ e :: post.map (·.1) := by
    rw [← six_map, e1, List.map_append, List.map_cons]
  have hshelf : shelf = six ++ shelf.drop 6 := (List.take_append_drop 6 shelf).symm
  have hnames : shelf.map (·.1) = pre.map (fun z => z.1.1) ++ e.1 :: (post.map (fun z => z.1.1) ++ (shelf.drop 6).map (·.1)) := by
    generalize shelf.drop 6 = rest at hshelf ⊢
    rw [hshelf, hsix, List.map_append, List.map_append, List.map_cons, List.map_map, List.map_map, List.append_assoc]
    rfl
  refine ⟨p, bw, labM p bw, e.1, tabOf e.2, es.map iN, lab, hp5, rfl, hb.1, ?_, shG_six hm, ?_, by rw [hn]; exact k1, k2, k3, hdec, by omega, by omega, fun x hx => ?_, hlb, rfl⟩
  · refine ⟨p, labM p bw, pre.map (fun z => z.1.1), e.1, _, rfl, hnames, fun x hx => ?_, ⟨tabOf e.2, _, shG_six hm, hdec, rfl⟩, rfl⟩
    obtain ⟨z, hz2, rfl⟩ := List.mem_map.mp hx
    have hzs : z.1 ∈ six := inS _ (by rw [e1]; exact List.mem_append_left _ hz2)
    exact ⟨tabOf z.1.2, shG_six hzs, dec_none hp5 (dec _ hzs) hlab (e2 z hz2)⟩
  · rw [hnames]
    simp
  · have := hin x hx
    unfold InR at this
    rw [hn] at this
    omega
theorem facts : Facts := ⟨f_k0, f_k1, fun p many first bw hp h1 _ _ _ _ => f_k2 p many first bw hp h1, f_k3, f_k4⟩
end K9
/-! text HA -/
set_option Elab.async false
set_option linter.all false
set_option maxRecDepth 100000
set_option maxHeartbeats 4000000
set_option autoImplicit false
/-! each def's promise, from the head's facts (printed by gen_ha.py) -/
namespace K9
open PySem PySem.Spec PyProof.Rows L2 LamX
def clN : Nat → Str
  | 0 => "Group"
  | 1 => "Chart"
  | _ => "Program"
def wdOf (F : PySem.W.Frag) : Wd := ⟨F, fun i => He.ga F (clN i), [((He.cT F dfA).2, "light_inputs.<locals>.<lambda>"), ((He.cT F dfB).2, "_law_inputs.<locals>.<lambda>")]⟩
/-- what the head tells -/
structure Hy (F : PySem.W.Frag) (mg : Str → Option Value) : Prop where
  d : ∀ d ∈ defsL, ∃ fd, FunD F d.name d.qual d.params d.body d.scope (d.dvs F) (d.kws F) (d.at_ F) fd
  g : ∀ x ∈ gloL, mg x = some (.ref (He.ga F x))
  T : Tx (wdOf F).K mg
  X : Kx (wdOf F)
  mk0 : Mk F (He.ga F "Group") (He.ma F (He.ga F "Group") "__init__")
  mk1 : Mk F (He.ga F "Chart") (He.ma F (He.ga F "Chart") "__init__")
  mk2 : Mk F (He.ga F "Program") (He.ma F (He.ga F "Program") "__init__")
  mc : Meth F (He.ga F "Group") "check" (He.ma F (He.ga F "Group") "check")
  mo : Meth F (He.ga F "Group") "commutator" (He.ma F (He.ga F "Group") "commutator")
  mh : Meth F (He.ga F "Program") "chart" (He.ma F (He.ga F "Program") "chart")
  sl : Spc F (He.ga F "Group") "__len__" (He.ma F (He.ga F "Group") "__len__")
  si : Spc F (He.ga F "Group") "__contains__" (He.ma F (He.ga F "Group") "__contains__")
  co : StX.CallO F (He.ga F "Program") (He.ma F (He.ga F "Program") "__call__")
  cr : ClX.CRead F (He.ga F "Group") (.type "type")
  cm : ClX.CMet F (He.ga F "Group") (.type "type") "cyclic" (He.ma F (He.ga F "Group") "cyclic") (He5.wf F (He.ga F "Group") "classmethod" "cyclic")
  sh : ∀ B, Den (wdOf F) B shelfD (.ref (He.ga F "SHELF"))
  ne : (He.cT F dfA).2 ≠ (He.cT F dfB).2
def TbOk (F : PySem.W.Frag) (mg : Str → Option Value) (base : Heap) : Prop := TabB base mg (He.cT F dfA).1 (He.cT F dfA).2 ∧ TabB base mg (He.cT F dfB).1 (He.cT F dfB).2
theorem code_of {F : PySem.W.Frag} {x qual : Str} {st : Stmt} {fd : FuncData} {p : He.Defn} (h : FunD F x qual (defArgs st) (defBody st) (defScope st) [] [] (He.fAd F p) fd) : fd.code = .ref (He.cT F p).1 := by
  obtain ⟨oc, od, dV, kV, doc, pm, an, cdv, ct, osl, rfl, lk, hcd, _, _⟩ := h.ex
  obtain ⟨c, rfl⟩ := He.codeIn_ref hcd
  have e := He.codeOf_eq lk (c := c) rfl
  show Value.ref c = .ref (He.codeOf F p)
  rw [e]
section
variable {P : Program} {w : World} {F : PySem.W.Frag} {mg : Str → Option Value} {base : Heap}
theorem ln_check_shape : ∀ as d, R_check_shape as d → as.length = 1 := by
  rintro as d ⟨_, _, rfl, _⟩
  rfl
theorem c_check_shape (Y : Hy F mg) : C8.Cal P w (wdOf F).K mg base 1 "check_shape" (spOf (wdOf F) R_check_shape) [] := by
  obtain ⟨fd, b⟩ := Y.d (dT "check_shape" 17) (List.mem_of_getElem? (i := 0) rfl)
  exact cal_of (w_check_shape (k := 0) Y.T) sc_check_shape (ln_check_shape) b (Y.g "check_shape" (List.mem_of_getElem? (i := 0) rfl)) (b.bindsN fun _ _ _ _ _ _ us hl => match us, hl with | [_], _ => rfl)
theorem ln_weight : ∀ as d, R_weight as d → as.length = 1 := by
  rintro as d ⟨_, _, rfl, _⟩
  rfl
theorem c_weight (Y : Hy F mg) : C8.Cal P w (wdOf F).K mg base 1 "weight" (spOf (wdOf F) R_weight) [] := by
  obtain ⟨fd, b⟩ := Y.d (dT "weight" 19) (List.mem_of_getElem? (i := 2) rfl)
  exact cal_of (w_weight (k := 0) Y.T) sc_weight (ln_weight) b (Y.g "weight" (List.mem_of_getElem? (i := 2) rfl)) (b.bindsN fun _ _ _ _ _ _ us hl => match us, hl with | [_], _ => rfl)
theorem c__law_weight (Y : Hy F mg) : C8.Cal P w (wdOf F).K mg base 1 "_law_weight" (spOf (wdOf F) R_weight) [] := by
  obtain ⟨fd, b⟩ := Y.d (dT "_law_weight" 76) (List.mem_of_getElem? (i := 39) rfl)
  exact cal_of (w__law_weight (k := 0) Y.T) sc__law_weight (ln_weight) b (Y.g "_law_weight" (List.mem_of_getElem? (i := 39) rfl)) (b.bindsN fun _ _ _ _ _ _ us hl => match us, hl with | [_], _ => rfl)
theorem ln_lies_under : ∀ as d, R_lies_under as d → as.length = 2 := by
  rintro as d ⟨_, _, _, rfl, _⟩
  rfl
theorem c_lies_under (Y : Hy F mg) : C8.Cal P w (wdOf F).K mg base 1 "lies_under" (spOf (wdOf F) R_lies_under) [] := by
  obtain ⟨fd, b⟩ := Y.d (dT "lies_under" 20) (List.mem_of_getElem? (i := 3) rfl)
  exact cal_of (w_lies_under (k := 0) Y.T) sc_lies_under (ln_lies_under) b (Y.g "lies_under" (List.mem_of_getElem? (i := 3) rfl)) (b.bindsN fun _ _ _ _ _ _ us hl => match us, hl with | [_, _], _ => rfl)
theorem ln_count_inputs : ∀ as d, R_count_inputs as d → as.length = 1 := by
  rintro as d ⟨_, _, rfl, _⟩
  rfl
theorem c_count_inputs (Y : Hy F mg) : C8.Cal P w (wdOf F).K mg base 1 "count_inputs" (spOf (wdOf F) R_count_inputs) [] := by
  obtain ⟨fd, b⟩ := Y.d (dT "count_inputs" 21) (List.mem_of_getElem? (i := 4) rfl)
  exact cal_of (w_count_inputs (k := 0) Y.T) sc_count_inputs (ln_count_inputs) b (Y.g "count_inputs" (List.mem_of_getElem? (i := 4) rfl)) (b.bindsN fun _ _ _ _ _ _ us hl => match us, hl with | [_], _ => rfl)
theorem ln_reached : ∀ as d, R_reached as d → as.length = 2 := by
  rintro as d ⟨_, _, _, _, rfl, _⟩
  rfl
theorem c_reached (Y : Hy F mg) : C8.Cal P w (wdOf F).K mg base 1 "reached" (spOf (wdOf F) R_reached) [] := by
  obtain ⟨fd, b⟩ := Y.d (dT "reached" 30) (List.mem_of_getElem? (i := 7) rfl)
  exact cal_of (w_reached (k := 0) Y.T) sc_reached (ln_reached) b (Y.g "reached" (List.mem_of_getElem? (i := 7) rfl)) (b.bindsN fun _ _ _ _ _ _ us hl => match us, hl with | [_, _], _ => rfl)
theorem ln_check_input : ∀ as d, R_check_input as d → as.length = 2 := by
  rintro as d ⟨_, _, _, rfl, _⟩
  rfl
theorem c_check_input (Y : Hy F mg) : C8.Cal P w (wdOf F).K mg base 1 "check_input" (spOf (wdOf F) R_check_input) [] := by
  obtain ⟨fd, b⟩ := Y.d (dT "check_input" 18) (List.mem_of_getElem? (i := 1) rfl)
  exact cal_of (w_check_input (k := 0) Y.T) sc_check_input (ln_check_input) b (Y.g "check_input" (List.mem_of_getElem? (i := 1) rfl)) (b.bindsN fun _ _ _ _ _ _ us hl => match us, hl with | [_, _], _ => rfl)
theorem ln_subgroup_at : ∀ as d, R_subgroup_at as d → as.length = 2 := by
  rintro as d ⟨_, _, _, rfl, _⟩
  rfl
theorem c_subgroup_at (Y : Hy F mg) : C8.Cal P w (wdOf F).K mg base 1 "subgroup_at" (spOf (wdOf F) R_subgroup_at) [] := by
  obtain ⟨fd, b⟩ := Y.d (dT "subgroup_at" 39) (List.mem_of_getElem? (i := 14) rfl)
  exact cal_of (w_subgroup_at (k := 0) Y.T) sc_subgroup_at (ln_subgroup_at) b (Y.g "subgroup_at" (List.mem_of_getElem? (i := 14) rfl)) (b.bindsN fun _ _ _ _ _ _ us hl => match us, hl with | [_, _], _ => rfl)
theorem ln_followed : ∀ as d, R_followed as d → as.length = 2 := by
  rintro as d ⟨_, _, _, rfl, _⟩
  rfl
theorem c_followed (Y : Hy F mg) : C8.Cal P w (wdOf F).K mg base 1 "followed" (spOf (wdOf F) R_followed) [] := by
  obtain ⟨fd, b⟩ := Y.d (dT "followed" 60) (List.mem_of_getElem? (i := 29) rfl)
  exact cal_of (w_followed (k := 0) Y.T) sc_followed (ln_followed) b (Y.g "followed" (List.mem_of_getElem? (i := 29) rfl)) (b.bindsN fun _ _ _ _ _ _ us hl => match us, hl with | [_, _], _ => rfl)
theorem ln_check_moves : ∀ as d, R_check_moves as d → as.length = 1 := by
  rintro as d ⟨_, rfl, _⟩
  rfl
theorem c_check_moves (Y : Hy F mg) : C8.Cal P w (wdOf F).K mg base 1 "check_moves" (spOf (wdOf F) R_check_moves) [] := by
  obtain ⟨fd, b⟩ := Y.d (dT "check_moves" 59) (List.mem_of_getElem? (i := 28) rfl)
  exact cal_of (w_check_moves (k := 0) Y.T) sc_check_moves (ln_check_moves) b (Y.g "check_moves" (List.mem_of_getElem? (i := 28) rfl)) (b.bindsN fun _ _ _ _ _ _ us hl => match us, hl with | [_], _ => rfl)
theorem ln_check_count : ∀ as d, R_check_count as d → as.length = 1 := by
  rintro as d ⟨_, rfl, _⟩
  rfl
theorem c_check_count (Y : Hy F mg) : C8.Cal P w (wdOf F).K mg base 1 "check_count" (spOf (wdOf F) R_check_count) [] := by
  obtain ⟨fd, b⟩ := Y.d (dT "check_count" 48) (List.mem_of_getElem? (i := 20) rfl)
  exact cal_of (w_check_count (k := 0) Y.T) sc_check_count (ln_check_count) b (Y.g "check_count" (List.mem_of_getElem? (i := 20) rfl)) (b.bindsN fun _ _ _ _ _ _ us hl => match us, hl with | [_], _ => rfl)
theorem ln__law_numbers : ∀ as d, R__law_numbers as d → as.length = 2 := by
  rintro as d ⟨_, _, rfl, _⟩
  rfl
theorem c__law_numbers (Y : Hy F mg) : C8.Cal P w (wdOf F).K mg base 1 "_law_numbers" (spOf (wdOf F) R__law_numbers) [] := by
  obtain ⟨fd, b⟩ := Y.d (dT "_law_numbers" 73) (List.mem_of_getElem? (i := 36) rfl)
  exact cal_of (w__law_numbers (k := 0) Y.T) sc__law_numbers (ln__law_numbers) b (Y.g "_law_numbers" (List.mem_of_getElem? (i := 36) rfl)) (b.bindsN fun _ _ _ _ _ _ us hl => match us, hl with | [_, _], _ => rfl)
theorem ln__law_order : ∀ as d, R__law_order as d → as.length = 2 := by
  rintro as d ⟨_, _, rfl, _⟩
  rfl
theorem c__law_order (Y : Hy F mg) : C8.Cal P w (wdOf F).K mg base 1 "_law_order" (spOf (wdOf F) R__law_order) [] := by
  obtain ⟨fd, b⟩ := Y.d (dT "_law_order" 78) (List.mem_of_getElem? (i := 41) rfl)
  exact cal_of (w__law_order (k := 0) Y.T) sc__law_order (ln__law_order) b (Y.g "_law_order" (List.mem_of_getElem? (i := 41) rfl)) (b.bindsN fun _ _ _ _ _ _ us hl => match us, hl with | [_, _], _ => rfl)
theorem ln__law_no_clash : ∀ as d, R__law_no_clash as d → as.length = 2 := by
  rintro as d ⟨_, _, _, rfl, _⟩
  rfl
theorem c__law_no_clash (Y : Hy F mg) : C8.Cal P w (wdOf F).K mg base 1 "_law_no_clash" (spOf (wdOf F) R__law_no_clash) [] := by
  obtain ⟨fd, b⟩ := Y.d (dT "_law_no_clash" 79) (List.mem_of_getElem? (i := 42) rfl)
  exact cal_of (w__law_no_clash (k := 0) Y.T) sc__law_no_clash (ln__law_no_clash) b (Y.g "_law_no_clash" (List.mem_of_getElem? (i := 42) rfl)) (b.bindsN fun _ _ _ _ _ _ us hl => match us, hl with | [_, _], _ => rfl)
theorem ln__law_draw : ∀ as d, R__law_draw as d → as.length = 2 := by
  rintro as d ⟨_, _, rfl, _⟩
  rfl
theorem c__law_draw (Y : Hy F mg) : C8.Cal P w (wdOf F).K mg base 1 "_law_draw" (spOf (wdOf F) R__law_draw) [] := by
  obtain ⟨fd, b⟩ := Y.d (dT "_law_draw" 80) (List.mem_of_getElem? (i := 43) rfl)
  exact cal_of (w__law_draw (k := 0) Y.T) sc__law_draw (ln__law_draw) b (Y.g "_law_draw" (List.mem_of_getElem? (i := 43) rfl)) (b.bindsN fun _ _ _ _ _ _ us hl => match us, hl with | [_, _], _ => rfl)
theorem ln__law_drawn_counts : ∀ as d, R__law_drawn_counts as d → as.length = 3 := by
  rintro as d ⟨_, _, _, _, _, _, _, rfl, _⟩
  rfl
theorem c__law_drawn_counts (Y : Hy F mg) : C8.Cal P w (wdOf F).K mg base 1 "_law_drawn_counts" (spOf (wdOf F) R__law_drawn_counts) [] := by
  obtain ⟨fd, b⟩ := Y.d (dT "_law_drawn_counts" 82) (List.mem_of_getElem? (i := 45) rfl)
  exact cal_of (w__law_drawn_counts (k := 0) Y.T) sc__law_drawn_counts (ln__law_drawn_counts) b (Y.g "_law_drawn_counts" (List.mem_of_getElem? (i := 45) rfl)) (b.bindsN fun _ _ _ _ _ _ us hl => match us, hl with | [_, _, _], _ => rfl)
theorem ln__law_first_clash : ∀ as d, R__law_first_clash as d → as.length = 3 := by
  rintro as d ⟨_, _, _, _, rfl, _⟩
  rfl
theorem c__law_first_clash (Y : Hy F mg) : C8.Cal P w (wdOf F).K mg base 1 "_law_first_clash" (spOf (wdOf F) R__law_first_clash) [] := by
  obtain ⟨fd, b⟩ := Y.d (dT "_law_first_clash" 83) (List.mem_of_getElem? (i := 46) rfl)
  exact cal_of (w__law_first_clash (k := 0) Y.T) sc__law_first_clash (ln__law_first_clash) b (Y.g "_law_first_clash" (List.mem_of_getElem? (i := 46) rfl)) (b.bindsN fun _ _ _ _ _ _ us hl => match us, hl with | [_, _, _], _ => rfl)
theorem ln_shelf_names : ∀ as d, R_shelf_names as d → as.length = 0 := by
  rintro as d ⟨rfl, _⟩
  rfl
theorem c_shelf_names (Y : Hy F mg) : C8.Cal P w (wdOf F).K mg base 1 "shelf_names" (spOf (wdOf F) R_shelf_names) [] := by
  obtain ⟨fd, b⟩ := Y.d (dT "shelf_names" 65) (List.mem_of_getElem? (i := 32) rfl)
  exact cal_of (w_shelf_names (k := 0) (Y.g "SHELF" (List.mem_of_getElem? (i := 53) rfl)) Y.sh) sc_shelf_names (ln_shelf_names) b (Y.g "shelf_names" (List.mem_of_getElem? (i := 32) rfl)) (b.bindsN fun _ _ _ _ _ _ us hl => match us, hl with | [], _ => rfl)
theorem ln_light_inputs : ∀ as d, R_light_inputs as d → as.length = 2 := by
  rintro as d ⟨_, _, rfl, _⟩
  rfl
theorem c_light_inputs (Y : Hy F mg) (TB : TbOk F mg base) : C8.Cal P w (wdOf F).K mg base 6 "light_inputs" (spOf (wdOf F) R_light_inputs) [] := by
  obtain ⟨fd, b⟩ := Y.d (dT "light_inputs" 22) (List.mem_of_getElem? (i := 5) rfl)
  exact cal_ofC (w_light_inputs Y.T (c_check_shape Y) (c_weight Y) TB.1 List.mem_cons_self (fun q hq e => by
    rcases List.mem_cons.mp hq with rfl | hq
    · first | rfl | exact absurd e Y.ne
    · rcases List.mem_cons.mp hq with rfl | hq
      · first | rfl | exact absurd e Y.ne.symm
      · simp at hq)) sc_light_inputs (ln_light_inputs) b (code_of (st := top 22) (p := dfA) b) (Y.g "light_inputs" (List.mem_of_getElem? (i := 5) rfl)) (b.bindsN fun _ _ _ _ _ _ us hl => match us, hl with | [_, _], _ => rfl)
theorem ln_inputs_of : ∀ as d, R_inputs_of as d → as.length = 1 := by
  rintro as d ⟨_, _, rfl, _⟩
  rfl
theorem c_inputs_of (Y : Hy F mg) (TB : TbOk F mg base) : C8.Cal P w (wdOf F).K mg base 7 "inputs_of" (spOf (wdOf F) R_inputs_of) [] := by
  obtain ⟨fd, b⟩ := Y.d (dT "inputs_of" 23) (List.mem_of_getElem? (i := 6) rfl)
  exact cal_of (w_inputs_of Y.T (c_light_inputs Y TB)) sc_inputs_of (ln_inputs_of) b (Y.g "inputs_of" (List.mem_of_getElem? (i := 6) rfl)) (b.bindsN fun _ _ _ _ _ _ us hl => match us, hl with | [_], _ => rfl)
theorem ln__law_inputs : ∀ as d, R__law_inputs as d → as.length = 1 := by
  rintro as d ⟨_, _, rfl, _⟩
  rfl
theorem c__law_inputs (Y : Hy F mg) (TB : TbOk F mg base) : C8.Cal P w (wdOf F).K mg base 6 "_law_inputs" (spOf (wdOf F) R__law_inputs) [] := by
  obtain ⟨fd, b⟩ := Y.d (dT "_law_inputs" 77) (List.mem_of_getElem? (i := 40) rfl)
  exact cal_ofC (w__law_inputs Y.T (c__law_weight Y) TB.2 (List.mem_cons_of_mem _ List.mem_cons_self) (fun q hq e => by
    rcases List.mem_cons.mp hq with rfl | hq
    · first | rfl | exact absurd e Y.ne
    · rcases List.mem_cons.mp hq with rfl | hq
      · first | rfl | exact absurd e Y.ne.symm
      · simp at hq)) sc__law_inputs (ln__law_inputs) b (code_of (st := top 77) (p := dfB) b) (Y.g "_law_inputs" (List.mem_of_getElem? (i := 40) rfl)) (b.bindsN fun _ _ _ _ _ _ us hl => match us, hl with | [_], _ => rfl)
theorem ln_generating_members : ∀ as d, R_generating_members as d → as.length = 1 := by
  rintro as d ⟨_, _, rfl, _⟩
  rfl
theorem c_generating_members (Y : Hy F mg) : C8.Cal P w (wdOf F).K mg base 2 "generating_members" (spOf (wdOf F) R_generating_members) [] := by
  obtain ⟨fd, b⟩ := Y.d (dT "generating_members" 31) (List.mem_of_getElem? (i := 8) rfl)
  exact cal_of (w_generating_members Y.T (c_reached Y)) sc_generating_members (ln_generating_members) b (Y.g "generating_members" (List.mem_of_getElem? (i := 8) rfl)) (b.bindsN fun _ _ _ _ _ _ us hl => match us, hl with | [_], _ => rfl)
theorem ln_is_associative : ∀ as d, R_is_associative as d → as.length = 1 := by
  rintro as d ⟨_, rfl, _⟩
  rfl
theorem c_is_associative (Y : Hy F mg) : C8.Cal P w (wdOf F).K mg base 3 "is_associative" (spOf (wdOf F) R_is_associative) [] := by
  obtain ⟨fd, b⟩ := Y.d (dT "is_associative" 32) (List.mem_of_getElem? (i := 9) rfl)
  exact cal_of (w_is_associative Y.T (c_generating_members Y)) sc_is_associative (ln_is_associative) b (Y.g "is_associative" (List.mem_of_getElem? (i := 9) rfl)) (b.bindsN fun _ _ _ _ _ _ us hl => match us, hl with | [_], _ => rfl)
theorem ln_table_fault : ∀ as d, R_table_fault as d → as.length = 1 := by
  rintro as d ⟨_, rfl, _⟩
  rfl
theorem c_table_fault (Y : Hy F mg) : C8.Cal P w (wdOf F).K mg base 4 "table_fault" (spOf (wdOf F) R_table_fault) [] := by
  obtain ⟨fd, b⟩ := Y.d (dT "table_fault" 33) (List.mem_of_getElem? (i := 10) rfl)
  exact cal_of (w_table_fault Y.T (c_is_associative Y)) sc_table_fault (ln_table_fault) b (Y.g "table_fault" (List.mem_of_getElem? (i := 10) rfl)) (b.bindsN fun _ _ _ _ _ _ us hl => match us, hl with | [_], _ => rfl)
theorem ln_Group : ∀ as fs, R_Group as fs → as.length = 1 := by
  rintro as fs ⟨_, rfl, _⟩
  rfl
theorem k_Group (Y : Hy F mg) : C8.Mak P w (wdOf F).K mg base 5 "Group" ((wdOf F).cl 0) (spI (wdOf F) 0 R_Group) [] := by
  obtain ⟨fd, b⟩ := Y.d (dM "Group" "__init__" "Group.__init__" 34 0) (List.mem_of_getElem? (i := 50) rfl)
  exact mak_of (n := 1) (w_Group___init__ Y.T Y.X (c_table_fault Y)) sc_Group___init__ rfl ln_Group (by decide) b Y.mk0 (Y.g "Group" (List.mem_of_getElem? (i := 50) rfl)) (b.bindsN fun _ _ _ _ _ _ us hl => match us, hl with | [_, _], _ => rfl)
theorem ln_check : ∀ as d, R_check as d → as.length = 2 := by
  rintro as d ⟨_, _, rfl, _⟩
  rfl
theorem m_Group_check (Y : Hy F mg) : C8.Met P w (wdOf F).K mg base 1 ((wdOf F).cl 0) "check" (spOf (wdOf F) R_check) [] := by
  obtain ⟨fd, b⟩ := Y.d (dM "Group" "check" "Group.check" 34 6) (List.mem_of_getElem? (i := 53) rfl)
  exact met_of (w_Group_check (k := 0) Y.X) sc_Group_check ln_check b Y.X.c0 Y.mc (b.bindsN fun _ _ _ _ _ _ us hl => match us, hl with | [_, _], _ => rfl)
theorem ln_glen : ∀ as d, R_glen as d → as.length = 1 := by
  rintro as d ⟨_, rfl, _⟩
  rfl
theorem f_Group___len__ (Y : Hy F mg) : FnR P w (wdOf F).K mg base C8.CX0 1 (He.ma F (He.ga F "Group") "__len__") (spOf (wdOf F) R_glen) := by
  obtain ⟨fd, b⟩ := Y.d (dM "Group" "__len__" "Group.__len__" 34 2) (List.mem_of_getElem? (i := 51) rfl)
  exact fnr_of (w_Group___len__ (k := 0) Y.T Y.X) sc_Group___len__ ln_glen b (b.bindsN fun _ _ _ _ _ _ us hl => match us, hl with | [_], _ => rfl)
theorem ln_gin : ∀ as d, R_gin as d → as.length = 2 := by
  rintro as d ⟨_, _, rfl, _⟩
  rfl
theorem f_Group___contains__ (Y : Hy F mg) : FnR P w (wdOf F).K mg base C8.CX0 1 (He.ma F (He.ga F "Group") "__contains__") (spOf (wdOf F) R_gin) := by
  obtain ⟨fd, b⟩ := Y.d (dM "Group" "__contains__" "Group.__contains__" 34 3) (List.mem_of_getElem? (i := 52) rfl)
  exact fnr_of (w_Group___contains__ (k := 0) Y.X) sc_Group___contains__ ln_gin b (b.bindsN fun _ _ _ _ _ _ us hl => match us, hl with | [_, _], _ => rfl)
theorem ln_comm : ∀ as d, R_comm as d → as.length = 3 := by
  rintro as d ⟨_, _, _, rfl, _⟩
  rfl
theorem m_Group_commutator (Y : Hy F mg) : C8.Met P w (wdOf F).K mg base 2 ((wdOf F).cl 0) "commutator" (spOf (wdOf F) R_comm) [] := by
  obtain ⟨fd, b⟩ := Y.d (dM "Group" "commutator" "Group.commutator" 34 10) (List.mem_of_getElem? (i := 54) rfl)
  exact met_of (w_Group_commutator Y.X (m_Group_check Y)) sc_Group_commutator ln_comm b Y.X.c0 Y.mo (b.bindsN fun _ _ _ _ _ _ us hl => match us, hl with | [_, _, _], _ => rfl)
theorem ln_generated : ∀ as d, R_generated as d → as.length = 2 := by
  rintro as d ⟨_, _, _, rfl, _⟩
  rfl
theorem c_generated (Y : Hy F mg) : C8.Cal P w (wdOf F).K mg base 2 "generated" (spOf (wdOf F) R_generated) [] := by
  obtain ⟨fd, b⟩ := Y.d (dT "generated" 35) (List.mem_of_getElem? (i := 11) rfl)
  exact cal_of (w_generated Y.T Y.X (m_Group_check Y) (c_reached Y)) sc_generated (ln_generated) b (Y.g "generated" (List.mem_of_getElem? (i := 11) rfl)) (b.bindsN fun _ _ _ _ _ _ us hl => match us, hl with | [_, _], _ => rfl)
theorem ln_cyclic (W : Wd) : ∀ as d, R_cyclic W as d → as.length = 2 := by
  rintro as d ⟨_, _, _, rfl, _⟩
  rfl
theorem f_Group_cyclic (Y : Hy F mg) : FnR P w (wdOf F).K mg base C8.CX0 7 (He5.wf F (He.ga F "Group") "classmethod" "cyclic") (spOf (wdOf F) (R_cyclic (wdOf F))) := by
  obtain ⟨fd, b⟩ := Y.d (dC "Group" "cyclic" "Group.cyclic" 34 1) (List.mem_of_getElem? (i := 59) rfl)
  exact fnr_of (w_Group_cyclic Y.T (k_Group Y)) sc_Group_cyclic (ln_cyclic _) b (b.bindsN fun _ _ _ _ _ _ us hl => match us, hl with | [_, _], _ => rfl)
theorem ln_csub : ∀ as d, R_csub as d → as.length = 3 := by
  rintro as d ⟨_, _, _, _, rfl, _⟩
  rfl
theorem c_commutator_subgroup (Y : Hy F mg) : C8.Cal P w (wdOf F).K mg base 3 "commutator_subgroup" (spOf (wdOf F) R_csub) [] := by
  obtain ⟨fd, b⟩ := Y.d (dT "commutator_subgroup" 36) (List.mem_of_getElem? (i := 12) rfl)
  exact cal_of (w_commutator_subgroup Y.T Y.X (m_Group_check Y) (m_Group_commutator Y) (c_generated Y)) sc_commutator_subgroup (ln_csub) b (Y.g "commutator_subgroup" (List.mem_of_getElem? (i := 12) rfl)) (b.bindsN fun _ _ _ _ _ _ us hl => match us, hl with | [_, _, _], _ => rfl)
theorem ln_lower_row : ∀ as d, R_lower_row as d → as.length = 1 := by
  rintro as d ⟨_, rfl, _⟩
  rfl
theorem c_lower_row (Y : Hy F mg) : C8.Cal P w (wdOf F).K mg base 4 "lower_row" (spOf (wdOf F) R_lower_row) [] := by
  obtain ⟨fd, b⟩ := Y.d (dT "lower_row" 38) (List.mem_of_getElem? (i := 13) rfl)
  exact cal_of (w_lower_row Y.T Y.X (c_commutator_subgroup Y)) sc_lower_row (ln_lower_row) b (Y.g "lower_row" (List.mem_of_getElem? (i := 13) rfl)) (b.bindsN fun _ _ _ _ _ _ us hl => match us, hl with | [_], _ => rfl)
theorem ln_check_table : ∀ as d, R_check_table as d → as.length = 2 := by
  rintro as d ⟨_, _, _, rfl, _⟩
  rfl
theorem c_check_table (Y : Hy F mg) : C8.Cal P w (wdOf F).K mg base 2 "check_table" (spOf (wdOf F) R_check_table) [] := by
  obtain ⟨fd, b⟩ := Y.d (dT "check_table" 41) (List.mem_of_getElem? (i := 15) rfl)
  exact cal_of (w_check_table Y.T (c_check_shape Y) (c_count_inputs Y)) sc_check_table (ln_check_table) b (Y.g "check_table" (List.mem_of_getElem? (i := 15) rfl)) (b.bindsN fun _ _ _ _ _ _ us hl => match us, hl with | [_, _], _ => rfl)
theorem ln_clash : ∀ as d, R_clash as d → as.length = 2 := by
  rintro as d ⟨_, _, _, _, _, rfl, _⟩
  rfl
theorem c_clash (Y : Hy F mg) (TB : TbOk F mg base) : C8.Cal P w (wdOf F).K mg base 8 "clash" (spOf (wdOf F) R_clash) [] := by
  obtain ⟨fd, b⟩ := Y.d (dT "clash" 45) (List.mem_of_getElem? (i := 17) rfl)
  exact cal_of (w_clash Y.T Y.X (c_check_table Y) (c_inputs_of Y TB)) sc_clash (ln_clash) b (Y.g "clash" (List.mem_of_getElem? (i := 17) rfl)) (b.bindsN fun _ _ _ _ _ _ us hl => match us, hl with | [_, _], _ => rfl)
theorem ln_decides : ∀ as d, R_decides as d → as.length = 2 := by
  rintro as d ⟨_, _, _, _, _, rfl, _⟩
  rfl
theorem c_decides (Y : Hy F mg) (TB : TbOk F mg base) : C8.Cal P w (wdOf F).K mg base 9 "decides" (spOf (wdOf F) R_decides) [] := by
  obtain ⟨fd, b⟩ := Y.d (dT "decides" 46) (List.mem_of_getElem? (i := 18) rfl)
  exact cal_of (w_decides (c_clash Y TB)) sc_decides (ln_decides) b (Y.g "decides" (List.mem_of_getElem? (i := 18) rfl)) (b.bindsN fun _ _ _ _ _ _ us hl => match us, hl with | [_, _], _ => rfl)
theorem ln_choices : ∀ as d, R_choices as d → as.length = 2 := by
  rintro as d ⟨_, _, _, rfl, _⟩
  rfl
theorem c_coefficient_choices (Y : Hy F mg) : C8.Cal P w (wdOf F).K mg base 2 "coefficient_choices" (spOf (wdOf F) R_choices) [] := by
  obtain ⟨fd, b⟩ := Y.d (dT "coefficient_choices" 47) (List.mem_of_getElem? (i := 19) rfl)
  exact cal_of (w_coefficient_choices (c_subgroup_at Y) (c_weight Y)) sc_coefficient_choices (ln_choices) b (Y.g "coefficient_choices" (List.mem_of_getElem? (i := 19) rfl)) (b.bindsN fun _ _ _ _ _ _ us hl => match us, hl with | [_, _], _ => rfl)
theorem ln_searched : ∀ as z, R_searched as z → as.length = 4 := by
  rintro as z ⟨_, _, _, _, _, _, rfl, _⟩
  rfl
theorem c_searched_entries (Y : Hy F mg) : CalG P w (wdOf F).K mg base 2 "searched_entries" (spG (wdOf F) R_searched) := by
  obtain ⟨fd, b⟩ := Y.d (dT "searched_entries" 49) (List.mem_of_getElem? (i := 21) rfl)
  exact ⟨_, gfn_of (w_searched_entries Y.T Y.X (c_lies_under Y)) sc_searched_entries ln_searched b (b.bindsN fun _ _ _ _ _ _ us hl => match us, hl with | [_, _, _, _], _ => rfl), (Y.g "searched_entries" (List.mem_of_getElem? (i := 21) rfl)), b.kp⟩
theorem ln_ChartL : ∀ as fs, R_ChartL as fs → as.length = 3 := by
  rintro as fs ⟨_, _, _, _, rfl, _⟩
  rfl
theorem ln_ChartT : ∀ as fs, R_ChartT as fs → as.length = 3 := by
  rintro as fs ⟨_, _, _, _, rfl, _⟩
  rfl
theorem k_Chart (Y : Hy F mg) : C8.Mak P w (wdOf F).K mg base 2 "Chart" ((wdOf F).cl 1) (spI (wdOf F) 1 R_Chart) [] := by
  obtain ⟨fd, b⟩ := Y.d (dM "Chart" "__init__" "Chart.__init__" 27 0) (List.mem_of_getElem? (i := 55) rfl)
  exact mak_of2 (n := 3) (w_ChartL Y.T Y.X (c_check_shape Y) (c_count_inputs Y) (m_Group_check Y)) (w_ChartT Y.T Y.X (c_check_shape Y) (c_count_inputs Y) (m_Group_check Y)) sc_Chart___init__ rfl ln_ChartL ln_ChartT (by decide) b Y.mk1 (Y.g "Chart" (List.mem_of_getElem? (i := 51) rfl)) (b.bindsN fun _ _ _ _ _ _ us hl => match us, hl with | [_, _, _, _], _ => rfl)
theorem ln_chart_by_row : ∀ as d, R_chart_by_row as d → as.length = 4 := by
  rintro as d ⟨_, _, _, _, _, _, rfl, _⟩
  rfl
theorem c_chart_by_row (Y : Hy F mg) (TB : TbOk F mg base) : C8.Cal P w (wdOf F).K mg base 8 "chart_by_row" (spOf (wdOf F) R_chart_by_row) [] := by
  obtain ⟨fd, b⟩ := Y.d (dT "chart_by_row" 50) (List.mem_of_getElem? (i := 22) rfl)
  exact cal_of (w_chart_by_row (c_inputs_of Y TB) (c_coefficient_choices Y) (c_check_count Y) (k_Chart Y) (c_searched_entries Y)) sc_chart_by_row (ln_chart_by_row) b (Y.g "chart_by_row" (List.mem_of_getElem? (i := 22) rfl)) (b.bindsN fun _ _ _ _ _ _ us hl => match us, hl with | [_, _, _, _], _ => rfl)
theorem ln_deciding_chart : ∀ as d, R_deciding_chart as d → as.length = 3 := by
  rintro as d ⟨_, _, _, _, _, _, rfl, _⟩
  rfl
theorem c_deciding_chart (Y : Hy F mg) (TB : TbOk F mg base) : C8.Cal P w (wdOf F).K mg base 9 "deciding_chart" (spOf (wdOf F) R_deciding_chart) [] := by
  obtain ⟨fd, b⟩ := Y.d (dT "deciding_chart" 51) (List.mem_of_getElem? (i := 23) rfl)
  exact cal_of (w_deciding_chart (c_check_table Y) (c_lower_row Y) (c_chart_by_row Y TB)) sc_deciding_chart (ln_deciding_chart) b (Y.g "deciding_chart" (List.mem_of_getElem? (i := 23) rfl)) (b.bindsN fun _ _ _ _ _ _ us hl => match us, hl with | [_, _, _], _ => rfl)
theorem ln_product_below : ∀ as d, R_product_below as d → as.length = 4 := by
  rintro as d ⟨_, _, _, _, _, _, rfl, _⟩
  rfl
theorem c_product_below (Y : Hy F mg) : C8.Cal P w (wdOf F).K mg base 2 "product_below" (spOf (wdOf F) R_product_below) [] := by
  obtain ⟨fd, b⟩ := Y.d (dT "product_below" 53) (List.mem_of_getElem? (i := 24) rfl)
  exact cal_of (w_product_below Y.T Y.X (c_lies_under Y)) sc_product_below (ln_product_below) b (Y.g "product_below" (List.mem_of_getElem? (i := 24) rfl)) (b.bindsN fun _ _ _ _ _ _ us hl => match us, hl with | [_, _, _, _], _ => rfl)
theorem ln_coefficients : ∀ as d, R_coefficients as d → as.length = 1 := by
  rintro as d ⟨_, _, _, _, _, rfl, _⟩
  rfl
theorem c_coefficients (Y : Hy F mg) (TB : TbOk F mg base) : C8.Cal P w (wdOf F).K mg base 8 "coefficients" (spOf (wdOf F) R_coefficients) [] := by
  obtain ⟨fd, b⟩ := Y.d (dT "coefficients" 54) (List.mem_of_getElem? (i := 25) rfl)
  exact cal_of (w_coefficients Y.T Y.X (c_inputs_of Y TB) (c_product_below Y)) sc_coefficients (ln_coefficients) b (Y.g "coefficients" (List.mem_of_getElem? (i := 25) rfl)) (b.bindsN fun _ _ _ _ _ _ us hl => match us, hl with | [_], _ => rfl)
theorem ln_obstacle : ∀ as d, R_obstacle as d → as.length = 1 := by
  rintro as d ⟨_, _, _, _, _, rfl, _⟩
  rfl
theorem c_obstacle (Y : Hy F mg) (TB : TbOk F mg base) : C8.Cal P w (wdOf F).K mg base 9 "obstacle" (spOf (wdOf F) R_obstacle) [] := by
  obtain ⟨fd, b⟩ := Y.d (dT "obstacle" 56) (List.mem_of_getElem? (i := 26) rfl)
  exact cal_of (w_obstacle Y.T Y.X (c_lower_row Y) (c_inputs_of Y TB) (c_coefficients Y TB) (c_subgroup_at Y) (c_weight Y)) sc_obstacle (ln_obstacle) b (Y.g "obstacle" (List.mem_of_getElem? (i := 26) rfl)) (b.bindsN fun _ _ _ _ _ _ us hl => match us, hl with | [_], _ => rfl)
theorem ln_is_programmable : ∀ as d, R_is_programmable as d → as.length = 1 := by
  rintro as d ⟨_, _, _, _, _, rfl, _⟩
  rfl
theorem c_is_programmable (Y : Hy F mg) (TB : TbOk F mg base) : C8.Cal P w (wdOf F).K mg base 10 "is_programmable" (spOf (wdOf F) R_is_programmable) [] := by
  obtain ⟨fd, b⟩ := Y.d (dT "is_programmable" 57) (List.mem_of_getElem? (i := 27) rfl)
  exact cal_of (w_is_programmable (c_obstacle Y TB)) sc_is_programmable (ln_is_programmable) b (Y.g "is_programmable" (List.mem_of_getElem? (i := 27) rfl)) (b.bindsN fun _ _ _ _ _ _ us hl => match us, hl with | [_], _ => rfl)
theorem ln_closed_moves : ∀ as d, R_closed_moves as d → as.length = 1 := by
  rintro as d ⟨_, _, rfl, _⟩
  rfl
theorem c_closed_moves (Y : Hy F mg) : C8.Cal P w (wdOf F).K mg base 2 "closed_moves" (spOf (wdOf F) R_closed_moves) [] := by
  obtain ⟨fd, b⟩ := Y.d (dT "closed_moves" 61) (List.mem_of_getElem? (i := 30) rfl)
  exact cal_ofD (w_closed_moves Y.T (c_followed Y)) sc_closed_moves (ln_closed_moves) b (Y.g "closed_moves" (List.mem_of_getElem? (i := 30) rfl)) (b.bindsN fun _ _ _ _ _ _ us hl => match us, hl with | [_], _ => rfl)
theorem ln_group_of_moves : ∀ as d, R_group_of_moves as d → as.length = 1 := by
  rintro as d ⟨_, _, rfl, _⟩
  rfl
theorem c_group_of_moves (Y : Hy F mg) : C8.Cal P w (wdOf F).K mg base 7 "group_of_moves" (spOf (wdOf F) R_group_of_moves) [] := by
  obtain ⟨fd, b⟩ := Y.d (dT "group_of_moves" 62) (List.mem_of_getElem? (i := 31) rfl)
  exact cal_of (w_group_of_moves Y.T (c_check_moves Y) (c_closed_moves Y) (c_followed Y) (k_Group Y)) sc_group_of_moves (ln_group_of_moves) b (Y.g "group_of_moves" (List.mem_of_getElem? (i := 31) rfl)) (b.bindsN fun _ _ _ _ _ _ us hl => match us, hl with | [_], _ => rfl)
theorem ln_shelf_group : ∀ as d, R_shelf_group as d → as.length = 1 := by
  rintro as d ⟨_, rfl, _⟩
  rfl
theorem c_shelf_group (Y : Hy F mg) : C8.Cal P w (wdOf F).K mg base 8 "shelf_group" (spOf (wdOf F) R_shelf_group) [] := by
  obtain ⟨fd, b⟩ := Y.d (dT "shelf_group" 66) (List.mem_of_getElem? (i := 33) rfl)
  exact cal_of (w_shelf_group (Y.g "SHELF" (List.mem_of_getElem? (i := 53) rfl)) Y.sh (c_group_of_moves Y)) sc_shelf_group (ln_shelf_group) b (Y.g "shelf_group" (List.mem_of_getElem? (i := 33) rfl)) (b.bindsN fun _ _ _ _ _ _ us hl => match us, hl with | [_], _ => rfl)
theorem ln_least_group : ∀ as d, R_least_group as d → as.length = 2 := by
  rintro as d ⟨_, _, _, _, _, rfl, _⟩
  rfl
theorem c_least_group (Y : Hy F mg) (TB : TbOk F mg base) : C8.Cal P w (wdOf F).K mg base 10 "least_group" (spOf (wdOf F) R_least_group) [] := by
  obtain ⟨fd, b⟩ := Y.d (dT "least_group" 68) (List.mem_of_getElem? (i := 34) rfl)
  exact cal_of (w_least_group (c_shelf_names Y) (c_shelf_group Y) (c_deciding_chart Y TB)) sc_least_group (ln_least_group) b (Y.g "least_group" (List.mem_of_getElem? (i := 34) rfl)) (b.bindsN fun _ _ _ _ _ _ us hl => match us, hl with | [_, _], _ => rfl)
theorem ln_is_step : ∀ as d, R_is_step as d → as.length = 3 := by
  rintro as d ⟨_, _, _, rfl, _⟩
  rfl
theorem c_is_step (Y : Hy F mg) : C8.Cal P w (wdOf F).K mg base 2 "is_step" (spOf (wdOf F) R_is_step) [] := by
  obtain ⟨fd, b⟩ := Y.d (dT "is_step" 70) (List.mem_of_getElem? (i := 35) rfl)
  exact cal_of (w_is_step Y.T Y.si (f_Group___contains__ Y)) sc_is_step (ln_is_step) b (Y.g "is_step" (List.mem_of_getElem? (i := 35) rfl)) (b.bindsN fun _ _ _ _ _ _ us hl => match us, hl with | [_, _, _], _ => rfl)
theorem ln_Program : ∀ as fs, R_Program as fs → as.length = 3 := by
  rintro as fs ⟨_, _, _, _, rfl, _⟩
  rfl
theorem k_Program (Y : Hy F mg) : C8.Mak P w (wdOf F).K mg base 3 "Program" ((wdOf F).cl 2) (spI (wdOf F) 2 R_Program) [] := by
  obtain ⟨fd, b⟩ := Y.d (dM "Program" "__init__" "Program.__init__" 71 0) (List.mem_of_getElem? (i := 56) rfl)
  exact mak_of (n := 3) (w_Program___init__ Y.T Y.X (c_check_shape Y) (c_is_step Y)) sc_Program___init__ rfl ln_Program (by decide) b Y.mk2 (Y.g "Program" (List.mem_of_getElem? (i := 52) rfl)) (b.bindsN fun _ _ _ _ _ _ us hl => match us, hl with | [_, _, _, _], _ => rfl)
theorem ln_pcall : ∀ as d, R_pcall as d → as.length = 2 := by
  rintro as d ⟨_, _, _, _, _, rfl, _⟩
  rfl
theorem f_Program___call__ (Y : Hy F mg) : FnR P w (wdOf F).K mg base C8.CX0 2 (He.ma F (He.ga F "Program") "__call__") (spOf (wdOf F) R_pcall) := by
  obtain ⟨fd, b⟩ := Y.d (dM "Program" "__call__" "Program.__call__" 71 3) (List.mem_of_getElem? (i := 57) rfl)
  exact fnr_of (w_Program___call__ Y.X (c_check_input Y)) sc_Program___call__ ln_pcall b (b.bindsN fun _ _ _ _ _ _ us hl => match us, hl with | [_, _], _ => rfl)
theorem ln_pchart : ∀ as d, R_pchart as d → as.length = 1 := by
  rintro as d ⟨_, _, _, _, rfl, _⟩
  rfl
theorem m_Program_chart (Y : Hy F mg) (TB : TbOk F mg base) : C8.Met P w (wdOf F).K mg base 8 ((wdOf F).cl 2) "chart" (spOf (wdOf F) R_pchart) [] := by
  obtain ⟨fd, b⟩ := Y.d (dM "Program" "chart" "Program.chart" 71 10) (List.mem_of_getElem? (i := 58) rfl)
  exact met_of (w_Program_chart Y.X Y.co (f_Program___call__ Y) (c_inputs_of Y TB) (k_Chart Y)) sc_Program_chart ln_pchart b Y.X.c2 Y.mh (b.bindsN fun _ _ _ _ _ _ us hl => match us, hl with | [_], _ => rfl)
theorem ln_same (n : Nat) : ∀ as d, R_same n as d → as.length = 2 := by
  rintro as d ⟨_, _, rfl, _⟩
  rfl
theorem c_same0 (Y : Hy F mg) : C8.Cal P w (wdOf F).K mg base 1 "_law_same" (spOf (wdOf F) (R_same 0)) [] := by
  obtain ⟨fd, b⟩ := Y.d (dT "_law_same" 74) (List.mem_of_getElem? (i := 37) rfl)
  exact cal_of (w_same0 (k := 0)) sc__law_same (ln_same _) b (Y.g "_law_same" (List.mem_of_getElem? (i := 37) rfl)) (b.bindsN fun _ _ _ _ _ _ us hl => match us, hl with | [_, _], _ => rfl)
theorem c_same1 (Y : Hy F mg) : C8.Cal P w (wdOf F).K mg base 2 "_law_same" (spOf (wdOf F) (R_same 1)) [] := by
  obtain ⟨fd, b⟩ := Y.d (dT "_law_same" 74) (List.mem_of_getElem? (i := 37) rfl)
  exact cal_of (w__law_same Y.T 0 (c_same0 Y)) sc__law_same (ln_same _) b (Y.g "_law_same" (List.mem_of_getElem? (i := 37) rfl)) (b.bindsN fun _ _ _ _ _ _ us hl => match us, hl with | [_, _], _ => rfl)
theorem c_same2 (Y : Hy F mg) : C8.Cal P w (wdOf F).K mg base 3 "_law_same" (spOf (wdOf F) (R_same 2)) [] := by
  obtain ⟨fd, b⟩ := Y.d (dT "_law_same" 74) (List.mem_of_getElem? (i := 37) rfl)
  exact cal_of (w__law_same Y.T 1 (c_same1 Y)) sc__law_same (ln_same _) b (Y.g "_law_same" (List.mem_of_getElem? (i := 37) rfl)) (b.bindsN fun _ _ _ _ _ _ us hl => match us, hl with | [_, _], _ => rfl)
theorem c_same3 (Y : Hy F mg) : C8.Cal P w (wdOf F).K mg base 4 "_law_same" (spOf (wdOf F) (R_same 3)) [] := by
  obtain ⟨fd, b⟩ := Y.d (dT "_law_same" 74) (List.mem_of_getElem? (i := 37) rfl)
  exact cal_of (w__law_same Y.T 2 (c_same2 Y)) sc__law_same (ln_same _) b (Y.g "_law_same" (List.mem_of_getElem? (i := 37) rfl)) (b.bindsN fun _ _ _ _ _ _ us hl => match us, hl with | [_, _], _ => rfl)
theorem ln__law_chart_is : ∀ as d, R__law_chart_is as d → as.length = 4 := by
  rintro as d ⟨_, _, _, _, _, _, _, rfl, _⟩
  rfl
theorem c__law_chart_is (Y : Hy F mg) : C8.Cal P w (wdOf F).K mg base 5 "_law_chart_is" (spOf (wdOf F) R__law_chart_is) [] := by
  obtain ⟨fd, b⟩ := Y.d (dT "_law_chart_is" 75) (List.mem_of_getElem? (i := 38) rfl)
  exact cal_of (w__law_chart_is Y.T Y.X (c_same3 Y)) sc__law_chart_is (ln__law_chart_is) b (Y.g "_law_chart_is" (List.mem_of_getElem? (i := 38) rfl)) (b.bindsN fun _ _ _ _ _ _ us hl => match us, hl with | [_, _, _, _], _ => rfl)
theorem ln_counted : ∀ as d, R_counted as d → as.length = 2 := by
  rintro as d ⟨_, _, _, rfl, _⟩
  rfl
theorem c_counted (Y : Hy F mg) (TB : TbOk F mg base) : CalS P w (wdOf F).K mg base 8 "counted" (spS (wdOf F) R_counted) := by
  obtain ⟨fd, b⟩ := Y.d (dT "counted" 42) (List.mem_of_getElem? (i := 16) rfl)
  exact ⟨_, star_of (p1 := "places") (pv := "counts") (w_counted Y.T (c_inputs_of Y TB) (c_weight Y)) sc_counted b (fun _ _ _ _ _ _ us rest h => match us, rest, h with | [_], [], _ => by rfl | [_], _ :: _, _ => by rfl) ln_counted, (Y.g "counted" (List.mem_of_getElem? (i := 16) rfl)), b.kp⟩
theorem ln__law_counted : ∀ as d, R__law_counted as d → as.length = 2 := by
  rintro as d ⟨_, _, _, _, rfl, _⟩
  rfl
theorem c__law_counted (Y : Hy F mg) (TB : TbOk F mg base) : C8.Cal P w (wdOf F).K mg base 9 "_law_counted" (spOf (wdOf F) R__law_counted) [] := by
  obtain ⟨fd, b⟩ := Y.d (dT "_law_counted" 81) (List.mem_of_getElem? (i := 44) rfl)
  exact cal_of (w__law_counted Y.T (c_counted Y TB)) sc__law_counted (ln__law_counted) b (Y.g "_law_counted" (List.mem_of_getElem? (i := 44) rfl)) (b.bindsN fun _ _ _ _ _ _ us hl => match us, hl with | [_, _], _ => rfl)
theorem ln__law_adding : ∀ as d, R__law_adding as d → as.length = 6 := by
  rintro as d ⟨_, _, _, _, _, _, _, _, _, _, _, _, rfl, _⟩
  rfl
theorem c__law_adding (Y : Hy F mg) : C8.Cal P w (wdOf F).K mg base 5 "_law_adding" (spOf (wdOf F) R__law_adding) [] := by
  obtain ⟨fd, b⟩ := Y.d (dT "_law_adding" 85) (List.mem_of_getElem? (i := 48) rfl)
  exact cal_of (w__law_adding Y.T (c__law_order Y) (k_Program Y)) sc__law_adding (ln__law_adding) b (Y.g "_law_adding" (List.mem_of_getElem? (i := 48) rfl)) (b.bindsN fun _ _ _ _ _ _ us hl => match us, hl with | [_, _, _, _, _, _], _ => rfl)
theorem ln__law_least_holds : ∀ as d, R__law_least_holds as d → as.length = 4 := by
  rintro as d ⟨_, _, _, _, _, _, _, _, rfl, _⟩
  rfl
theorem c__law_least_holds (Y : Hy F mg) (TB : TbOk F mg base) : C8.Cal P w (wdOf F).K mg base 11 "_law_least_holds" (spOf (wdOf F) R__law_least_holds) [] := by
  obtain ⟨fd, b⟩ := Y.d (dT "_law_least_holds" 84) (List.mem_of_getElem? (i := 47) rfl)
  exact cal_of (w__law_least_holds Y.T Y.X Y.sl (f_Group___len__ Y) (c_least_group Y TB) (c_shelf_names Y) (c_shelf_group Y) (c_deciding_chart Y TB) (c__law_no_clash Y)) sc__law_least_holds (ln__law_least_holds) b (Y.g "_law_least_holds" (List.mem_of_getElem? (i := 47) rfl)) (b.bindsN fun _ _ _ _ _ _ us hl => match us, hl with | [_, _, _, _], _ => rfl)
theorem ln_law : ∀ as d, R_law as d → as.length = 1 := by
  rintro as d ⟨_, rfl, _⟩
  rfl
theorem w_lawF (K : Facts) (Y : Hy F mg) (TB : TbOk F mg base) : BodyOk P w (wdOf F) mg base 11 N_law "law" (top 86) R_law :=
  w_law K Y.T Y.X (Y.g "Group" (List.mem_of_getElem? (i := 50) rfl)) Y.cr Y.cm (f_Group_cyclic Y) Y.co (f_Program___call__ Y) (c__law_numbers Y) (c__law_draw Y) (c__law_drawn_counts Y) (c__law_inputs Y TB) (c__law_weight Y) (c_same3 Y) (c__law_counted Y TB) (c__law_adding Y) (m_Program_chart Y TB) (c__law_chart_is Y) (c__law_first_clash Y) (c_clash Y TB) (c_decides Y TB) (c_deciding_chart Y TB) (c__law_no_clash Y) (c_is_programmable Y TB) (c__law_least_holds Y TB)
theorem law_fn (K : Facts) (Y : Hy F mg) : ∃ fd : FuncData, (∀ (s : Shared) (v : Value), BindsTo s fd ⟨[v], []⟩ [("_law_script", v)]) ∧ ∀ base : Heap, TbOk F mg base → FnOk P w F mg base C8.CX0 12 (He.ga F "law") fd ["_law_script"] (spOf (wdOf F) R_law) := by
  obtain ⟨fd, b⟩ := Y.d (dT "law" 86) (List.mem_of_getElem? (i := 49) rfl)
  have bA := FunD.bindsA (ps := ["_law_script"]) b fun _ _ _ _ _ _ us hl => match us, hl with | [_], _ => rfl
  refine ⟨fd, fun s v => bA s [v] rfl, fun base TB => ?_⟩
  refine b.ok sc_law (fun vs H Q E h => sp_len ln_law h) (fun cdv A outer s H vs Q E hr h => ?_)
  obtain ⟨t, h1, h2⟩ := w_lawF (P := P) (w := w) K Y TB (He.ga F "law") cdv A outer s H E hr
  exact ⟨t, PSs.nox h1, body_of h h2⟩
theorem law_sp {H : Hp} {a : Addr} {ns : List Int} (hT : ∀ p ∈ [He.cT F dfA, He.cT F dfB], H p.2 = some (.tbl #[])) (hS : SqL F H a (ns.map V.int)) : spOf (wdOf F) R_law [.ref a] H (fun v _ => v = .bl true) fun _ _ _ => False := by
  refine ⟨fun _ => none, [.l (ns.map D.int)], .bl true, ⟨fun b o e => (by cases e), fun _ _ _ => rfl, fun p hp => ?_⟩, ⟨.ref a, [], rfl, ⟨a, _, rfl, hS, DenL.ints_ ns⟩, rfl⟩, ⟨ns, rfl, rfl⟩, fun v B' H' _ h => Den.bl_eq h⟩
  have k : ∀ q : Str, ∀ c : Addr, H c = some (.tbl #[]) → TabS H c q := fun q c h => ⟨#[], h, by first | trivial | exact ⟨⟩ | decide | simp [TriplesOk], fun pos cv e => by first | cases e | simp [codeAmong] at e⟩
  rcases List.mem_cons.mp hp with rfl | hp
  · exact k _ _ (hT _ List.mem_cons_self)
  · rcases List.mem_cons.mp hp with rfl | hp
    · exact k _ _ (hT _ (List.mem_cons_of_mem _ List.mem_cons_self))
    · simp at hp
end
end K9
/-! text HB -/
set_option Elab.async false
set_option linter.all false
set_option maxRecDepth 100000
set_option maxHeartbeats 0
set_option autoImplicit false
/-! the head: facts, hook, run (printed by gen_hb.py) -/
namespace K9
open PySem PySem.Spec PyProof.Rows L2 LamX
section
variable {W : Wd}
mutual
theorem denB_ok : ∀ (d : D) (u : Value), denB W.K d u = true → ∃ v : V, RelV v u ∧ ∀ B : Hp, Den W B d v
  | .str s, u, h => by
    cases u with
    | str t k =>
      have e : s = t := of_decide_eq_true h
      subst e
      exact ⟨.str s, ⟨k, rfl⟩, fun B => Den.str_⟩
    | _ => cases h
  | .int i, u, h => by
    cases u with
    | int j k =>
      have e : i = j := of_decide_eq_true h
      subst e
      exact ⟨.int i, ⟨k, rfl⟩, fun B => Den.int_⟩
    | _ => cases h
  | .tup ds, u, h => by
    cases u with
    | ref a =>
      have h1 : (match W.K.lookup a with
        | some ⟨.type c, _, .seq its _, _⟩ => decide (c = "tuple") && (decide (its.size ≤ sizeLine) && denLB W.K ds its.toList)
        | _ => false) = true := h
      cases q : W.K.lookup a with
      | none => rw [q] at h1; cases h1
      | some o =>
        obtain ⟨oc, od, dt, osl⟩ := o
        rw [q] at h1
        cases oc with
        | type c =>
          cases dt with
          | seq its n =>
            obtain ⟨k1, k2⟩ := He.ba (show (decide (c = "tuple") && (decide (its.size ≤ sizeLine) && denLB W.K ds its.toList)) = true from h1)
            obtain ⟨k3, k4⟩ := He.ba k2
            obtain ⟨vs, r, hd⟩ := denLB_ok ds its.toList k4
            refine ⟨.ref a, rfl, fun B => Den.tup_iff.mpr ⟨a, vs, rfl, .inr ⟨_, its, n, q, congrArg Value.type (of_decide_eq_true k1), rfl, of_decide_eq_true k3, r⟩, hd B⟩⟩
          | _ => cases h1
        | _ => cases dt <;> cases h1
    | _ => cases h
  | .non, _, h => by cases h
  | .bl _, _, h => by cases h
  | .lst _, _, h => by cases h
  | .tk _, _, h => by cases h
  | .tz _, _, h => by cases h
  | .ins _ _, _, h => by cases h
theorem denLB_ok : ∀ (ds : List D) (us : List Value), denLB W.K ds us = true → ∃ vs : List V, Vals vs us ∧ ∀ B : Hp, DenL W B ds vs
  | [], us, h => by
    cases us with
    | nil => exact ⟨[], .nil, fun B => DenL.nil_⟩
    | cons u us => cases h
  | d :: ds, us, h => by
    cases us with
    | nil => cases h
    | cons u us =>
      obtain ⟨h1, h2⟩ := He.ba (show (denB W.K d u && denLB W.K ds us) = true from h)
      obtain ⟨v, r, hv⟩ := denB_ok d u h1
      obtain ⟨vs, rs, hs⟩ := denLB_ok ds us h2
      exact ⟨v :: vs, .cons r rs, fun B => DenL.cons_ (hv B) (hs B)⟩
end
end
theorem glo_all {F : PySem.W.Frag} {h : Heap} {mg : Str → Option Value} (X : F.In h) (G : h.Ns mainGlobals mg) (c : He5.SaysA faL defsL F) : ∀ x ∈ gloL, mg x = some (.ref (He.ga F x)) := fun x hx => by
  have hm : He.Fa.glo x ∈ faL := by
    have e : faL = gloL.map He.Fa.glo ++ faL.drop gloL.length := by rfl
    rw [e]
    exact List.mem_append_left _ (List.mem_map.mpr ⟨x, hx, rfl⟩)
  obtain ⟨i, hi, e⟩ := List.mem_iff_getElem.mp hm
  exact He.glo_ok X G (c.fact i (f := .glo x) (by rw [List.getElem?_eq_getElem hi, e]))
theorem def_all {F : PySem.W.Frag} (c : He5.SaysA faL defsL F) : ∀ d ∈ defsL, ∃ fd, FunD F d.name d.qual d.params d.body d.scope (d.dvs F) (d.kws F) (d.at_ F) fd := fun d hd => by
  obtain ⟨i, hi, e⟩ := List.mem_iff_getElem.mp hd
  exact c.def_ i (d := d) (by rw [List.getElem?_eq_getElem hi, e])
theorem hy_of {F : PySem.W.Frag} {h : Heap} {mg : Str → Option Value} (X : F.In h) (G : h.Ns mainGlobals mg) (z : SaysG faL defsL [dfA, dfB] exB h F) : Hy F mg := by
  have c := z.a
  obtain ⟨e1, e⟩ := He.ba z.ex
  obtain ⟨e2, e⟩ := He.ba e
  obtain ⟨e3, e⟩ := He.ba e
  obtain ⟨e4, e⟩ := He.ba e
  obtain ⟨e5, e6⟩ := He.ba e
  have me_Group_check := He.meth_ok (c.fact 86 (f := .meth "Group" "check") rfl)
  have me_Group_commutator := He.meth_ok (c.fact 87 (f := .meth "Group" "commutator") rfl)
  have me_Program_chart := He.meth_ok (c.fact 88 (f := .meth "Program" "chart") rfl)
  have me_Group___len__ := He.meth_ok (c.fact 89 (f := .meth "Group" "__len__") rfl)
  have me_Group___contains__ := He.meth_ok (c.fact 90 (f := .meth "Group" "__contains__") rfl)
  have me_Program___call__ := He.meth_ok (c.fact 91 (f := .meth "Program" "__call__") rfl)
  have kT : Tx F mg := ⟨He.free_ok X G (c.fact 54 (f := .free "len") rfl), He.free_ok X G (c.fact 55 (f := .free "range") rfl), He.free_ok X G (c.fact 56 (f := .free "all") rfl), He.free_ok X G (c.fact 57 (f := .free "sum") rfl), He.free_ok X G (c.fact 58 (f := .free "sorted") rfl), He.free_ok X G (c.fact 59 (f := .free "tuple") rfl), He.free_ok X G (c.fact 60 (f := .free "list") rfl), He.free_ok X G (c.fact 61 (f := .free "int") rfl), He.free_ok X G (c.fact 62 (f := .free "bool") rfl), He.free_ok X G (c.fact 63 (f := .free "str") rfl), He.free_ok X G (c.fact 64 (f := .free "set") rfl), He.free_ok X G (c.fact 65 (f := .free "zip") rfl), He.free_ok X G (c.fact 66 (f := .free "enumerate") rfl), He.free_ok X G (c.fact 67 (f := .free "max") rfl), He.free_ok X G (c.fact 68 (f := .free "min") rfl), He.free_ok X G (c.fact 69 (f := .free "abs") rfl), He.free_ok X G (c.fact 70 (f := .free "isinstance") rfl), He.int_ok X G (c.fact 71 (f := .int "MOST_PLACES" 12) rfl), He.int_ok X G (c.fact 72 (f := .int "MOST_MEMBERS" 60) rfl), He.int_ok X G (c.fact 73 (f := .int "MOST_CHARTS" 1024) rfl)⟩
  have kc0 : Cls F (He.ga F "Group") := He.cls_ok (c.fact 74 (f := .cls "Group") rfl)
  have km0 : Mk F (He.ga F "Group") (He.ma F (He.ga F "Group") "__init__") := He.mkr_ok (c.fact 92 (f := .mkr "Group") rfl)
  have kc1 : Cls F (He.ga F "Chart") := He.cls_ok (c.fact 75 (f := .cls "Chart") rfl)
  have km1 : Mk F (He.ga F "Chart") (He.ma F (He.ga F "Chart") "__init__") := He.mkr_ok (c.fact 93 (f := .mkr "Chart") rfl)
  have kc2 : Cls F (He.ga F "Program") := He.cls_ok (c.fact 76 (f := .cls "Program") rfl)
  have km2 : Mk F (He.ga F "Program") (He.ma F (He.ga F "Program") "__init__") := He.mkr_ok (c.fact 94 (f := .mkr "Program") rfl)
  have kn0 : NoAttr F (He.ga F "Group") "rows" := He.noat_ok (c.fact 77 (f := .noat "Group" "rows") rfl)
  have kn1 : NoAttr F (He.ga F "Group") "size" := He.noat_ok (c.fact 78 (f := .noat "Group" "size") rfl)
  have kn2 : NoAttr F (He.ga F "Group") "inverses" := He.noat_ok (c.fact 79 (f := .noat "Group" "inverses") rfl)
  have kn3 : NoAttr F (He.ga F "Chart") "group" := He.noat_ok (c.fact 80 (f := .noat "Chart" "group") rfl)
  have kn4 : NoAttr F (He.ga F "Chart") "shape" := He.noat_ok (c.fact 81 (f := .noat "Chart" "shape") rfl)
  have kn5 : NoAttr F (He.ga F "Chart") "entries" := He.noat_ok (c.fact 82 (f := .noat "Chart" "entries") rfl)
  have kn6 : NoAttr F (He.ga F "Program") "group" := He.noat_ok (c.fact 83 (f := .noat "Program" "group") rfl)
  have kn7 : NoAttr F (He.ga F "Program") "shape" := He.noat_ok (c.fact 84 (f := .noat "Program" "shape") rfl)
  have kn8 : NoAttr F (He.ga F "Program") "steps" := He.noat_ok (c.fact 85 (f := .noat "Program" "steps") rfl)
  have kX : Kx (wdOf F) := ⟨kc0, kc1, kc2, kn0, kn1, kn2, kn3, kn4, kn5, kn6, kn7, kn8⟩
  refine ⟨def_all c, glo_all X G c, kT, kX, km0, km1, km2, me_Group_check, me_Group_commutator, me_Program_chart, ⟨me_Group___len__.at_, me_Group___len__.fn⟩, ⟨me_Group___contains__.at_, me_Group___contains__.fn⟩, ⟨me_Program___call__.at_, me_Program___call__.fn, e2⟩, ⟨e3, ?_⟩, He5.cmet_of e4 e5, fun B => ?_, fun q => ?_⟩
  · have h := e3
    unfold PySem.W.readsIn at h
    obtain ⟨h, _⟩ := He.ba h
    obtain ⟨h, _⟩ := He.ba h
    obtain ⟨h, h3⟩ := He.ba h
    obtain ⟨_, h2⟩ := He.ba h
    unfold PySem.W.specialIn
    rw [beq_iff_eq.mp h2, Option.bind_some]
    exact beq_iff_eq.mp h3
  · obtain ⟨v, r, hd⟩ := denB_ok (W := wdOf F) shelfD _ e1
    have hv : v = .ref (He.ga F "SHELF") := by
      cases v with
      | ref a =>
        have e : Value.ref (He.ga F "SHELF") = .ref a := r
        cases e
        rfl
      | non => cases r
      | bl b => cases r
      | int i => obtain ⟨_, r⟩ := r; cases r
      | str s => obtain ⟨_, r⟩ := r; cases r
      | byt s => obtain ⟨_, r⟩ := r; cases r
      | flt s => obtain ⟨_, r⟩ := r; cases r
      | ty s => cases r
    rw [← hv]
    exact hd B
  · rw [decide_eq_true q] at e6
    cases e6
end K9
/-! text HD -/
set_option Elab.async false
set_option linter.all false
set_option maxRecDepth 100000
set_option maxHeartbeats 0
open PySem PySem.W PySem.Calls PyProof.Rows
theorem K94H.holds_of (KF : K9.Facts) : PySem.Challenge.rw_chosenmoves_k94_whole_cyclic_groups_deci.Holds := by
  w_on; o_law
  refine HandSHeadRun.head_any (r := OpenLaw.row PySem.Challenge.rw_chosenmoves_k94_whole_cyclic_groups_deci) (q := K94H.qv) (H := K94H.hk) (ob := K94H.ob) (M := 15000) (loose := K94H.names) (d := HandSHeadRun.topDef (OpenLaw.row PySem.Challenge.rw_chosenmoves_k94_whole_cyclic_groups_deci).prog 86) (kwd := []) K94H.ob_eq
    (by kernel_rfl) (fun s => by kernel_rfl) K94H.run (by kernel_rfl) (by kernel_rfl) (by kernel_rfl) (by rfl) (by first | assumption | decide +kernel) (by decide +kernel) ⟨rfl, rfl, rfl, rfl, rfl, by decide +kernel⟩ ?hw ?hc
  case hw => w_witness2
  case hc =>
    refine LamX.walk_ofTsE (l := PySem.Challenge.rw_chosenmoves_k94_whole_cyclic_groups_deci) (n := 63) (k := 12) (x := "_law_script") (CX := fun _ => C8.CX0) rfl (by decide) (by kernel_rfl) ⟨rfl, by decide, by decide⟩ ?F (fun _ _ _ _ _ z => z)
    intro w mg fa h Y G hmg0
    obtain ⟨K, KX, c⟩ := Y
    have hmg : mg ("law" : PySem.Str) = some (.ref fa) := by
      have e : (HandSHeadRun.topDef (OpenLaw.row PySem.Challenge.rw_chosenmoves_k94_whole_cyclic_groups_deci).prog 86).name = ("law" : PySem.Str) := by kernel_rfl
      rw [← e]
      exact hmg0
    have Y := K9.hy_of KX G c
    have e := hmg.symm.trans (Y.g "law" (List.mem_of_getElem? (i := 49) (by kernel_rfl)))
    cases e
    obtain ⟨fd, hb, hF⟩ := K9.law_fn (P := (PySem.Challenge.rw_chosenmoves_k94_whole_cyclic_groups_deci).prog) (w := w) KF Y
    have tabs : ∀ p ∈ [He.cT K K9.dfA, He.cT K K9.dfB], ∃ q ∈ [K9.dfA, K9.dfB], p = He.cT K q := fun p hp => by
      rcases List.mem_cons.mp hp with rfl | hp
      · exact ⟨_, List.mem_cons_self, rfl⟩
      · rcases List.mem_cons.mp hp with rfl | hp
        · exact ⟨_, List.mem_cons_of_mem _ List.mem_cons_self, rfl⟩
        · simp at hp
    refine ⟨K, KX, fd, [He.cT K K9.dfA, He.cT K K9.dfB], K9.spOf (K9.wdOf K) K9.R_law, ?_, ?_, ?_, hb, ?_, ?_⟩
    · intro p hp
      obtain ⟨q, hq, rfl⟩ := tabs p hp
      exact (c.tab q hq).2
    · intro p hp
      obtain ⟨q, hq, rfl⟩ := tabs p hp
      exact (c.tab q hq).1.2
    · intro p hp
      obtain ⟨q, hq, rfl⟩ := tabs p hp
      exact PySem.W.codeHd_of_K KX (c.tab q hq).1.1
    · intro H a ns hl hbits hT hS
      exact K9.law_sp hT hS
    · intro base hK hN hTB
      exact hF base ⟨hTB _ List.mem_cons_self, hTB _ (List.mem_cons_of_mem _ List.mem_cons_self)⟩
theorem PySem.Challenge.cw_chosenmoves_k94_whole_cyclic_groups_deci_holds : PySem.Challenge.rw_chosenmoves_k94_whole_cyclic_groups_deci.Holds := by
  exact K94H.holds_of K9.facts

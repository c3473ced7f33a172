import PyProof.Rows.All
import Wide.All
import OpenK.AllK
import Wide.FinOn
import PySem.Challenge.RW_cutrounds_k90_classes_made_by_hand
import KE.KStateDown
import HandS.ForMost
import HandS.Exc
import HandS.Defaults
import HandS.Codes
import HandS.Head0
import HandS.Head1
import HandS.Head2
import HandS.HeadEnd
import HandS.HeadHook1
import HandS.HeadHook2
import HandS.HeadHook3
import HandS.HeadHook4
import PyProof.ReprRoads
import PyProof.CallFns
import PyProof.InstEq
import HandS.More
import HandS.IsInst
import HandS.MakeKwOnly
import PyProof.ReprLen
import HandS.Style
import HandS.NoneIn
set_option Elab.async false
set_option linter.all false
set_option maxRecDepth 100000
set_option maxHeartbeats 0
namespace K90
open PySem
def top (i : Nat) : Stmt := PySem.Challenge.pw_cutrounds_k90_classes_made_by_hand.main.body.getD i (.Pass ⟨0, 0, 0, 0⟩)
end K90
/-! The head: what the top leaves, told by names. -/
namespace K90
open PySem L2
/-- the classes with an __init__: their places, names, fields -/
def clsI0 : List (Nat × Str × List Str) := [
  (4, "OneLonger", ["tie", "lot"]),
  (6, "Pressed", ["lots"]),
  (8, "Plane", ["drawing"]),
  (9, "Barred", ["kind", "lots"]),
  (10, "Outer", ["drawing", "face"]),
  (11, "OuterBarred", ["kind", "lots"]),
  (13, "Tree", ["bags", "links", "papers"]),
  (14, "FiveLots", ["lots"]),
  (16, "Cuts", ["cuts"]),
  (17, "CutBars", ["bars"]),
  (20, "Beyond", ["tie"]),
  (21, "Breaks", ["lot", "odd"]),
  (23, "Heavy", ["side", "rounds", "ends"]),
  (24, "Gap", ["row"]),
  (25, "Best", ["row", "rounds", "ends"]),
  (27, "Join", ["ties", "cuts"])]
def clsI1 : List (Nat × Str × List Str) := [
  (29, "Flow", ["ways"]),
  (30, "Bars", ["side"]),
  (31, "Stuck", ["row"]),
  (32, "Share", ["share", "ways", "row"]),
  (34, "Free", ["tree"]),
  (35, "Five", ["lots"]),
  (36, "CutBreak", ["weights", "point"]),
  (37, "ConeBreak", ["row", "bars"]),
  (38, "FlowBreak", ["room", "wants", "lengths"]),
  (40, "CutTree", ["parents"]),
  (42, "Dual", ["web", "ties", "drawing"]),
  (43, "Base", ["lots"]),
  (45, "Least", ["side", "ways"]),
  (46, "LeastTree", ["rows"]),
  (48, "Covered", ["rows"]),
  (49, "Dense", ["lot"])]
def clsI2 : List (Nat × Str × List Str) := [
  (50, "Trees", ["rows"]),
  (51, "Parting", ["lots"]),
  (53, "TreeCuts", ["cuts"]),
  (54, "FourApart", ["a", "b", "c", "d"]),
  (56, "Narrow", ["row"]),
  (57, "FourLots", ["lots"]),
  (58, "ThreeTree", ["bags", "links", "papers"]),
  (59, "SixLots", ["lots"]),
  (61, "EvenSide", ["side"]),
  (62, "OddOne", ["lot"]),
  (63, "TurnedBy", ["side"]),
  (64, "RoundApart", ["lot"]),
  (66, "OddLots", ["lots", "side"]),
  (67, "LooseFive", ["weights", "point"]),
  (69, "Cover", ["lot", "side"]),
  (70, "Tight", ["lot", "rounds"])]
def clsI3 : List (Nat × Str × List Str) := [
  (71, "Loose", ["point", "rounds"]),
  (72, "Apart", ["rounds"]),
  (73, "Meets", ["lot"]),
  (75, "Way", ["row", "cuts"]),
  (77, "Rounds", ["amounts"]),
  (78, "Heavier", ["side", "tie"]),
  (79, "Parts", ["rounds"]),
  (80, "OddPlace", ["place"]),
  (81, "Trails", ["ways"]),
  (83, "Kept", ["cuts"]),
  (84, "Low", ["ties"]),
  (86, "Straight", ["points"]),
  (88, "WheelWay", ["steps"]),
  (90, "Whole", ["rounds"]),
  (91, "Bridge", ["tie"])]
def clsI : List (Nat × Str × List Str) := clsI0 ++ clsI1 ++ clsI2 ++ clsI3
/-- those without -/
def clsB : List Str := ["AllKept", "Keeps"]
/-- the defs: their places, names -/
def defsD : List (Nat × Str) := [(1, "copied"), (93, "_law_pen"), (94, "_law_draw"), (95, "_law_pick"), (96, "_law_made_a"), (97, "_law_made_b"), (98, "_law_made_c"), (99, "_law_made_d"), (100, "_law_made_e"), (101, "_law_made_f"), (102, "_law_bare"), (103, "_law_value"), (104, "_law_copy"), (105, "law")]
def clsName (p : Nat × Str × List Str) : Str := p.2.1
def dDef (p : Nat × Str) : He.DefD := ⟨(p.2, none), p.2, p.2, defArgs (top p.1), defBody (top p.1), defScope (top p.1), [], []⟩
def dInit (p : Nat × Str × List Str) : He.DefD := ⟨(p.2.1, some "__init__"), "__init__", p.2.1 ++ ".__init__", defArgs (inClass (top p.1) 0), defBody (inClass (top p.1) 0), defScope (inClass (top p.1) 0), [], []⟩
def faC (p : Nat × Str × List Str) : List He.Fa := [.glo p.2.1, .cls p.2.1, .mkr p.2.1] ++ p.2.2.map (.noat p.2.1)
def clsU : List (Nat × Str × List Str) := clsI0 ++ clsI1
def clsV : List (Nat × Str × List Str) := clsI2 ++ clsI3
def fnU : List He.DefD := defsD.map dDef ++ clsU.map dInit
def fnV : List He.DefD := clsV.map dInit
def faU : List He.Fa := defsD.map (fun p => .glo p.2) ++ (clsU.flatMap faC ++ [.free "len", .free "int", .free "list", .free "tuple", .free "isinstance", .free "range", .free "repr"])
def faV : List He.Fa := clsV.flatMap faC ++ clsB.flatMap (fun x => [.glo x, .cls x, .keep x])
/-- more that is asked of a class: == and != as object has them; isinstance -/
def exC (K : PySem.W.Frag) (x : Str) : Bool :=
  decide ((PySem.W.clsIn K (He.ga K x)).map (·.mro) = some [.ref (He.ga K x), .type "object"]) && (He.eqO (PySem.W.findIn K (.ref (He.ga K x)) "__eq__") (some (some (.builtin "object.__eq__"))) &&
    (He.eqO (PySem.W.findIn K (.ref (He.ga K x)) "__ne__") (some (some (.builtin "object.__ne__"))) && He.eqO (PySem.W.findIn K (.ref (He.ga K x)) "__class__") (some (some (.builtin "object.__class__")))))
def exB (K : PySem.W.Frag) (x : Str) : Bool := PySem.W.makesIn K (He.ga K x) && He.eqO (PySem.W.findIn K (.ref (He.ga K x)) "__init__") (some (some (.builtin "object.__init__")))
def exAll (K : PySem.W.Frag) : Bool := (clsI.all fun p => exC K p.2.1) && ((clsB.all fun x => exC K x && exB K x) &&
  (He.eqO (PySem.W.specialIn K (.builtin "object.__class__") "__get__") (some (some (.builtin "getset_descriptor.__get__"))) && decide (PySem.W.takesIn K (.builtin "object.__class__") = some true)))
abbrev R : PySem.W.OpenRow := PySem.W.OpenLaw.row PySem.Challenge.rw_cutrounds_k90_classes_made_by_hand
def loose0 : List Str := ["copied", "AllKept", "OneLonger", "Pressed", "Plane", "Barred", "Outer", "OuterBarred", "Tree", "FiveLots", "Cuts", "CutBars", "Keeps", "Beyond", "Breaks", "Heavy", "Gap", "Best", "Join", "Flow", "Bars", "Stuck", "Share", "Free", "Five", "CutBreak", "ConeBreak", "FlowBreak", "CutTree", "Dual"]
def loose1 : List Str := ["Base", "Least", "LeastTree", "Covered", "Dense", "Trees", "Parting", "TreeCuts", "FourApart", "Narrow", "FourLots", "ThreeTree", "SixLots", "EvenSide", "OddOne", "TurnedBy", "RoundApart", "OddLots", "LooseFive", "Cover", "Tight", "Loose", "Apart", "Meets", "Way", "Rounds", "Heavier", "Parts", "OddPlace", "Trails"]
def loose2 : List Str := ["Kept", "Low", "Straight", "WheelWay", "Whole", "Bridge", "_law_pen", "_law_draw", "_law_pick", "_law_made_a", "_law_made_b", "_law_made_c", "_law_made_d", "_law_made_e", "_law_made_f", "_law_bare", "_law_value", "_law_copy"]
def looseAll : List Str := loose0 ++ loose1 ++ loose2
def lawAt : Nat := 105
def asL0 : List Addr := [3, 21, 20, 1379, 1378, 1386, 1385, 1393, 1392, 1400, 1399, 1407, 1406, 1414, 1413, 1421, 1420, 1428, 1427, 1435, 1434, 1442, 1441, 1447, 1446, 1454, 1453, 1459, 1458, 52]
def asL1 : List Addr := [51, 49, 48, 73, 72, 70, 69, 94, 93, 91, 90, 115, 114, 112, 111, 136, 135, 133, 132, 157, 156, 154, 153, 178, 177, 175, 174, 199, 198, 196]
def asL2 : List Addr := [195, 220, 219, 217, 216, 241, 240, 238, 237, 276, 275, 273, 272, 297, 296, 294, 293, 318, 317, 315, 314, 339, 338, 336, 335, 360, 359, 357, 356, 381]
def asL3 : List Addr := [380, 378, 377, 402, 401, 399, 398, 423, 422, 420, 419, 444, 443, 441, 440, 465, 464, 462, 461, 486, 485, 483, 482, 507, 506, 504, 503, 528, 527, 525]
def asL4 : List Addr := [524, 549, 548, 546, 545, 570, 569, 567, 566, 591, 590, 588, 587, 612, 611, 609, 608, 633, 632, 630, 629, 654, 653, 651, 650, 675, 674, 672, 671, 696]
def asL5 : List Addr := [695, 693, 692, 717, 716, 714, 713, 738, 737, 735, 734, 759, 758, 756, 755, 780, 779, 777, 776, 801, 800, 798, 797, 822, 821, 819, 818, 843, 842, 840]
def asL6 : List Addr := [839, 864, 863, 861, 860, 885, 884, 882, 881, 906, 905, 903, 902, 927, 926, 924, 923, 948, 947, 945, 944, 969, 968, 966, 965, 990, 989, 987, 986, 1011]
def asL7 : List Addr := [1010, 1008, 1007, 1032, 1031, 1029, 1028, 1053, 1052, 1050, 1049, 1074, 1073, 1071, 1070, 1095, 1094, 1092, 1091, 1116, 1115, 1113, 1112, 1137, 1136, 1134, 1133, 1158, 1157, 1155]
def asL8 : List Addr := [1154, 1179, 1178, 1176, 1175, 1200, 1199, 1197, 1196, 1221, 1220, 1218, 1217, 1242, 1241, 1239, 1238, 1263, 1262, 1260, 1259, 1284, 1283, 1281, 1280, 1305, 1304, 1302, 1301, 1326]
def asL9 : List Addr := [1325, 1323, 1322, 1347, 1346, 1344, 1343, 1368, 1367, 1365, 1364, 31, 30, 255, 254]
def asL : List Addr := asL0 ++ asL1 ++ asL2 ++ asL3 ++ asL4 ++ asL5 ++ asL6 ++ asL7 ++ asL8 ++ asL9
open PySem.W HandSHeadRun
abbrev rec0 (s : SharedT) : Bool := xlAt (view R.prog [lawAt]) [] s.abs && recOk R.toRowW.records s.abs
theorem runL (w : World) (os : OsState) : (endF (stepQ (denQ tabQ) R.prog w) 20000 R.prog w os).map (fun s => (looksF R.prog (boot_heap w.params) s.abs, seenQ (view R.prog [lawAt]) looseAll (importedModules R.prog.main.body) (fun s => xlAt (view R.prog [lawAt]) [] s && recOk R.toRowW.records s) s.abs)) = some (true, openGood (view R.prog [lawAt]) looseAll) := by
  kernel_rfl
theorem runU (w : World) (os : OsState) : (endF (stepQ (denQ tabQ) R.prog w) 20000 R.prog w os).map (fun s => He.obsD faU fnU (He.frG (getT s) asL)) = some (He.valD fnU) := by
  kernel_rfl
theorem runV (w : World) (os : OsState) : (endF (stepQ (denQ tabQ) R.prog w) 20000 R.prog w os).map (fun s => He.obsD faV fnV (He.frG (getT s) asL)) = some (He.valD fnV) := by
  kernel_rfl
theorem runX (w : World) (os : OsState) : (endF (stepQ (denQ tabQ) R.prog w) 20000 R.prog w os).map (fun s => exAll (He.frG (getT s) asL)) = some true := by
  kernel_rfl
end K90
/-! The head: what the top leaves, told by names. -/
namespace K90
open PySem L2
open PySem.W HandSHeadRun
/-! ### one Hook of the four -/
abbrev AlK : Type := He.AlD × He.AlD × Bool
def obsK (g : Addr → Option Obj) : AlK := (He.obsD faU fnU (He.frG g asL), He.obsD faV fnV (He.frG g asL), exAll (He.frG g asL))
def valK : AlK := (He.valD fnU, He.valD fnV, true)
def hk : PySem.W.Hook where
  α := AlK
  obs := fun s => obsK s.heap.get?
  val := fun _ => valK
  says := fun _ h => ∃ K : PySem.W.Frag, K.In h ∧ He.SaysD faU fnU K ∧ He.SaysD faV fnV K ∧ exAll K = true
  of := fun _ _ e => ⟨_, He.frG_in, congrArg (fun z : AlK => z.1) e, congrArg (fun z : AlK => z.2.1) e, congrArg (fun z : AlK => z.2.2) e⟩
  keeps := fun _ _ _ ⟨K, hK, c⟩ k => ⟨K, PySem.W.Frag.In.keeps hK k, c⟩
def ob (s : SharedT) : AlK := obsK (getT s)
theorem ob_eq (s : SharedT) : ob s = hk.obs s.abs := congrArg obsK (funext (getT_eq s))
theorem both {α β γ : Type} {o : Option α} {f : α → β} {g : α → γ} {a : β} {b : γ} (h1 : o.map f = some a) (h2 : o.map g = some b) : o.map (fun s => (f s, g s)) = some (a, b) := by
  cases o with
  | none => cases h1
  | some s =>
    cases h1
    cases h2
    rfl
theorem run (w : World) : RunEq R (view R.prog [lawAt]) hk ob 20000 looseAll w := fun os => by
  have h := both (runL w os) (both (runU w os) (both (runV w os) (runX w os)))
  revert h
  generalize endF (stepQ (denQ tabQ) R.prog w) 20000 R.prog w os = o
  intro h
  cases o with
  | none => cases h
  | some s =>
    have e := Option.some.inj h
    refine congrArg some ?_
    have e1 := congrArg Prod.fst e
    have e2 := congrArg Prod.snd e
    have q1 := congrArg Prod.fst e1
    have q2 := congrArg Prod.snd e1
    exact Prod.ext q1 (Prod.ext q2 e2)
end K90
/-! The draws: what a pen is, and what its three defs promise. -/
namespace K90
open PySem L2

abbrev sPen : Stmt := top 93
abbrev sDraw : Stmt := top 94
abbrev sPick : Stmt := top 95

/-- all that stood stands, but what is at p -/
def KeepBut (p : Addr) (H H' : Hp) : Prop := ∀ b o, H b = some o → b ≠ p → H' b = some o

/-! ### a pen's dict -/
def penD (l : Addr) (a d c f : Int) : List (Key × V) :=
  [(.inr "cells", .ref l), (.inr "at", .int a), (.inr "digits", .int d), (.inr "count", .int c), (.inr "fold", .int f)]
section
variable (l : Addr) (a d c f z : Int)
theorem pen_cells : valV (penD l a d c f) (.inr "cells") = some (.ref l) := by rfl
theorem pen_at : valV (penD l a d c f) (.inr "at") = some (.int a) := by rfl
theorem pen_digits : valV (penD l a d c f) (.inr "digits") = some (.int d) := by rfl
theorem pen_count : valV (penD l a d c f) (.inr "count") = some (.int c) := by rfl
theorem pen_fold : valV (penD l a d c f) (.inr "fold") = some (.int f) := by rfl
theorem put_at : putK (penD l a d c f) (.inr "at") (.int z) = penD l z d c f := by rfl
theorem put_digits : putK (penD l a d c f) (.inr "digits") (.int z) = penD l a z c f := by rfl
theorem put_count : putK (penD l a d c f) (.inr "count") (.int z) = penD l a d z f := by rfl
theorem put_fold : putK (penD l a d c f) (.inr "fold") (.int z) = penD l a d c z := by rfl
end
/-- at p stands a pen of which at most n draws were made; z: where its cells stand, and what they are -/
structure PenAt (K : PySem.W.Frag) (H : Hp) (p : Addr) (z : Addr × List Int) (n : Nat) : Prop where
  ex : ∃ (a : Nat) (d c f : Int), H p = some (.dK (penD z.1 a d c f)) ∧ SqL K H z.1 (z.2.map V.int) ∧ z.2.length ≤ 63 ∧ 0 ≤ d ∧ 0 ≤ c ∧ c ≤ n ∧ 0 ≤ f ∧ f < 2147483269
/-- what a pen's drawing promises: any number below many -/
def spDraw (K : PySem.W.Frag) : Sp := fun vs H Q _ => ∃ (p : Addr) (z : Addr × List Int) (n : Nat) (m : Int), vs = [.ref p, .int m] ∧ PenAt K H p z n ∧ n ≤ 100000 ∧ 1 ≤ m ∧ m ≤ 1000000 ∧
  ∀ (r : Int) (H' : Hp), 0 ≤ r → r < m → PenAt K H' p z (n + 1) → KeepBut p H H' → Q (.int r) H'
/-- the pen's making -/
def spPen (K : PySem.W.Frag) : Sp := fun vs H Q _ => ∃ (a : Addr) (ns : List Int), vs = [.ref a] ∧ SqL K H a (ns.map V.int) ∧ ns.length ≤ 63 ∧
  ∀ (p : Addr) (z : Addr × List Int) (H' : Hp), H p = none → PenAt K H' p z 0 → Same H H' → Q (.ref p) H'

theorem sq_keep {K : PySem.W.Frag} {H H' : Hp} {p a : Addr} {xs : List V} {kvs : List (Key × V)} (hp : H p = some (.dK kvs)) (k : KeepBut p H H') (h : SqL K H a xs) : SqL K H' a xs := by
  rcases h with (h | ⟨o, h⟩) | h
  · exact .inl (.inl (k _ _ h (ne_of h hp (by intro z; cases z))))
  · exact .inl (.inr ⟨o, k _ _ h (ne_of h hp (by intro z; cases z))⟩)
  · exact .inr h

/-! ### readings -/
section
variable {σ : L2.St} {H : Hp} {Q : VK} {p : Addr} {kvs : List (Key × V)} {k : Str} {x v : V} {i : Nat} {D : Ends}
theorem r_dg (hs : σ[i]? = some (some (.ref p))) (h : H p = some (.dK kvs)) (e : valV kvs (.inr k) = some x) (q : Q x H) : tDGet (tVar i) (tC (.str k)) σ H Q :=
  ⟨_, hs, p, x, rfl, .inl ⟨kvs, .inr k, Rd.of h, rfl, e.symm⟩, q⟩
theorem r_dp (hs : σ[i]? = some (some (.ref p))) (h : H p = some (.dK kvs)) (hl : kvs.length < 100) (q : D.nx σ (upd H p (.dK (putK kvs (.inr k) v)))) :
    tVar i σ H fun x H2 => tC (.str k) σ H2 fun y H3 => ∃ a H4, x = .ref a ∧ DPut H3 a y v H4 ∧ D.nx σ H4 :=
  ⟨_, hs, p, _, rfl, DPut.k (k := Sum.inr k) h (Nat.lt_of_lt_of_le hl (by decide)), q⟩
end

section
variable {P : Program} {w : World} {K : PySem.W.Frag} {mg : Str → Option Value} {base : Heap} {f : Addr} {fd : FuncData}
abbrev FnP (K : PySem.W.Frag) (x : Str) (st : Stmt) (f : Addr) (fd : FuncData) : Prop := FunD K x x (defArgs st) (defBody st) (defScope st) [] [] f fd

theorem scDraw : FnScope ["pen", "many", "cell", "digit", "blend"] ["pen", "many"] (defScope sDraw) := ⟨rfl, rfl, rfl, by decide +kernel, rfl, by decide +kernel, by decide +kernel⟩


theorem keepBut_upd {p : Addr} {H : Hp} {o : HO} : KeepBut p H (upd H p o) := fun b u e n => by
  rw [upd_ne n]
  exact e
theorem KeepBut.trans {p : Addr} {H H1 H2 : Hp} (a : KeepBut p H H1) (b : KeepBut p H1 H2) : KeepBut p H H2 := fun c o e n => b c o (a c o e n) n
theorem KeepBut.refl (p : Addr) (H : Hp) : KeepBut p H H := fun _ _ e _ => e

theorem ok_draw (F : FnP K "_law_draw" sDraw f fd) (mLen : mg "len" = none) (mInt : mg "int" = none) : FnOk P w K mg base CX0 1 f fd ["pen", "many"] (spDraw K) := by
  refine F.ok scDraw (fun vs H Q E h => ?_) (fun cdv A outer s H vs Q E hr h => ?_)
  · obtain ⟨p, z, n, m, rfl, _⟩ := h
    rfl
  · obtain ⟨p, ⟨l, ns⟩, n, m, rfl, S, hn, hm1, hm2, k⟩ := h
    have hu := hu_of hr
    obtain ⟨⟨a, d, c, fo, hp, hl, hlen, hd, hc, hcn, hf0, hf1⟩⟩ := S
    replace hp : H p = some (.dK (penD l a d c fo)) := hp
    replace hl : SqL K H l (ns.map V.int) := hl
    replace hlen : ns.length ≤ 63 := hlen
    refine ⟨_, PSs.nox (pss_cons (ps_dput hu (pv 0) pe_str (pe_op op_add (pe_dget hu (pv 0) pe_str (fun _ _ => rfl)) pe_int) rfl)
      (C8.pss_cut (ps_if (PW.pt (pw_and (pt_cmpR op_eq (pe_dget hu (pv 0) pe_str (fun _ _ => rfl)) pe_int (nomark _))
            (pw_and1 (pt_cmpR op_lt (pe_dget hu (pv 0) pe_str (fun _ _ => rfl)) (pe_callB call_len (by rfl) mLen PySem.boot_len (pa_cons (pe_dget hu (pv 0) pe_str (fun _ _ => rfl)) pa_nil)) (nomark _)))))
          (pss_cons (ps_set (i := 2) scDraw.nd rfl (Or.inl rfl) (pe_ix ix_list (pe_dget hu (pv 0) pe_str (fun _ _ => rfl)) (pe_dget hu (pv 0) pe_str (fun _ _ => rfl)) (fun _ _ => rfl)))
          (pss_cons (ps_dput hu (pv 0) pe_str (pe_op op_add (pe_dget hu (pv 0) pe_str (fun _ _ => rfl)) pe_int) rfl)
          (pss_one (ps_if (pt_cmpR op_ge (pv 2) (pe_op op_pow pe_int pe_int) (nomark _))
            (pss_one (ps_dput hu (pv 0) pe_str (pe_op op_sub (pv 2) (pe_op op_pow pe_int pe_int)) rfl))
            (pss_one (ps_dput hu (pv 0) pe_str (pe_op op_mod (pe_callTy call_int1 (by rfl) mInt (by decide +kernel) (pa_cons (pe_op op_add (pe_op op_mul (pe_dget hu (pv 0) pe_str (fun _ _ => rfl)) pe_int) (pv 2)) pa_nil)) pe_int) rfl))))))
          pss_nil)
      (pss_cons (ps_if (pt_cmpR op_gt (pe_dget hu (pv 0) pe_str (fun _ _ => rfl)) pe_int (nomark _))
          (pss_cons (ps_set (i := 3) scDraw.nd rfl (Or.inl rfl) (pe_op op_mod (pe_callTy call_int1 (by rfl) mInt (by decide +kernel) (pa_cons (pe_dget hu (pv 0) pe_str (fun _ _ => rfl)) pa_nil)) (pv 1)))
          (pss_cons (ps_dput hu (pv 0) pe_str (pe_op op_fdiv (pe_dget hu (pv 0) pe_str (fun _ _ => rfl)) (pv 1)) rfl)
          (pss_one (ps_ret (pv 3)))))
          pss_nil)
      (pss_cons (ps_set (i := 4) scDraw.nd rfl (Or.inl rfl) (pe_op op_add (pe_op op_add (pe_dget hu (pv 0) pe_str (fun _ _ => rfl)) (pe_op op_mul (pe_dget hu (pv 0) pe_str (fun _ _ => rfl)) pe_int)) pe_int))
      (pss_one (ps_ret (pe_op op_mod (pe_op op_fdiv (pe_callTy call_int1 (by rfl) mInt (by decide +kernel) (pa_cons (pe_op op_mod (pe_op op_pow (pv 4) pe_int) pe_int) pa_nil)) pe_int) (pv 1)))))))), ?_⟩
    have npl : ∀ {x : Addr} {xs : List V}, SqL K H x xs → ∀ kvs, SqL K (upd H p (.dK kvs)) x xs := fun h kvs => sq_keep hp keepBut_upd h
    -- pen["count"] = pen["count"] + 1
    refine r_dg rfl hp (pen_count _ _ _ _ _) ⟨_, _, rfl, rfl, ?_⟩
    refine r_dp rfl hp (by show 5 < 100; decide) ?_
    rw [put_count]
    generalize h1 : upd H p (.dK (penD l a d (c + 1) fo)) = H1
    have hp1 : H1 p = some (.dK (penD l a d (c + 1) fo)) := by
      rw [← h1]
      exact upd_same
    have k1 : KeepBut p H H1 := by
      rw [← h1]
      exact keepBut_upd
    have hl1 : SqL K H1 l (ns.map V.int) := sq_keep hp k1 hl
    -- behind the reading of a cell: any digits, any fold below its bound
    refine ⟨fun σ2 H2 => ∃ (v2 : Option V) (a2 : Nat) (d2 f2 : Int), σ2 = [some (.ref p), some (.int m), v2, none, none] ∧ H2 p = some (.dK (penD l a2 d2 (c + 1) f2)) ∧ KeepBut p H1 H2 ∧ 0 ≤ d2 ∧ 0 ≤ f2 ∧ f2 < 2147483269, ?_, ?_⟩
    · refine r_dg rfl hp1 (pen_digits _ _ _ _ _) ⟨rfl, _, rfl, ?_⟩
      have same : ∃ (v2 : Option V) (a2 : Nat) (d2 f2 : Int), ([some (.ref p), some (.int m), none, none, none] : L2.St) = [some (.ref p), some (.int m), v2, none, none] ∧ H1 p = some (.dK (penD l a2 d2 (c + 1) f2)) ∧ KeepBut p H1 H1 ∧ 0 ≤ d2 ∧ 0 ≤ f2 ∧ f2 < 2147483269 :=
        ⟨none, a, d, fo, rfl, hp1, KeepBut.refl _ _, hd, hf0, hf1⟩
      cases e0 : decide (V.int d = V.int 0) with
      | false => exact iteF (iteF same)
      | true =>
        refine iteT ?_
        refine r_dg rfl hp1 (pen_at _ _ _ _ _) ?_
        refine r_dg rfl hp1 (pen_cells _ _ _ _ _) ⟨_, (ns.map V.int).length, rfl, .inl ⟨_, hl1, rfl⟩, _, _, rfl, rfl, _, rfl, ?_⟩
        rw [List.length_map]
        by_cases ha : (a : Int) < (ns.length : Int)
        · rw [decide_eq_true ha]
          refine iteT ?_
          have ha2 : a < ns.length := by omega
          refine r_dg rfl hp1 (pen_cells _ _ _ _ _) ?_
          refine r_dg rfl hp1 (pen_at _ _ _ _ _) ⟨l, ns.map V.int, (a : Int), .int ns[a], rfl, rfl, hl1, ?_, ?_⟩
          · exact atI_nat (by rw [List.getElem?_map, List.getElem?_eq_getElem ha2]; rfl)
          refine r_dg rfl hp1 (pen_at _ _ _ _ _) ⟨_, _, rfl, rfl, ?_⟩
          refine r_dp rfl hp1 (by show 5 < 100; decide) ?_
          rw [put_at]
          generalize h2 : upd H1 p (.dK (penD l ((a : Int) + 1) d (c + 1) fo)) = H2
          have hp2 : H2 p = some (.dK (penD l ((a : Int) + 1) d (c + 1) fo)) := by
            rw [← h2]
            exact upd_same
          have k2 : KeepBut p H1 H2 := by
            rw [← h2]
            exact keepBut_upd
          have ea : ((a : Int) + 1) = ((a + 1 : Nat) : Int) := by omega
          refine ⟨_, rfl, _, _, rfl, rfl, ⟨by decide, by decide, by decide⟩, _, _, rfl, rfl, _, rfl, ?_⟩
          refine ite2 (fun hge => ?_) (fun _ => ?_)
          · refine ⟨_, rfl, _, _, rfl, rfl, ⟨by decide, by decide, by decide⟩, _, _, rfl, rfl, ?_⟩
            refine r_dp rfl hp2 (by show 5 < 100; decide) ?_
            rw [put_digits, ea]
            have hg := of_decide_eq_true hge
            exact ⟨_, a + 1, _, fo, rfl, upd_same, k2.trans keepBut_upd, by omega, hf0, hf1⟩
          · refine r_dg rfl hp2 (pen_fold _ _ _ _ _) ⟨_, _, rfl, rfl, .inl ⟨by omega, by omega⟩, _, rfl, _, _, rfl, rfl, .inl ⟨_, rfl, _, _, rfl, rfl, (by show (0 : Int) < 2147483269; decide), ?_⟩⟩
            refine r_dp rfl hp2 (by show 5 < 100; decide) ?_
            rw [put_fold, ea]
            exact ⟨_, a + 1, d, _, rfl, upd_same, k2.trans keepBut_upd, hd, Int.emod_nonneg _ (by decide), Int.emod_lt_of_pos _ (by decide)⟩
        · rw [decide_eq_false ha]
          exact iteF same
    · rintro σ2 H2 ⟨v2, a2, d2, f2, rfl, hp2, k2, hd2, hf2, hg2⟩
      have K2 : KeepBut p H H2 := k1.trans k2
      have hl2 : SqL K H2 l (ns.map V.int) := sq_keep hp K2 hl
      have pen2 : ∀ (H3 : Hp) (d3 : Int), H3 p = some (.dK (penD l a2 d3 (c + 1) f2)) → KeepBut p H2 H3 → 0 ≤ d3 → PenAt K H3 p (l, ns) (n + 1) := fun H3 d3 e k3 h3 =>
        ⟨⟨a2, d3, c + 1, f2, e, sq_keep hp2 k3 hl2, hlen, h3, by omega, by omega, hf2, hg2⟩⟩
      have hm0 : (0 : Int) < m := by omega
      refine r_dg rfl hp2 (pen_digits _ _ _ _ _) ⟨_, _, rfl, rfl, _, rfl, ?_⟩
      refine ite2 (fun _ => ?_) (fun _ => ?_)
      · refine r_dg rfl hp2 (pen_digits _ _ _ _ _) (.inl ⟨_, rfl, _, rfl, _, _, rfl, rfl, hm0, ?_⟩)
        refine r_dg rfl hp2 (pen_digits _ _ _ _ _) ⟨_, rfl, _, _, rfl, rfl, ⟨hm0, by omega⟩, ?_⟩
        refine r_dp rfl hp2 (by show 5 < 100; decide) ?_
        rw [put_digits]
        refine ⟨_, rfl, ?_⟩
        exact k _ _ (Int.emod_nonneg _ (by omega)) (Int.emod_lt_of_pos _ hm0) (pen2 _ _ upd_same keepBut_upd (Int.ediv_nonneg hd2 (by omega))) (K2.trans keepBut_upd)
      · refine r_dg rfl hp2 (pen_fold _ _ _ _ _) ?_
        refine r_dg rfl hp2 (pen_count _ _ _ _ _) ⟨_, _, rfl, rfl, .inl ⟨by omega, by omega⟩, _, _, rfl, rfl, _, _, rfl, rfl, ?_⟩
        refine ⟨_, rfl, _, _, rfl, rfl, ⟨by decide, by decide, ?_⟩, _, _, rfl, rfl, (by show (0 : Int) < 2305843009213693951; decide), .inl ⟨_, rfl, _, _, rfl, rfl, ⟨by decide, by decide⟩, _, rfl, _, _, rfl, rfl, hm0, ?_⟩⟩
        · show (f2 + (c + 1) * 7351 + 97).natAbs < 2 ^ 64
          omega
        exact k _ _ (Int.emod_nonneg _ (by omega)) (Int.emod_lt_of_pos _ hm0) (pen2 _ _ hp2 (KeepBut.refl _ _) hd2) K2

/-! ### picking -/
def spPick (K : PySem.W.Frag) : Sp := fun vs H Q _ => ∃ (p l : Addr) (z : Addr × List Int) (n : Nat) (xs : List V), vs = [.ref p, .ref l] ∧ PenAt K H p z n ∧ n ≤ 100000 ∧ SqL K H l xs ∧ 1 ≤ xs.length ∧ xs.length ≤ 1000000 ∧
  ∀ (v : V) (H' : Hp), v ∈ xs → PenAt K H' p z (n + 1) → KeepBut p H H' → Q v H'
theorem PenAt.dict {K : PySem.W.Frag} {H : Hp} {p : Addr} {z : Addr × List Int} {n : Nat} (h : PenAt K H p z n) : ∃ kvs, H p = some (.dK kvs) := by
  obtain ⟨⟨a, d, c, fo, hp, _⟩⟩ := h
  exact ⟨_, hp⟩
theorem sq_pen {K : PySem.W.Frag} {H H' : Hp} {p a : Addr} {z : Addr × List Int} {n : Nat} {xs : List V} (h : PenAt K H p z n) (k : KeepBut p H H') (q : SqL K H a xs) : SqL K H' a xs := by
  obtain ⟨kvs, e⟩ := h.dict
  exact sq_keep e k q
theorem scPick : FnScope ["pen", "some"] ["pen", "some"] (defScope sPick) := ⟨rfl, rfl, rfl, by decide +kernel, rfl, by decide +kernel, by decide +kernel⟩
theorem ok_pick {fD : Addr} {fdD : FuncData} (F : FnP K "_law_pick" sPick f fd) (FD : FnP K "_law_draw" sDraw fD fdD) (mLen : mg "len" = none) (mInt : mg "int" = none) (mD : mg "_law_draw" = some (.ref fD)) :
    FnOk P w K mg base CX0 2 f fd ["pen", "some"] (spPick K) := by
  have GD : FnOk P w K mg base CX0 1 fD fdD ["pen", "many"] (spDraw K) := ok_draw FD mLen mInt
  have bD : Binds K fdD ["pen", "many"] [] := FD.bindsN fun _ _ _ _ _ _ us hl => match us, hl with | [_, _], _ => rfl
  refine F.ok scPick (fun vs H Q E h => ?_) (fun cdv A outer s H vs Q E hr h => ?_)
  · obtain ⟨p, l, z, n, xs, rfl, _⟩ := h
    rfl
  · obtain ⟨p, l, z, n, xs, rfl, S, hn, hl, h1, h2, k⟩ := h
    refine ⟨_, PSs.nox (pss_one (ps_ret (pe_ix ix_list (pv 1) (pe_call GD hr (by rfl) mD FD.kp bD .nil pass0 (pa_cons (pv 0) (pa_cons (pe_callB call_len (by rfl) mLen PySem.boot_len (pa_cons (pv 1) pa_nil)) pa_nil))) (fun _ _ => rfl)))), ?_⟩
    refine ⟨_, rfl, _, rfl, _, rfl, _, xs.length, rfl, .inl ⟨_, hl, rfl⟩, ?_⟩
    refine ⟨p, z, n, _, rfl, S, hn, by omega, by omega, fun r H' hr0 hr1 S' k' => ?_⟩
    obtain ⟨j, rfl⟩ : ∃ j : Nat, r = (j : Int) := ⟨r.toNat, by omega⟩
    have hj : j < xs.length := by omega
    refine ⟨l, xs, (j : Int), xs[j], rfl, rfl, sq_pen S k' hl, atI_nat (List.getElem?_eq_getElem hj), ?_⟩
    exact k _ _ (List.getElem_mem hj) S' k'
/-! ### the pen's making -/
theorem scPen : FnScope ["script", "fold", "cell"] ["script"] (defScope sPen) := ⟨rfl, rfl, rfl, by decide +kernel, rfl, by decide +kernel, by decide +kernel⟩
theorem ok_pen (F : FnP K "_law_pen" sPen f fd) (mInt : mg "int" = none) (mList : mg "list" = none) : FnOk P w K mg base CX0 1 f fd ["script"] (spPen K) := by
  refine F.ok scPen (fun vs H Q E h => ?_) (fun cdv A outer s H vs Q E hr h => ?_)
  · obtain ⟨a, ns, rfl, _⟩ := h
    rfl
  · obtain ⟨a, ns, rfl, hS, hlen, k⟩ := h
    refine ⟨_, PSs.nox (pss_cons (ps_set (i := 1) scPen.nd rfl (Or.inl rfl) pe_int)
      (pss_cons (ps_for PassesOwn.never rfl (pi_list (pv 0)) (pg_name (i := 2) scPen.nd rfl (Or.inl rfl))
        (pss_one (ps_set (i := 1) scPen.nd rfl (Or.inl rfl) (pe_op op_mod (pe_callTy call_int1 (by rfl) mInt (by decide +kernel) (pa_cons (pe_op op_add (pe_op op_mul (pv 1) pe_int) (pv 2)) pa_nil)) pe_int))))
      (pss_one (ps_ret (pe_disp (pps_cons pe_str (pe_callTy call_list_of (by rfl) mList (by decide +kernel) (pa_cons (pv 0) pa_nil)) (pps_cons pe_str pe_int (pps_cons pe_str pe_int (pps_cons pe_str pe_int (pps_cons pe_str (pv 1) pps_nil))))) (by rfl) (by rfl) (fun z => by cases z) (by decide)))))), ?_⟩
    refine ⟨_, rfl, a, rfl, ⟨_, hS⟩, for_list (K := K) (a := a) (xs := ns.map V.int) (fun i σ H2 => ∃ (v : Int) (c : Option V), σ = [some (.ref a), some (.int v), c] ∧ H2 = H ∧ 0 ≤ v ∧ v < 999999587)
      ⟨0, none, rfl, rfl, by decide, by decide⟩ (fun i σ H2 _ h => ?_) ?_ ?_⟩
    · obtain ⟨_, _, _, rfl, _⟩ := h
      exact hS
    · rintro i y σ H2 hi ⟨v, c, rfl, rfl, h0, h1⟩
      obtain ⟨z, rfl⟩ : ∃ z, y = V.int z := by
        rw [List.getElem?_map] at hi
        cases e : ns[i]? with
        | none =>
          rw [e] at hi
          cases hi
        | some z =>
          rw [e] at hi
          exact ⟨z, (Option.some.inj hi).symm⟩
      refine ⟨_, rfl, _, _, rfl, rfl, .inl ⟨by omega, by omega⟩, _, rfl, _, _, rfl, rfl, .inl ⟨_, rfl, _, _, rfl, rfl, (by show (0 : Int) < 999999587; decide), ?_⟩⟩
      exact ⟨_, _, rfl, rfl, Int.emod_nonneg _ (by decide), Int.emod_lt_of_pos _ (by decide)⟩
    · rintro σ H2 ⟨v, c, rfl, rfl, h0, h1⟩
      refine fun p np => ?_
      have sU : Same H2 (upd H2 p (.dK [])) := fun b o e => by
        rw [upd_ne (ne_of_none e np)]
        exact e
      refine ⟨_, rfl, a, ns.map V.int, rfl, .inl (sU.seq hS), fun l nl => ?_⟩
      have npl : p ≠ l := ne_of_none upd_same nl
      refine ⟨_, rfl, ⟨by rw [upd_ne npl]; exact upd_same, [(.inr "cells", .ref l), (.inr "at", .int 0), (.inr "digits", .int 0), (.inr "count", .int 0), (.inr "fold", .int v)], rfl, (by show 5 ≤ 15; decide), ?_⟩⟩
      have hl0 : H2 l = none := sU.free nl
      refine k p (l, ns) _ np ⟨⟨0, 0, 0, v, upd_same, .inl (.inl ?_), hlen, by decide, by decide, by decide, h0, by omega⟩⟩ fun b o e => ?_
      · rw [upd_ne npl.symm]
        exact upd_same
      · rw [upd_ne (ne_of_none e np), upd_ne (ne_of_none e hl0), upd_ne (ne_of_none e np)]
        exact e
end
theorem PenAt.same {K : PySem.W.Frag} {H H' : Hp} {p : Addr} {z : Addr × List Int} {n : Nat} (h : PenAt K H p z n) (e : Same H H') : PenAt K H' p z n := by
  obtain ⟨⟨a, d, c, fo, hp, hl, r⟩⟩ := h
  exact ⟨⟨a, d, c, fo, e _ _ hp, e.seq hl, r⟩⟩
/-- a thing that is newer than the pen is stored -/
theorem PenAt.other {K : PySem.W.Frag} {H H' : Hp} {p q : Addr} {z : Addr × List Int} {n m : Nat} {o : HO} (h0 : PenAt K H p z n) (nq : H q = none) (h : PenAt K H' p z m) : PenAt K (upd H' q o) p z m := by
  obtain ⟨⟨_, _, _, _, hp0, hl0, _⟩⟩ := h0
  obtain ⟨⟨a, d, c, fo, hp, hl, r⟩⟩ := h
  refine ⟨⟨a, d, c, fo, by rw [upd_ne (ne_of_none hp0 nq)]; exact hp, ?_, r⟩⟩
  have far : ∀ {u : HO}, H z.1 = some u → SqL K (upd H' q o) z.1 (z.2.map V.int) := fun e => by
    have ne := ne_of_none e nq
    rcases hl with (hl | ⟨o, hl⟩) | hl
    · exact .inl (.inl (by rw [upd_ne ne]; exact hl))
    · exact .inl (.inr ⟨o, by rw [upd_ne ne]; exact hl⟩)
    · exact .inr hl
  rcases hl0 with (h | ⟨_, h⟩) | h
  · exact far h
  · exact far h
  · exact .inr h
end K90
/-! repr of data, where nothing is being told as yet. -/
namespace K90
open PySem L2

/-- the one dict that is drawn -/
def oneD : List (Key × V) := [(.inr "a", .int 1)]
def oneP : PyData := .dict [(.str "a", .int 1)]
/-- a value by its data, at its top a dict let -/
inductive Dw (K : PySem.W.Frag) (H : Hp) : V → PyData → Prop where
  | dp {v : V} {d : PyData} (h : Dp K H v d) : Dw K H v d
  | dic {a : Addr} (h : H a = some (.dK oneD)) : Dw K H (.ref a) oneP
inductive DwAll (K : PySem.W.Frag) (H : Hp) : List V → List PyData → Prop where
  | nil : DwAll K H [] []
  | cons {v : V} {d : PyData} {vs : List V} {ds : List PyData} (h : Dw K H v d) (t : DwAll K H vs ds) : DwAll K H (v :: vs) (d :: ds)

section
variable {K : PySem.W.Frag} {H : Hp}
mutual
theorem dp_noDict : ∀ (d : PyData) (v : V), Dp K H v d → d.hasDict = false
  | .none, _, _ => rfl
  | .bool _, _, _ => rfl
  | .int _, _, _ => rfl
  | .str _, _, _ => rfl
  | .list ds, _, h => by
    cases h with
    | lst hs ha =>
      simp only [PyData.hasDict]
      exact dpAll_noDict ds _ ha
  | .tuple ds, _, h => by
    cases h with
    | tup hs ha =>
      simp only [PyData.hasDict]
      exact dpAll_noDict ds _ ha
  | .dict _, _, h => by cases h
theorem dpAll_noDict : ∀ (ds : List PyData) (vs : List V), DpAll K H vs ds → PyData.hasDictAll ds = false
  | [], _, _ => rfl
  | d :: ds, _, h => by
    cases h with
    | cons h1 h2 =>
      simp only [PyData.hasDictAll, dp_noDict d _ h1, dpAll_noDict ds _ h2, Bool.or_self]
end
end

section
variable {X : Cx} {pins : List (Addr × Obj)} {σ : L2.St} {H : Hp} {s : Shared}
theorem Dw.reads (I : Inv X pins σ H s) {d : PyData} {v : V} {u : Value} (h : Dw X.K H v d) (r : RelV v u) : ∃ as, Reads s.heap u d as ∧ (d.hasDict = true → sysModules ∉ as) := by
  cases h with
  | dp h =>
    obtain ⟨as, hr⟩ := Dp.reads I d v u h r
    refine ⟨as, hr, fun z => ?_⟩
    rw [dp_noDict d v h] at z
    cases z
  | @dic a h =>
    cases (show u = Value.ref a from r)
    obtain ⟨_, hn, vs, kv, o, es, ep, e1, e2, e3, _, e4, _⟩ := (show ObjOk X.prog X.w H s.heap a (.dK oneD) from I.hok a _ h)
    have kv2 : KV [((Sum.inr "a" : Key), V.int 1)] vs := kv
    generalize hl : es.toList = L at e4
    cases kv2 with
    | cons k1 k2 =>
      cases k2
      obtain ⟨hk, t, hv⟩ := k1
      cases e4 with
      | cons p1 p2 p3 =>
        cases p3
        rename_i e
        rw [← hk] at p1
        obtain ⟨t2, hk2⟩ := Value.isStrOf_shape (show Value.isStrOf "a" e.key = true from p1)
        have hv2 : e.val = .int 1 t := p2.trans hv
        refine ⟨[a], .dict (as := []) (bs := []) e1 e2.1 e3 ?_ ?_, fun _ hm => ?_⟩
        · rw [hl]
          show ReadsAll s.heap [e.key] [.str "a"] []
          rw [hk2]
          exact .cons (as := []) (bs := []) (.str _ _) .nil
        · rw [hl]
          show ReadsAll s.heap [e.val] [.int 1] []
          rw [hv2]
          exact .cons (as := []) (bs := []) (.int _ _) .nil
        · have e9 : sysModules = a := by simpa using hm
          rw [e9] at hn
          simp at hn
theorem DwAll.reads (I : Inv X pins σ H s) : ∀ {vs : List V} {ds : List PyData} {us : List Value}, DwAll X.K H vs ds → Vals vs us → PyData.showableAll ds = true → (∀ t ∈ PyData.shownAll ds, t.length ≤ sizeLine) →
    ∃ as bs, ReadsAll s.heap us ds as ∧ ReadAtMost s.heap (PyData.depthAll ds) bs ∧ ReprAllK X.prog X.w bs s.heap (PyData.depthAll ds) us (PyData.shownAll ds)
  | _, _, _, .nil, r, _, _ => by
    cases r
    exact ⟨[], [], .nil, (fun b hb => by cases hb), .nil⟩
  | _, _, _, .cons (d := d) (ds := ds) h t, r, hs, hz => by
    cases r with
    | cons r1 r2 =>
      have hs' : (d.showable && PyData.showableAll ds) = true := hs
      rw [Bool.and_eq_true] at hs'
      obtain ⟨a1, q1, m1⟩ := h.reads I r1
      obtain ⟨a2, b2, q2, w2, k2⟩ := DwAll.reads I t r2 hs'.2 fun t ht => hz t (List.mem_cons_of_mem _ ht)
      obtain ⟨b1, w1, k1⟩ := ReprK.of_reads (prog := X.prog) (w := X.w) q1 hs'.1 m1 (hz _ List.mem_cons_self)
      refine ⟨a1 ++ a2, b1 ++ b2, .cons q1 q2, (w1.mono (Nat.le_max_left _ _)).append (w2.mono (Nat.le_max_right _ _)), ?_⟩
      exact .cons ((k1.more fun b hb => List.mem_append_left _ hb).level_le (Nat.le_max_left _ _)) (k2.more_le (fun b hb => List.mem_append_right _ hb) (Nat.le_max_right _ _))
/-- repr of a list of such -/
theorem call_reprL (hg : X.A.guards = some []) (hu : X.A.units + 64 < cLine) : CallR X (.builtin "repr") (fun xs H Q => ∃ a ys ds, xs = [.ref a] ∧ SqL X.K H a ys ∧ DwAll X.K H ys ds ∧ PyData.showableAll ds = true ∧
    PyData.depthAll ds ≤ 20 ∧ (PyData.list ds).shown.length ≤ sizeLine ∧ Q (.str (PyData.list ds).shown) H) := by
  intro pins s σ H xs us Q I r h
  obtain ⟨a, ys, ds, rfl, hs, hd, hsh, hdp, hz, q⟩ := h
  obtain ⟨u, rfl, ru⟩ := vals1 r
  cases (show u = Value.ref a from ru)
  obtain ⟨its, rv, ⟨o, n, ho, hc, _, hda⟩, _⟩ := I.list hs
  have hz' : (listText (PyData.shownAll ds)).length ≤ sizeLine := by simpa only [PyData.shown] using hz
  obtain ⟨as, bs, q1, w1, k1⟩ := hd.reads I rv hsh fun t ht => Nat.le_trans (listText_mem_le ht) hz'
  have rd : Reads s.heap (.ref a) (.list ds) (a :: as) := .list ho hc hda (by simpa using q1)
  have hna : a ∉ bs := not_mem_of_deeper rd (by simp only [PyData.depth]; omega) w1
  have fin : ∀ (h' : Heap) (t tk : Tok), (∀ b o, s.heap.get? b = some o → h'.get? b = some o) → EP X pins σ Q (.str (listText (PyData.shownAll ds)) t) { s with heap := h', toks := tk } := fun h' t tk hk =>
    ⟨.str _, H, I.un (Un.kept hk) (I.hok.kept hk), ⟨t, rfl⟩, by simpa only [PyData.shown] using q⟩
  refine call_repr_slot (by omega) ⟨o, ho, hc⟩ F.slot_list_repr.toG ?_
  cases its with
  | nil =>
    cases q1
    refine call_list_repr_empty ⟨o, ho, hc⟩ ho hda ⟨_, _, rfl, ?_⟩
    have e := fin s.heap s.toks (s.toks + 1) fun _ _ e => e
    simp only [PyData.shownAll, listText_nil] at e
    exact e
  | cons x l =>
    refine call_list_reprK ho hc hda hna (by simpa using k1.length_eq) (fun i y e => k1.item i y (by simpa using e)) (by show X.A.guards = some []; exact hg) (fun b _ => Clear.nil b) (by show X.A.units + 1 + (PyData.depthAll ds + 1) < cLine; omega) (fun _ _ e => e) (fun h' u tk hk => ⟨_, _, rfl, fin h' u tk hk⟩) hz'
/-- repr of one such value -/
theorem call_reprV (hg : X.A.guards = some []) (hu : X.A.units + 64 < cLine) : CallR X (.builtin "repr") (fun xs H Q => ∃ v d, xs = [v] ∧ Dw X.K H v d ∧ d.showable = true ∧ d.depth ≤ 20 ∧ d.shown.length ≤ sizeLine ∧ Q (.str d.shown) H) := by
  intro pins s σ H xs us Q I r h
  obtain ⟨v, d, rfl, hd, hsh, hdp, hz, q⟩ := h
  obtain ⟨u, rfl, ru⟩ := vals1 r
  obtain ⟨as, rd, hsm⟩ := hd.reads I ru
  have fin : ∀ (h' : Heap) (t tk : Tok), (∀ b o, s.heap.get? b = some o → h'.get? b = some o) → EP X pins σ Q (.str d.shown t) { s with heap := h', toks := tk } := fun h' t tk hk =>
    ⟨.str _, H, I.un (Un.kept hk) (I.hok.kept hk), ⟨t, rfl⟩, q⟩
  cases u with
  | ref a => exact repr_of_reads' rd hsh hsm hg (by omega) (fun _ _ e => e) fin hz
  | none => 
    cases rd
    exact PySem.P.repr_of_none (fin s.heap s.toks _ fun _ _ e => e)
  | bool b =>
    cases rd
    exact PySem.P.repr_of_bool (fin s.heap s.toks _ fun _ _ e => e)
  | int i t =>
    cases rd
    exact PySem.P.repr_of_int (by simpa [PyData.showable] using hsh) (fin s.heap s.toks _ fun _ _ e => e)
  | str x t =>
    cases rd
    exact PySem.P.repr_of_str (fin s.heap s.toks _ fun _ _ e => e) hz
  | _ => cases rd
end
end K90
/-! == and != of instances whose classes have none of their own; classes without __init__. -/
namespace K90
open PySem L2

/-- a class that leaves == and != to object, and has it alone above it -/
structure EqC (K : PySem.W.Frag) (C : Addr) : Prop where
  mro : (PySem.W.clsIn K C).map (·.mro) = some [.ref C, .type "object"]
  eq : PySem.W.findIn K (.ref C) "__eq__" = some (some (.builtin "object.__eq__"))
  ne : PySem.W.findIn K (.ref C) "__ne__" = some (some (.builtin "object.__ne__"))

section
variable {K : PySem.W.Frag} {C D : Addr}
theorem EqC.mroIn (h : EqC K C) (v : Value) : PySem.W.mroIn K C v = some (([.ref C, .type "object"] : List Value).contains v) := by
  obtain ⟨cd, e1, e2⟩ := Option.map_eq_some_iff.mp h.mro
  unfold PySem.W.mroIn
  rw [e1, Option.bind_some, e2]
  rfl
theorem EqC.top (h : EqC K C) : PySem.W.mroIn K C (.type "object") = some true := by
  rw [h.mroIn]
  rfl
theorem EqC.other (h : EqC K D) (n : C ≠ D) : PySem.W.mroIn K D (.ref C) = some false := by
  rw [h.mroIn]
  have e : (Value.ref C == Value.ref D) = false := beq_eq_false_iff_ne.mpr fun z => n (Value.ref.inj z)
  simp only [List.contains_cons, e, Bool.false_or, List.contains_nil, Bool.or_false]
  rfl
end

section
variable {M : Model} {prog : Program} {w : World} {A : Around} {E : Value → Shared → Prop} {s : Shared} {K : PySem.W.Frag} {x y C D : Addr} {ox oy : Obj} {od oe : Option Obj}

theorem eqc_call {v : Value} {z : Value} {Q : Value → Shared → Prop} (X : K.In s.heap) (I : PySem.W.InstAt s.heap x ox C od) (c : EqC K C)
    (he : ∀ R : Fin → Shared → Prop, R (.done (.ret z)) s → wpAny (model prog w) A.in1 (Builtin.«object.__eq__» ⟨[.ref x, v], []⟩) R (fun e s' => E e s') s) (hq : Q z s) :
    wpAny (model prog w) A (call (.builtin "object.__eq__") [.ref x, v]) Q E s :=
  wpAny_call (codeAny_call_builtin F.cmp_object.eq.plain F.cmpEntry_eq (PySem.W.check_slot F.cmpKind_eq F.cmpSplit_eq (I.type.andThen (PySem.W.looks_mroIn X c.top)) (F.cmpArgs_eq _ _) (he _ hq)))
theorem eqc_bound {args : List Value} {Q : Option Value → Shared → Prop} (X : K.In s.heap) (I : PySem.W.InstAt s.heap x ox C od) (c : EqC K C)
    (h : wpAny M A (call (.builtin "object.__eq__") (.ref x :: args)) (fun v => Q (some v)) E s) : wpAny M A (callSpecialIfBound? (.ref x) "__eq__" args) Q E s :=
  HN.ifBound_objEq X I c.eq h
theorem nec_bound {args : List Value} {Q : Option Value → Shared → Prop} (X : K.In s.heap) (I : PySem.W.InstAt s.heap x ox C od) (c : EqC K C)
    (h : wpAny M A (call (.builtin "object.__ne__") (.ref x :: args)) (fun v => Q (some v)) E s) : wpAny M A (callSpecialIfBound? (.ref x) "__ne__" args) Q E s := by
  simp only [callSpecialIfBound?, bindSpecialIfBound?]
  refine wpAny_holding (wpAny_bind (wpAny_bind (wpAny_bind (I.type.here ((PySem.W.looks_findIn X c.ne).here ?_)))))
  refine wpAny_bind (wpAny_askSetting (wpAny_ite ?_))
  have last : wpAny M A (call (.builtin "object.__ne__") ([.ref x] ++ args) >>= fun v => pure (some v)) Q E s := wpAny_bind (wpAny_mono h (fun v s' z => wpAny_pure z) fun _ _ z => z)
  split
  · exact wpAny_bind (wpAny_of_eq (F.cmp_object.ne.bind _) (wpAny_pure (by exact last)))
  · exact wpAny_tryCatch (wpAny_bind (wpAny_of_eq (F.cmp_object.ne.bind _) (wpAny_pure (by exact last))))
/-- object.__eq__ of x and another thing: not told -/
theorem eqc_try (X : K.In s.heap) (I : PySem.W.InstAt s.heap x ox C od) (c : EqC K C) (J : PySem.W.InstAt s.heap y oy D oe) (n : x ≠ y) {Q : Option Value → Shared → Prop} (hq : Q none s) :
    wpAny (model prog w) A (tryCompare (.ref x) "__eq__" (.ref y)) Q E s := by
  unfold tryCompare
  refine wpAny_bind (eqc_bound X I c (eqc_call X I c (z := .notImplemented) (fun R h => objEq_entry_other n I.at_ J.at_ (by rw [I.cls]; intro z; cases z) h) ?_))
  exact wpAny_pure hq
theorem eqc_self (X : K.In s.heap) (I : PySem.W.InstAt s.heap x ox C od) (c : EqC K C) {Q : Option Value → Shared → Prop} (hq : Q (some (.bool true)) s) :
    wpAny (model prog w) A (tryCompare (.ref x) "__eq__" (.ref x)) Q E s := by
  unfold tryCompare
  refine wpAny_bind (eqc_bound X I c (eqc_call X I c (z := .bool true) (fun R h => objEq_entry_same h) ?_))
  exact wpAny_pure hq
theorem nec_try (hu : A.units + 1 < cLine) (X : K.In s.heap) (I : PySem.W.InstAt s.heap x ox C od) (c : EqC K C) (J : PySem.W.InstAt s.heap y oy D oe) (n : x ≠ y) {Q : Option Value → Shared → Prop} (hq : Q none s) :
    wpAny (model prog w) A (tryCompare (.ref x) "__ne__" (.ref y)) Q E s := by
  unfold tryCompare
  refine wpAny_bind (nec_bound X I c (wpAny_call (codeAny_call_builtin F.cmp_object.ne.plain F.cmpEntry_ne (PySem.W.check_slot F.cmpKind_ne F.cmpSplit_ne (I.type.andThen (PySem.W.looks_mroIn X c.top)) (F.cmpArgs_ne _ _) ?_))))
  unfold Builtin.«object.__ne__»
  have one : ∀ {Q : Option Value → Shared → Prop}, Q (some .notImplemented) s → wpAny (model prog w) A.in1 (callSpecialIfBound? (.ref x) "__eq__" [.ref y]) Q E s := fun h =>
    eqc_bound X I c (eqc_call X I c (z := .notImplemented) (fun R h => objEq_entry_other n I.at_ J.at_ (by rw [I.cls]; intro z; cases z) h) h)
  repeat (first | with_reducible refine wpAny_cRoomFor (show A.in1.units < cLine from hu) ?_ | (refine wpAny_bind (m := callSpecialIfBound? (.ref x) (Str.ofString "__eq__") [.ref y]) (one ?_)) | wp_step)
  exact hq
/-- the rest of a comparison that neither tells -/
theorem cmp_other {op : CmpOp} {nm : Str} {b : Bool} (hu : A.units < cLine) (X : K.In s.heap) (I : PySem.W.InstAt s.heap x ox C od) (J : PySem.W.InstAt s.heap y oy D oe) (d : EqC K D) (n : x ≠ y)
    (t1 : ∀ {Q : Option Value → Shared → Prop}, Q none s → wpAny (model prog w) A (tryCompare (.ref x) nm (.ref y)) Q E s)
    (t2 : ∀ {Q : Option Value → Shared → Prop}, Q none s → wpAny (model prog w) A (tryCompare (.ref y) nm (.ref x)) Q E s)
    (ho : (op = .Eq ∧ nm = "__eq__" ∧ b = false) ∨ (op = .NotEq ∧ nm = "__ne__" ∧ b = true)) {Q : Value → Shared → Prop} (hq : Q (.bool b) s) : wpAny (model prog w) A (compareOp op (.ref x) (.ref y)) Q E s := by
  have rf : ∀ {α : Type} {k : Bool → Sem α} {R : α → Shared → Prop}, wpAny (model prog w) A (k false) R E s →
      wpAny (model prog w) A (if Value.ref C != Value.ref D then isSubtype (.ref D) (.ref C) >>= k else pure false >>= k) R E s := fun {α k R} h => by
    by_cases e : C = D
    · rw [e, if_neg (by simp)]
      exact wpAny_bind (wpAny_pure h)
    · rw [if_pos (by simp [e])]
      exact wpAny_bind ((PySem.W.looks_mroIn X (d.other e)).here h)
  have hnt : ox.cls ≠ .type "tuple" := by
    rw [I.cls]
    intro z
    cases z
  rcases ho with ⟨rfl, rfl, rfl⟩ | ⟨rfl, rfl, rfl⟩
  · show wpAny _ _ (richCompare .Eq _ _) _ _ _
    simp only [richCompare, cmpInfo_Eq, oneThing_ref]
    repeat (first | with_reducible refine wpAny_cRoomFor hu ?_ | (with_reducible refine wpAny_loadPart_at I.at_ ?_; rw [I.cls]) | (with_reducible refine wpAny_loadPart_at J.at_ ?_; rw [J.cls]) | with_reducible refine rf ?_ | with_reducible refine t1 ?_ | with_reducible refine t2 ?_ | with_reducible refine wpAny_isSame_ref_other n I.at_ J.at_ hnt ?_ | wp_step)
    exact hq
  · show wpAny _ _ (richCompare .NotEq _ _) _ _ _
    simp only [richCompare, cmpInfo_NotEq, oneThing_ref]
    repeat (first | with_reducible refine wpAny_cRoomFor hu ?_ | (with_reducible refine wpAny_loadPart_at I.at_ ?_; rw [I.cls]) | (with_reducible refine wpAny_loadPart_at J.at_ ?_; rw [J.cls]) | with_reducible refine rf ?_ | with_reducible refine t1 ?_ | with_reducible refine t2 ?_ | with_reducible refine wpAny_isSame_ref_other n I.at_ J.at_ hnt ?_ | wp_step)
    exact hq
theorem cmp_self (hu : A.units < cLine) (X : K.In s.heap) (I : PySem.W.InstAt s.heap x ox C od) (c : EqC K C) {Q : Value → Shared → Prop} (hq : Q (.bool true) s) : wpAny (model prog w) A (compareOp .Eq (.ref x) (.ref x)) Q E s := by
  show wpAny _ _ (richCompare .Eq _ _) _ _ _
  simp only [richCompare, cmpInfo_Eq, oneThing_ref]
  have ne : (Value.ref C != Value.ref C) = false := by simp
  repeat (first | with_reducible refine wpAny_cRoomFor hu ?_ | (with_reducible refine wpAny_loadPart_at I.at_ ?_; rw [I.cls]) | (rw [ne]) | with_reducible refine eqc_self X I c ?_ | wp_step)
  exact hq
end

section
variable {X : Cx}
/-- == of two instances: whether they are one -/
def rEqI (K : PySem.W.Frag) : R2 := fun x y H Q => ∃ a b C D dx dy fs gs, x = .ref a ∧ y = .ref b ∧ H a = some (.ins C dx fs) ∧ H b = some (.ins D dy gs) ∧ EqC K C ∧ EqC K D ∧ Q (.bl (decide (a = b))) H
/-- != of two that are not one -/
def rNeI (K : PySem.W.Frag) : R2 := fun x y H Q => ∃ a b C D dx dy fs gs, x = .ref a ∧ y = .ref b ∧ H a = some (.ins C dx fs) ∧ H b = some (.ins D dy gs) ∧ EqC K C ∧ EqC K D ∧ a ≠ b ∧ Q (.bl true) H
theorem op_eqI (hu : X.A.units + 1 < cLine) : OpR X (compareOp .Eq) (rEqI X.K) := by
  intro pins s σ H x y v u Q I rx ry h
  obtain ⟨a, b, C, D, dx, dy, fs, gs, rfl, rfl, ha, hb, c, d, q⟩ := h
  cases (show v = Value.ref a from rx)
  cases (show u = Value.ref b from ry)
  obtain ⟨mA, oa, _⟩ := ins_get I.hok ha
  obtain ⟨mB, ob, _⟩ := ins_get I.hok hb
  obtain ⟨od, Ia, _⟩ := oa.look
  obtain ⟨oe, Ib, _⟩ := ob.look
  by_cases e : a = b
  · subst e
    refine cmp_self (Nat.lt_of_succ_lt hu) I.kIn Ia c ⟨.bl true, H, I, rfl, ?_⟩
    rw [decide_eq_true rfl] at q
    exact q
  · refine cmp_other (Nat.lt_of_succ_lt hu) I.kIn Ia Ib d e (fun z => eqc_try I.kIn Ia c Ib e z) (fun z => eqc_try I.kIn Ib d Ia (Ne.symm e) z) (.inl ⟨rfl, rfl, rfl⟩) ⟨.bl false, H, I, rfl, ?_⟩
    rw [decide_eq_false e] at q
    exact q
theorem op_neI (hu : X.A.units + 1 < cLine) : OpR X (compareOp .NotEq) (rNeI X.K) := by
  intro pins s σ H x y v u Q I rx ry h
  obtain ⟨a, b, C, D, dx, dy, fs, gs, rfl, rfl, ha, hb, c, d, e, q⟩ := h
  cases (show v = Value.ref a from rx)
  cases (show u = Value.ref b from ry)
  obtain ⟨mA, oa, _⟩ := ins_get I.hok ha
  obtain ⟨mB, ob, _⟩ := ins_get I.hok hb
  obtain ⟨od, Ia, _⟩ := oa.look
  obtain ⟨oe, Ib, _⟩ := ob.look
  exact cmp_other (Nat.lt_of_succ_lt hu) I.kIn Ia Ib d e (fun z => nec_try hu I.kIn Ia c Ib e z) (fun z => nec_try hu I.kIn Ib d Ia (Ne.symm e) z) (.inr ⟨rfl, rfl, rfl⟩) ⟨.bl true, H, I, rfl, q⟩
end

section
variable {X : Cx} {C : Addr} {x : Str} {p pos : Pos}
/-- C() of a class without an __init__ -/
theorem pe_bare (hM : PySem.W.makesIn X.K C = true) (hi : PySem.W.findIn X.K (.ref C) "__init__" = some (some (.builtin "object.__init__"))) (hk : PySem.W.keepIn X.K (.ref C) = true) (ec : EqC X.K C) (hg : Gl X x) (hm : X.mg x = some (.ref C))
    (hdb : (x == ("__debug__" : Str)) = false := by decide) :
    PE X (.Call (.Name x p) [] [] pos) (fun _ H Q => ∀ x dx, H x = none → H dx = none → dx ≠ x → Q (.ref x) (upd (upd H dx (.own x)) x (.ins C dx []))) := by
  refine ⟨fun pins s σ H Q I h => ?_⟩
  refine wpAny_Call_Name_kw (ld_glob I hg hm ?_ hdb)
  refine PySem.W.callWith_K0 I.kIn hk ?_
  have hq := h (s.heap.objs.size + 1) s.heap.objs.size (I.hok.fresh (Nat.le_succ _)) (I.hok.fresh (Nat.le_refl _)) (Nat.ne_of_lt (Nat.lt_succ_self _))
  have I2 := Inv.made (C := C) I
  refine wpAny_call (make_map0 I.kIn hM hi (fun self => PySem.W.Looks.of_pure (PySem.W.oi_bind self)) ?_)
  have eo := I2.hok _ _ (upd_same (H := upd H s.heap.objs.size (.own (s.heap.objs.size + 1))))
  obtain ⟨mA, oa, _⟩ := ins_get I2.hok (upd_same (H := upd H s.heap.objs.size (.own (s.heap.objs.size + 1))))
  obtain ⟨od, Ia, _⟩ := oa.look
  refine codeAny_call_builtin PySem.W.oi_plain PySem.W.entry_oi (PySem.W.check_slot PySem.W.oi_kind PySem.W.oi_split (Ia.type.andThen (PySem.W.looks_mroIn I2.kIn ec.top)) (PySem.W.oi_args _) ?_)
  rw [PySem.W.oi_run]
  exact wpAny_pure ⟨rfl, ⟨.ref (s.heap.objs.size + 1), _, I2, rfl, hq⟩⟩
end
end K90
/-! A def whose promise may lean on it that nothing is being told (repr's guards are empty); the law's end for such a def. -/
namespace K90
open PySem L2 PySem.Spec PyProof.Rows

/-- as FnOk, of a call ahead of which no repr is under way -/
structure FnG (P : Program) (w : World) (K : PySem.W.Frag) (mg : Str → Option Value) (base : Heap) (CX : CXT) (k : Nat) (f : Addr) (fd : FuncData) (ps : List Str) (sp : Sp) : Prop where
  len : ∀ vs H Q E, sp vs H Q E → vs.length = ps.length
  run : ∀ (A : Around) (outer : List Env) (s : Shared) (H : Hp) (args : Args) (us : List Value) (vs : List V) (Q : VK) (E : XK), A.guards = some [] → Room k A → Env0 P w K mg base A outer s H →
    BindsTo s fd args (ps.zip us) → Vals vs us → sp vs H Q E → codeAny (model P w) A (.call (.ref f) args) (CR CX outer P w H s Q E) s

section
variable {P : Program} {w : World} {K : PySem.W.Frag} {mg : Str → Option Value} {base : Heap} {x qual : Str} {params : Arguments} {body : List Stmt} {scope : Scope} {dvs : List V} {kws : List (Str × V)} {f : Addr} {fd : FuncData}
theorem okG {CX : CXT} {N ps : List Str} {k : Nat} {sp : Sp} (F : FunD K x qual params body scope dvs kws f fd) (S : FnScope N ps scope) (len : ∀ vs H Q E, sp vs H Q E → vs.length = ps.length)
    (hbody : ∀ (cdv : Value) (A : Around) (outer : List Env) (s : Shared) (H : Hp) (vs : List V) (Q : VK) (E : XK), A.guards = some [] → Room k (A.deeper (envOfC qual scope s.heap.objs.size f cdv)) → sp vs H Q E →
      ∃ t, PSs (cxOf CX P w K mg base N qual scope f cdv A outer s H E) body t ∧ t { nx := fun _ H' => Q .non H', rt := Q } (start N vs) H) : FnG P w K mg base CX (k + 1) f fd ps sp := by
  obtain ⟨oc, od, dV, kV, doc, pm, an, cdv, ct, osl, rfl, lk, hcd, _, _⟩ := F.ex
  refine ⟨len, fun A outer s H args us vs Q E hg hr e0 hb r hsp => ?_⟩
  have hl := len _ _ _ _ hsp
  have inK : K.In s.heap := e0.mod.kin.keeps fun b o z => (e0.bs b o z).1
  have noL : s.heap.NoLimit := e0.mod.nolimit.keeps fun b o z => (e0.bs b o z).1
  have kinds : ∀ y ∈ ps.zip us, scope.names.lookup y.1 = some .local ∨ (scope.names.lookup y.1 = some .cell ∧ ((cellsFrom (s.heap.objs.size + 1) scope.names []).lookup y.1).isSome = true) := by
    rintro ⟨n, v⟩ hy
    rcases S.par n (List.of_mem_zip hy).1 with q | q
    · exact .inl q
    · exact .inr ⟨q, PySem.W.cellsFrom_some _ _ _ (.inl q)⟩
  refine codeAny_call_function hr.depth (inK _ _ lk) rfl S.co S.gen rfl (PySem.W.codeRec_of inK hcd) (hb _ _ _ _ ?_)
  refine wpAny_newFunctionEnv_cells S.kind kinds fun env he s1 e => ?_
  subst he
  refine ⟨noL.keeps e.toInCall.keep, codeAny_func ?_⟩
  obtain ⟨t, ht, hq⟩ := hbody cdv A outer s H vs Q E hg (hr.deeper _) hsp
  have I := inv_start (CX := CX) (E := E) S hr.hd e0 hl r e
  refine wpAny_mono (ht.run [] s1 (start N vs) H _ I hq) (fun fl s' hs => ?_) fun e s' hs => hs
  cases fl with
  | ret u =>
    obtain ⟨v, σ', H', J, rv, q⟩ := hs
    exact ⟨v, H', J.os, J.bare, J.base, J.hok, rv, q⟩
  | next =>
    obtain ⟨σ', H', J, q⟩ := hs
    exact ⟨.non, H', J.os, J.bare, J.base, J.hok, rfl, q⟩
  | brk =>
    obtain ⟨_, _, _, q⟩ := hs
    exact False.elim q
  | cont =>
    obtain ⟨_, _, _, q⟩ := hs
    exact False.elim q
end

section
variable {P : Program} {w : World} {K : PySem.W.Frag} {mg mb : Str → Option Value} {CX : CXT} {k : Nat} {fa a : Addr} {fd : FuncData} {x : Str} {sp : Sp} {s : Shared} {vs : List Value} {ns : List Int}
/-- what the call of the law has to come to -/
abbrev LawEnd (s : Shared) (r : Result) (s' : Shared) : Prop := r = .ok (.ret (.bool true)) ∧ OldK s.heap s'.heap ∧ s'.os = s.os ∧ AllBare s'.gens
theorem lawG (KX : K.In s.heap) (hns : s.heap.Ns mainGlobals mg) (hb : s.heap.Ns builtinsNs mb) (hbb : ∀ x : Str, x ≠ "__name__" → mb x = bootBuiltins x) (hlim : s.heap.NoLimit) (hg : s.gens = #[])
    (ha : s.heap.get? a = some { cls := .type "list", data := .seq vs.toArray }) (hi : IntsAre vs ns) (hl : ns.length ≤ sizeLine) (hr : Room k callerA)
    (F : ∀ base : Heap, K.In base → base.Ns mainGlobals mg → FnG P w K mg base CX k fa fd [x] sp) (hbind : ∀ (s : Shared) (u : Value), BindsTo s fd ⟨[u], []⟩ [(x, u)])
    (hsp : ∀ H : Hp, Only H → SqL K H a (ns.map V.int) → sp [.ref a] H (fun v _ => v = .bl true) fun _ _ _ => False)
    (hCX : ∀ H e s', CX [] H s (fun _ _ _ => False) e s' → False) : codeAny (model P w) callerA (.call (.ref fa) ⟨[.ref a], []⟩) (LawEnd s) s := by
  have rv := vals_ints hi
  have lenV := hi.length
  -- H tracks at most the script, and then K does not hold it
  have core : ∀ H : Hp, Only H → SqL K H a (ns.map V.int) → HOk P w H s.heap → (∀ b, H b ≠ none → b = a) → (H a ≠ none → K.lookup a = none) → codeAny (model P w) callerA (.call (.ref fa) ⟨[.ref a], []⟩) (LawEnd s) s := by
    intro H hO hS hok hA hK
    have free : ∀ {b : Addr} {o : Obj} {es : Array DictEntry} {ep : Nat}, s.heap.get? b = some o → o.data = .dict es ep → H b = none := fun {b o es ep} e d => by
      cases q : H b with
      | none => rfl
      | some u =>
        obtain rfl : b = a := hA b (by rw [q]; simp)
        rw [ha] at e
        cases e
        cases (show Data.seq vs.toArray _ = Data.dict es ep from d)
    have hide : ∀ {b : Addr} {m : Str → Option Value}, s.heap.Ns b m → (hidT s.heap H).Ns b m := by
      rintro b m ⟨o, es, ep, e, d, r⟩
      exact ⟨o, es, ep, hidT_get e (free e d), d, r⟩
    have inB : K.In (hidT s.heap H) := fun b o e => hidT_get (KX b o e) (by
      cases q : H b with
      | none => rfl
      | some u =>
        obtain rfl : b = a := hA b (by rw [q]; simp)
        rw [hK (by rw [q]; simp)] at e
        cases e)
    obtain ⟨mc, l1, l2⟩ := hlim
    have hM : Mod K mg (hidT s.heap H) := ⟨inB, hide hns, ⟨mb, hide hb, hbb⟩, ⟨mc, hide l1, l2⟩⟩
    have e0 : Env0 P w K mg (hidT s.heap H) callerA [] s H := ⟨rfl, hM, fun b o e => of_hidT e, Nat.le_of_eq (hidT_size _ _), trivial, fun b hb => absurd (show b ∈ ([] : List Addr) from hb) (by simp), hok, .of_eq hg⟩
    refine codeAny_mono ((F _ inB (hide hns)).run callerA [] s H ⟨[.ref a], []⟩ [.ref a] [.ref a] _ _ rfl hr e0 (hbind s (.ref a)) (.cons rfl .nil) (hsp H hO hS)) fun r s' h => ?_
    cases r with
    | error e => exact (hCX H e s' h).elim
    | ok fl =>
      cases fl with
      | ret u =>
        obtain ⟨v, H', os, bare, un, hok', r', q⟩ := h
        obtain rfl : v = .bl true := q
        obtain rfl : u = Value.bool true := r'
        refine ⟨rfl, OldK.of_keep fun b o e => ?_, os, bare⟩
        cases q : H b with
        | none => exact un.keep b o e q (fun z => absurd (show b ∈ ([] : List Addr) from z) (by simp)) (by simp)
        | some u =>
          rcases hO b with z | ⟨ob, xs, z⟩
          · rw [q] at z
            cases z
          · obtain ⟨e1, _⟩ := hok b _ z
            obtain ⟨e2, _⟩ := hok' b _ (un.frzs b ob _ z)
            rw [e] at e1
            cases e1
            exact e2
      | next => exact False.elim h
      | brk => exact False.elim h
      | cont => exact False.elim h
  cases hk : K.lookup a with
  | some o =>
    have e := KX a o hk
    rw [ha] at e
    cases e
    have nox : ∀ {b : Addr} {u : HO} {Z : Prop}, (none : Option HO) = some u → Z := fun z => by cases z
    exact core (fun _ => none) (fun _ => .inl rfl) (.inr ⟨_, vs.toArray, _, hk, rfl, rfl, rfl, by rw [List.size_toArray, lenV]; exact hl, by simpa using rv⟩) (fun b u z => nox (b := b) z) (fun b z => absurd rfl z) fun z => absurd rfl z
  | none =>
    refine core (fun b => if b = a then some (.frz { cls := .type "list", data := .seq vs.toArray } (.lst (ns.map V.int))) else none) (fun b => ?_) (.inl (.inr ⟨{ cls := .type "list", data := .seq vs.toArray }, if_pos rfl⟩)) (fun b u z => ?_) (fun b z => ?_) fun _ => hk
    all_goals by_cases hb : b = a
    · exact .inr ⟨_, _, if_pos hb⟩
    · exact .inl (if_neg hb)
    · cases (if_pos hb).symm.trans z
      subst hb
      exact ⟨ha, by rw [List.length_map]; exact hl, vs, _, rv, ha⟩
    · cases (if_neg hb).symm.trans z
    · exact hb
    · exact absurd (if_neg hb) z
end
/-- the law's call, from such a promise -/
theorem walkG {l : PySem.W.OpenLaw} {n k : Nat} {q : Program} {loose : List Str} {XP : (Str → Option Value) → Heap → Prop} {YP : World → Heap → Prop} {d : DefRec} {CX : CXT} {x : Str}
    (hn : l.most = some n) (hn2 : n ≤ sizeLine) (hdf : d.params.defaults = []) (hr : Room k callerA)
    (F : ∀ (w : World) (mg : Str → Option Value) (fa : Addr) (h : Heap), YP w h → h.Ns mainGlobals mg → mg d.name = some (.ref fa) →
      ∃ (K : PySem.W.Frag) (fd : FuncData) (sp : Sp), K.In h ∧ (∀ (s : Shared) (u : Value), BindsTo s fd ⟨[u], []⟩ [(x, u)]) ∧
        (∀ (H : Hp) (a : Addr) (ns : List Int), ns.length ≤ n → Only H → SqL K H a (ns.map V.int) → sp [.ref a] H (fun v _ => v = .bl true) fun _ _ _ => False) ∧
        ∀ base : Heap, K.In base → base.Ns mainGlobals mg → FnG l.prog w K mg base CX k fa fd [x] sp)
    (hCX : ∀ (H : Hp) (s : Shared) (e : Value) (s' : Shared), CX [] H s (fun _ _ _ => False) e s' → False) :
    PySem.W.WalkO q loose XP YP l.row.toRowW d [] (fun f vs => PySem.call f vs) := by
  refine Att.attach_call hn hdf fun w s₀ s₁ mg mb fa o pm cd doc a vs ns G Y ho hd hcd hmg hobj hints hlen hg => ?_
  obtain ⟨K, fd, sp, KX, hb, hsp, hF⟩ := F w mg fa _ Y G.T.g hmg
  exact lawG KX G.T.g G.T.b G.T.builtins G.T.nolimit hg hobj hints (Nat.le_trans hlen hn2) hr hF hb (fun H hO hS => hsp H a ns hlen hO hS) fun H e s' => hCX H s₁ e s'
end K90
/-! Values that are handed in, and their copies. G: the part of the heap that stays. -/
namespace K90
open PySem L2

section
variable {K : PySem.W.Frag} {G H : Hp}
theorem sqT_same {a : Addr} {xs : List V} (e : Same G H) (h : SqT K G a xs) : SqT K H a xs := by
  rcases h with (h | ⟨o, h⟩) | h
  · exact .inl (.inl (e _ _ h))
  · exact .inl (.inr ⟨o, e _ _ h⟩)
  · exact .inr h
mutual
theorem dp_same (e : Same G H) : ∀ (d : PyData) (v : V), Dp K G v d → Dp K H v d
  | .none, _, h => by
    cases h
    exact .non
  | .bool _, _, h => by
    cases h
    exact .bl _
  | .int _, _, h => by
    cases h
    exact .int _
  | .str _, _, h => by
    cases h
    exact .str _
  | .list ds, _, h => by
    cases h with
    | lst hs ha => exact .lst (e.seq hs) (dpAll_same e ds _ ha)
  | .tuple ds, _, h => by
    cases h with
    | tup hs ha => exact .tup (sqT_same e hs) (dpAll_same e ds _ ha)
  | .dict _, _, h => by cases h
theorem dpAll_same (e : Same G H) : ∀ (ds : List PyData) (vs : List V), DpAll K G vs ds → DpAll K H vs ds
  | [], _, h => by
    cases h
    exact .nil
  | d :: ds, _, h => by
    cases h with
    | cons h1 h2 => exact .cons (dp_same e d _ h1) (dpAll_same e ds _ h2)
end
theorem dw_same (e : Same G H) {v : V} {d : PyData} (h : Dw K G v d) : Dw K H v d := by
  cases h with
  | dp h => exact .dp (dp_same e _ _ h)
  | dic h => exact .dic (e _ _ h)
theorem dwAll_same (e : Same G H) : ∀ {vs : List V} {ds : List PyData}, DwAll K G vs ds → DwAll K H vs ds
  | _, _, .nil => .nil
  | _, _, .cons h t => .cons (dw_same e h) (dwAll_same e t)
theorem same_new {p : Addr} {o : HO} (h : H p = none) : Same H (upd H p o) := fun b u e => by
  rw [upd_ne (ne_of_none e h)]
  exact e
theorem same_upd {p : Addr} {o : HO} (e : Same G H) : Same (upd G p o) (upd H p o) := fun b u z => by
  by_cases hb : b = p
  · rw [hb] at z ⊢
    rw [upd_same] at z ⊢
    exact z
  · rw [upd_ne hb] at z ⊢
    exact e b u z
end

/-- a list as a tuple -/
def cpy : PyData → PyData
  | .list ds => .tuple ds
  | d => d
def isL : PyData → Bool
  | .list _ => true
  | _ => false
/-- what isinstance asks of such a value -/
theorem dw_ty {K : PySem.W.Frag} {H : Hp} {v : V} {d : PyData} (h : Dw K H v d) : ∃ t : Value, TyX K H v t ∧ PySem.W.kitOne K t (.type "list") = some (isL d) := by
  cases h with
  | dic h => exact ⟨_, .base (.dK h), kit_ty (by decide +kernel)⟩
  | dp h =>
    cases h with
    | non => exact ⟨_, .base .non, kit_ty (by decide +kernel)⟩
    | bl b => exact ⟨_, .base (.bl b), kit_ty (show kitB "bool" "list" = some false by decide +kernel)⟩
    | int i => exact ⟨_, .base (.int i), kit_ty (show kitB "int" "list" = some false by decide +kernel)⟩
    | str x => exact ⟨_, .base (.str x), kit_ty (show kitB "str" "list" = some false by decide +kernel)⟩
    | lst hs ha =>
      rcases hs with (hs | ⟨o, hs⟩) | ⟨o, its, n, hk, hc, _⟩
      · exact ⟨_, .base (.lst hs), kit_ty (show kitB "list" "list" = some true by decide +kernel)⟩
      · exact ⟨_, .base (.frz hs), kit_ty (show kitB "list" "list" = some true by decide +kernel)⟩
      · exact ⟨_, .kList hk hc, kit_ty (show kitB "list" "list" = some true by decide +kernel)⟩
    | tup hs ha =>
      rcases hs with (hs | ⟨o, hs⟩) | ⟨o, its, n, hk, hc, _⟩
      · exact ⟨_, .base (.tup hs), kit_ty (show kitB "tuple" "list" = some false by decide +kernel)⟩
      · exact ⟨_, .fTuple hs, kit_ty (show kitB "tuple" "list" = some false by decide +kernel)⟩
      · exact ⟨_, .kTuple hk hc, kit_ty (show kitB "tuple" "list" = some false by decide +kernel)⟩

/-- G grows to G', H to H': what stood stands, and G' has of H no more than G had -/
structure Grow (G H G' H' : Hp) : Prop where
  g : Same G G'
  h : Same H H'
  s : Same G' H'
  n : ∀ b, G b = none → H b ≠ none → G' b = none
theorem Grow.refl {G H : Hp} (s : Same G H) : Grow G H G H := ⟨Same.refl G, Same.refl H, s, fun _ h _ => h⟩
theorem Grow.trans {G H G1 H1 G2 H2 : Hp} (a : Grow G H G1 H1) (b : Grow G1 H1 G2 H2) : Grow G H G2 H2 :=
  ⟨a.g.trans b.g, a.h.trans b.h, b.s, fun c h1 h2 => b.n c (a.n c h1 h2) (by
    cases q : H c with
    | none => exact absurd q h2
    | some o =>
      rw [a.h c o q]
      intro z
      cases z)⟩
theorem Grow.new {G H : Hp} {p : Addr} {o : HO} (s : Same G H) (h : H p = none) : Grow G H (upd G p o) (upd H p o) :=
  ⟨same_new (s.free h), same_new h, same_upd s, fun b h1 h2 => by
    rw [upd_ne]
    · exact h1
    · intro z
      rw [z] at h2
      exact h2 h⟩
/-- new, outside of G -/
theorem Grow.out {G H : Hp} {p : Addr} {o : HO} (s : Same G H) (h : H p = none) : Grow G H G (upd H p o) :=
  ⟨Same.refl G, same_new h, s.trans (same_new h), fun _ h1 _ => h1⟩

/-- a value whose data stay; a list may change, what it holds stays -/
inductive Dv (K : PySem.W.Frag) (G H : Hp) : V → PyData → Prop where
  | dw {v : V} {d : PyData} (h : Dw K G v d) : Dv K G H v d
  | list {m : Addr} {xs : List V} {ds : List PyData} (h : SqL K H m xs) (ha : DpAll K G xs ds) : Dv K G H (.ref m) (.list ds)
theorem Dv.here {K : PySem.W.Frag} {G H : Hp} {v : V} {d : PyData} (s : Same G H) (h : Dv K G H v d) : Dw K H v d := by
  cases h with
  | dw h => exact dw_same s h
  | list h ha => exact .dp (.lst h (dpAll_same s _ _ ha))
inductive DvAll (K : PySem.W.Frag) (G H : Hp) : List V → List PyData → Prop where
  | nil : DvAll K G H [] []
  | cons {v : V} {d : PyData} {vs : List V} {ds : List PyData} (h : Dv K G H v d) (t : DvAll K G H vs ds) : DvAll K G H (v :: vs) (d :: ds)
theorem DwAll.dv {K : PySem.W.Frag} {G H : Hp} : ∀ {vs : List V} {ds : List PyData}, DwAll K G vs ds → DvAll K G H vs ds
  | _, _, .nil => .nil
  | _, _, .cons h t => .cons (.dw h) t.dv
/-- a copy -/
def spCopy (K : PySem.W.Frag) : Sp := fun vs H Q _ => ∃ (G : Hp) (v : V) (d : PyData), vs = [v] ∧ Same G H ∧ Dv K G H v d ∧
  ∀ (w : V) (G' H' : Hp), Grow G H G' H' → Dw K G' w (cpy d) → Q w H'
section
variable {P : Program} {w : World} {K : PySem.W.Frag} {mg : Str → Option Value} {base : Heap} {f : Addr} {fd : FuncData}
abbrev sCopied : Stmt := top 1
abbrev sCopy : Stmt := top 104
theorem scCopied : FnScope ["value"] ["value"] (defScope sCopied) := ⟨rfl, rfl, rfl, by decide +kernel, rfl, by decide +kernel, by decide +kernel⟩
theorem scCopy : FnScope ["value"] ["value"] (defScope sCopy) := ⟨rfl, rfl, rfl, by decide +kernel, rfl, by decide +kernel, by decide +kernel⟩
/-- the reading of both -/
theorem copy_reads {H : Hp} {Q : VK} {v : V} {d : PyData} {G : Hp} (s : Same G H) (h : Dv K G H v d) (k : ∀ (w : V) (G' H' : Hp), Grow G H G' H' → Dw K G' w (cpy d) → Q w H') :
    tIf (tTest (tCB (rIsi K) (tCons (tVar 0) (tCons (tC (.ty "list")) tNil)))) (tCB (fun xs H Q => ∃ p ys, xs = [V.ref p] ∧ ((SqL K H p ys ∧ ∀ l, H l = none → Q (.ref l) (upd H l (.tup ys))) ∨ (SqT K H p ys ∧ Q (.ref p) H))) (tCons (tVar 0) tNil)) (tVar 0) [some v] H Q := by
  obtain ⟨t, ty, kt⟩ := dw_ty (h.here s)
  refine ⟨_, rfl, v, .ty "list", t, .type "list", isL d, rfl, .ty _, ty, kt, _, rfl, ?_⟩
  have main : ∀ {m : Addr} {xs : List V} {ds : List PyData}, SqL K H m xs → DpAll K G xs ds → (∀ (w : V) (G' H' : Hp), Grow G H G' H' → Dw K G' w (.tuple ds) → Q w H') → tCB (fun xs H Q => ∃ p ys, xs = [V.ref p] ∧ ((SqL K H p ys ∧ ∀ l, H l = none → Q (.ref l) (upd H l (.tup ys))) ∨ (SqT K H p ys ∧ Q (.ref p) H))) (tCons (tVar 0) tNil) [some (.ref m)] H Q := by
    intro m xs ds hs ha k
    refine ⟨_, rfl, m, xs, rfl, .inl ⟨hs, fun l hl => ?_⟩⟩
    have gr := Grow.new (o := .tup xs) s hl
    exact k _ _ _ gr (.dp (.tup (.inl (.inl upd_same)) (dpAll_same gr.g _ _ ha)))
  cases e : isL d with
  | false =>
    refine iteF ⟨_, rfl, k v G H (Grow.refl s) ?_⟩
    cases h with
    | dw h => cases d <;> first | exact h | cases e
    | list h ha => cases e
  | true =>
    refine iteT ?_
    cases h with
    | list h ha => exact main h ha k
    | dw h =>
      cases d with
      | list ds =>
        cases h with
        | dp h =>
          cases h with
          | lst hs ha => exact main (s.seq hs) ha k
      | _ => cases e
theorem ok_copied (F : FnP K "copied" sCopied f fd) (mI : mg "isinstance" = none) (mL : mg "list" = none) (mT : mg "tuple" = none) : FnOk P w K mg base CX0 1 f fd ["value"] (spCopy K) := by
  refine F.ok scCopied (fun vs H Q E h => ?_) (fun cdv A outer s H vs Q E hr h => ?_)
  · obtain ⟨G, v, d, rfl, _⟩ := h
    rfl
  · obtain ⟨G, v, d, rfl, sG, hd, k⟩ := h
    refine ⟨_, PSs.nox (pss_one (ps_ret (pe_ifExp (pt_val (pe_callB call_isi (by rfl) mI (by decide +kernel) (pa_cons (pv 0) (pa_cons (pe_bltn (v := .ty "list") (by rfl) mL (by decide +kernel) rfl) pa_nil))))
      (pe_callTy call_tuple_of (by rfl) mT (by decide +kernel) (pa_cons (pv 0) pa_nil)) (pv 0)))), ?_⟩
    exact copy_reads sG hd k
theorem ok_copy (F : FnP K "_law_copy" sCopy f fd) (mI : mg "isinstance" = none) (mL : mg "list" = none) (mT : mg "tuple" = none) : FnOk P w K mg base CX0 1 f fd ["value"] (spCopy K) := by
  refine F.ok scCopy (fun vs H Q E h => ?_) (fun cdv A outer s H vs Q E hr h => ?_)
  · obtain ⟨G, v, d, rfl, _⟩ := h
    rfl
  · obtain ⟨G, v, d, rfl, sG, hd, k⟩ := h
    refine ⟨_, PSs.nox (pss_one (ps_ret (pe_ifExp (pt_val (pe_callB call_isi (by rfl) mI (by decide +kernel) (pa_cons (pv 0) (pa_cons (pe_bltn (v := .ty "list") (by rfl) mL (by decide +kernel) rfl) pa_nil))))
      (pe_callTy call_tuple_of (by rfl) mT (by decide +kernel) (pa_cons (pv 0) pa_nil)) (pv 0)))), ?_⟩
    exact copy_reads sG hd k
end
end K90
/-! What each class's __init__ does: its fields are copies. -/
namespace K90
open PySem L2

/-- as Grow, but what stands at p may change (G knows nothing of p) -/
structure GrowAt (p : Addr) (G H G' H' : Hp) : Prop where
  g : Same G G'
  h : KeepBut p H H'
  s : Same G' H'
  n : ∀ b, G b = none → H b ≠ none → G' b = none
theorem GrowAt.refl {p : Addr} {G H : Hp} (s : Same G H) : GrowAt p G H G H := ⟨Same.refl G, KeepBut.refl p H, s, fun _ h _ => h⟩
theorem GrowAt.p {p : Addr} {G H G' H' : Hp} (a : GrowAt p G H G' H') (hG : G p = none) (hp : H p ≠ none) : G' p = none := a.n p hG hp

theorem putF_new {f : Str} {w : V} : ∀ {fs : List (Str × V)}, f ∉ fs.map (·.1) → putF f w fs = fs ++ [(f, w)]
  | [], _ => rfl
  | (g, x) :: r, h => by
    have h1 : ¬ g = f := fun e => h (by simp [e])
    have h2 : f ∉ r.map (·.1) := fun e => h (by simp only [List.map_cons, List.mem_cons]; exact .inr e)
    show (if g = f then (g, w) :: r else (g, x) :: putF f w r) = _
    rw [if_neg h1, putF_new h2]
    rfl

/-- self.f = copied(the j-th name) -/
abbrev sCpy (K : PySem.W.Frag) (j : Nat) (f : Str) : TS := sFld K (tVar 0) (tCall (spCopy K) [] E0 (tCons (tVar j) tNil)) f
def sInits (K : PySem.W.Frag) : Nat → List Str → TS
  | _, [] => tNext
  | j, [f] => sCpy K j f
  | j, f :: g :: r => tSeq (sCpy K j f) (sInits K (j + 1) (g :: r))

section
variable {K : PySem.W.Frag}
theorem sq_at {p a C dx : Addr} {H H' : Hp} {xs : List V} {fs : List (Str × V)} (hp : H p = some (.ins C dx fs)) (k : KeepBut p H H') (h : SqL K H a xs) : SqL K H' a xs := by
  rcases h with (h | ⟨o, h⟩) | h
  · exact .inl (.inl (k _ _ h (ne_of h hp (by intro z; cases z))))
  · exact .inl (.inr ⟨o, k _ _ h (ne_of h hp (by intro z; cases z))⟩)
  · exact .inr h
theorem dv_at {p C dx : Addr} {G H G' H' : Hp} {fs : List (Str × V)} (hp : H p = some (.ins C dx fs)) (gr : GrowAt p G H G' H') : ∀ {vs : List V} {ds : List PyData}, DvAll K G H vs ds → DvAll K G' H' vs ds
  | _, _, .nil => .nil
  | _, _, .cons (.dw h) t => .cons (.dw (dw_same gr.g h)) (dv_at hp gr t)
  | _, _, .cons (.list h ha) t => .cons (.list (sq_at hp gr.h h) (dpAll_same gr.g _ _ ha)) (dv_at hp gr t)
theorem fld_step {σ : L2.St} {D : Ends} {G H : Hp} {j : Nat} {p C dx : Addr} {fs : List (Str × V)} {f : Str} {v : V} {d : PyData} (h0 : σ[0]? = some (some (.ref p))) (hj : σ[j]? = some (some v)) (s : Same G H) (hG : G p = none)
    (hp : H p = some (.ins C dx fs)) (cl : Cls K C) (na : NoAttr K C f) (hl : fs.length < 100) (hf : f ∉ fs.map (·.1)) (hd : Dv K G H v d)
    (k : ∀ w G' H', GrowAt p G H G' H' → H' p = some (.ins C dx (fs ++ [(f, w)])) → Dw K G' w (cpy d) → D.nx σ H') : sCpy K j f D σ H := by
  refine ⟨_, hj, G, v, d, rfl, s, hd, fun w G' H' gr hw => ?_⟩
  have hG' : G' p = none := gr.n p hG (by rw [hp]; intro z; cases z)
  refine ⟨_, h0, p, C, dx, fs, rfl, gr.h _ _ hp, cl, na, Nat.lt_of_lt_of_le hl (by decide), ?_⟩
  rw [putF_new hf]
  refine k w G' _ ⟨gr.g, fun b o e n => ?_, fun b o e => ?_, gr.n⟩ upd_same hw
  · rw [upd_ne n]
    exact gr.h b o e
  · rw [upd_ne (ne_of_none e hG')]
    exact gr.s b o e
theorem inits_reads : ∀ (fs : List Str) (j : Nat) (ws : List V) (ds : List PyData) (done : List (Str × V)) {σ : L2.St} {D : Ends} {G H : Hp} {p C dx : Addr}, fs ≠ [] → σ[0]? = some (some (.ref p)) →
    (∀ i w, ws[i]? = some w → σ[j + i]? = some (some w)) → ws.length = fs.length → Same G H → G p = none → H p = some (.ins C dx done) → Cls K C → (∀ f ∈ fs, NoAttr K C f) → done.length + fs.length < 100 → (done.map (·.1) ++ fs).Nodup →
    DvAll K G H ws ds → (∀ G' H' zs, GrowAt p G H G' H' → H' p = some (.ins C dx (done ++ fs.zip zs)) → zs.length = fs.length → DwAll K G' zs (ds.map cpy) → D.nx σ H') → sInits K j fs D σ H
  | [], _, _, _, _, _, _, _, _, _, _, _, h, _, _, _, _, _, _, _, _, _, _, _, _ => absurd rfl h
  | f :: r, j, ws, ds, done, σ, D, G, H, p, C, dx, _, h0, hj, hl, s, hG, hp, cl, na, hn, nd, hd, k => by
    cases hd with
    | nil => cases hl
    | @cons v d vs ds h t =>
      have hv : σ[j]? = some (some v) := hj 0 v rfl
      have hf : f ∉ done.map (·.1) := fun e => (List.nodup_append.mp nd).2.2 f e f List.mem_cons_self rfl
      have hn1 : done.length < 100 := by
        have e : (f :: r).length = r.length + 1 := rfl
        omega
      cases r with
      | nil =>
        have hvs : vs = [] := by
          cases vs with
          | nil => rfl
          | cons _ _ => cases hl
        subst hvs
        cases t
        refine fld_step h0 hv s hG hp cl (na f List.mem_cons_self) hn1 hf h fun w G' H' gr e hw => ?_
        exact k G' H' [w] gr e rfl (.cons hw .nil)
      | cons g r =>
        refine fld_step h0 hv s hG hp cl (na f List.mem_cons_self) hn1 hf h fun w G' H' gr e hw => ?_
        have hp0 : H p ≠ none := by
          rw [hp]
          intro z
          cases z
        refine inits_reads (g :: r) (j + 1) vs ds (done ++ [(f, w)]) (by simp) h0 (fun i x hx => ?_) (by simpa using hl) gr.s (gr.p hG hp0) e cl (fun x hx => na x (List.mem_cons_of_mem _ hx)) (by simp at hn ⊢; omega) (by simpa using nd) (dv_at hp gr t) fun G2 H2 zs gr2 e2 l2 z2 => ?_
        · have e : j + 1 + i = j + (i + 1) := by omega
          rw [e]
          exact hj (i + 1) x hx
        · refine k G2 H2 (w :: zs) ⟨gr.g.trans gr2.g, gr.h.trans gr2.h, gr2.s, fun b h1 h2 => gr2.n b (gr.n b h1 h2) ?_⟩ (by simpa using e2) (by simpa using l2) (.cons (dw_same gr2.g hw) z2)
          by_cases hb : b = p
          · rw [hb, e]
            intro z
            cases z
          · cases q : H b with
            | none => exact absurd q h2
            | some o =>
              rw [gr.h b o q hb]
              intro z
              cases z
end

/-- what an __init__ promises -/
def spInit (K : PySem.W.Frag) (C : Addr) (fs : List Str) : Sp := fun vs H Q _ => ∃ (p dx : Addr) (G : Hp) (ws : List V) (ds : List PyData), vs = .ref p :: ws ∧ ws.length = fs.length ∧ H p = some (.ins C dx []) ∧ Same G H ∧ G p = none ∧ DvAll K G H ws ds ∧
  ∀ G' H' zs, GrowAt p G H G' H' → H' p = some (.ins C dx (fs.zip zs)) → zs.length = fs.length → DwAll K G' zs (ds.map cpy) → Q .non H'
theorem spInit_len {K : PySem.W.Frag} {C : Addr} {fs : List Str} (vs : List V) (H : Hp) (Q : VK) (E : XK) (h : spInit K C fs vs H Q E) : vs.length = fs.length + 1 := by
  obtain ⟨p, dx, G, ws, ds, rfl, hl, _⟩ := h
  rw [List.length_cons, hl]
/-- the reading of a whole __init__ -/
theorem init_reads {K : PySem.W.Frag} {C : Addr} {fs : List Str} {vs : List V} {H : Hp} {Q : VK} {E : XK} (h : spInit K C fs vs H Q E) (cl : Cls K C) (na : ∀ f ∈ fs, NoAttr K C f) (h0 : fs ≠ []) (hn : fs.length < 100) (nd : fs.Nodup) :
    sInits K 1 fs { nx := fun _ H' => Q .non H', rt := Q } (L2.start ("self" :: fs) vs) H := by
  obtain ⟨p, dx, G, ws, ds, rfl, hl, hp, s, hG, hd, k⟩ := h
  have es : L2.start ("self" :: fs) (.ref p :: ws) = some (.ref p) :: ws.map some := by
    unfold L2.start
    simp [hl]
  rw [es]
  refine inits_reads fs 1 ws ds [] h0 rfl (fun i w hw => ?_) hl s hG hp cl na (by simpa using hn) (by simpa using nd) hd fun G' H' zs gr e l z => k G' H' zs gr (by simpa using e) l z
  rw [Nat.add_comm, List.getElem?_cons_succ, List.getElem?_map, hw]
  rfl

section
variable {K : PySem.W.Frag} {x qual : Str} {params : Arguments} {body : List Stmt} {scope : Scope} {f : Addr} {fd : FuncData} {ps : List Str}
/-- a call by keywords that names the parameters behind the first one backwards -/
theorem kb_back (F : FunD K x qual params body scope [] [] f fd) (n : Nat) (ks : List Str)
    (h : ∀ (kV doc pm : Value) (an : Option Addr) (cdv ct : Value) (us ws : List Value), us.length = n → ws.length = ks.length →
      bindArgs (PySem.W.fnOf x qual params body scope .none kV doc pm an cdv ct) ⟨us, ks.zip ws⟩ = pure (ps.zip (us ++ ws.reverse))) : KBn K fd ps n ks (fun us ws => us ++ ws.reverse) (fun vs zs => vs ++ zs.reverse) := by
  obtain ⟨oc, od, dV, kV, doc, pm, an, cdv, ct, osl, rfl, lk, hcd, hD, hK⟩ := F.ex
  rcases hD with ⟨_, rfl⟩ | ⟨e, _⟩
  · refine ⟨fun s us ws _ l1 l2 => .of_eq (h kV doc pm an cdv ct us ws l1 l2), fun r1 r2 => r1.append ?_⟩
    exact back r2
  · exact absurd rfl e
where
  back : ∀ {vs : List V} {us : List Value}, Vals vs us → Vals vs.reverse us.reverse
    | _, _, .nil => .nil
    | _, _, .cons r t => by
      rw [List.reverse_cons, List.reverse_cons]
      exact (back t).append (.cons r .nil)
end
end K90
/-! One group of three statements: two objects of a class, what they hold, a row of it. -/
namespace K90
open PySem L2

/-! ### a row -/
structure GoodD (d : PyData) : Prop where
  sh : d.showable = true
  dp : d.depth ≤ 10
  l1 : d.shown.length ≤ 10000
  l2 : (cpy d).shown.length ≤ 10000
structure RowIs (K : PySem.W.Frag) (G : Hp) (r : V) (o : Addr) : Prop where
  ex : ∃ (t o2 l1 l2 l3 C dx dx2 : Addr) (fs gs : List (Str × V)) (x1 x2 x3 : List V) (ds : List PyData), r = .ref t ∧ G t = some (.tup [.ref o, .ref o2, .bl true, .ref l1, .ref l2, .ref l3]) ∧
    G o = some (.ins C dx fs) ∧ G o2 = some (.ins C dx2 gs) ∧ o ≠ o2 ∧ EqC K C ∧ G l1 = some (.lst x1) ∧ G l2 = some (.lst x2) ∧ G l3 = some (.lst x3) ∧
    DwAll K G x1 (ds.map cpy) ∧ DwAll K G x2 (ds.map cpy) ∧ DwAll K G x3 ds ∧ ds.length ≤ 4 ∧ ∀ d ∈ ds, GoodD d
theorem RowIs.same {K : PySem.W.Frag} {G G' : Hp} {r : V} {o : Addr} (h : RowIs K G r o) (e : Same G G') : RowIs K G' r o := by
  obtain ⟨⟨t, o2, l1, l2, l3, C, dx, dx2, fs, gs, x1, x2, x3, ds, h1, h2, h3, h4, h5, h6, h7, h8, h9, h10, h11, h12, h13, h14⟩⟩ := h
  exact ⟨⟨t, o2, l1, l2, l3, C, dx, dx2, fs, gs, x1, x2, x3, ds, h1, e _ _ h2, e _ _ h3, e _ _ h4, h5, h6, e _ _ h7, e _ _ h8, e _ _ h9, dwAll_same e h10, dwAll_same e h11, dwAll_same e h12, h13, h14⟩⟩
inductive Rows (K : PySem.W.Frag) (G : Hp) : List V → List Addr → Prop where
  | nil : Rows K G [] []
  | cons {r : V} {o : Addr} {rs : List V} {os : List Addr} (h : RowIs K G r o) (t : Rows K G rs os) : Rows K G (r :: rs) (o :: os)
theorem Rows.same {K : PySem.W.Frag} {G G' : Hp} (e : Same G G') : ∀ {rs : List V} {os : List Addr}, Rows K G rs os → Rows K G' rs os
  | _, _, .nil => .nil
  | _, _, .cons h t => .cons (h.same e) (t.same e)
theorem Rows.append {K : PySem.W.Frag} {G : Hp} : ∀ {rs rs' : List V} {os os' : List Addr}, Rows K G rs os → Rows K G rs' os' → Rows K G (rs ++ rs') (os ++ os')
  | _, _, _, _, .nil, t => t
  | _, _, _, _, .cons h t, u => .cons h (t.append u)
theorem Rows.len {K : PySem.W.Frag} {G : Hp} : ∀ {rs : List V} {os : List Addr}, Rows K G rs os → rs.length = os.length
  | _, _, .nil => rfl
  | _, _, .cons _ t => congrArg Nat.succ t.len
theorem Rows.at {K : PySem.W.Frag} {G : Hp} : ∀ {rs : List V} {os : List Addr} {i : Nat} {r : V}, Rows K G rs os → rs[i]? = some r → ∃ o, os[i]? = some o ∧ RowIs K G r o
  | _, _, _, _, .nil, e => by cases e
  | _, _, 0, _, .cons h _, e => by
    cases e
    exact ⟨_, rfl, h⟩
  | _, _, i + 1, _, .cons _ t, e => t.at (i := i) e

/-! ### readings -/
def tVars : List Nat → TA
  | [] => tNil
  | j :: r => tCons (tVar j) (tVars r)
def tFlds (K : PySem.W.Frag) (i : Nat) : List Str → TA
  | [] => tNil
  | f :: r => tCons (tFld K (tVar i) f) (tFlds K i r)
theorem vars_reads : ∀ (js : List Nat) (ws : List V) {σ : L2.St} {H : Hp} {Q : List V → Hp → Prop}, js.length = ws.length → (∀ (i j : Nat) (w : V), js[i]? = some j → ws[i]? = some w → σ[j]? = some (some w)) → Q ws H → tVars js σ H Q
  | [], [], _, _, _, _, _, q => q
  | j :: r, w :: ws, σ, H, Q, hl, h, q => ⟨w, h 0 j w rfl rfl, vars_reads r ws (Nat.succ.inj hl) (fun i j w a b => h (i + 1) j w a b) (Q := fun xs H2 => Q (w :: xs) H2) q⟩
  | [], _ :: _, _, _, _, hl, _, _ => by cases hl
  | _ :: _, [], _, _, _, hl, _, _ => by cases hl
theorem flds_reads {K : PySem.W.Frag} {o C dx : Addr} {full : List (Str × V)} {i : Nat} : ∀ (fs : List Str) (zs : List V) {σ : L2.St} {H : Hp} {Q : List V → Hp → Prop}, fs.length = zs.length → σ[i]? = some (some (.ref o)) → H o = some (.ins C dx full) → Cls K C →
    (∀ f ∈ fs, NoAttr K C f) → (∀ (k : Nat) (f : Str) (z : V), fs[k]? = some f → zs[k]? = some z → full.lookup f = some z) → Q zs H → tFlds K i fs σ H Q
  | [], [], _, _, _, _, _, _, _, _, _, q => q
  | f :: r, z :: zs, σ, H, Q, hl, hs, ho, cl, na, h, q => ⟨_, hs, o, C, dx, full, z, rfl, ho, cl, na f List.mem_cons_self, h 0 f z rfl rfl,
      flds_reads r zs (Nat.succ.inj hl) hs ho cl (fun x hx => na x (List.mem_cons_of_mem _ hx)) (fun k f z a b => h (k + 1) f z a b) (Q := fun xs H2 => Q (z :: xs) H2) q⟩
  | [], _ :: _, _, _, _, hl, _, _, _, _, _, _ => by cases hl
  | _ :: _, [], _, _, _, hl, _, _, _, _, _, _ => by cases hl
theorem zip_lookup : ∀ {fs : List Str} {zs : List V} {k : Nat} {f : Str} {z : V}, fs.Nodup → fs[k]? = some f → zs[k]? = some z → (fs.zip zs).lookup f = some z
  | [], _, _, _, _, _, h, _ => by cases h
  | _ :: _, [], _, _, _, _, _, h => by cases h
  | g :: r, y :: zs, 0, f, z, _, h1, h2 => by
    cases h1
    cases h2
    simp [List.lookup]
  | g :: r, y :: zs, k + 1, f, z, nd, h1, h2 => by
    have hm : f ∈ r := List.mem_of_getElem? (show r[k]? = some f from h1)
    have hn : (f == g) = false := beq_eq_false_iff_ne.mpr fun e => (List.nodup_cons.mp nd).1 (e ▸ hm)
    show ((g, y) :: r.zip zs).lookup f = some z
    simp only [List.lookup, hn]
    exact zip_lookup (List.nodup_cons.mp nd).2 (show r[k]? = some f from h1) (show zs[k]? = some z from h2)
/-- a new object, made -/
theorem dv_new {K : PySem.W.Frag} {G H H' : Hp} (e : Same H H') : ∀ {vs : List V} {ds : List PyData}, DvAll K G H vs ds → DvAll K G H' vs ds
  | _, _, .nil => .nil
  | _, _, .cons (.dw h) t => .cons (.dw h) (dv_new e t)
  | _, _, .cons (.list h ha) t => .cons (.list (e.seq h) ha) (dv_new e t)
theorem make_fresh {K : PySem.W.Frag} {C : Addr} {fs : List Str} {G H : Hp} {ws : List V} {ds : List PyData} (s : Same G H) (hl : ws.length = fs.length) (hd : DvAll K G H ws ds) {x dx : Addr} (nx : H x = none) (ndx : H dx = none) (ne : dx ≠ x) {Q : Hp → Prop}
    (k : ∀ G' H' zs, Grow G H G' H' → G' x = some (.ins C dx (fs.zip zs)) → zs.length = fs.length → DwAll K G' zs (ds.map cpy) → Q H') :
    spInit K C fs (.ref x :: ws) (upd (upd H dx (.own x)) x (.ins C dx [])) (fun v H2 => v = .non ∧ Q H2) E0 := by
  have s2 : Same H (upd (upd H dx (.own x)) x (.ins C dx [])) := fun b o e => by
    rw [upd_ne (ne_of_none e nx), upd_ne (ne_of_none e ndx)]
    exact e
  refine ⟨x, dx, G, ws, ds, rfl, hl, upd_same, s.trans s2, s.free nx, dv_new s2 hd, fun G' H' zs gr e l z => ⟨rfl, ?_⟩⟩
  have hG' : G' x = none := gr.n x (s.free nx) (by
    rw [upd_same]
    intro z
    cases z)
  have sg : Same G' (upd G' x (.ins C dx (fs.zip zs))) := same_new hG'
  refine k (upd G' x (.ins C dx (fs.zip zs))) H' zs ⟨gr.g.trans sg, fun b o q => gr.h b o (s2 b o q) (ne_of_none q nx), fun b o q => ?_, fun b h1 h2 => ?_⟩ upd_same l (dwAll_same sg z)
  · by_cases hb : b = x
    · rw [hb] at q ⊢
      rw [upd_same] at q
      rw [e]
      exact q
    · rw [upd_ne hb] at q
      exact gr.s b o q
  · have hb : b ≠ x := fun q => h2 (q ▸ nx)
    rw [upd_ne hb]
    refine gr.n b h1 fun q => h2 ?_
    cases r : H b with
    | none => rfl
    | some o =>
      rw [s2 b o r] at q
      cases q

/-- what is known of a class -/
structure ClsT (P : Program) (w : World) (K : PySem.W.Frag) (mg : Str → Option Value) (base : Heap) (x : Str) (fs : List Str) (C f : Addr) (fd : FuncData) : Prop where
  m : mg x = some (.ref C)
  mkr : Mk K C f
  ok : FnOk P w K mg base CX0 2 f fd ("self" :: fs) (spInit K C fs)
  b : Binds K fd ("self" :: fs) []
  kb : KBn K fd ("self" :: fs) 1 fs.reverse (fun us ws => us ++ ws.reverse) (fun vs zs => vs ++ zs.reverse)
  ins : C8.InsC K C
  eq : EqC K C
  na : ∀ f ∈ fs, NoAttr K C f
  nd : fs.Nodup

/-- how far a def that makes rows has come: l its rows, G what stays, H0 the heap at its entry -/
structure Done (K : PySem.W.Frag) (G0 H0 : Hp) (l : Addr) (vs : List V) (ds : List PyData) (n : Nat) (σ : L2.St) (H : Hp) : Prop where
  ex : ∃ (G : Hp) (rs : List V) (os : List Addr) (o5 o6 o7 o8 : Option V), σ = vs.map some ++ [some (.ref l), o5, o6, o7, o8] ∧ Same G0 G ∧ Same G H ∧ Same H0 H ∧ (∀ b, G0 b = none → H0 b ≠ none → G b = none) ∧ G l = none ∧ H l = some (.lst rs) ∧ Rows K G rs os ∧
    rs.length = n ∧ os.Nodup ∧ (∀ o ∈ os, H0 o = none) ∧ H0 l = none ∧ DwAll K G0 vs ds ∧ vs.length = 4 ∧ ∀ d ∈ ds, GoodD d

theorem call_isC' {X : Cx} {C : Addr} (c : C8.InsC X.K C) : CallR X (.builtin "isinstance") (fun xs H Q => ∃ a dx fs, xs = [.ref a, .ref C] ∧ H a = some (.ins C dx fs) ∧ Q (.bl true) H) := C8.call_isC c
abbrev rIsC (C : Addr) : List V → Hp → VK → Prop := fun xs H Q => ∃ a dx fs, xs = [V.ref a, .ref C] ∧ H a = some (.ins C dx fs) ∧ Q (.bl true) H
abbrev gBack : List V → List V → List V := fun vs zs => vs ++ zs.reverse
/-- the three statements -/
abbrev sG1 (K : PySem.W.Frag) (C : Addr) (fs : List Str) (js : List Nat) : TS := tPar 5 6 (tCons (tMake C (spInit K C fs) [] E0 (tVars js)) (tCons (tMakeK C 0 fs.reverse.length (spInit K C fs) gBack E0 tNil (tVars js.reverse)) tNil))
abbrev sG2 (K : PySem.W.Frag) (C : Addr) (fs : List Str) : TS := tPar 7 8 (tCons (tAndV (tCB (rIsC C) (tCons (tVar 5) (tCons (tC (.ref C)) tNil))) (tCB (rIsC C) (tCons (tVar 6) (tCons (tC (.ref C)) tNil)))) (tCons (tLst (tFlds K 5 fs)) tNil))
abbrev sG3 (K : PySem.W.Frag) (fs : List Str) (js : List Nat) : TS := tDrop (tBM K "list" rAppend (tVar 4) (tCons (tTup (tCons (tVar 5) (tCons (tVar 6) (tCons (tVar 7) (tCons (tVar 8) (tCons (tLst (tFlds K 6 fs)) (tCons (tLst (tVars js)) tNil))))))) tNil))

theorem DwAll.len {K : PySem.W.Frag} {G : Hp} : ∀ {vs : List V} {ds : List PyData}, DwAll K G vs ds → vs.length = ds.length
  | _, _, .nil => rfl
  | _, _, .cons _ t => congrArg Nat.succ t.len
theorem DwAll.at {K : PySem.W.Frag} {G : Hp} : ∀ {vs : List V} {ds : List PyData} {i : Nat}, DwAll K G vs ds → (h : i < vs.length) → Dw K G (vs.getD i .non) (ds.getD i .none) ∧ ds.getD i .none ∈ ds
  | _, _, _, .nil, h => absurd h (Nat.not_lt_zero _)
  | _, _, 0, .cons h _, _ => ⟨h, List.mem_cons_self⟩
  | _, _, i + 1, .cons _ t, h => by
    obtain ⟨a, b⟩ := t.at (i := i) (Nat.lt_of_succ_lt_succ h)
    exact ⟨a, List.mem_cons_of_mem _ b⟩
theorem DwAll.pick {K : PySem.W.Frag} {G : Hp} {vs : List V} {ds : List PyData} (h : DwAll K G vs ds) : ∀ js : List Nat, (∀ j ∈ js, j < vs.length) → DwAll K G (js.map fun j => vs.getD j .non) (js.map fun j => ds.getD j .none)
  | [], _ => .nil
  | j :: r, hj => .cons (h.at (hj j List.mem_cons_self)).1 (h.pick r fun i hi => hj i (List.mem_cons_of_mem _ hi))
theorem DwAll.rev {K : PySem.W.Frag} {G : Hp} : ∀ {vs : List V} {ds : List PyData}, DwAll K G vs ds → DwAll K G vs.reverse ds.reverse := by
  have app : ∀ {vs vs' : List V} {ds ds' : List PyData}, DwAll K G vs ds → DwAll K G vs' ds' → DwAll K G (vs ++ vs') (ds ++ ds') := by
    intro vs vs' ds ds' h
    induction h with
    | nil => exact fun t => t
    | cons h _ ih => exact fun t => .cons h (ih t)
  intro vs ds h
  induction h with
  | nil => exact .nil
  | cons h _ ih =>
    rw [List.reverse_cons, List.reverse_cons]
    exact app ih (.cons h .nil)

theorem slot_of {vs : List V} {l : Addr} {o5 o6 o7 o8 : Option V} (h4 : vs.length = 4) {j : Nat} (hj : j < 4) : (vs.map some ++ [some (.ref l), o5, o6, o7, o8])[j]? = some (some (vs.getD j .non)) := by
  rw [List.getElem?_append_left (by simpa [h4] using hj), List.getElem?_map, List.getD_eq_getElem?_getD]
  have e : j < vs.length := by omega
  rw [List.getElem?_eq_getElem e]
  rfl
theorem vars_at {vs : List V} {l : Addr} {o5 o6 o7 o8 : Option V} (h4 : vs.length = 4) (js : List Nat) (hj : ∀ j ∈ js, j < 4) {H : Hp} {Q : List V → Hp → Prop} (q : Q (js.map fun j => vs.getD j .non) H) : tVars js (vs.map some ++ [some (.ref l), o5, o6, o7, o8]) H Q := by
  refine vars_reads js _ (by simp) (fun i j w h1 h2 => ?_) q
  have hm : j ∈ js := List.mem_of_getElem? h1
  rw [List.getElem?_map, h1] at h2
  have e : vs.getD j .non = w := Option.some.inj h2
  rw [slot_of h4 (hj j hm), e]

theorem grp {P : Program} {w : World} {K : PySem.W.Frag} {mg : Str → Option Value} {base : Heap} {x : Str} {fs : List Str} {C f l : Addr} {fd : FuncData} {js : List Nat} {G0 H0 H : Hp} {vs : List V} {ds : List PyData} {n : Nat} {D : Ends} {σ : L2.St} {rest : TS}
    (T : ClsT P w K mg base x fs C f fd) (hjs : js.length = fs.length) (hj : ∀ j ∈ js, j < 4) (hf4 : fs.length ≤ 4) (S : Done K G0 H0 l vs ds n σ H) (hn : n < 1000) (k : ∀ σ' H', Done K G0 H0 l vs ds (n + 1) σ' H' → rest D σ' H') :
    tSeq (sG1 K C fs js) (tSeq (sG2 K C fs) (tSeq (sG3 K fs js) rest)) D σ H := by
  obtain ⟨⟨G, rs, os, o5, o6, o7, o8, rfl, s0, s, sH, gn, hGl, hl, R, hrn, nd, fr, hl0, dw, h4, gd⟩⟩ := S
  obtain ⟨va, vb, vc, vd, rfl⟩ : ∃ va vb vc vd, vs = [va, vb, vc, vd] := by
    match vs, h4 with
    | [va, vb, vc, vd], _ => exact ⟨va, vb, vc, vd, rfl⟩
  have hj4 : ∀ j ∈ js, j < [va, vb, vc, vd].length := fun j hm => by
    rw [h4]
    exact hj j hm
  have dw1 := dwAll_same s0 (dw.pick js hj4)
  have wl : (js.map fun j => [va, vb, vc, vd].getD j V.non).length = fs.length := by rw [List.length_map, hjs]
  have lne : ∀ {q : Addr} {o : HO}, H q = some o → q ≠ l ∨ q = l := fun {q o} _ => (Decidable.em (q = l)).symm
  -- one, two
  refine vars_at h4 js hj fun a da na nda nea => ?_
  rw [List.append_nil]
  refine make_fresh s wl dw1.dv na nda nea fun G1 H1 z1 g1 e1 l1 w1 => ?_
  refine vars_at h4 js.reverse (fun j hm => hj j (List.mem_reverse.mp hm)) ⟨rfl, by rw [List.length_map, List.length_reverse, List.length_reverse, hjs], fun b db nb ndb neb => ?_⟩
  have back : gBack [V.ref b] ((js.reverse.map fun j => [va, vb, vc, vd].getD j V.non)) = V.ref b :: js.map fun j => [va, vb, vc, vd].getD j V.non := by
    show [V.ref b] ++ ((js.reverse.map fun j => [va, vb, vc, vd].getD j V.non)).reverse = _
    rw [← List.map_reverse, List.reverse_reverse]
    rfl
  rw [back]
  refine make_fresh g1.s wl (dwAll_same g1.g dw1).dv nb ndb neb fun G2 H2 z2 g2 e2 l2 w2 => ?_
  refine ⟨_, _, rfl, ?_⟩
  have e1' : G2 a = some (.ins C da (fs.zip z1)) := g2.g _ _ e1
  have nab : a ≠ b := fun e => by
    have q := g1.s _ _ e1
    rw [e, nb] at q
    cases q
  have cl : Cls K C := T.ins.cl
  -- kind, first
  refine ⟨_, rfl, ⟨a, da, fs.zip z1, rfl, g2.s _ _ e1', true, rfl, ?_⟩⟩
  refine iteT ⟨_, rfl, ⟨b, db, fs.zip z2, rfl, g2.s _ _ e2, ?_⟩⟩
  have sz : ∀ {zs : List V}, zs.length = fs.length → zs.length ≤ sizeLine := fun e => by
    rw [e]
    exact Nat.le_trans hf4 (by decide)
  refine flds_reads (o := a) (C := C) (dx := da) (full := fs.zip z1) fs z1 l1.symm rfl (g2.s _ _ e1') cl T.na (fun k f z h1 h2 => zip_lookup T.nd h1 h2) ⟨sz l1, fun p1 n1 => ⟨_, _, rfl, ?_⟩⟩
  have g3 := Grow.new (o := .lst z1) g2.s n1
  -- the row
  have hl2 : ∀ {Gx Hx : Hp}, Grow G H Gx Hx → Hx l = some (.lst rs) := fun gx => gx.h _ _ hl
  have G3 := g1.trans (g2.trans g3)
  refine ⟨_, rfl, .inl ⟨rfl, rs, .inl (.inl (hl2 G3))⟩, ⟨_, rfl, ⟨_, rfl, ⟨_, rfl, ⟨_, rfl, ?_⟩⟩⟩⟩⟩
  refine flds_reads (o := b) (C := C) (dx := db) (full := fs.zip z2) fs z2 l2.symm rfl (g3.s _ _ (g3.g _ _ e2)) cl T.na (fun k f z h1 h2 => zip_lookup T.nd h1 h2) ⟨sz l2, fun p2 n2 => ?_⟩
  have g4 := Grow.new (o := .lst z2) g3.s n2
  refine vars_at (vs := [va, vb, vc, vd]) (o5 := some (.ref a)) (o6 := some (.ref b)) (o7 := some (.bl true)) (o8 := some (.ref p1)) h4 js hj ⟨sz wl, fun p3 n3 => ?_⟩
  have g5 := Grow.new (o := .lst (js.map fun j => [va, vb, vc, vd].getD j V.non)) g4.s n3
  refine ⟨(by show 6 ≤ sizeLine; decide), fun t nt => ?_⟩
  have g6 := Grow.new (o := .tup [.ref a, .ref b, .bl true, .ref p1, .ref p2, .ref p3]) g5.s nt
  have G6 := G3.trans (g4.trans (g5.trans g6))
  refine ⟨l, rs, .ref t, rfl, rfl, hl2 G6, Nat.lt_of_lt_of_le (show rs.length < 1000 by omega) (by decide), ?_⟩
  have hlG := G6.n l hGl (by
    rw [hl]
    intro z
    cases z)
  have g345 := g4.g.trans (g5.g.trans g6.g)
  have na0 : H0 a = none := sH.free na
  refine k _ _ ⟨⟨_, rs ++ [.ref t], os ++ [a], some (.ref a), some (.ref b), some (.bl true), some (.ref p1), rfl, s0.trans G6.g, fun q o e => ?_, fun q o e => ?_, fun q h1 h2 => G6.n q (gn q h1 h2) ?_, hlG, upd_same, ?_, ?_, ?_, ?_, hl0, dw, h4, gd⟩⟩
  · rw [upd_ne fun z => by
      rw [z, hlG] at e
      cases e]
    exact G6.s q o e
  · rw [upd_ne (ne_of_none e hl0)]
    exact G6.h q o (sH q o e)
  · cases r : H0 q with
    | none => exact absurd r h2
    | some o =>
      rw [sH q o r]
      intro z
      cases z
  · refine (R.same G6.g).append (.cons ⟨⟨t, b, p1, p2, p3, C, da, db, fs.zip z1, fs.zip z2, z1, z2, js.map (fun j => [va, vb, vc, vd].getD j V.non), js.map (fun j => ds.getD j PyData.none), rfl, upd_same, ?_, ?_, nab, T.eq, ?_, ?_, ?_, ?_, ?_, ?_, ?_, ?_⟩⟩ .nil)
    · exact g345 _ _ (g3.g _ _ e1')
    · exact g345 _ _ (g3.g _ _ e2)
    · exact g345 _ _ upd_same
    · exact (g5.g.trans g6.g) _ _ upd_same
    · exact g6.g _ _ upd_same
    · exact dwAll_same ((g2.g.trans g3.g).trans g345) w1
    · exact dwAll_same (g3.g.trans g345) w2
    · exact dwAll_same G6.g dw1
    · rw [List.length_map, hjs]
      exact hf4
    · intro d hd
      obtain ⟨j, hm, e⟩ := List.mem_map.mp hd
      rw [← e]
      exact gd _ (dw.at (hj4 j hm)).2
  · simp [hrn]
  · refine List.nodup_append.mpr ⟨nd, by simp, fun q hq r hr e => ?_⟩
    rw [List.mem_singleton.mp hr] at e
    obtain ⟨i, hi, hx⟩ := List.mem_iff_getElem.mp hq
    have hi2 : i < rs.length := by
      rw [R.len]
      exact hi
    obtain ⟨o, ho, hR⟩ := R.at (i := i) (List.getElem?_eq_getElem hi2)
    rw [List.getElem?_eq_getElem hi, hx, e] at ho
    cases ho
    obtain ⟨⟨_, _, _, _, _, _, _, _, _, _, _, _, _, _, _, _, h3, _⟩⟩ := hR
    have q := s _ _ h3
    rw [na] at q
    cases q
  · intro q hq
    rcases List.mem_append.mp hq with hq | hq
    · exact fr q hq
    · rw [List.mem_singleton.mp hq]
      exact na0

/-- what a def that makes n rows promises -/
def spMade (K : PySem.W.Frag) (n : Nat) : Sp := fun vs H Q _ => ∃ (G : Hp) (ds : List PyData), vs.length = 4 ∧ Same G H ∧ DwAll K G vs ds ∧ (∀ d ∈ ds, GoodD d) ∧
  ∀ (l : Addr) (G' H' : Hp) (rs : List V) (os : List Addr), Grow G H G' H' → H l = none → G' l = none → H' l = some (.lst rs) → Rows K G' rs os → rs.length = n → os.Nodup → (∀ o ∈ os, H o = none) → Q (.ref l) H'
theorem spMade_len {K : PySem.W.Frag} {n : Nat} (vs : List V) (H : Hp) (Q : VK) (E : XK) (h : spMade K n vs H Q E) : vs.length = 4 := by
  obtain ⟨G, ds, hv, _⟩ := h
  exact hv
theorem made_start {K : PySem.W.Frag} {G H : Hp} {vs : List V} {ds : List PyData} {rest : TS} {D : Ends} {N : List Str} (s0 : Same G H) (hv : vs.length = 4) (dw : DwAll K G vs ds) (gd : ∀ d ∈ ds, GoodD d) (k : ∀ l σ H', Done K G H l vs ds 0 σ H' → rest D σ H') (hN : N.length = 9 := by rfl) :
    tSeq (tAsg (tLst tNil) (gName 4)) rest D (L2.start N vs) H := by
  refine ⟨Nat.zero_le _, fun l nl => k l _ _ ⟨⟨G, [], [], none, none, none, none, ?_, Same.refl G, s0.trans (same_new nl), same_new nl, fun _ h _ => h, s0.free nl, upd_same, .nil, rfl, .nil, (fun o h => absurd h List.not_mem_nil), nl, dw, hv, gd⟩⟩⟩
  match vs, hv with
  | [va, vb, vc, vd], _ =>
    unfold L2.start
    rw [hN]
    rfl
theorem made_end {K : PySem.W.Frag} {G H H' : Hp} {vs : List V} {ds : List PyData} {n : Nat} {l : Addr} {σ : L2.St} {Q : VK} {D : Ends} (S : Done K G H l vs ds n σ H')
    (k : ∀ (l : Addr) (G' H' : Hp) (rs : List V) (os : List Addr), Grow G H G' H' → H l = none → G' l = none → H' l = some (.lst rs) → Rows K G' rs os → rs.length = n → os.Nodup → (∀ o ∈ os, H o = none) → Q (.ref l) H') (hD : D.rt = Q := by rfl) : tRet (tVar 4) D σ H' := by
  obtain ⟨⟨G', rs, os, o5, o6, o7, o8, rfl, s0, s, sH, gn, hGl, hl, R, hrn, nd, fr, hl0, dw, h4, gd⟩⟩ := S
  refine ⟨.ref l, ?_, ?_⟩
  · match vs, h4 with
    | [va, vb, vc, vd], _ => rfl
  · rw [hD]
    exact k l G' H' rs os ⟨s0, sH, s, gn⟩ hl0 hGl hl R hrn nd fr
end K90
/-! The classes, one by one, and the six defs that make rows of them. -/
namespace K90
open PySem L2
section
variable {P : Program} {w : World} {K : PySem.W.Frag} {mg : Str → Option Value} {base : Heap}
/-- the def of a class's __init__, as it stands behind the top -/
abbrev InitD (K : PySem.W.Frag) (x : Str) (i : Nat) (f : Addr) (fd : FuncData) : Prop := FunD K "__init__" (x ++ ".__init__") (defArgs (inClass (top i) 0)) (defBody (inClass (top i) 0)) (defScope (inClass (top i) 0)) [] [] f fd
/-- what the head tells of a class -/
structure ClsH (K : PySem.W.Frag) (mg : Str → Option Value) (x : Str) (i : Nat) (fs : List Str) (C f : Addr) (fd : FuncData) : Prop where
  m : mg x = some (.ref C)
  mkr : Mk K C f
  fn : InitD K x i f fd
  ins : C8.InsC K C
  eq : EqC K C
  na : ∀ g ∈ fs, NoAttr K C g
/-- what the head tells of copied -/
structure CopH (P : Program) (w : World) (K : PySem.W.Frag) (mg : Str → Option Value) (base : Heap) (f : Addr) (fd : FuncData) : Prop where
  ok : FnOk P w K mg base CX0 1 f fd ["value"] (spCopy K)
  kp : PySem.W.keepIn K (.ref f) = true
  b : Binds K fd ["value"] []
  m : mg "copied" = some (.ref f)
theorem sc_OneLonger : FnScope ["self", "tie", "lot"] ["self", "tie", "lot"] (defScope (inClass (top 4) 0)) := ⟨rfl, rfl, rfl, by decide +kernel, rfl, by decide +kernel, by decide +kernel⟩
theorem cls_OneLonger {C f g : Addr} {fd gd : FuncData} (T : ClsH K mg "OneLonger" 4 ["tie", "lot"] C f fd) (Z : CopH P w K mg base g gd) : ClsT P w K mg base "OneLonger" ["tie", "lot"] C f fd :=
  ⟨T.m, T.mkr, T.fn.ok sc_OneLonger (fun vs H Q E h => spInit_len vs H Q E h) (fun cdv A outer s H vs Q E hr h => ⟨_, PSs.nox (pss_cons (ps_fld (pv 0) (pe_call Z.ok hr (by rfl) Z.m Z.kp Z.b .nil pass0 (pa_cons (pv 1) pa_nil)) rfl) (pss_one (ps_fld (pv 0) (pe_call Z.ok hr (by rfl) Z.m Z.kp Z.b .nil pass0 (pa_cons (pv 2) pa_nil)) rfl))), init_reads h T.ins.cl T.na (by simp) (by decide) (by decide +kernel)⟩),
    T.fn.bindsN fun _ _ _ _ _ _ us hl => match us, hl with | [_, _, _], _ => rfl, kb_back T.fn 1 _ fun _ _ _ _ _ _ us ws h1 h2 => match us, ws, h1, h2 with | [_], [_, _], _, _ => rfl, T.ins, T.eq, T.na, by decide +kernel⟩
theorem sc_Pressed : FnScope ["self", "lots"] ["self", "lots"] (defScope (inClass (top 6) 0)) := ⟨rfl, rfl, rfl, by decide +kernel, rfl, by decide +kernel, by decide +kernel⟩
theorem cls_Pressed {C f g : Addr} {fd gd : FuncData} (T : ClsH K mg "Pressed" 6 ["lots"] C f fd) (Z : CopH P w K mg base g gd) : ClsT P w K mg base "Pressed" ["lots"] C f fd :=
  ⟨T.m, T.mkr, T.fn.ok sc_Pressed (fun vs H Q E h => spInit_len vs H Q E h) (fun cdv A outer s H vs Q E hr h => ⟨_, PSs.nox (pss_one (ps_fld (pv 0) (pe_call Z.ok hr (by rfl) Z.m Z.kp Z.b .nil pass0 (pa_cons (pv 1) pa_nil)) rfl)), init_reads h T.ins.cl T.na (by simp) (by decide) (by decide +kernel)⟩),
    T.fn.bindsN fun _ _ _ _ _ _ us hl => match us, hl with | [_, _], _ => rfl, kb_back T.fn 1 _ fun _ _ _ _ _ _ us ws h1 h2 => match us, ws, h1, h2 with | [_], [_], _, _ => rfl, T.ins, T.eq, T.na, by decide +kernel⟩
theorem sc_Plane : FnScope ["self", "drawing"] ["self", "drawing"] (defScope (inClass (top 8) 0)) := ⟨rfl, rfl, rfl, by decide +kernel, rfl, by decide +kernel, by decide +kernel⟩
theorem cls_Plane {C f g : Addr} {fd gd : FuncData} (T : ClsH K mg "Plane" 8 ["drawing"] C f fd) (Z : CopH P w K mg base g gd) : ClsT P w K mg base "Plane" ["drawing"] C f fd :=
  ⟨T.m, T.mkr, T.fn.ok sc_Plane (fun vs H Q E h => spInit_len vs H Q E h) (fun cdv A outer s H vs Q E hr h => ⟨_, PSs.nox (pss_one (ps_fld (pv 0) (pe_call Z.ok hr (by rfl) Z.m Z.kp Z.b .nil pass0 (pa_cons (pv 1) pa_nil)) rfl)), init_reads h T.ins.cl T.na (by simp) (by decide) (by decide +kernel)⟩),
    T.fn.bindsN fun _ _ _ _ _ _ us hl => match us, hl with | [_, _], _ => rfl, kb_back T.fn 1 _ fun _ _ _ _ _ _ us ws h1 h2 => match us, ws, h1, h2 with | [_], [_], _, _ => rfl, T.ins, T.eq, T.na, by decide +kernel⟩
theorem sc_Barred : FnScope ["self", "kind", "lots"] ["self", "kind", "lots"] (defScope (inClass (top 9) 0)) := ⟨rfl, rfl, rfl, by decide +kernel, rfl, by decide +kernel, by decide +kernel⟩
theorem cls_Barred {C f g : Addr} {fd gd : FuncData} (T : ClsH K mg "Barred" 9 ["kind", "lots"] C f fd) (Z : CopH P w K mg base g gd) : ClsT P w K mg base "Barred" ["kind", "lots"] C f fd :=
  ⟨T.m, T.mkr, T.fn.ok sc_Barred (fun vs H Q E h => spInit_len vs H Q E h) (fun cdv A outer s H vs Q E hr h => ⟨_, PSs.nox (pss_cons (ps_fld (pv 0) (pe_call Z.ok hr (by rfl) Z.m Z.kp Z.b .nil pass0 (pa_cons (pv 1) pa_nil)) rfl) (pss_one (ps_fld (pv 0) (pe_call Z.ok hr (by rfl) Z.m Z.kp Z.b .nil pass0 (pa_cons (pv 2) pa_nil)) rfl))), init_reads h T.ins.cl T.na (by simp) (by decide) (by decide +kernel)⟩),
    T.fn.bindsN fun _ _ _ _ _ _ us hl => match us, hl with | [_, _, _], _ => rfl, kb_back T.fn 1 _ fun _ _ _ _ _ _ us ws h1 h2 => match us, ws, h1, h2 with | [_], [_, _], _, _ => rfl, T.ins, T.eq, T.na, by decide +kernel⟩
theorem sc_Outer : FnScope ["self", "drawing", "face"] ["self", "drawing", "face"] (defScope (inClass (top 10) 0)) := ⟨rfl, rfl, rfl, by decide +kernel, rfl, by decide +kernel, by decide +kernel⟩
theorem cls_Outer {C f g : Addr} {fd gd : FuncData} (T : ClsH K mg "Outer" 10 ["drawing", "face"] C f fd) (Z : CopH P w K mg base g gd) : ClsT P w K mg base "Outer" ["drawing", "face"] C f fd :=
  ⟨T.m, T.mkr, T.fn.ok sc_Outer (fun vs H Q E h => spInit_len vs H Q E h) (fun cdv A outer s H vs Q E hr h => ⟨_, PSs.nox (pss_cons (ps_fld (pv 0) (pe_call Z.ok hr (by rfl) Z.m Z.kp Z.b .nil pass0 (pa_cons (pv 1) pa_nil)) rfl) (pss_one (ps_fld (pv 0) (pe_call Z.ok hr (by rfl) Z.m Z.kp Z.b .nil pass0 (pa_cons (pv 2) pa_nil)) rfl))), init_reads h T.ins.cl T.na (by simp) (by decide) (by decide +kernel)⟩),
    T.fn.bindsN fun _ _ _ _ _ _ us hl => match us, hl with | [_, _, _], _ => rfl, kb_back T.fn 1 _ fun _ _ _ _ _ _ us ws h1 h2 => match us, ws, h1, h2 with | [_], [_, _], _, _ => rfl, T.ins, T.eq, T.na, by decide +kernel⟩
theorem sc_OuterBarred : FnScope ["self", "kind", "lots"] ["self", "kind", "lots"] (defScope (inClass (top 11) 0)) := ⟨rfl, rfl, rfl, by decide +kernel, rfl, by decide +kernel, by decide +kernel⟩
theorem cls_OuterBarred {C f g : Addr} {fd gd : FuncData} (T : ClsH K mg "OuterBarred" 11 ["kind", "lots"] C f fd) (Z : CopH P w K mg base g gd) : ClsT P w K mg base "OuterBarred" ["kind", "lots"] C f fd :=
  ⟨T.m, T.mkr, T.fn.ok sc_OuterBarred (fun vs H Q E h => spInit_len vs H Q E h) (fun cdv A outer s H vs Q E hr h => ⟨_, PSs.nox (pss_cons (ps_fld (pv 0) (pe_call Z.ok hr (by rfl) Z.m Z.kp Z.b .nil pass0 (pa_cons (pv 1) pa_nil)) rfl) (pss_one (ps_fld (pv 0) (pe_call Z.ok hr (by rfl) Z.m Z.kp Z.b .nil pass0 (pa_cons (pv 2) pa_nil)) rfl))), init_reads h T.ins.cl T.na (by simp) (by decide) (by decide +kernel)⟩),
    T.fn.bindsN fun _ _ _ _ _ _ us hl => match us, hl with | [_, _, _], _ => rfl, kb_back T.fn 1 _ fun _ _ _ _ _ _ us ws h1 h2 => match us, ws, h1, h2 with | [_], [_, _], _, _ => rfl, T.ins, T.eq, T.na, by decide +kernel⟩
theorem sc_Tree : FnScope ["self", "bags", "links", "papers"] ["self", "bags", "links", "papers"] (defScope (inClass (top 13) 0)) := ⟨rfl, rfl, rfl, by decide +kernel, rfl, by decide +kernel, by decide +kernel⟩
theorem cls_Tree {C f g : Addr} {fd gd : FuncData} (T : ClsH K mg "Tree" 13 ["bags", "links", "papers"] C f fd) (Z : CopH P w K mg base g gd) : ClsT P w K mg base "Tree" ["bags", "links", "papers"] C f fd :=
  ⟨T.m, T.mkr, T.fn.ok sc_Tree (fun vs H Q E h => spInit_len vs H Q E h) (fun cdv A outer s H vs Q E hr h => ⟨_, PSs.nox (pss_cons (ps_fld (pv 0) (pe_call Z.ok hr (by rfl) Z.m Z.kp Z.b .nil pass0 (pa_cons (pv 1) pa_nil)) rfl) (pss_cons (ps_fld (pv 0) (pe_call Z.ok hr (by rfl) Z.m Z.kp Z.b .nil pass0 (pa_cons (pv 2) pa_nil)) rfl) (pss_one (ps_fld (pv 0) (pe_call Z.ok hr (by rfl) Z.m Z.kp Z.b .nil pass0 (pa_cons (pv 3) pa_nil)) rfl)))), init_reads h T.ins.cl T.na (by simp) (by decide) (by decide +kernel)⟩),
    T.fn.bindsN fun _ _ _ _ _ _ us hl => match us, hl with | [_, _, _, _], _ => rfl, kb_back T.fn 1 _ fun _ _ _ _ _ _ us ws h1 h2 => match us, ws, h1, h2 with | [_], [_, _, _], _, _ => rfl, T.ins, T.eq, T.na, by decide +kernel⟩
theorem sc_FiveLots : FnScope ["self", "lots"] ["self", "lots"] (defScope (inClass (top 14) 0)) := ⟨rfl, rfl, rfl, by decide +kernel, rfl, by decide +kernel, by decide +kernel⟩
theorem cls_FiveLots {C f g : Addr} {fd gd : FuncData} (T : ClsH K mg "FiveLots" 14 ["lots"] C f fd) (Z : CopH P w K mg base g gd) : ClsT P w K mg base "FiveLots" ["lots"] C f fd :=
  ⟨T.m, T.mkr, T.fn.ok sc_FiveLots (fun vs H Q E h => spInit_len vs H Q E h) (fun cdv A outer s H vs Q E hr h => ⟨_, PSs.nox (pss_one (ps_fld (pv 0) (pe_call Z.ok hr (by rfl) Z.m Z.kp Z.b .nil pass0 (pa_cons (pv 1) pa_nil)) rfl)), init_reads h T.ins.cl T.na (by simp) (by decide) (by decide +kernel)⟩),
    T.fn.bindsN fun _ _ _ _ _ _ us hl => match us, hl with | [_, _], _ => rfl, kb_back T.fn 1 _ fun _ _ _ _ _ _ us ws h1 h2 => match us, ws, h1, h2 with | [_], [_], _, _ => rfl, T.ins, T.eq, T.na, by decide +kernel⟩
theorem sc_Cuts : FnScope ["self", "cuts"] ["self", "cuts"] (defScope (inClass (top 16) 0)) := ⟨rfl, rfl, rfl, by decide +kernel, rfl, by decide +kernel, by decide +kernel⟩
theorem cls_Cuts {C f g : Addr} {fd gd : FuncData} (T : ClsH K mg "Cuts" 16 ["cuts"] C f fd) (Z : CopH P w K mg base g gd) : ClsT P w K mg base "Cuts" ["cuts"] C f fd :=
  ⟨T.m, T.mkr, T.fn.ok sc_Cuts (fun vs H Q E h => spInit_len vs H Q E h) (fun cdv A outer s H vs Q E hr h => ⟨_, PSs.nox (pss_one (ps_fld (pv 0) (pe_call Z.ok hr (by rfl) Z.m Z.kp Z.b .nil pass0 (pa_cons (pv 1) pa_nil)) rfl)), init_reads h T.ins.cl T.na (by simp) (by decide) (by decide +kernel)⟩),
    T.fn.bindsN fun _ _ _ _ _ _ us hl => match us, hl with | [_, _], _ => rfl, kb_back T.fn 1 _ fun _ _ _ _ _ _ us ws h1 h2 => match us, ws, h1, h2 with | [_], [_], _, _ => rfl, T.ins, T.eq, T.na, by decide +kernel⟩
theorem sc_CutBars : FnScope ["self", "bars"] ["self", "bars"] (defScope (inClass (top 17) 0)) := ⟨rfl, rfl, rfl, by decide +kernel, rfl, by decide +kernel, by decide +kernel⟩
theorem cls_CutBars {C f g : Addr} {fd gd : FuncData} (T : ClsH K mg "CutBars" 17 ["bars"] C f fd) (Z : CopH P w K mg base g gd) : ClsT P w K mg base "CutBars" ["bars"] C f fd :=
  ⟨T.m, T.mkr, T.fn.ok sc_CutBars (fun vs H Q E h => spInit_len vs H Q E h) (fun cdv A outer s H vs Q E hr h => ⟨_, PSs.nox (pss_one (ps_fld (pv 0) (pe_call Z.ok hr (by rfl) Z.m Z.kp Z.b .nil pass0 (pa_cons (pv 1) pa_nil)) rfl)), init_reads h T.ins.cl T.na (by simp) (by decide) (by decide +kernel)⟩),
    T.fn.bindsN fun _ _ _ _ _ _ us hl => match us, hl with | [_, _], _ => rfl, kb_back T.fn 1 _ fun _ _ _ _ _ _ us ws h1 h2 => match us, ws, h1, h2 with | [_], [_], _, _ => rfl, T.ins, T.eq, T.na, by decide +kernel⟩
theorem sc_Beyond : FnScope ["self", "tie"] ["self", "tie"] (defScope (inClass (top 20) 0)) := ⟨rfl, rfl, rfl, by decide +kernel, rfl, by decide +kernel, by decide +kernel⟩
theorem cls_Beyond {C f g : Addr} {fd gd : FuncData} (T : ClsH K mg "Beyond" 20 ["tie"] C f fd) (Z : CopH P w K mg base g gd) : ClsT P w K mg base "Beyond" ["tie"] C f fd :=
  ⟨T.m, T.mkr, T.fn.ok sc_Beyond (fun vs H Q E h => spInit_len vs H Q E h) (fun cdv A outer s H vs Q E hr h => ⟨_, PSs.nox (pss_one (ps_fld (pv 0) (pe_call Z.ok hr (by rfl) Z.m Z.kp Z.b .nil pass0 (pa_cons (pv 1) pa_nil)) rfl)), init_reads h T.ins.cl T.na (by simp) (by decide) (by decide +kernel)⟩),
    T.fn.bindsN fun _ _ _ _ _ _ us hl => match us, hl with | [_, _], _ => rfl, kb_back T.fn 1 _ fun _ _ _ _ _ _ us ws h1 h2 => match us, ws, h1, h2 with | [_], [_], _, _ => rfl, T.ins, T.eq, T.na, by decide +kernel⟩
theorem sc_Breaks : FnScope ["self", "lot", "odd"] ["self", "lot", "odd"] (defScope (inClass (top 21) 0)) := ⟨rfl, rfl, rfl, by decide +kernel, rfl, by decide +kernel, by decide +kernel⟩
theorem cls_Breaks {C f g : Addr} {fd gd : FuncData} (T : ClsH K mg "Breaks" 21 ["lot", "odd"] C f fd) (Z : CopH P w K mg base g gd) : ClsT P w K mg base "Breaks" ["lot", "odd"] C f fd :=
  ⟨T.m, T.mkr, T.fn.ok sc_Breaks (fun vs H Q E h => spInit_len vs H Q E h) (fun cdv A outer s H vs Q E hr h => ⟨_, PSs.nox (pss_cons (ps_fld (pv 0) (pe_call Z.ok hr (by rfl) Z.m Z.kp Z.b .nil pass0 (pa_cons (pv 1) pa_nil)) rfl) (pss_one (ps_fld (pv 0) (pe_call Z.ok hr (by rfl) Z.m Z.kp Z.b .nil pass0 (pa_cons (pv 2) pa_nil)) rfl))), init_reads h T.ins.cl T.na (by simp) (by decide) (by decide +kernel)⟩),
    T.fn.bindsN fun _ _ _ _ _ _ us hl => match us, hl with | [_, _, _], _ => rfl, kb_back T.fn 1 _ fun _ _ _ _ _ _ us ws h1 h2 => match us, ws, h1, h2 with | [_], [_, _], _, _ => rfl, T.ins, T.eq, T.na, by decide +kernel⟩
theorem sc_Heavy : FnScope ["self", "side", "rounds", "ends"] ["self", "side", "rounds", "ends"] (defScope (inClass (top 23) 0)) := ⟨rfl, rfl, rfl, by decide +kernel, rfl, by decide +kernel, by decide +kernel⟩
theorem cls_Heavy {C f g : Addr} {fd gd : FuncData} (T : ClsH K mg "Heavy" 23 ["side", "rounds", "ends"] C f fd) (Z : CopH P w K mg base g gd) : ClsT P w K mg base "Heavy" ["side", "rounds", "ends"] C f fd :=
  ⟨T.m, T.mkr, T.fn.ok sc_Heavy (fun vs H Q E h => spInit_len vs H Q E h) (fun cdv A outer s H vs Q E hr h => ⟨_, PSs.nox (pss_cons (ps_fld (pv 0) (pe_call Z.ok hr (by rfl) Z.m Z.kp Z.b .nil pass0 (pa_cons (pv 1) pa_nil)) rfl) (pss_cons (ps_fld (pv 0) (pe_call Z.ok hr (by rfl) Z.m Z.kp Z.b .nil pass0 (pa_cons (pv 2) pa_nil)) rfl) (pss_one (ps_fld (pv 0) (pe_call Z.ok hr (by rfl) Z.m Z.kp Z.b .nil pass0 (pa_cons (pv 3) pa_nil)) rfl)))), init_reads h T.ins.cl T.na (by simp) (by decide) (by decide +kernel)⟩),
    T.fn.bindsN fun _ _ _ _ _ _ us hl => match us, hl with | [_, _, _, _], _ => rfl, kb_back T.fn 1 _ fun _ _ _ _ _ _ us ws h1 h2 => match us, ws, h1, h2 with | [_], [_, _, _], _, _ => rfl, T.ins, T.eq, T.na, by decide +kernel⟩
theorem sc_Gap : FnScope ["self", "row"] ["self", "row"] (defScope (inClass (top 24) 0)) := ⟨rfl, rfl, rfl, by decide +kernel, rfl, by decide +kernel, by decide +kernel⟩
theorem cls_Gap {C f g : Addr} {fd gd : FuncData} (T : ClsH K mg "Gap" 24 ["row"] C f fd) (Z : CopH P w K mg base g gd) : ClsT P w K mg base "Gap" ["row"] C f fd :=
  ⟨T.m, T.mkr, T.fn.ok sc_Gap (fun vs H Q E h => spInit_len vs H Q E h) (fun cdv A outer s H vs Q E hr h => ⟨_, PSs.nox (pss_one (ps_fld (pv 0) (pe_call Z.ok hr (by rfl) Z.m Z.kp Z.b .nil pass0 (pa_cons (pv 1) pa_nil)) rfl)), init_reads h T.ins.cl T.na (by simp) (by decide) (by decide +kernel)⟩),
    T.fn.bindsN fun _ _ _ _ _ _ us hl => match us, hl with | [_, _], _ => rfl, kb_back T.fn 1 _ fun _ _ _ _ _ _ us ws h1 h2 => match us, ws, h1, h2 with | [_], [_], _, _ => rfl, T.ins, T.eq, T.na, by decide +kernel⟩
theorem sc_Best : FnScope ["self", "row", "rounds", "ends"] ["self", "row", "rounds", "ends"] (defScope (inClass (top 25) 0)) := ⟨rfl, rfl, rfl, by decide +kernel, rfl, by decide +kernel, by decide +kernel⟩
theorem cls_Best {C f g : Addr} {fd gd : FuncData} (T : ClsH K mg "Best" 25 ["row", "rounds", "ends"] C f fd) (Z : CopH P w K mg base g gd) : ClsT P w K mg base "Best" ["row", "rounds", "ends"] C f fd :=
  ⟨T.m, T.mkr, T.fn.ok sc_Best (fun vs H Q E h => spInit_len vs H Q E h) (fun cdv A outer s H vs Q E hr h => ⟨_, PSs.nox (pss_cons (ps_fld (pv 0) (pe_call Z.ok hr (by rfl) Z.m Z.kp Z.b .nil pass0 (pa_cons (pv 1) pa_nil)) rfl) (pss_cons (ps_fld (pv 0) (pe_call Z.ok hr (by rfl) Z.m Z.kp Z.b .nil pass0 (pa_cons (pv 2) pa_nil)) rfl) (pss_one (ps_fld (pv 0) (pe_call Z.ok hr (by rfl) Z.m Z.kp Z.b .nil pass0 (pa_cons (pv 3) pa_nil)) rfl)))), init_reads h T.ins.cl T.na (by simp) (by decide) (by decide +kernel)⟩),
    T.fn.bindsN fun _ _ _ _ _ _ us hl => match us, hl with | [_, _, _, _], _ => rfl, kb_back T.fn 1 _ fun _ _ _ _ _ _ us ws h1 h2 => match us, ws, h1, h2 with | [_], [_, _, _], _, _ => rfl, T.ins, T.eq, T.na, by decide +kernel⟩
theorem sc_Join : FnScope ["self", "ties", "cuts"] ["self", "ties", "cuts"] (defScope (inClass (top 27) 0)) := ⟨rfl, rfl, rfl, by decide +kernel, rfl, by decide +kernel, by decide +kernel⟩
theorem cls_Join {C f g : Addr} {fd gd : FuncData} (T : ClsH K mg "Join" 27 ["ties", "cuts"] C f fd) (Z : CopH P w K mg base g gd) : ClsT P w K mg base "Join" ["ties", "cuts"] C f fd :=
  ⟨T.m, T.mkr, T.fn.ok sc_Join (fun vs H Q E h => spInit_len vs H Q E h) (fun cdv A outer s H vs Q E hr h => ⟨_, PSs.nox (pss_cons (ps_fld (pv 0) (pe_call Z.ok hr (by rfl) Z.m Z.kp Z.b .nil pass0 (pa_cons (pv 1) pa_nil)) rfl) (pss_one (ps_fld (pv 0) (pe_call Z.ok hr (by rfl) Z.m Z.kp Z.b .nil pass0 (pa_cons (pv 2) pa_nil)) rfl))), init_reads h T.ins.cl T.na (by simp) (by decide) (by decide +kernel)⟩),
    T.fn.bindsN fun _ _ _ _ _ _ us hl => match us, hl with | [_, _, _], _ => rfl, kb_back T.fn 1 _ fun _ _ _ _ _ _ us ws h1 h2 => match us, ws, h1, h2 with | [_], [_, _], _, _ => rfl, T.ins, T.eq, T.na, by decide +kernel⟩
theorem sc_Flow : FnScope ["self", "ways"] ["self", "ways"] (defScope (inClass (top 29) 0)) := ⟨rfl, rfl, rfl, by decide +kernel, rfl, by decide +kernel, by decide +kernel⟩
theorem cls_Flow {C f g : Addr} {fd gd : FuncData} (T : ClsH K mg "Flow" 29 ["ways"] C f fd) (Z : CopH P w K mg base g gd) : ClsT P w K mg base "Flow" ["ways"] C f fd :=
  ⟨T.m, T.mkr, T.fn.ok sc_Flow (fun vs H Q E h => spInit_len vs H Q E h) (fun cdv A outer s H vs Q E hr h => ⟨_, PSs.nox (pss_one (ps_fld (pv 0) (pe_call Z.ok hr (by rfl) Z.m Z.kp Z.b .nil pass0 (pa_cons (pv 1) pa_nil)) rfl)), init_reads h T.ins.cl T.na (by simp) (by decide) (by decide +kernel)⟩),
    T.fn.bindsN fun _ _ _ _ _ _ us hl => match us, hl with | [_, _], _ => rfl, kb_back T.fn 1 _ fun _ _ _ _ _ _ us ws h1 h2 => match us, ws, h1, h2 with | [_], [_], _, _ => rfl, T.ins, T.eq, T.na, by decide +kernel⟩
theorem sc_Bars : FnScope ["self", "side"] ["self", "side"] (defScope (inClass (top 30) 0)) := ⟨rfl, rfl, rfl, by decide +kernel, rfl, by decide +kernel, by decide +kernel⟩
theorem cls_Bars {C f g : Addr} {fd gd : FuncData} (T : ClsH K mg "Bars" 30 ["side"] C f fd) (Z : CopH P w K mg base g gd) : ClsT P w K mg base "Bars" ["side"] C f fd :=
  ⟨T.m, T.mkr, T.fn.ok sc_Bars (fun vs H Q E h => spInit_len vs H Q E h) (fun cdv A outer s H vs Q E hr h => ⟨_, PSs.nox (pss_one (ps_fld (pv 0) (pe_call Z.ok hr (by rfl) Z.m Z.kp Z.b .nil pass0 (pa_cons (pv 1) pa_nil)) rfl)), init_reads h T.ins.cl T.na (by simp) (by decide) (by decide +kernel)⟩),
    T.fn.bindsN fun _ _ _ _ _ _ us hl => match us, hl with | [_, _], _ => rfl, kb_back T.fn 1 _ fun _ _ _ _ _ _ us ws h1 h2 => match us, ws, h1, h2 with | [_], [_], _, _ => rfl, T.ins, T.eq, T.na, by decide +kernel⟩
theorem sc_Stuck : FnScope ["self", "row"] ["self", "row"] (defScope (inClass (top 31) 0)) := ⟨rfl, rfl, rfl, by decide +kernel, rfl, by decide +kernel, by decide +kernel⟩
theorem cls_Stuck {C f g : Addr} {fd gd : FuncData} (T : ClsH K mg "Stuck" 31 ["row"] C f fd) (Z : CopH P w K mg base g gd) : ClsT P w K mg base "Stuck" ["row"] C f fd :=
  ⟨T.m, T.mkr, T.fn.ok sc_Stuck (fun vs H Q E h => spInit_len vs H Q E h) (fun cdv A outer s H vs Q E hr h => ⟨_, PSs.nox (pss_one (ps_fld (pv 0) (pe_call Z.ok hr (by rfl) Z.m Z.kp Z.b .nil pass0 (pa_cons (pv 1) pa_nil)) rfl)), init_reads h T.ins.cl T.na (by simp) (by decide) (by decide +kernel)⟩),
    T.fn.bindsN fun _ _ _ _ _ _ us hl => match us, hl with | [_, _], _ => rfl, kb_back T.fn 1 _ fun _ _ _ _ _ _ us ws h1 h2 => match us, ws, h1, h2 with | [_], [_], _, _ => rfl, T.ins, T.eq, T.na, by decide +kernel⟩
theorem sc_Share : FnScope ["self", "share", "ways", "row"] ["self", "share", "ways", "row"] (defScope (inClass (top 32) 0)) := ⟨rfl, rfl, rfl, by decide +kernel, rfl, by decide +kernel, by decide +kernel⟩
theorem cls_Share {C f g : Addr} {fd gd : FuncData} (T : ClsH K mg "Share" 32 ["share", "ways", "row"] C f fd) (Z : CopH P w K mg base g gd) : ClsT P w K mg base "Share" ["share", "ways", "row"] C f fd :=
  ⟨T.m, T.mkr, T.fn.ok sc_Share (fun vs H Q E h => spInit_len vs H Q E h) (fun cdv A outer s H vs Q E hr h => ⟨_, PSs.nox (pss_cons (ps_fld (pv 0) (pe_call Z.ok hr (by rfl) Z.m Z.kp Z.b .nil pass0 (pa_cons (pv 1) pa_nil)) rfl) (pss_cons (ps_fld (pv 0) (pe_call Z.ok hr (by rfl) Z.m Z.kp Z.b .nil pass0 (pa_cons (pv 2) pa_nil)) rfl) (pss_one (ps_fld (pv 0) (pe_call Z.ok hr (by rfl) Z.m Z.kp Z.b .nil pass0 (pa_cons (pv 3) pa_nil)) rfl)))), init_reads h T.ins.cl T.na (by simp) (by decide) (by decide +kernel)⟩),
    T.fn.bindsN fun _ _ _ _ _ _ us hl => match us, hl with | [_, _, _, _], _ => rfl, kb_back T.fn 1 _ fun _ _ _ _ _ _ us ws h1 h2 => match us, ws, h1, h2 with | [_], [_, _, _], _, _ => rfl, T.ins, T.eq, T.na, by decide +kernel⟩
theorem sc_Free : FnScope ["self", "tree"] ["self", "tree"] (defScope (inClass (top 34) 0)) := ⟨rfl, rfl, rfl, by decide +kernel, rfl, by decide +kernel, by decide +kernel⟩
theorem cls_Free {C f g : Addr} {fd gd : FuncData} (T : ClsH K mg "Free" 34 ["tree"] C f fd) (Z : CopH P w K mg base g gd) : ClsT P w K mg base "Free" ["tree"] C f fd :=
  ⟨T.m, T.mkr, T.fn.ok sc_Free (fun vs H Q E h => spInit_len vs H Q E h) (fun cdv A outer s H vs Q E hr h => ⟨_, PSs.nox (pss_one (ps_fld (pv 0) (pe_call Z.ok hr (by rfl) Z.m Z.kp Z.b .nil pass0 (pa_cons (pv 1) pa_nil)) rfl)), init_reads h T.ins.cl T.na (by simp) (by decide) (by decide +kernel)⟩),
    T.fn.bindsN fun _ _ _ _ _ _ us hl => match us, hl with | [_, _], _ => rfl, kb_back T.fn 1 _ fun _ _ _ _ _ _ us ws h1 h2 => match us, ws, h1, h2 with | [_], [_], _, _ => rfl, T.ins, T.eq, T.na, by decide +kernel⟩
theorem sc_Five : FnScope ["self", "lots"] ["self", "lots"] (defScope (inClass (top 35) 0)) := ⟨rfl, rfl, rfl, by decide +kernel, rfl, by decide +kernel, by decide +kernel⟩
theorem cls_Five {C f g : Addr} {fd gd : FuncData} (T : ClsH K mg "Five" 35 ["lots"] C f fd) (Z : CopH P w K mg base g gd) : ClsT P w K mg base "Five" ["lots"] C f fd :=
  ⟨T.m, T.mkr, T.fn.ok sc_Five (fun vs H Q E h => spInit_len vs H Q E h) (fun cdv A outer s H vs Q E hr h => ⟨_, PSs.nox (pss_one (ps_fld (pv 0) (pe_call Z.ok hr (by rfl) Z.m Z.kp Z.b .nil pass0 (pa_cons (pv 1) pa_nil)) rfl)), init_reads h T.ins.cl T.na (by simp) (by decide) (by decide +kernel)⟩),
    T.fn.bindsN fun _ _ _ _ _ _ us hl => match us, hl with | [_, _], _ => rfl, kb_back T.fn 1 _ fun _ _ _ _ _ _ us ws h1 h2 => match us, ws, h1, h2 with | [_], [_], _, _ => rfl, T.ins, T.eq, T.na, by decide +kernel⟩
theorem sc_CutBreak : FnScope ["self", "weights", "point"] ["self", "weights", "point"] (defScope (inClass (top 36) 0)) := ⟨rfl, rfl, rfl, by decide +kernel, rfl, by decide +kernel, by decide +kernel⟩
theorem cls_CutBreak {C f g : Addr} {fd gd : FuncData} (T : ClsH K mg "CutBreak" 36 ["weights", "point"] C f fd) (Z : CopH P w K mg base g gd) : ClsT P w K mg base "CutBreak" ["weights", "point"] C f fd :=
  ⟨T.m, T.mkr, T.fn.ok sc_CutBreak (fun vs H Q E h => spInit_len vs H Q E h) (fun cdv A outer s H vs Q E hr h => ⟨_, PSs.nox (pss_cons (ps_fld (pv 0) (pe_call Z.ok hr (by rfl) Z.m Z.kp Z.b .nil pass0 (pa_cons (pv 1) pa_nil)) rfl) (pss_one (ps_fld (pv 0) (pe_call Z.ok hr (by rfl) Z.m Z.kp Z.b .nil pass0 (pa_cons (pv 2) pa_nil)) rfl))), init_reads h T.ins.cl T.na (by simp) (by decide) (by decide +kernel)⟩),
    T.fn.bindsN fun _ _ _ _ _ _ us hl => match us, hl with | [_, _, _], _ => rfl, kb_back T.fn 1 _ fun _ _ _ _ _ _ us ws h1 h2 => match us, ws, h1, h2 with | [_], [_, _], _, _ => rfl, T.ins, T.eq, T.na, by decide +kernel⟩
theorem sc_ConeBreak : FnScope ["self", "row", "bars"] ["self", "row", "bars"] (defScope (inClass (top 37) 0)) := ⟨rfl, rfl, rfl, by decide +kernel, rfl, by decide +kernel, by decide +kernel⟩
theorem cls_ConeBreak {C f g : Addr} {fd gd : FuncData} (T : ClsH K mg "ConeBreak" 37 ["row", "bars"] C f fd) (Z : CopH P w K mg base g gd) : ClsT P w K mg base "ConeBreak" ["row", "bars"] C f fd :=
  ⟨T.m, T.mkr, T.fn.ok sc_ConeBreak (fun vs H Q E h => spInit_len vs H Q E h) (fun cdv A outer s H vs Q E hr h => ⟨_, PSs.nox (pss_cons (ps_fld (pv 0) (pe_call Z.ok hr (by rfl) Z.m Z.kp Z.b .nil pass0 (pa_cons (pv 1) pa_nil)) rfl) (pss_one (ps_fld (pv 0) (pe_call Z.ok hr (by rfl) Z.m Z.kp Z.b .nil pass0 (pa_cons (pv 2) pa_nil)) rfl))), init_reads h T.ins.cl T.na (by simp) (by decide) (by decide +kernel)⟩),
    T.fn.bindsN fun _ _ _ _ _ _ us hl => match us, hl with | [_, _, _], _ => rfl, kb_back T.fn 1 _ fun _ _ _ _ _ _ us ws h1 h2 => match us, ws, h1, h2 with | [_], [_, _], _, _ => rfl, T.ins, T.eq, T.na, by decide +kernel⟩
theorem sc_FlowBreak : FnScope ["self", "room", "wants", "lengths"] ["self", "room", "wants", "lengths"] (defScope (inClass (top 38) 0)) := ⟨rfl, rfl, rfl, by decide +kernel, rfl, by decide +kernel, by decide +kernel⟩
theorem cls_FlowBreak {C f g : Addr} {fd gd : FuncData} (T : ClsH K mg "FlowBreak" 38 ["room", "wants", "lengths"] C f fd) (Z : CopH P w K mg base g gd) : ClsT P w K mg base "FlowBreak" ["room", "wants", "lengths"] C f fd :=
  ⟨T.m, T.mkr, T.fn.ok sc_FlowBreak (fun vs H Q E h => spInit_len vs H Q E h) (fun cdv A outer s H vs Q E hr h => ⟨_, PSs.nox (pss_cons (ps_fld (pv 0) (pe_call Z.ok hr (by rfl) Z.m Z.kp Z.b .nil pass0 (pa_cons (pv 1) pa_nil)) rfl) (pss_cons (ps_fld (pv 0) (pe_call Z.ok hr (by rfl) Z.m Z.kp Z.b .nil pass0 (pa_cons (pv 2) pa_nil)) rfl) (pss_one (ps_fld (pv 0) (pe_call Z.ok hr (by rfl) Z.m Z.kp Z.b .nil pass0 (pa_cons (pv 3) pa_nil)) rfl)))), init_reads h T.ins.cl T.na (by simp) (by decide) (by decide +kernel)⟩),
    T.fn.bindsN fun _ _ _ _ _ _ us hl => match us, hl with | [_, _, _, _], _ => rfl, kb_back T.fn 1 _ fun _ _ _ _ _ _ us ws h1 h2 => match us, ws, h1, h2 with | [_], [_, _, _], _, _ => rfl, T.ins, T.eq, T.na, by decide +kernel⟩
theorem sc_CutTree : FnScope ["self", "parents"] ["self", "parents"] (defScope (inClass (top 40) 0)) := ⟨rfl, rfl, rfl, by decide +kernel, rfl, by decide +kernel, by decide +kernel⟩
theorem cls_CutTree {C f g : Addr} {fd gd : FuncData} (T : ClsH K mg "CutTree" 40 ["parents"] C f fd) (Z : CopH P w K mg base g gd) : ClsT P w K mg base "CutTree" ["parents"] C f fd :=
  ⟨T.m, T.mkr, T.fn.ok sc_CutTree (fun vs H Q E h => spInit_len vs H Q E h) (fun cdv A outer s H vs Q E hr h => ⟨_, PSs.nox (pss_one (ps_fld (pv 0) (pe_call Z.ok hr (by rfl) Z.m Z.kp Z.b .nil pass0 (pa_cons (pv 1) pa_nil)) rfl)), init_reads h T.ins.cl T.na (by simp) (by decide) (by decide +kernel)⟩),
    T.fn.bindsN fun _ _ _ _ _ _ us hl => match us, hl with | [_, _], _ => rfl, kb_back T.fn 1 _ fun _ _ _ _ _ _ us ws h1 h2 => match us, ws, h1, h2 with | [_], [_], _, _ => rfl, T.ins, T.eq, T.na, by decide +kernel⟩
theorem sc_Dual : FnScope ["self", "web", "ties", "drawing"] ["self", "web", "ties", "drawing"] (defScope (inClass (top 42) 0)) := ⟨rfl, rfl, rfl, by decide +kernel, rfl, by decide +kernel, by decide +kernel⟩
theorem cls_Dual {C f g : Addr} {fd gd : FuncData} (T : ClsH K mg "Dual" 42 ["web", "ties", "drawing"] C f fd) (Z : CopH P w K mg base g gd) : ClsT P w K mg base "Dual" ["web", "ties", "drawing"] C f fd :=
  ⟨T.m, T.mkr, T.fn.ok sc_Dual (fun vs H Q E h => spInit_len vs H Q E h) (fun cdv A outer s H vs Q E hr h => ⟨_, PSs.nox (pss_cons (ps_fld (pv 0) (pe_call Z.ok hr (by rfl) Z.m Z.kp Z.b .nil pass0 (pa_cons (pv 1) pa_nil)) rfl) (pss_cons (ps_fld (pv 0) (pe_call Z.ok hr (by rfl) Z.m Z.kp Z.b .nil pass0 (pa_cons (pv 2) pa_nil)) rfl) (pss_one (ps_fld (pv 0) (pe_call Z.ok hr (by rfl) Z.m Z.kp Z.b .nil pass0 (pa_cons (pv 3) pa_nil)) rfl)))), init_reads h T.ins.cl T.na (by simp) (by decide) (by decide +kernel)⟩),
    T.fn.bindsN fun _ _ _ _ _ _ us hl => match us, hl with | [_, _, _, _], _ => rfl, kb_back T.fn 1 _ fun _ _ _ _ _ _ us ws h1 h2 => match us, ws, h1, h2 with | [_], [_, _, _], _, _ => rfl, T.ins, T.eq, T.na, by decide +kernel⟩
theorem sc_Base : FnScope ["self", "lots"] ["self", "lots"] (defScope (inClass (top 43) 0)) := ⟨rfl, rfl, rfl, by decide +kernel, rfl, by decide +kernel, by decide +kernel⟩
theorem cls_Base {C f g : Addr} {fd gd : FuncData} (T : ClsH K mg "Base" 43 ["lots"] C f fd) (Z : CopH P w K mg base g gd) : ClsT P w K mg base "Base" ["lots"] C f fd :=
  ⟨T.m, T.mkr, T.fn.ok sc_Base (fun vs H Q E h => spInit_len vs H Q E h) (fun cdv A outer s H vs Q E hr h => ⟨_, PSs.nox (pss_one (ps_fld (pv 0) (pe_call Z.ok hr (by rfl) Z.m Z.kp Z.b .nil pass0 (pa_cons (pv 1) pa_nil)) rfl)), init_reads h T.ins.cl T.na (by simp) (by decide) (by decide +kernel)⟩),
    T.fn.bindsN fun _ _ _ _ _ _ us hl => match us, hl with | [_, _], _ => rfl, kb_back T.fn 1 _ fun _ _ _ _ _ _ us ws h1 h2 => match us, ws, h1, h2 with | [_], [_], _, _ => rfl, T.ins, T.eq, T.na, by decide +kernel⟩
theorem sc_Least : FnScope ["self", "side", "ways"] ["self", "side", "ways"] (defScope (inClass (top 45) 0)) := ⟨rfl, rfl, rfl, by decide +kernel, rfl, by decide +kernel, by decide +kernel⟩
theorem cls_Least {C f g : Addr} {fd gd : FuncData} (T : ClsH K mg "Least" 45 ["side", "ways"] C f fd) (Z : CopH P w K mg base g gd) : ClsT P w K mg base "Least" ["side", "ways"] C f fd :=
  ⟨T.m, T.mkr, T.fn.ok sc_Least (fun vs H Q E h => spInit_len vs H Q E h) (fun cdv A outer s H vs Q E hr h => ⟨_, PSs.nox (pss_cons (ps_fld (pv 0) (pe_call Z.ok hr (by rfl) Z.m Z.kp Z.b .nil pass0 (pa_cons (pv 1) pa_nil)) rfl) (pss_one (ps_fld (pv 0) (pe_call Z.ok hr (by rfl) Z.m Z.kp Z.b .nil pass0 (pa_cons (pv 2) pa_nil)) rfl))), init_reads h T.ins.cl T.na (by simp) (by decide) (by decide +kernel)⟩),
    T.fn.bindsN fun _ _ _ _ _ _ us hl => match us, hl with | [_, _, _], _ => rfl, kb_back T.fn 1 _ fun _ _ _ _ _ _ us ws h1 h2 => match us, ws, h1, h2 with | [_], [_, _], _, _ => rfl, T.ins, T.eq, T.na, by decide +kernel⟩
theorem sc_LeastTree : FnScope ["self", "rows"] ["self", "rows"] (defScope (inClass (top 46) 0)) := ⟨rfl, rfl, rfl, by decide +kernel, rfl, by decide +kernel, by decide +kernel⟩
theorem cls_LeastTree {C f g : Addr} {fd gd : FuncData} (T : ClsH K mg "LeastTree" 46 ["rows"] C f fd) (Z : CopH P w K mg base g gd) : ClsT P w K mg base "LeastTree" ["rows"] C f fd :=
  ⟨T.m, T.mkr, T.fn.ok sc_LeastTree (fun vs H Q E h => spInit_len vs H Q E h) (fun cdv A outer s H vs Q E hr h => ⟨_, PSs.nox (pss_one (ps_fld (pv 0) (pe_call Z.ok hr (by rfl) Z.m Z.kp Z.b .nil pass0 (pa_cons (pv 1) pa_nil)) rfl)), init_reads h T.ins.cl T.na (by simp) (by decide) (by decide +kernel)⟩),
    T.fn.bindsN fun _ _ _ _ _ _ us hl => match us, hl with | [_, _], _ => rfl, kb_back T.fn 1 _ fun _ _ _ _ _ _ us ws h1 h2 => match us, ws, h1, h2 with | [_], [_], _, _ => rfl, T.ins, T.eq, T.na, by decide +kernel⟩
theorem sc_Covered : FnScope ["self", "rows"] ["self", "rows"] (defScope (inClass (top 48) 0)) := ⟨rfl, rfl, rfl, by decide +kernel, rfl, by decide +kernel, by decide +kernel⟩
theorem cls_Covered {C f g : Addr} {fd gd : FuncData} (T : ClsH K mg "Covered" 48 ["rows"] C f fd) (Z : CopH P w K mg base g gd) : ClsT P w K mg base "Covered" ["rows"] C f fd :=
  ⟨T.m, T.mkr, T.fn.ok sc_Covered (fun vs H Q E h => spInit_len vs H Q E h) (fun cdv A outer s H vs Q E hr h => ⟨_, PSs.nox (pss_one (ps_fld (pv 0) (pe_call Z.ok hr (by rfl) Z.m Z.kp Z.b .nil pass0 (pa_cons (pv 1) pa_nil)) rfl)), init_reads h T.ins.cl T.na (by simp) (by decide) (by decide +kernel)⟩),
    T.fn.bindsN fun _ _ _ _ _ _ us hl => match us, hl with | [_, _], _ => rfl, kb_back T.fn 1 _ fun _ _ _ _ _ _ us ws h1 h2 => match us, ws, h1, h2 with | [_], [_], _, _ => rfl, T.ins, T.eq, T.na, by decide +kernel⟩
theorem sc_Dense : FnScope ["self", "lot"] ["self", "lot"] (defScope (inClass (top 49) 0)) := ⟨rfl, rfl, rfl, by decide +kernel, rfl, by decide +kernel, by decide +kernel⟩
theorem cls_Dense {C f g : Addr} {fd gd : FuncData} (T : ClsH K mg "Dense" 49 ["lot"] C f fd) (Z : CopH P w K mg base g gd) : ClsT P w K mg base "Dense" ["lot"] C f fd :=
  ⟨T.m, T.mkr, T.fn.ok sc_Dense (fun vs H Q E h => spInit_len vs H Q E h) (fun cdv A outer s H vs Q E hr h => ⟨_, PSs.nox (pss_one (ps_fld (pv 0) (pe_call Z.ok hr (by rfl) Z.m Z.kp Z.b .nil pass0 (pa_cons (pv 1) pa_nil)) rfl)), init_reads h T.ins.cl T.na (by simp) (by decide) (by decide +kernel)⟩),
    T.fn.bindsN fun _ _ _ _ _ _ us hl => match us, hl with | [_, _], _ => rfl, kb_back T.fn 1 _ fun _ _ _ _ _ _ us ws h1 h2 => match us, ws, h1, h2 with | [_], [_], _, _ => rfl, T.ins, T.eq, T.na, by decide +kernel⟩
theorem sc_Trees : FnScope ["self", "rows"] ["self", "rows"] (defScope (inClass (top 50) 0)) := ⟨rfl, rfl, rfl, by decide +kernel, rfl, by decide +kernel, by decide +kernel⟩
theorem cls_Trees {C f g : Addr} {fd gd : FuncData} (T : ClsH K mg "Trees" 50 ["rows"] C f fd) (Z : CopH P w K mg base g gd) : ClsT P w K mg base "Trees" ["rows"] C f fd :=
  ⟨T.m, T.mkr, T.fn.ok sc_Trees (fun vs H Q E h => spInit_len vs H Q E h) (fun cdv A outer s H vs Q E hr h => ⟨_, PSs.nox (pss_one (ps_fld (pv 0) (pe_call Z.ok hr (by rfl) Z.m Z.kp Z.b .nil pass0 (pa_cons (pv 1) pa_nil)) rfl)), init_reads h T.ins.cl T.na (by simp) (by decide) (by decide +kernel)⟩),
    T.fn.bindsN fun _ _ _ _ _ _ us hl => match us, hl with | [_, _], _ => rfl, kb_back T.fn 1 _ fun _ _ _ _ _ _ us ws h1 h2 => match us, ws, h1, h2 with | [_], [_], _, _ => rfl, T.ins, T.eq, T.na, by decide +kernel⟩
theorem sc_Parting : FnScope ["self", "lots"] ["self", "lots"] (defScope (inClass (top 51) 0)) := ⟨rfl, rfl, rfl, by decide +kernel, rfl, by decide +kernel, by decide +kernel⟩
theorem cls_Parting {C f g : Addr} {fd gd : FuncData} (T : ClsH K mg "Parting" 51 ["lots"] C f fd) (Z : CopH P w K mg base g gd) : ClsT P w K mg base "Parting" ["lots"] C f fd :=
  ⟨T.m, T.mkr, T.fn.ok sc_Parting (fun vs H Q E h => spInit_len vs H Q E h) (fun cdv A outer s H vs Q E hr h => ⟨_, PSs.nox (pss_one (ps_fld (pv 0) (pe_call Z.ok hr (by rfl) Z.m Z.kp Z.b .nil pass0 (pa_cons (pv 1) pa_nil)) rfl)), init_reads h T.ins.cl T.na (by simp) (by decide) (by decide +kernel)⟩),
    T.fn.bindsN fun _ _ _ _ _ _ us hl => match us, hl with | [_, _], _ => rfl, kb_back T.fn 1 _ fun _ _ _ _ _ _ us ws h1 h2 => match us, ws, h1, h2 with | [_], [_], _, _ => rfl, T.ins, T.eq, T.na, by decide +kernel⟩
theorem sc_TreeCuts : FnScope ["self", "cuts"] ["self", "cuts"] (defScope (inClass (top 53) 0)) := ⟨rfl, rfl, rfl, by decide +kernel, rfl, by decide +kernel, by decide +kernel⟩
theorem cls_TreeCuts {C f g : Addr} {fd gd : FuncData} (T : ClsH K mg "TreeCuts" 53 ["cuts"] C f fd) (Z : CopH P w K mg base g gd) : ClsT P w K mg base "TreeCuts" ["cuts"] C f fd :=
  ⟨T.m, T.mkr, T.fn.ok sc_TreeCuts (fun vs H Q E h => spInit_len vs H Q E h) (fun cdv A outer s H vs Q E hr h => ⟨_, PSs.nox (pss_one (ps_fld (pv 0) (pe_call Z.ok hr (by rfl) Z.m Z.kp Z.b .nil pass0 (pa_cons (pv 1) pa_nil)) rfl)), init_reads h T.ins.cl T.na (by simp) (by decide) (by decide +kernel)⟩),
    T.fn.bindsN fun _ _ _ _ _ _ us hl => match us, hl with | [_, _], _ => rfl, kb_back T.fn 1 _ fun _ _ _ _ _ _ us ws h1 h2 => match us, ws, h1, h2 with | [_], [_], _, _ => rfl, T.ins, T.eq, T.na, by decide +kernel⟩
theorem sc_FourApart : FnScope ["self", "a", "b", "c", "d"] ["self", "a", "b", "c", "d"] (defScope (inClass (top 54) 0)) := ⟨rfl, rfl, rfl, by decide +kernel, rfl, by decide +kernel, by decide +kernel⟩
theorem cls_FourApart {C f g : Addr} {fd gd : FuncData} (T : ClsH K mg "FourApart" 54 ["a", "b", "c", "d"] C f fd) (Z : CopH P w K mg base g gd) : ClsT P w K mg base "FourApart" ["a", "b", "c", "d"] C f fd :=
  ⟨T.m, T.mkr, T.fn.ok sc_FourApart (fun vs H Q E h => spInit_len vs H Q E h) (fun cdv A outer s H vs Q E hr h => ⟨_, PSs.nox (pss_cons (ps_fld (pv 0) (pe_call Z.ok hr (by rfl) Z.m Z.kp Z.b .nil pass0 (pa_cons (pv 1) pa_nil)) rfl) (pss_cons (ps_fld (pv 0) (pe_call Z.ok hr (by rfl) Z.m Z.kp Z.b .nil pass0 (pa_cons (pv 2) pa_nil)) rfl) (pss_cons (ps_fld (pv 0) (pe_call Z.ok hr (by rfl) Z.m Z.kp Z.b .nil pass0 (pa_cons (pv 3) pa_nil)) rfl) (pss_one (ps_fld (pv 0) (pe_call Z.ok hr (by rfl) Z.m Z.kp Z.b .nil pass0 (pa_cons (pv 4) pa_nil)) rfl))))), init_reads h T.ins.cl T.na (by simp) (by decide) (by decide +kernel)⟩),
    T.fn.bindsN fun _ _ _ _ _ _ us hl => match us, hl with | [_, _, _, _, _], _ => rfl, kb_back T.fn 1 _ fun _ _ _ _ _ _ us ws h1 h2 => match us, ws, h1, h2 with | [_], [_, _, _, _], _, _ => rfl, T.ins, T.eq, T.na, by decide +kernel⟩
theorem sc_Narrow : FnScope ["self", "row"] ["self", "row"] (defScope (inClass (top 56) 0)) := ⟨rfl, rfl, rfl, by decide +kernel, rfl, by decide +kernel, by decide +kernel⟩
theorem cls_Narrow {C f g : Addr} {fd gd : FuncData} (T : ClsH K mg "Narrow" 56 ["row"] C f fd) (Z : CopH P w K mg base g gd) : ClsT P w K mg base "Narrow" ["row"] C f fd :=
  ⟨T.m, T.mkr, T.fn.ok sc_Narrow (fun vs H Q E h => spInit_len vs H Q E h) (fun cdv A outer s H vs Q E hr h => ⟨_, PSs.nox (pss_one (ps_fld (pv 0) (pe_call Z.ok hr (by rfl) Z.m Z.kp Z.b .nil pass0 (pa_cons (pv 1) pa_nil)) rfl)), init_reads h T.ins.cl T.na (by simp) (by decide) (by decide +kernel)⟩),
    T.fn.bindsN fun _ _ _ _ _ _ us hl => match us, hl with | [_, _], _ => rfl, kb_back T.fn 1 _ fun _ _ _ _ _ _ us ws h1 h2 => match us, ws, h1, h2 with | [_], [_], _, _ => rfl, T.ins, T.eq, T.na, by decide +kernel⟩
theorem sc_FourLots : FnScope ["self", "lots"] ["self", "lots"] (defScope (inClass (top 57) 0)) := ⟨rfl, rfl, rfl, by decide +kernel, rfl, by decide +kernel, by decide +kernel⟩
theorem cls_FourLots {C f g : Addr} {fd gd : FuncData} (T : ClsH K mg "FourLots" 57 ["lots"] C f fd) (Z : CopH P w K mg base g gd) : ClsT P w K mg base "FourLots" ["lots"] C f fd :=
  ⟨T.m, T.mkr, T.fn.ok sc_FourLots (fun vs H Q E h => spInit_len vs H Q E h) (fun cdv A outer s H vs Q E hr h => ⟨_, PSs.nox (pss_one (ps_fld (pv 0) (pe_call Z.ok hr (by rfl) Z.m Z.kp Z.b .nil pass0 (pa_cons (pv 1) pa_nil)) rfl)), init_reads h T.ins.cl T.na (by simp) (by decide) (by decide +kernel)⟩),
    T.fn.bindsN fun _ _ _ _ _ _ us hl => match us, hl with | [_, _], _ => rfl, kb_back T.fn 1 _ fun _ _ _ _ _ _ us ws h1 h2 => match us, ws, h1, h2 with | [_], [_], _, _ => rfl, T.ins, T.eq, T.na, by decide +kernel⟩
theorem sc_ThreeTree : FnScope ["self", "bags", "links", "papers"] ["self", "bags", "links", "papers"] (defScope (inClass (top 58) 0)) := ⟨rfl, rfl, rfl, by decide +kernel, rfl, by decide +kernel, by decide +kernel⟩
theorem cls_ThreeTree {C f g : Addr} {fd gd : FuncData} (T : ClsH K mg "ThreeTree" 58 ["bags", "links", "papers"] C f fd) (Z : CopH P w K mg base g gd) : ClsT P w K mg base "ThreeTree" ["bags", "links", "papers"] C f fd :=
  ⟨T.m, T.mkr, T.fn.ok sc_ThreeTree (fun vs H Q E h => spInit_len vs H Q E h) (fun cdv A outer s H vs Q E hr h => ⟨_, PSs.nox (pss_cons (ps_fld (pv 0) (pe_call Z.ok hr (by rfl) Z.m Z.kp Z.b .nil pass0 (pa_cons (pv 1) pa_nil)) rfl) (pss_cons (ps_fld (pv 0) (pe_call Z.ok hr (by rfl) Z.m Z.kp Z.b .nil pass0 (pa_cons (pv 2) pa_nil)) rfl) (pss_one (ps_fld (pv 0) (pe_call Z.ok hr (by rfl) Z.m Z.kp Z.b .nil pass0 (pa_cons (pv 3) pa_nil)) rfl)))), init_reads h T.ins.cl T.na (by simp) (by decide) (by decide +kernel)⟩),
    T.fn.bindsN fun _ _ _ _ _ _ us hl => match us, hl with | [_, _, _, _], _ => rfl, kb_back T.fn 1 _ fun _ _ _ _ _ _ us ws h1 h2 => match us, ws, h1, h2 with | [_], [_, _, _], _, _ => rfl, T.ins, T.eq, T.na, by decide +kernel⟩
theorem sc_SixLots : FnScope ["self", "lots"] ["self", "lots"] (defScope (inClass (top 59) 0)) := ⟨rfl, rfl, rfl, by decide +kernel, rfl, by decide +kernel, by decide +kernel⟩
theorem cls_SixLots {C f g : Addr} {fd gd : FuncData} (T : ClsH K mg "SixLots" 59 ["lots"] C f fd) (Z : CopH P w K mg base g gd) : ClsT P w K mg base "SixLots" ["lots"] C f fd :=
  ⟨T.m, T.mkr, T.fn.ok sc_SixLots (fun vs H Q E h => spInit_len vs H Q E h) (fun cdv A outer s H vs Q E hr h => ⟨_, PSs.nox (pss_one (ps_fld (pv 0) (pe_call Z.ok hr (by rfl) Z.m Z.kp Z.b .nil pass0 (pa_cons (pv 1) pa_nil)) rfl)), init_reads h T.ins.cl T.na (by simp) (by decide) (by decide +kernel)⟩),
    T.fn.bindsN fun _ _ _ _ _ _ us hl => match us, hl with | [_, _], _ => rfl, kb_back T.fn 1 _ fun _ _ _ _ _ _ us ws h1 h2 => match us, ws, h1, h2 with | [_], [_], _, _ => rfl, T.ins, T.eq, T.na, by decide +kernel⟩
theorem sc_EvenSide : FnScope ["self", "side"] ["self", "side"] (defScope (inClass (top 61) 0)) := ⟨rfl, rfl, rfl, by decide +kernel, rfl, by decide +kernel, by decide +kernel⟩
theorem cls_EvenSide {C f g : Addr} {fd gd : FuncData} (T : ClsH K mg "EvenSide" 61 ["side"] C f fd) (Z : CopH P w K mg base g gd) : ClsT P w K mg base "EvenSide" ["side"] C f fd :=
  ⟨T.m, T.mkr, T.fn.ok sc_EvenSide (fun vs H Q E h => spInit_len vs H Q E h) (fun cdv A outer s H vs Q E hr h => ⟨_, PSs.nox (pss_one (ps_fld (pv 0) (pe_call Z.ok hr (by rfl) Z.m Z.kp Z.b .nil pass0 (pa_cons (pv 1) pa_nil)) rfl)), init_reads h T.ins.cl T.na (by simp) (by decide) (by decide +kernel)⟩),
    T.fn.bindsN fun _ _ _ _ _ _ us hl => match us, hl with | [_, _], _ => rfl, kb_back T.fn 1 _ fun _ _ _ _ _ _ us ws h1 h2 => match us, ws, h1, h2 with | [_], [_], _, _ => rfl, T.ins, T.eq, T.na, by decide +kernel⟩
theorem sc_OddOne : FnScope ["self", "lot"] ["self", "lot"] (defScope (inClass (top 62) 0)) := ⟨rfl, rfl, rfl, by decide +kernel, rfl, by decide +kernel, by decide +kernel⟩
theorem cls_OddOne {C f g : Addr} {fd gd : FuncData} (T : ClsH K mg "OddOne" 62 ["lot"] C f fd) (Z : CopH P w K mg base g gd) : ClsT P w K mg base "OddOne" ["lot"] C f fd :=
  ⟨T.m, T.mkr, T.fn.ok sc_OddOne (fun vs H Q E h => spInit_len vs H Q E h) (fun cdv A outer s H vs Q E hr h => ⟨_, PSs.nox (pss_one (ps_fld (pv 0) (pe_call Z.ok hr (by rfl) Z.m Z.kp Z.b .nil pass0 (pa_cons (pv 1) pa_nil)) rfl)), init_reads h T.ins.cl T.na (by simp) (by decide) (by decide +kernel)⟩),
    T.fn.bindsN fun _ _ _ _ _ _ us hl => match us, hl with | [_, _], _ => rfl, kb_back T.fn 1 _ fun _ _ _ _ _ _ us ws h1 h2 => match us, ws, h1, h2 with | [_], [_], _, _ => rfl, T.ins, T.eq, T.na, by decide +kernel⟩
theorem sc_TurnedBy : FnScope ["self", "side"] ["self", "side"] (defScope (inClass (top 63) 0)) := ⟨rfl, rfl, rfl, by decide +kernel, rfl, by decide +kernel, by decide +kernel⟩
theorem cls_TurnedBy {C f g : Addr} {fd gd : FuncData} (T : ClsH K mg "TurnedBy" 63 ["side"] C f fd) (Z : CopH P w K mg base g gd) : ClsT P w K mg base "TurnedBy" ["side"] C f fd :=
  ⟨T.m, T.mkr, T.fn.ok sc_TurnedBy (fun vs H Q E h => spInit_len vs H Q E h) (fun cdv A outer s H vs Q E hr h => ⟨_, PSs.nox (pss_one (ps_fld (pv 0) (pe_call Z.ok hr (by rfl) Z.m Z.kp Z.b .nil pass0 (pa_cons (pv 1) pa_nil)) rfl)), init_reads h T.ins.cl T.na (by simp) (by decide) (by decide +kernel)⟩),
    T.fn.bindsN fun _ _ _ _ _ _ us hl => match us, hl with | [_, _], _ => rfl, kb_back T.fn 1 _ fun _ _ _ _ _ _ us ws h1 h2 => match us, ws, h1, h2 with | [_], [_], _, _ => rfl, T.ins, T.eq, T.na, by decide +kernel⟩
theorem sc_RoundApart : FnScope ["self", "lot"] ["self", "lot"] (defScope (inClass (top 64) 0)) := ⟨rfl, rfl, rfl, by decide +kernel, rfl, by decide +kernel, by decide +kernel⟩
theorem cls_RoundApart {C f g : Addr} {fd gd : FuncData} (T : ClsH K mg "RoundApart" 64 ["lot"] C f fd) (Z : CopH P w K mg base g gd) : ClsT P w K mg base "RoundApart" ["lot"] C f fd :=
  ⟨T.m, T.mkr, T.fn.ok sc_RoundApart (fun vs H Q E h => spInit_len vs H Q E h) (fun cdv A outer s H vs Q E hr h => ⟨_, PSs.nox (pss_one (ps_fld (pv 0) (pe_call Z.ok hr (by rfl) Z.m Z.kp Z.b .nil pass0 (pa_cons (pv 1) pa_nil)) rfl)), init_reads h T.ins.cl T.na (by simp) (by decide) (by decide +kernel)⟩),
    T.fn.bindsN fun _ _ _ _ _ _ us hl => match us, hl with | [_, _], _ => rfl, kb_back T.fn 1 _ fun _ _ _ _ _ _ us ws h1 h2 => match us, ws, h1, h2 with | [_], [_], _, _ => rfl, T.ins, T.eq, T.na, by decide +kernel⟩
theorem sc_OddLots : FnScope ["self", "lots", "side"] ["self", "lots", "side"] (defScope (inClass (top 66) 0)) := ⟨rfl, rfl, rfl, by decide +kernel, rfl, by decide +kernel, by decide +kernel⟩
theorem cls_OddLots {C f g : Addr} {fd gd : FuncData} (T : ClsH K mg "OddLots" 66 ["lots", "side"] C f fd) (Z : CopH P w K mg base g gd) : ClsT P w K mg base "OddLots" ["lots", "side"] C f fd :=
  ⟨T.m, T.mkr, T.fn.ok sc_OddLots (fun vs H Q E h => spInit_len vs H Q E h) (fun cdv A outer s H vs Q E hr h => ⟨_, PSs.nox (pss_cons (ps_fld (pv 0) (pe_call Z.ok hr (by rfl) Z.m Z.kp Z.b .nil pass0 (pa_cons (pv 1) pa_nil)) rfl) (pss_one (ps_fld (pv 0) (pe_call Z.ok hr (by rfl) Z.m Z.kp Z.b .nil pass0 (pa_cons (pv 2) pa_nil)) rfl))), init_reads h T.ins.cl T.na (by simp) (by decide) (by decide +kernel)⟩),
    T.fn.bindsN fun _ _ _ _ _ _ us hl => match us, hl with | [_, _, _], _ => rfl, kb_back T.fn 1 _ fun _ _ _ _ _ _ us ws h1 h2 => match us, ws, h1, h2 with | [_], [_, _], _, _ => rfl, T.ins, T.eq, T.na, by decide +kernel⟩
theorem sc_LooseFive : FnScope ["self", "weights", "point"] ["self", "weights", "point"] (defScope (inClass (top 67) 0)) := ⟨rfl, rfl, rfl, by decide +kernel, rfl, by decide +kernel, by decide +kernel⟩
theorem cls_LooseFive {C f g : Addr} {fd gd : FuncData} (T : ClsH K mg "LooseFive" 67 ["weights", "point"] C f fd) (Z : CopH P w K mg base g gd) : ClsT P w K mg base "LooseFive" ["weights", "point"] C f fd :=
  ⟨T.m, T.mkr, T.fn.ok sc_LooseFive (fun vs H Q E h => spInit_len vs H Q E h) (fun cdv A outer s H vs Q E hr h => ⟨_, PSs.nox (pss_cons (ps_fld (pv 0) (pe_call Z.ok hr (by rfl) Z.m Z.kp Z.b .nil pass0 (pa_cons (pv 1) pa_nil)) rfl) (pss_one (ps_fld (pv 0) (pe_call Z.ok hr (by rfl) Z.m Z.kp Z.b .nil pass0 (pa_cons (pv 2) pa_nil)) rfl))), init_reads h T.ins.cl T.na (by simp) (by decide) (by decide +kernel)⟩),
    T.fn.bindsN fun _ _ _ _ _ _ us hl => match us, hl with | [_, _, _], _ => rfl, kb_back T.fn 1 _ fun _ _ _ _ _ _ us ws h1 h2 => match us, ws, h1, h2 with | [_], [_, _], _, _ => rfl, T.ins, T.eq, T.na, by decide +kernel⟩
theorem sc_Cover : FnScope ["self", "lot", "side"] ["self", "lot", "side"] (defScope (inClass (top 69) 0)) := ⟨rfl, rfl, rfl, by decide +kernel, rfl, by decide +kernel, by decide +kernel⟩
theorem cls_Cover {C f g : Addr} {fd gd : FuncData} (T : ClsH K mg "Cover" 69 ["lot", "side"] C f fd) (Z : CopH P w K mg base g gd) : ClsT P w K mg base "Cover" ["lot", "side"] C f fd :=
  ⟨T.m, T.mkr, T.fn.ok sc_Cover (fun vs H Q E h => spInit_len vs H Q E h) (fun cdv A outer s H vs Q E hr h => ⟨_, PSs.nox (pss_cons (ps_fld (pv 0) (pe_call Z.ok hr (by rfl) Z.m Z.kp Z.b .nil pass0 (pa_cons (pv 1) pa_nil)) rfl) (pss_one (ps_fld (pv 0) (pe_call Z.ok hr (by rfl) Z.m Z.kp Z.b .nil pass0 (pa_cons (pv 2) pa_nil)) rfl))), init_reads h T.ins.cl T.na (by simp) (by decide) (by decide +kernel)⟩),
    T.fn.bindsN fun _ _ _ _ _ _ us hl => match us, hl with | [_, _, _], _ => rfl, kb_back T.fn 1 _ fun _ _ _ _ _ _ us ws h1 h2 => match us, ws, h1, h2 with | [_], [_, _], _, _ => rfl, T.ins, T.eq, T.na, by decide +kernel⟩
theorem sc_Tight : FnScope ["self", "lot", "rounds"] ["self", "lot", "rounds"] (defScope (inClass (top 70) 0)) := ⟨rfl, rfl, rfl, by decide +kernel, rfl, by decide +kernel, by decide +kernel⟩
theorem cls_Tight {C f g : Addr} {fd gd : FuncData} (T : ClsH K mg "Tight" 70 ["lot", "rounds"] C f fd) (Z : CopH P w K mg base g gd) : ClsT P w K mg base "Tight" ["lot", "rounds"] C f fd :=
  ⟨T.m, T.mkr, T.fn.ok sc_Tight (fun vs H Q E h => spInit_len vs H Q E h) (fun cdv A outer s H vs Q E hr h => ⟨_, PSs.nox (pss_cons (ps_fld (pv 0) (pe_call Z.ok hr (by rfl) Z.m Z.kp Z.b .nil pass0 (pa_cons (pv 1) pa_nil)) rfl) (pss_one (ps_fld (pv 0) (pe_call Z.ok hr (by rfl) Z.m Z.kp Z.b .nil pass0 (pa_cons (pv 2) pa_nil)) rfl))), init_reads h T.ins.cl T.na (by simp) (by decide) (by decide +kernel)⟩),
    T.fn.bindsN fun _ _ _ _ _ _ us hl => match us, hl with | [_, _, _], _ => rfl, kb_back T.fn 1 _ fun _ _ _ _ _ _ us ws h1 h2 => match us, ws, h1, h2 with | [_], [_, _], _, _ => rfl, T.ins, T.eq, T.na, by decide +kernel⟩
theorem sc_Loose : FnScope ["self", "point", "rounds"] ["self", "point", "rounds"] (defScope (inClass (top 71) 0)) := ⟨rfl, rfl, rfl, by decide +kernel, rfl, by decide +kernel, by decide +kernel⟩
theorem cls_Loose {C f g : Addr} {fd gd : FuncData} (T : ClsH K mg "Loose" 71 ["point", "rounds"] C f fd) (Z : CopH P w K mg base g gd) : ClsT P w K mg base "Loose" ["point", "rounds"] C f fd :=
  ⟨T.m, T.mkr, T.fn.ok sc_Loose (fun vs H Q E h => spInit_len vs H Q E h) (fun cdv A outer s H vs Q E hr h => ⟨_, PSs.nox (pss_cons (ps_fld (pv 0) (pe_call Z.ok hr (by rfl) Z.m Z.kp Z.b .nil pass0 (pa_cons (pv 1) pa_nil)) rfl) (pss_one (ps_fld (pv 0) (pe_call Z.ok hr (by rfl) Z.m Z.kp Z.b .nil pass0 (pa_cons (pv 2) pa_nil)) rfl))), init_reads h T.ins.cl T.na (by simp) (by decide) (by decide +kernel)⟩),
    T.fn.bindsN fun _ _ _ _ _ _ us hl => match us, hl with | [_, _, _], _ => rfl, kb_back T.fn 1 _ fun _ _ _ _ _ _ us ws h1 h2 => match us, ws, h1, h2 with | [_], [_, _], _, _ => rfl, T.ins, T.eq, T.na, by decide +kernel⟩
theorem sc_Apart : FnScope ["self", "rounds"] ["self", "rounds"] (defScope (inClass (top 72) 0)) := ⟨rfl, rfl, rfl, by decide +kernel, rfl, by decide +kernel, by decide +kernel⟩
theorem cls_Apart {C f g : Addr} {fd gd : FuncData} (T : ClsH K mg "Apart" 72 ["rounds"] C f fd) (Z : CopH P w K mg base g gd) : ClsT P w K mg base "Apart" ["rounds"] C f fd :=
  ⟨T.m, T.mkr, T.fn.ok sc_Apart (fun vs H Q E h => spInit_len vs H Q E h) (fun cdv A outer s H vs Q E hr h => ⟨_, PSs.nox (pss_one (ps_fld (pv 0) (pe_call Z.ok hr (by rfl) Z.m Z.kp Z.b .nil pass0 (pa_cons (pv 1) pa_nil)) rfl)), init_reads h T.ins.cl T.na (by simp) (by decide) (by decide +kernel)⟩),
    T.fn.bindsN fun _ _ _ _ _ _ us hl => match us, hl with | [_, _], _ => rfl, kb_back T.fn 1 _ fun _ _ _ _ _ _ us ws h1 h2 => match us, ws, h1, h2 with | [_], [_], _, _ => rfl, T.ins, T.eq, T.na, by decide +kernel⟩
theorem sc_Meets : FnScope ["self", "lot"] ["self", "lot"] (defScope (inClass (top 73) 0)) := ⟨rfl, rfl, rfl, by decide +kernel, rfl, by decide +kernel, by decide +kernel⟩
theorem cls_Meets {C f g : Addr} {fd gd : FuncData} (T : ClsH K mg "Meets" 73 ["lot"] C f fd) (Z : CopH P w K mg base g gd) : ClsT P w K mg base "Meets" ["lot"] C f fd :=
  ⟨T.m, T.mkr, T.fn.ok sc_Meets (fun vs H Q E h => spInit_len vs H Q E h) (fun cdv A outer s H vs Q E hr h => ⟨_, PSs.nox (pss_one (ps_fld (pv 0) (pe_call Z.ok hr (by rfl) Z.m Z.kp Z.b .nil pass0 (pa_cons (pv 1) pa_nil)) rfl)), init_reads h T.ins.cl T.na (by simp) (by decide) (by decide +kernel)⟩),
    T.fn.bindsN fun _ _ _ _ _ _ us hl => match us, hl with | [_, _], _ => rfl, kb_back T.fn 1 _ fun _ _ _ _ _ _ us ws h1 h2 => match us, ws, h1, h2 with | [_], [_], _, _ => rfl, T.ins, T.eq, T.na, by decide +kernel⟩
theorem sc_Way : FnScope ["self", "row", "cuts"] ["self", "row", "cuts"] (defScope (inClass (top 75) 0)) := ⟨rfl, rfl, rfl, by decide +kernel, rfl, by decide +kernel, by decide +kernel⟩
theorem cls_Way {C f g : Addr} {fd gd : FuncData} (T : ClsH K mg "Way" 75 ["row", "cuts"] C f fd) (Z : CopH P w K mg base g gd) : ClsT P w K mg base "Way" ["row", "cuts"] C f fd :=
  ⟨T.m, T.mkr, T.fn.ok sc_Way (fun vs H Q E h => spInit_len vs H Q E h) (fun cdv A outer s H vs Q E hr h => ⟨_, PSs.nox (pss_cons (ps_fld (pv 0) (pe_call Z.ok hr (by rfl) Z.m Z.kp Z.b .nil pass0 (pa_cons (pv 1) pa_nil)) rfl) (pss_one (ps_fld (pv 0) (pe_call Z.ok hr (by rfl) Z.m Z.kp Z.b .nil pass0 (pa_cons (pv 2) pa_nil)) rfl))), init_reads h T.ins.cl T.na (by simp) (by decide) (by decide +kernel)⟩),
    T.fn.bindsN fun _ _ _ _ _ _ us hl => match us, hl with | [_, _, _], _ => rfl, kb_back T.fn 1 _ fun _ _ _ _ _ _ us ws h1 h2 => match us, ws, h1, h2 with | [_], [_, _], _, _ => rfl, T.ins, T.eq, T.na, by decide +kernel⟩
theorem sc_Rounds : FnScope ["self", "amounts"] ["self", "amounts"] (defScope (inClass (top 77) 0)) := ⟨rfl, rfl, rfl, by decide +kernel, rfl, by decide +kernel, by decide +kernel⟩
theorem cls_Rounds {C f g : Addr} {fd gd : FuncData} (T : ClsH K mg "Rounds" 77 ["amounts"] C f fd) (Z : CopH P w K mg base g gd) : ClsT P w K mg base "Rounds" ["amounts"] C f fd :=
  ⟨T.m, T.mkr, T.fn.ok sc_Rounds (fun vs H Q E h => spInit_len vs H Q E h) (fun cdv A outer s H vs Q E hr h => ⟨_, PSs.nox (pss_one (ps_fld (pv 0) (pe_call Z.ok hr (by rfl) Z.m Z.kp Z.b .nil pass0 (pa_cons (pv 1) pa_nil)) rfl)), init_reads h T.ins.cl T.na (by simp) (by decide) (by decide +kernel)⟩),
    T.fn.bindsN fun _ _ _ _ _ _ us hl => match us, hl with | [_, _], _ => rfl, kb_back T.fn 1 _ fun _ _ _ _ _ _ us ws h1 h2 => match us, ws, h1, h2 with | [_], [_], _, _ => rfl, T.ins, T.eq, T.na, by decide +kernel⟩
theorem sc_Heavier : FnScope ["self", "side", "tie"] ["self", "side", "tie"] (defScope (inClass (top 78) 0)) := ⟨rfl, rfl, rfl, by decide +kernel, rfl, by decide +kernel, by decide +kernel⟩
theorem cls_Heavier {C f g : Addr} {fd gd : FuncData} (T : ClsH K mg "Heavier" 78 ["side", "tie"] C f fd) (Z : CopH P w K mg base g gd) : ClsT P w K mg base "Heavier" ["side", "tie"] C f fd :=
  ⟨T.m, T.mkr, T.fn.ok sc_Heavier (fun vs H Q E h => spInit_len vs H Q E h) (fun cdv A outer s H vs Q E hr h => ⟨_, PSs.nox (pss_cons (ps_fld (pv 0) (pe_call Z.ok hr (by rfl) Z.m Z.kp Z.b .nil pass0 (pa_cons (pv 1) pa_nil)) rfl) (pss_one (ps_fld (pv 0) (pe_call Z.ok hr (by rfl) Z.m Z.kp Z.b .nil pass0 (pa_cons (pv 2) pa_nil)) rfl))), init_reads h T.ins.cl T.na (by simp) (by decide) (by decide +kernel)⟩),
    T.fn.bindsN fun _ _ _ _ _ _ us hl => match us, hl with | [_, _, _], _ => rfl, kb_back T.fn 1 _ fun _ _ _ _ _ _ us ws h1 h2 => match us, ws, h1, h2 with | [_], [_, _], _, _ => rfl, T.ins, T.eq, T.na, by decide +kernel⟩
theorem sc_Parts : FnScope ["self", "rounds"] ["self", "rounds"] (defScope (inClass (top 79) 0)) := ⟨rfl, rfl, rfl, by decide +kernel, rfl, by decide +kernel, by decide +kernel⟩
theorem cls_Parts {C f g : Addr} {fd gd : FuncData} (T : ClsH K mg "Parts" 79 ["rounds"] C f fd) (Z : CopH P w K mg base g gd) : ClsT P w K mg base "Parts" ["rounds"] C f fd :=
  ⟨T.m, T.mkr, T.fn.ok sc_Parts (fun vs H Q E h => spInit_len vs H Q E h) (fun cdv A outer s H vs Q E hr h => ⟨_, PSs.nox (pss_one (ps_fld (pv 0) (pe_call Z.ok hr (by rfl) Z.m Z.kp Z.b .nil pass0 (pa_cons (pv 1) pa_nil)) rfl)), init_reads h T.ins.cl T.na (by simp) (by decide) (by decide +kernel)⟩),
    T.fn.bindsN fun _ _ _ _ _ _ us hl => match us, hl with | [_, _], _ => rfl, kb_back T.fn 1 _ fun _ _ _ _ _ _ us ws h1 h2 => match us, ws, h1, h2 with | [_], [_], _, _ => rfl, T.ins, T.eq, T.na, by decide +kernel⟩
theorem sc_OddPlace : FnScope ["self", "place"] ["self", "place"] (defScope (inClass (top 80) 0)) := ⟨rfl, rfl, rfl, by decide +kernel, rfl, by decide +kernel, by decide +kernel⟩
theorem cls_OddPlace {C f g : Addr} {fd gd : FuncData} (T : ClsH K mg "OddPlace" 80 ["place"] C f fd) (Z : CopH P w K mg base g gd) : ClsT P w K mg base "OddPlace" ["place"] C f fd :=
  ⟨T.m, T.mkr, T.fn.ok sc_OddPlace (fun vs H Q E h => spInit_len vs H Q E h) (fun cdv A outer s H vs Q E hr h => ⟨_, PSs.nox (pss_one (ps_fld (pv 0) (pe_call Z.ok hr (by rfl) Z.m Z.kp Z.b .nil pass0 (pa_cons (pv 1) pa_nil)) rfl)), init_reads h T.ins.cl T.na (by simp) (by decide) (by decide +kernel)⟩),
    T.fn.bindsN fun _ _ _ _ _ _ us hl => match us, hl with | [_, _], _ => rfl, kb_back T.fn 1 _ fun _ _ _ _ _ _ us ws h1 h2 => match us, ws, h1, h2 with | [_], [_], _, _ => rfl, T.ins, T.eq, T.na, by decide +kernel⟩
theorem sc_Trails : FnScope ["self", "ways"] ["self", "ways"] (defScope (inClass (top 81) 0)) := ⟨rfl, rfl, rfl, by decide +kernel, rfl, by decide +kernel, by decide +kernel⟩
theorem cls_Trails {C f g : Addr} {fd gd : FuncData} (T : ClsH K mg "Trails" 81 ["ways"] C f fd) (Z : CopH P w K mg base g gd) : ClsT P w K mg base "Trails" ["ways"] C f fd :=
  ⟨T.m, T.mkr, T.fn.ok sc_Trails (fun vs H Q E h => spInit_len vs H Q E h) (fun cdv A outer s H vs Q E hr h => ⟨_, PSs.nox (pss_one (ps_fld (pv 0) (pe_call Z.ok hr (by rfl) Z.m Z.kp Z.b .nil pass0 (pa_cons (pv 1) pa_nil)) rfl)), init_reads h T.ins.cl T.na (by simp) (by decide) (by decide +kernel)⟩),
    T.fn.bindsN fun _ _ _ _ _ _ us hl => match us, hl with | [_, _], _ => rfl, kb_back T.fn 1 _ fun _ _ _ _ _ _ us ws h1 h2 => match us, ws, h1, h2 with | [_], [_], _, _ => rfl, T.ins, T.eq, T.na, by decide +kernel⟩
theorem sc_Kept : FnScope ["self", "cuts"] ["self", "cuts"] (defScope (inClass (top 83) 0)) := ⟨rfl, rfl, rfl, by decide +kernel, rfl, by decide +kernel, by decide +kernel⟩
theorem cls_Kept {C f g : Addr} {fd gd : FuncData} (T : ClsH K mg "Kept" 83 ["cuts"] C f fd) (Z : CopH P w K mg base g gd) : ClsT P w K mg base "Kept" ["cuts"] C f fd :=
  ⟨T.m, T.mkr, T.fn.ok sc_Kept (fun vs H Q E h => spInit_len vs H Q E h) (fun cdv A outer s H vs Q E hr h => ⟨_, PSs.nox (pss_one (ps_fld (pv 0) (pe_call Z.ok hr (by rfl) Z.m Z.kp Z.b .nil pass0 (pa_cons (pv 1) pa_nil)) rfl)), init_reads h T.ins.cl T.na (by simp) (by decide) (by decide +kernel)⟩),
    T.fn.bindsN fun _ _ _ _ _ _ us hl => match us, hl with | [_, _], _ => rfl, kb_back T.fn 1 _ fun _ _ _ _ _ _ us ws h1 h2 => match us, ws, h1, h2 with | [_], [_], _, _ => rfl, T.ins, T.eq, T.na, by decide +kernel⟩
theorem sc_Low : FnScope ["self", "ties"] ["self", "ties"] (defScope (inClass (top 84) 0)) := ⟨rfl, rfl, rfl, by decide +kernel, rfl, by decide +kernel, by decide +kernel⟩
theorem cls_Low {C f g : Addr} {fd gd : FuncData} (T : ClsH K mg "Low" 84 ["ties"] C f fd) (Z : CopH P w K mg base g gd) : ClsT P w K mg base "Low" ["ties"] C f fd :=
  ⟨T.m, T.mkr, T.fn.ok sc_Low (fun vs H Q E h => spInit_len vs H Q E h) (fun cdv A outer s H vs Q E hr h => ⟨_, PSs.nox (pss_one (ps_fld (pv 0) (pe_call Z.ok hr (by rfl) Z.m Z.kp Z.b .nil pass0 (pa_cons (pv 1) pa_nil)) rfl)), init_reads h T.ins.cl T.na (by simp) (by decide) (by decide +kernel)⟩),
    T.fn.bindsN fun _ _ _ _ _ _ us hl => match us, hl with | [_, _], _ => rfl, kb_back T.fn 1 _ fun _ _ _ _ _ _ us ws h1 h2 => match us, ws, h1, h2 with | [_], [_], _, _ => rfl, T.ins, T.eq, T.na, by decide +kernel⟩
theorem sc_Straight : FnScope ["self", "points"] ["self", "points"] (defScope (inClass (top 86) 0)) := ⟨rfl, rfl, rfl, by decide +kernel, rfl, by decide +kernel, by decide +kernel⟩
theorem cls_Straight {C f g : Addr} {fd gd : FuncData} (T : ClsH K mg "Straight" 86 ["points"] C f fd) (Z : CopH P w K mg base g gd) : ClsT P w K mg base "Straight" ["points"] C f fd :=
  ⟨T.m, T.mkr, T.fn.ok sc_Straight (fun vs H Q E h => spInit_len vs H Q E h) (fun cdv A outer s H vs Q E hr h => ⟨_, PSs.nox (pss_one (ps_fld (pv 0) (pe_call Z.ok hr (by rfl) Z.m Z.kp Z.b .nil pass0 (pa_cons (pv 1) pa_nil)) rfl)), init_reads h T.ins.cl T.na (by simp) (by decide) (by decide +kernel)⟩),
    T.fn.bindsN fun _ _ _ _ _ _ us hl => match us, hl with | [_, _], _ => rfl, kb_back T.fn 1 _ fun _ _ _ _ _ _ us ws h1 h2 => match us, ws, h1, h2 with | [_], [_], _, _ => rfl, T.ins, T.eq, T.na, by decide +kernel⟩
theorem sc_WheelWay : FnScope ["self", "steps"] ["self", "steps"] (defScope (inClass (top 88) 0)) := ⟨rfl, rfl, rfl, by decide +kernel, rfl, by decide +kernel, by decide +kernel⟩
theorem cls_WheelWay {C f g : Addr} {fd gd : FuncData} (T : ClsH K mg "WheelWay" 88 ["steps"] C f fd) (Z : CopH P w K mg base g gd) : ClsT P w K mg base "WheelWay" ["steps"] C f fd :=
  ⟨T.m, T.mkr, T.fn.ok sc_WheelWay (fun vs H Q E h => spInit_len vs H Q E h) (fun cdv A outer s H vs Q E hr h => ⟨_, PSs.nox (pss_one (ps_fld (pv 0) (pe_call Z.ok hr (by rfl) Z.m Z.kp Z.b .nil pass0 (pa_cons (pv 1) pa_nil)) rfl)), init_reads h T.ins.cl T.na (by simp) (by decide) (by decide +kernel)⟩),
    T.fn.bindsN fun _ _ _ _ _ _ us hl => match us, hl with | [_, _], _ => rfl, kb_back T.fn 1 _ fun _ _ _ _ _ _ us ws h1 h2 => match us, ws, h1, h2 with | [_], [_], _, _ => rfl, T.ins, T.eq, T.na, by decide +kernel⟩
theorem sc_Whole : FnScope ["self", "rounds"] ["self", "rounds"] (defScope (inClass (top 90) 0)) := ⟨rfl, rfl, rfl, by decide +kernel, rfl, by decide +kernel, by decide +kernel⟩
theorem cls_Whole {C f g : Addr} {fd gd : FuncData} (T : ClsH K mg "Whole" 90 ["rounds"] C f fd) (Z : CopH P w K mg base g gd) : ClsT P w K mg base "Whole" ["rounds"] C f fd :=
  ⟨T.m, T.mkr, T.fn.ok sc_Whole (fun vs H Q E h => spInit_len vs H Q E h) (fun cdv A outer s H vs Q E hr h => ⟨_, PSs.nox (pss_one (ps_fld (pv 0) (pe_call Z.ok hr (by rfl) Z.m Z.kp Z.b .nil pass0 (pa_cons (pv 1) pa_nil)) rfl)), init_reads h T.ins.cl T.na (by simp) (by decide) (by decide +kernel)⟩),
    T.fn.bindsN fun _ _ _ _ _ _ us hl => match us, hl with | [_, _], _ => rfl, kb_back T.fn 1 _ fun _ _ _ _ _ _ us ws h1 h2 => match us, ws, h1, h2 with | [_], [_], _, _ => rfl, T.ins, T.eq, T.na, by decide +kernel⟩
theorem sc_Bridge : FnScope ["self", "tie"] ["self", "tie"] (defScope (inClass (top 91) 0)) := ⟨rfl, rfl, rfl, by decide +kernel, rfl, by decide +kernel, by decide +kernel⟩
theorem cls_Bridge {C f g : Addr} {fd gd : FuncData} (T : ClsH K mg "Bridge" 91 ["tie"] C f fd) (Z : CopH P w K mg base g gd) : ClsT P w K mg base "Bridge" ["tie"] C f fd :=
  ⟨T.m, T.mkr, T.fn.ok sc_Bridge (fun vs H Q E h => spInit_len vs H Q E h) (fun cdv A outer s H vs Q E hr h => ⟨_, PSs.nox (pss_one (ps_fld (pv 0) (pe_call Z.ok hr (by rfl) Z.m Z.kp Z.b .nil pass0 (pa_cons (pv 1) pa_nil)) rfl)), init_reads h T.ins.cl T.na (by simp) (by decide) (by decide +kernel)⟩),
    T.fn.bindsN fun _ _ _ _ _ _ us hl => match us, hl with | [_, _], _ => rfl, kb_back T.fn 1 _ fun _ _ _ _ _ _ us ws h1 h2 => match us, ws, h1, h2 with | [_], [_], _, _ => rfl, T.ins, T.eq, T.na, by decide +kernel⟩
theorem sc_made_a : FnScope ["a", "b", "c", "d", "rows", "one", "two", "kind", "first"] ["a", "b", "c", "d"] (defScope (top 96)) := ⟨rfl, rfl, rfl, by decide +kernel, rfl, by decide +kernel, by decide +kernel⟩
theorem ok_made_a {f : Addr} {fd : FuncData} (F : FnP K "_law_made_a" (top 96) f fd) (mI : mg "isinstance" = none) {C0 f0 : Addr} {d0 : FuncData} (T0 : ClsT P w K mg base "Cuts" ["cuts"] C0 f0 d0) {C1 f1 : Addr} {d1 : FuncData} (T1 : ClsT P w K mg base "CutBars" ["bars"] C1 f1 d1) {C2 f2 : Addr} {d2 : FuncData} (T2 : ClsT P w K mg base "Heavy" ["side", "rounds", "ends"] C2 f2 d2) {C3 f3 : Addr} {d3 : FuncData} (T3 : ClsT P w K mg base "Gap" ["row"] C3 f3 d3) {C4 f4 : Addr} {d4 : FuncData} (T4 : ClsT P w K mg base "Best" ["row", "rounds", "ends"] C4 f4 d4) {C5 f5 : Addr} {d5 : FuncData} (T5 : ClsT P w K mg base "CutTree" ["parents"] C5 f5 d5) {C6 f6 : Addr} {d6 : FuncData} (T6 : ClsT P w K mg base "Dual" ["web", "ties", "drawing"] C6 f6 d6) {C7 f7 : Addr} {d7 : FuncData} (T7 : ClsT P w K mg base "Base" ["lots"] C7 f7 d7) {C8 f8 : Addr} {d8 : FuncData} (T8 : ClsT P w K mg base "Free" ["tree"] C8 f8 d8) {C9 f9 : Addr} {d9 : FuncData} (T9 : ClsT P w K mg base "Five" ["lots"] C9 f9 d9) {C10 f10 : Addr} {d10 : FuncData} (T10 : ClsT P w K mg base "CutBreak" ["weights", "point"] C10 f10 d10) :
    FnOk P w K mg base CX0 4 f fd ["a", "b", "c", "d"] (spMade K 11) := by
  refine F.ok sc_made_a (fun vs H Q E h => spMade_len vs H Q E h) (fun cdv A outer s H vs Q E hr h => ?_)
  obtain ⟨G, ds, hv, s0, dw, gd, k⟩ := h
  refine ⟨_, PSs.nox (pss_cons (ps_set (i := 4) sc_made_a.nd rfl (Or.inl rfl) (pe_lst pa_nil))
      (pss_cons (ps_par (i := 5) (j := 6) rfl sc_made_a.nd rfl rfl (by decide) rfl rfl (pa_cons (pe_make T0.mkr T0.ok hr (by rfl) T0.m T0.b .nil pass0 (pa_cons (pv 0) pa_nil)) (pa_cons (pe_makeK0 T0.mkr T0.ok hr (by rfl) T0.m T0.kb pass0 (pk_cons (pv 0) pk_nil)) pa_nil)) (by rfl))
      (pss_cons (ps_par (i := 7) (j := 8) rfl sc_made_a.nd rfl rfl (by decide) rfl rfl (pa_cons (pe_and (pe_callB (call_isC' T0.ins) (by rfl) mI (by decide +kernel) (pa_cons (pv 5) (pa_cons (pe_glob (v := .ref C0) (by rfl) T0.m rfl) pa_nil))) (pe_one (pe_callB (call_isC' T0.ins) (by rfl) mI (by decide +kernel) (pa_cons (pv 6) (pa_cons (pe_glob (v := .ref C0) (by rfl) T0.m rfl) pa_nil))))) (pa_cons (pe_lst (pa_cons (pe_fld (pv 5) rfl) pa_nil)) pa_nil)) (by rfl))
      (pss_cons (ps_expr (pe_bm PySem.F.plainAttrs_list PySem.F.slot_list_append PySem.F.type_list_append mt_append (pv 4) (pa_cons (pe_tup (pa_cons (pv 5) (pa_cons (pv 6) (pa_cons (pv 7) (pa_cons (pv 8) (pa_cons (pe_lst (pa_cons (pe_fld (pv 6) rfl) pa_nil)) (pa_cons (pe_lst (pa_cons (pv 0) pa_nil)) pa_nil))))))) pa_nil)))
      (pss_cons (ps_par (i := 5) (j := 6) rfl sc_made_a.nd rfl rfl (by decide) rfl rfl (pa_cons (pe_make T1.mkr T1.ok hr (by rfl) T1.m T1.b .nil pass0 (pa_cons (pv 0) pa_nil)) (pa_cons (pe_makeK0 T1.mkr T1.ok hr (by rfl) T1.m T1.kb pass0 (pk_cons (pv 0) pk_nil)) pa_nil)) (by rfl))
      (pss_cons (ps_par (i := 7) (j := 8) rfl sc_made_a.nd rfl rfl (by decide) rfl rfl (pa_cons (pe_and (pe_callB (call_isC' T1.ins) (by rfl) mI (by decide +kernel) (pa_cons (pv 5) (pa_cons (pe_glob (v := .ref C1) (by rfl) T1.m rfl) pa_nil))) (pe_one (pe_callB (call_isC' T1.ins) (by rfl) mI (by decide +kernel) (pa_cons (pv 6) (pa_cons (pe_glob (v := .ref C1) (by rfl) T1.m rfl) pa_nil))))) (pa_cons (pe_lst (pa_cons (pe_fld (pv 5) rfl) pa_nil)) pa_nil)) (by rfl))
      (pss_cons (ps_expr (pe_bm PySem.F.plainAttrs_list PySem.F.slot_list_append PySem.F.type_list_append mt_append (pv 4) (pa_cons (pe_tup (pa_cons (pv 5) (pa_cons (pv 6) (pa_cons (pv 7) (pa_cons (pv 8) (pa_cons (pe_lst (pa_cons (pe_fld (pv 6) rfl) pa_nil)) (pa_cons (pe_lst (pa_cons (pv 0) pa_nil)) pa_nil))))))) pa_nil)))
      (pss_cons (ps_par (i := 5) (j := 6) rfl sc_made_a.nd rfl rfl (by decide) rfl rfl (pa_cons (pe_make T2.mkr T2.ok hr (by rfl) T2.m T2.b .nil pass0 (pa_cons (pv 0) (pa_cons (pv 1) (pa_cons (pv 2) pa_nil)))) (pa_cons (pe_makeK0 T2.mkr T2.ok hr (by rfl) T2.m T2.kb pass0 (pk_cons (pv 2) (pk_cons (pv 1) (pk_cons (pv 0) pk_nil)))) pa_nil)) (by rfl))
      (pss_cons (ps_par (i := 7) (j := 8) rfl sc_made_a.nd rfl rfl (by decide) rfl rfl (pa_cons (pe_and (pe_callB (call_isC' T2.ins) (by rfl) mI (by decide +kernel) (pa_cons (pv 5) (pa_cons (pe_glob (v := .ref C2) (by rfl) T2.m rfl) pa_nil))) (pe_one (pe_callB (call_isC' T2.ins) (by rfl) mI (by decide +kernel) (pa_cons (pv 6) (pa_cons (pe_glob (v := .ref C2) (by rfl) T2.m rfl) pa_nil))))) (pa_cons (pe_lst (pa_cons (pe_fld (pv 5) rfl) (pa_cons (pe_fld (pv 5) rfl) (pa_cons (pe_fld (pv 5) rfl) pa_nil)))) pa_nil)) (by rfl))
      (pss_cons (ps_expr (pe_bm PySem.F.plainAttrs_list PySem.F.slot_list_append PySem.F.type_list_append mt_append (pv 4) (pa_cons (pe_tup (pa_cons (pv 5) (pa_cons (pv 6) (pa_cons (pv 7) (pa_cons (pv 8) (pa_cons (pe_lst (pa_cons (pe_fld (pv 6) rfl) (pa_cons (pe_fld (pv 6) rfl) (pa_cons (pe_fld (pv 6) rfl) pa_nil)))) (pa_cons (pe_lst (pa_cons (pv 0) (pa_cons (pv 1) (pa_cons (pv 2) pa_nil)))) pa_nil))))))) pa_nil)))
      (pss_cons (ps_par (i := 5) (j := 6) rfl sc_made_a.nd rfl rfl (by decide) rfl rfl (pa_cons (pe_make T3.mkr T3.ok hr (by rfl) T3.m T3.b .nil pass0 (pa_cons (pv 0) pa_nil)) (pa_cons (pe_makeK0 T3.mkr T3.ok hr (by rfl) T3.m T3.kb pass0 (pk_cons (pv 0) pk_nil)) pa_nil)) (by rfl))
      (pss_cons (ps_par (i := 7) (j := 8) rfl sc_made_a.nd rfl rfl (by decide) rfl rfl (pa_cons (pe_and (pe_callB (call_isC' T3.ins) (by rfl) mI (by decide +kernel) (pa_cons (pv 5) (pa_cons (pe_glob (v := .ref C3) (by rfl) T3.m rfl) pa_nil))) (pe_one (pe_callB (call_isC' T3.ins) (by rfl) mI (by decide +kernel) (pa_cons (pv 6) (pa_cons (pe_glob (v := .ref C3) (by rfl) T3.m rfl) pa_nil))))) (pa_cons (pe_lst (pa_cons (pe_fld (pv 5) rfl) pa_nil)) pa_nil)) (by rfl))
      (pss_cons (ps_expr (pe_bm PySem.F.plainAttrs_list PySem.F.slot_list_append PySem.F.type_list_append mt_append (pv 4) (pa_cons (pe_tup (pa_cons (pv 5) (pa_cons (pv 6) (pa_cons (pv 7) (pa_cons (pv 8) (pa_cons (pe_lst (pa_cons (pe_fld (pv 6) rfl) pa_nil)) (pa_cons (pe_lst (pa_cons (pv 0) pa_nil)) pa_nil))))))) pa_nil)))
      (pss_cons (ps_par (i := 5) (j := 6) rfl sc_made_a.nd rfl rfl (by decide) rfl rfl (pa_cons (pe_make T4.mkr T4.ok hr (by rfl) T4.m T4.b .nil pass0 (pa_cons (pv 0) (pa_cons (pv 1) (pa_cons (pv 2) pa_nil)))) (pa_cons (pe_makeK0 T4.mkr T4.ok hr (by rfl) T4.m T4.kb pass0 (pk_cons (pv 2) (pk_cons (pv 1) (pk_cons (pv 0) pk_nil)))) pa_nil)) (by rfl))
      (pss_cons (ps_par (i := 7) (j := 8) rfl sc_made_a.nd rfl rfl (by decide) rfl rfl (pa_cons (pe_and (pe_callB (call_isC' T4.ins) (by rfl) mI (by decide +kernel) (pa_cons (pv 5) (pa_cons (pe_glob (v := .ref C4) (by rfl) T4.m rfl) pa_nil))) (pe_one (pe_callB (call_isC' T4.ins) (by rfl) mI (by decide +kernel) (pa_cons (pv 6) (pa_cons (pe_glob (v := .ref C4) (by rfl) T4.m rfl) pa_nil))))) (pa_cons (pe_lst (pa_cons (pe_fld (pv 5) rfl) (pa_cons (pe_fld (pv 5) rfl) (pa_cons (pe_fld (pv 5) rfl) pa_nil)))) pa_nil)) (by rfl))
      (pss_cons (ps_expr (pe_bm PySem.F.plainAttrs_list PySem.F.slot_list_append PySem.F.type_list_append mt_append (pv 4) (pa_cons (pe_tup (pa_cons (pv 5) (pa_cons (pv 6) (pa_cons (pv 7) (pa_cons (pv 8) (pa_cons (pe_lst (pa_cons (pe_fld (pv 6) rfl) (pa_cons (pe_fld (pv 6) rfl) (pa_cons (pe_fld (pv 6) rfl) pa_nil)))) (pa_cons (pe_lst (pa_cons (pv 0) (pa_cons (pv 1) (pa_cons (pv 2) pa_nil)))) pa_nil))))))) pa_nil)))
      (pss_cons (ps_par (i := 5) (j := 6) rfl sc_made_a.nd rfl rfl (by decide) rfl rfl (pa_cons (pe_make T5.mkr T5.ok hr (by rfl) T5.m T5.b .nil pass0 (pa_cons (pv 0) pa_nil)) (pa_cons (pe_makeK0 T5.mkr T5.ok hr (by rfl) T5.m T5.kb pass0 (pk_cons (pv 0) pk_nil)) pa_nil)) (by rfl))
      (pss_cons (ps_par (i := 7) (j := 8) rfl sc_made_a.nd rfl rfl (by decide) rfl rfl (pa_cons (pe_and (pe_callB (call_isC' T5.ins) (by rfl) mI (by decide +kernel) (pa_cons (pv 5) (pa_cons (pe_glob (v := .ref C5) (by rfl) T5.m rfl) pa_nil))) (pe_one (pe_callB (call_isC' T5.ins) (by rfl) mI (by decide +kernel) (pa_cons (pv 6) (pa_cons (pe_glob (v := .ref C5) (by rfl) T5.m rfl) pa_nil))))) (pa_cons (pe_lst (pa_cons (pe_fld (pv 5) rfl) pa_nil)) pa_nil)) (by rfl))
      (pss_cons (ps_expr (pe_bm PySem.F.plainAttrs_list PySem.F.slot_list_append PySem.F.type_list_append mt_append (pv 4) (pa_cons (pe_tup (pa_cons (pv 5) (pa_cons (pv 6) (pa_cons (pv 7) (pa_cons (pv 8) (pa_cons (pe_lst (pa_cons (pe_fld (pv 6) rfl) pa_nil)) (pa_cons (pe_lst (pa_cons (pv 0) pa_nil)) pa_nil))))))) pa_nil)))
      (pss_cons (ps_par (i := 5) (j := 6) rfl sc_made_a.nd rfl rfl (by decide) rfl rfl (pa_cons (pe_make T6.mkr T6.ok hr (by rfl) T6.m T6.b .nil pass0 (pa_cons (pv 0) (pa_cons (pv 1) (pa_cons (pv 2) pa_nil)))) (pa_cons (pe_makeK0 T6.mkr T6.ok hr (by rfl) T6.m T6.kb pass0 (pk_cons (pv 2) (pk_cons (pv 1) (pk_cons (pv 0) pk_nil)))) pa_nil)) (by rfl))
      (pss_cons (ps_par (i := 7) (j := 8) rfl sc_made_a.nd rfl rfl (by decide) rfl rfl (pa_cons (pe_and (pe_callB (call_isC' T6.ins) (by rfl) mI (by decide +kernel) (pa_cons (pv 5) (pa_cons (pe_glob (v := .ref C6) (by rfl) T6.m rfl) pa_nil))) (pe_one (pe_callB (call_isC' T6.ins) (by rfl) mI (by decide +kernel) (pa_cons (pv 6) (pa_cons (pe_glob (v := .ref C6) (by rfl) T6.m rfl) pa_nil))))) (pa_cons (pe_lst (pa_cons (pe_fld (pv 5) rfl) (pa_cons (pe_fld (pv 5) rfl) (pa_cons (pe_fld (pv 5) rfl) pa_nil)))) pa_nil)) (by rfl))
      (pss_cons (ps_expr (pe_bm PySem.F.plainAttrs_list PySem.F.slot_list_append PySem.F.type_list_append mt_append (pv 4) (pa_cons (pe_tup (pa_cons (pv 5) (pa_cons (pv 6) (pa_cons (pv 7) (pa_cons (pv 8) (pa_cons (pe_lst (pa_cons (pe_fld (pv 6) rfl) (pa_cons (pe_fld (pv 6) rfl) (pa_cons (pe_fld (pv 6) rfl) pa_nil)))) (pa_cons (pe_lst (pa_cons (pv 0) (pa_cons (pv 1) (pa_cons (pv 2) pa_nil)))) pa_nil))))))) pa_nil)))
      (pss_cons (ps_par (i := 5) (j := 6) rfl sc_made_a.nd rfl rfl (by decide) rfl rfl (pa_cons (pe_make T7.mkr T7.ok hr (by rfl) T7.m T7.b .nil pass0 (pa_cons (pv 0) pa_nil)) (pa_cons (pe_makeK0 T7.mkr T7.ok hr (by rfl) T7.m T7.kb pass0 (pk_cons (pv 0) pk_nil)) pa_nil)) (by rfl))
      (pss_cons (ps_par (i := 7) (j := 8) rfl sc_made_a.nd rfl rfl (by decide) rfl rfl (pa_cons (pe_and (pe_callB (call_isC' T7.ins) (by rfl) mI (by decide +kernel) (pa_cons (pv 5) (pa_cons (pe_glob (v := .ref C7) (by rfl) T7.m rfl) pa_nil))) (pe_one (pe_callB (call_isC' T7.ins) (by rfl) mI (by decide +kernel) (pa_cons (pv 6) (pa_cons (pe_glob (v := .ref C7) (by rfl) T7.m rfl) pa_nil))))) (pa_cons (pe_lst (pa_cons (pe_fld (pv 5) rfl) pa_nil)) pa_nil)) (by rfl))
      (pss_cons (ps_expr (pe_bm PySem.F.plainAttrs_list PySem.F.slot_list_append PySem.F.type_list_append mt_append (pv 4) (pa_cons (pe_tup (pa_cons (pv 5) (pa_cons (pv 6) (pa_cons (pv 7) (pa_cons (pv 8) (pa_cons (pe_lst (pa_cons (pe_fld (pv 6) rfl) pa_nil)) (pa_cons (pe_lst (pa_cons (pv 0) pa_nil)) pa_nil))))))) pa_nil)))
      (pss_cons (ps_par (i := 5) (j := 6) rfl sc_made_a.nd rfl rfl (by decide) rfl rfl (pa_cons (pe_make T8.mkr T8.ok hr (by rfl) T8.m T8.b .nil pass0 (pa_cons (pv 0) pa_nil)) (pa_cons (pe_makeK0 T8.mkr T8.ok hr (by rfl) T8.m T8.kb pass0 (pk_cons (pv 0) pk_nil)) pa_nil)) (by rfl))
      (pss_cons (ps_par (i := 7) (j := 8) rfl sc_made_a.nd rfl rfl (by decide) rfl rfl (pa_cons (pe_and (pe_callB (call_isC' T8.ins) (by rfl) mI (by decide +kernel) (pa_cons (pv 5) (pa_cons (pe_glob (v := .ref C8) (by rfl) T8.m rfl) pa_nil))) (pe_one (pe_callB (call_isC' T8.ins) (by rfl) mI (by decide +kernel) (pa_cons (pv 6) (pa_cons (pe_glob (v := .ref C8) (by rfl) T8.m rfl) pa_nil))))) (pa_cons (pe_lst (pa_cons (pe_fld (pv 5) rfl) pa_nil)) pa_nil)) (by rfl))
      (pss_cons (ps_expr (pe_bm PySem.F.plainAttrs_list PySem.F.slot_list_append PySem.F.type_list_append mt_append (pv 4) (pa_cons (pe_tup (pa_cons (pv 5) (pa_cons (pv 6) (pa_cons (pv 7) (pa_cons (pv 8) (pa_cons (pe_lst (pa_cons (pe_fld (pv 6) rfl) pa_nil)) (pa_cons (pe_lst (pa_cons (pv 0) pa_nil)) pa_nil))))))) pa_nil)))
      (pss_cons (ps_par (i := 5) (j := 6) rfl sc_made_a.nd rfl rfl (by decide) rfl rfl (pa_cons (pe_make T9.mkr T9.ok hr (by rfl) T9.m T9.b .nil pass0 (pa_cons (pv 0) pa_nil)) (pa_cons (pe_makeK0 T9.mkr T9.ok hr (by rfl) T9.m T9.kb pass0 (pk_cons (pv 0) pk_nil)) pa_nil)) (by rfl))
      (pss_cons (ps_par (i := 7) (j := 8) rfl sc_made_a.nd rfl rfl (by decide) rfl rfl (pa_cons (pe_and (pe_callB (call_isC' T9.ins) (by rfl) mI (by decide +kernel) (pa_cons (pv 5) (pa_cons (pe_glob (v := .ref C9) (by rfl) T9.m rfl) pa_nil))) (pe_one (pe_callB (call_isC' T9.ins) (by rfl) mI (by decide +kernel) (pa_cons (pv 6) (pa_cons (pe_glob (v := .ref C9) (by rfl) T9.m rfl) pa_nil))))) (pa_cons (pe_lst (pa_cons (pe_fld (pv 5) rfl) pa_nil)) pa_nil)) (by rfl))
      (pss_cons (ps_expr (pe_bm PySem.F.plainAttrs_list PySem.F.slot_list_append PySem.F.type_list_append mt_append (pv 4) (pa_cons (pe_tup (pa_cons (pv 5) (pa_cons (pv 6) (pa_cons (pv 7) (pa_cons (pv 8) (pa_cons (pe_lst (pa_cons (pe_fld (pv 6) rfl) pa_nil)) (pa_cons (pe_lst (pa_cons (pv 0) pa_nil)) pa_nil))))))) pa_nil)))
      (pss_cons (ps_par (i := 5) (j := 6) rfl sc_made_a.nd rfl rfl (by decide) rfl rfl (pa_cons (pe_make T10.mkr T10.ok hr (by rfl) T10.m T10.b .nil pass0 (pa_cons (pv 0) (pa_cons (pv 1) pa_nil))) (pa_cons (pe_makeK0 T10.mkr T10.ok hr (by rfl) T10.m T10.kb pass0 (pk_cons (pv 1) (pk_cons (pv 0) pk_nil))) pa_nil)) (by rfl))
      (pss_cons (ps_par (i := 7) (j := 8) rfl sc_made_a.nd rfl rfl (by decide) rfl rfl (pa_cons (pe_and (pe_callB (call_isC' T10.ins) (by rfl) mI (by decide +kernel) (pa_cons (pv 5) (pa_cons (pe_glob (v := .ref C10) (by rfl) T10.m rfl) pa_nil))) (pe_one (pe_callB (call_isC' T10.ins) (by rfl) mI (by decide +kernel) (pa_cons (pv 6) (pa_cons (pe_glob (v := .ref C10) (by rfl) T10.m rfl) pa_nil))))) (pa_cons (pe_lst (pa_cons (pe_fld (pv 5) rfl) (pa_cons (pe_fld (pv 5) rfl) pa_nil))) pa_nil)) (by rfl))
      (pss_cons (ps_expr (pe_bm PySem.F.plainAttrs_list PySem.F.slot_list_append PySem.F.type_list_append mt_append (pv 4) (pa_cons (pe_tup (pa_cons (pv 5) (pa_cons (pv 6) (pa_cons (pv 7) (pa_cons (pv 8) (pa_cons (pe_lst (pa_cons (pe_fld (pv 6) rfl) (pa_cons (pe_fld (pv 6) rfl) pa_nil))) (pa_cons (pe_lst (pa_cons (pv 0) (pa_cons (pv 1) pa_nil))) pa_nil))))))) pa_nil)))
      (pss_one (ps_ret (pv 4))))))))))))))))))))))))))))))))))))), ?_⟩
  refine made_start s0 hv dw gd fun l σ0 H0' D0 => ?_
  refine grp T0 (js := [0]) rfl (by decide) (by decide) D0 (by decide) fun σ1 H1 D1 => ?_
  refine grp T1 (js := [0]) rfl (by decide) (by decide) D1 (by decide) fun σ2 H2 D2 => ?_
  refine grp T2 (js := [0, 1, 2]) rfl (by decide) (by decide) D2 (by decide) fun σ3 H3 D3 => ?_
  refine grp T3 (js := [0]) rfl (by decide) (by decide) D3 (by decide) fun σ4 H4 D4 => ?_
  refine grp T4 (js := [0, 1, 2]) rfl (by decide) (by decide) D4 (by decide) fun σ5 H5 D5 => ?_
  refine grp T5 (js := [0]) rfl (by decide) (by decide) D5 (by decide) fun σ6 H6 D6 => ?_
  refine grp T6 (js := [0, 1, 2]) rfl (by decide) (by decide) D6 (by decide) fun σ7 H7 D7 => ?_
  refine grp T7 (js := [0]) rfl (by decide) (by decide) D7 (by decide) fun σ8 H8 D8 => ?_
  refine grp T8 (js := [0]) rfl (by decide) (by decide) D8 (by decide) fun σ9 H9 D9 => ?_
  refine grp T9 (js := [0]) rfl (by decide) (by decide) D9 (by decide) fun σ10 H10 D10 => ?_
  refine grp T10 (js := [0, 1]) rfl (by decide) (by decide) D10 (by decide) fun σ11 H11 D11 => ?_
  exact made_end D11 k
theorem sc_made_b : FnScope ["a", "b", "c", "d", "rows", "one", "two", "kind", "first"] ["a", "b", "c", "d"] (defScope (top 97)) := ⟨rfl, rfl, rfl, by decide +kernel, rfl, by decide +kernel, by decide +kernel⟩
theorem ok_made_b {f : Addr} {fd : FuncData} (F : FnP K "_law_made_b" (top 97) f fd) (mI : mg "isinstance" = none) {C0 f0 : Addr} {d0 : FuncData} (T0 : ClsT P w K mg base "ConeBreak" ["row", "bars"] C0 f0 d0) {C1 f1 : Addr} {d1 : FuncData} (T1 : ClsT P w K mg base "FlowBreak" ["room", "wants", "lengths"] C1 f1 d1) {C2 f2 : Addr} {d2 : FuncData} (T2 : ClsT P w K mg base "Least" ["side", "ways"] C2 f2 d2) {C3 f3 : Addr} {d3 : FuncData} (T3 : ClsT P w K mg base "LeastTree" ["rows"] C3 f3 d3) {C4 f4 : Addr} {d4 : FuncData} (T4 : ClsT P w K mg base "Covered" ["rows"] C4 f4 d4) {C5 f5 : Addr} {d5 : FuncData} (T5 : ClsT P w K mg base "Dense" ["lot"] C5 f5 d5) {C6 f6 : Addr} {d6 : FuncData} (T6 : ClsT P w K mg base "Trees" ["rows"] C6 f6 d6) {C7 f7 : Addr} {d7 : FuncData} (T7 : ClsT P w K mg base "Parting" ["lots"] C7 f7 d7) {C8 f8 : Addr} {d8 : FuncData} (T8 : ClsT P w K mg base "Flow" ["ways"] C8 f8 d8) {C9 f9 : Addr} {d9 : FuncData} (T9 : ClsT P w K mg base "Bars" ["side"] C9 f9 d9) {C10 f10 : Addr} {d10 : FuncData} (T10 : ClsT P w K mg base "Stuck" ["row"] C10 f10 d10) :
    FnOk P w K mg base CX0 4 f fd ["a", "b", "c", "d"] (spMade K 11) := by
  refine F.ok sc_made_b (fun vs H Q E h => spMade_len vs H Q E h) (fun cdv A outer s H vs Q E hr h => ?_)
  obtain ⟨G, ds, hv, s0, dw, gd, k⟩ := h
  refine ⟨_, PSs.nox (pss_cons (ps_set (i := 4) sc_made_b.nd rfl (Or.inl rfl) (pe_lst pa_nil))
      (pss_cons (ps_par (i := 5) (j := 6) rfl sc_made_b.nd rfl rfl (by decide) rfl rfl (pa_cons (pe_make T0.mkr T0.ok hr (by rfl) T0.m T0.b .nil pass0 (pa_cons (pv 0) (pa_cons (pv 1) pa_nil))) (pa_cons (pe_makeK0 T0.mkr T0.ok hr (by rfl) T0.m T0.kb pass0 (pk_cons (pv 1) (pk_cons (pv 0) pk_nil))) pa_nil)) (by rfl))
      (pss_cons (ps_par (i := 7) (j := 8) rfl sc_made_b.nd rfl rfl (by decide) rfl rfl (pa_cons (pe_and (pe_callB (call_isC' T0.ins) (by rfl) mI (by decide +kernel) (pa_cons (pv 5) (pa_cons (pe_glob (v := .ref C0) (by rfl) T0.m rfl) pa_nil))) (pe_one (pe_callB (call_isC' T0.ins) (by rfl) mI (by decide +kernel) (pa_cons (pv 6) (pa_cons (pe_glob (v := .ref C0) (by rfl) T0.m rfl) pa_nil))))) (pa_cons (pe_lst (pa_cons (pe_fld (pv 5) rfl) (pa_cons (pe_fld (pv 5) rfl) pa_nil))) pa_nil)) (by rfl))
      (pss_cons (ps_expr (pe_bm PySem.F.plainAttrs_list PySem.F.slot_list_append PySem.F.type_list_append mt_append (pv 4) (pa_cons (pe_tup (pa_cons (pv 5) (pa_cons (pv 6) (pa_cons (pv 7) (pa_cons (pv 8) (pa_cons (pe_lst (pa_cons (pe_fld (pv 6) rfl) (pa_cons (pe_fld (pv 6) rfl) pa_nil))) (pa_cons (pe_lst (pa_cons (pv 0) (pa_cons (pv 1) pa_nil))) pa_nil))))))) pa_nil)))
      (pss_cons (ps_par (i := 5) (j := 6) rfl sc_made_b.nd rfl rfl (by decide) rfl rfl (pa_cons (pe_make T1.mkr T1.ok hr (by rfl) T1.m T1.b .nil pass0 (pa_cons (pv 0) (pa_cons (pv 1) (pa_cons (pv 2) pa_nil)))) (pa_cons (pe_makeK0 T1.mkr T1.ok hr (by rfl) T1.m T1.kb pass0 (pk_cons (pv 2) (pk_cons (pv 1) (pk_cons (pv 0) pk_nil)))) pa_nil)) (by rfl))
      (pss_cons (ps_par (i := 7) (j := 8) rfl sc_made_b.nd rfl rfl (by decide) rfl rfl (pa_cons (pe_and (pe_callB (call_isC' T1.ins) (by rfl) mI (by decide +kernel) (pa_cons (pv 5) (pa_cons (pe_glob (v := .ref C1) (by rfl) T1.m rfl) pa_nil))) (pe_one (pe_callB (call_isC' T1.ins) (by rfl) mI (by decide +kernel) (pa_cons (pv 6) (pa_cons (pe_glob (v := .ref C1) (by rfl) T1.m rfl) pa_nil))))) (pa_cons (pe_lst (pa_cons (pe_fld (pv 5) rfl) (pa_cons (pe_fld (pv 5) rfl) (pa_cons (pe_fld (pv 5) rfl) pa_nil)))) pa_nil)) (by rfl))
      (pss_cons (ps_expr (pe_bm PySem.F.plainAttrs_list PySem.F.slot_list_append PySem.F.type_list_append mt_append (pv 4) (pa_cons (pe_tup (pa_cons (pv 5) (pa_cons (pv 6) (pa_cons (pv 7) (pa_cons (pv 8) (pa_cons (pe_lst (pa_cons (pe_fld (pv 6) rfl) (pa_cons (pe_fld (pv 6) rfl) (pa_cons (pe_fld (pv 6) rfl) pa_nil)))) (pa_cons (pe_lst (pa_cons (pv 0) (pa_cons (pv 1) (pa_cons (pv 2) pa_nil)))) pa_nil))))))) pa_nil)))
      (pss_cons (ps_par (i := 5) (j := 6) rfl sc_made_b.nd rfl rfl (by decide) rfl rfl (pa_cons (pe_make T2.mkr T2.ok hr (by rfl) T2.m T2.b .nil pass0 (pa_cons (pv 0) (pa_cons (pv 1) pa_nil))) (pa_cons (pe_makeK0 T2.mkr T2.ok hr (by rfl) T2.m T2.kb pass0 (pk_cons (pv 1) (pk_cons (pv 0) pk_nil))) pa_nil)) (by rfl))
      (pss_cons (ps_par (i := 7) (j := 8) rfl sc_made_b.nd rfl rfl (by decide) rfl rfl (pa_cons (pe_and (pe_callB (call_isC' T2.ins) (by rfl) mI (by decide +kernel) (pa_cons (pv 5) (pa_cons (pe_glob (v := .ref C2) (by rfl) T2.m rfl) pa_nil))) (pe_one (pe_callB (call_isC' T2.ins) (by rfl) mI (by decide +kernel) (pa_cons (pv 6) (pa_cons (pe_glob (v := .ref C2) (by rfl) T2.m rfl) pa_nil))))) (pa_cons (pe_lst (pa_cons (pe_fld (pv 5) rfl) (pa_cons (pe_fld (pv 5) rfl) pa_nil))) pa_nil)) (by rfl))
      (pss_cons (ps_expr (pe_bm PySem.F.plainAttrs_list PySem.F.slot_list_append PySem.F.type_list_append mt_append (pv 4) (pa_cons (pe_tup (pa_cons (pv 5) (pa_cons (pv 6) (pa_cons (pv 7) (pa_cons (pv 8) (pa_cons (pe_lst (pa_cons (pe_fld (pv 6) rfl) (pa_cons (pe_fld (pv 6) rfl) pa_nil))) (pa_cons (pe_lst (pa_cons (pv 0) (pa_cons (pv 1) pa_nil))) pa_nil))))))) pa_nil)))
      (pss_cons (ps_par (i := 5) (j := 6) rfl sc_made_b.nd rfl rfl (by decide) rfl rfl (pa_cons (pe_make T3.mkr T3.ok hr (by rfl) T3.m T3.b .nil pass0 (pa_cons (pv 0) pa_nil)) (pa_cons (pe_makeK0 T3.mkr T3.ok hr (by rfl) T3.m T3.kb pass0 (pk_cons (pv 0) pk_nil)) pa_nil)) (by rfl))
      (pss_cons (ps_par (i := 7) (j := 8) rfl sc_made_b.nd rfl rfl (by decide) rfl rfl (pa_cons (pe_and (pe_callB (call_isC' T3.ins) (by rfl) mI (by decide +kernel) (pa_cons (pv 5) (pa_cons (pe_glob (v := .ref C3) (by rfl) T3.m rfl) pa_nil))) (pe_one (pe_callB (call_isC' T3.ins) (by rfl) mI (by decide +kernel) (pa_cons (pv 6) (pa_cons (pe_glob (v := .ref C3) (by rfl) T3.m rfl) pa_nil))))) (pa_cons (pe_lst (pa_cons (pe_fld (pv 5) rfl) pa_nil)) pa_nil)) (by rfl))
      (pss_cons (ps_expr (pe_bm PySem.F.plainAttrs_list PySem.F.slot_list_append PySem.F.type_list_append mt_append (pv 4) (pa_cons (pe_tup (pa_cons (pv 5) (pa_cons (pv 6) (pa_cons (pv 7) (pa_cons (pv 8) (pa_cons (pe_lst (pa_cons (pe_fld (pv 6) rfl) pa_nil)) (pa_cons (pe_lst (pa_cons (pv 0) pa_nil)) pa_nil))))))) pa_nil)))
      (pss_cons (ps_par (i := 5) (j := 6) rfl sc_made_b.nd rfl rfl (by decide) rfl rfl (pa_cons (pe_make T4.mkr T4.ok hr (by rfl) T4.m T4.b .nil pass0 (pa_cons (pv 0) pa_nil)) (pa_cons (pe_makeK0 T4.mkr T4.ok hr (by rfl) T4.m T4.kb pass0 (pk_cons (pv 0) pk_nil)) pa_nil)) (by rfl))
      (pss_cons (ps_par (i := 7) (j := 8) rfl sc_made_b.nd rfl rfl (by decide) rfl rfl (pa_cons (pe_and (pe_callB (call_isC' T4.ins) (by rfl) mI (by decide +kernel) (pa_cons (pv 5) (pa_cons (pe_glob (v := .ref C4) (by rfl) T4.m rfl) pa_nil))) (pe_one (pe_callB (call_isC' T4.ins) (by rfl) mI (by decide +kernel) (pa_cons (pv 6) (pa_cons (pe_glob (v := .ref C4) (by rfl) T4.m rfl) pa_nil))))) (pa_cons (pe_lst (pa_cons (pe_fld (pv 5) rfl) pa_nil)) pa_nil)) (by rfl))
      (pss_cons (ps_expr (pe_bm PySem.F.plainAttrs_list PySem.F.slot_list_append PySem.F.type_list_append mt_append (pv 4) (pa_cons (pe_tup (pa_cons (pv 5) (pa_cons (pv 6) (pa_cons (pv 7) (pa_cons (pv 8) (pa_cons (pe_lst (pa_cons (pe_fld (pv 6) rfl) pa_nil)) (pa_cons (pe_lst (pa_cons (pv 0) pa_nil)) pa_nil))))))) pa_nil)))
      (pss_cons (ps_par (i := 5) (j := 6) rfl sc_made_b.nd rfl rfl (by decide) rfl rfl (pa_cons (pe_make T5.mkr T5.ok hr (by rfl) T5.m T5.b .nil pass0 (pa_cons (pv 0) pa_nil)) (pa_cons (pe_makeK0 T5.mkr T5.ok hr (by rfl) T5.m T5.kb pass0 (pk_cons (pv 0) pk_nil)) pa_nil)) (by rfl))
      (pss_cons (ps_par (i := 7) (j := 8) rfl sc_made_b.nd rfl rfl (by decide) rfl rfl (pa_cons (pe_and (pe_callB (call_isC' T5.ins) (by rfl) mI (by decide +kernel) (pa_cons (pv 5) (pa_cons (pe_glob (v := .ref C5) (by rfl) T5.m rfl) pa_nil))) (pe_one (pe_callB (call_isC' T5.ins) (by rfl) mI (by decide +kernel) (pa_cons (pv 6) (pa_cons (pe_glob (v := .ref C5) (by rfl) T5.m rfl) pa_nil))))) (pa_cons (pe_lst (pa_cons (pe_fld (pv 5) rfl) pa_nil)) pa_nil)) (by rfl))
      (pss_cons (ps_expr (pe_bm PySem.F.plainAttrs_list PySem.F.slot_list_append PySem.F.type_list_append mt_append (pv 4) (pa_cons (pe_tup (pa_cons (pv 5) (pa_cons (pv 6) (pa_cons (pv 7) (pa_cons (pv 8) (pa_cons (pe_lst (pa_cons (pe_fld (pv 6) rfl) pa_nil)) (pa_cons (pe_lst (pa_cons (pv 0) pa_nil)) pa_nil))))))) pa_nil)))
      (pss_cons (ps_par (i := 5) (j := 6) rfl sc_made_b.nd rfl rfl (by decide) rfl rfl (pa_cons (pe_make T6.mkr T6.ok hr (by rfl) T6.m T6.b .nil pass0 (pa_cons (pv 0) pa_nil)) (pa_cons (pe_makeK0 T6.mkr T6.ok hr (by rfl) T6.m T6.kb pass0 (pk_cons (pv 0) pk_nil)) pa_nil)) (by rfl))
      (pss_cons (ps_par (i := 7) (j := 8) rfl sc_made_b.nd rfl rfl (by decide) rfl rfl (pa_cons (pe_and (pe_callB (call_isC' T6.ins) (by rfl) mI (by decide +kernel) (pa_cons (pv 5) (pa_cons (pe_glob (v := .ref C6) (by rfl) T6.m rfl) pa_nil))) (pe_one (pe_callB (call_isC' T6.ins) (by rfl) mI (by decide +kernel) (pa_cons (pv 6) (pa_cons (pe_glob (v := .ref C6) (by rfl) T6.m rfl) pa_nil))))) (pa_cons (pe_lst (pa_cons (pe_fld (pv 5) rfl) pa_nil)) pa_nil)) (by rfl))
      (pss_cons (ps_expr (pe_bm PySem.F.plainAttrs_list PySem.F.slot_list_append PySem.F.type_list_append mt_append (pv 4) (pa_cons (pe_tup (pa_cons (pv 5) (pa_cons (pv 6) (pa_cons (pv 7) (pa_cons (pv 8) (pa_cons (pe_lst (pa_cons (pe_fld (pv 6) rfl) pa_nil)) (pa_cons (pe_lst (pa_cons (pv 0) pa_nil)) pa_nil))))))) pa_nil)))
      (pss_cons (ps_par (i := 5) (j := 6) rfl sc_made_b.nd rfl rfl (by decide) rfl rfl (pa_cons (pe_make T7.mkr T7.ok hr (by rfl) T7.m T7.b .nil pass0 (pa_cons (pv 0) pa_nil)) (pa_cons (pe_makeK0 T7.mkr T7.ok hr (by rfl) T7.m T7.kb pass0 (pk_cons (pv 0) pk_nil)) pa_nil)) (by rfl))
      (pss_cons (ps_par (i := 7) (j := 8) rfl sc_made_b.nd rfl rfl (by decide) rfl rfl (pa_cons (pe_and (pe_callB (call_isC' T7.ins) (by rfl) mI (by decide +kernel) (pa_cons (pv 5) (pa_cons (pe_glob (v := .ref C7) (by rfl) T7.m rfl) pa_nil))) (pe_one (pe_callB (call_isC' T7.ins) (by rfl) mI (by decide +kernel) (pa_cons (pv 6) (pa_cons (pe_glob (v := .ref C7) (by rfl) T7.m rfl) pa_nil))))) (pa_cons (pe_lst (pa_cons (pe_fld (pv 5) rfl) pa_nil)) pa_nil)) (by rfl))
      (pss_cons (ps_expr (pe_bm PySem.F.plainAttrs_list PySem.F.slot_list_append PySem.F.type_list_append mt_append (pv 4) (pa_cons (pe_tup (pa_cons (pv 5) (pa_cons (pv 6) (pa_cons (pv 7) (pa_cons (pv 8) (pa_cons (pe_lst (pa_cons (pe_fld (pv 6) rfl) pa_nil)) (pa_cons (pe_lst (pa_cons (pv 0) pa_nil)) pa_nil))))))) pa_nil)))
      (pss_cons (ps_par (i := 5) (j := 6) rfl sc_made_b.nd rfl rfl (by decide) rfl rfl (pa_cons (pe_make T8.mkr T8.ok hr (by rfl) T8.m T8.b .nil pass0 (pa_cons (pv 0) pa_nil)) (pa_cons (pe_makeK0 T8.mkr T8.ok hr (by rfl) T8.m T8.kb pass0 (pk_cons (pv 0) pk_nil)) pa_nil)) (by rfl))
      (pss_cons (ps_par (i := 7) (j := 8) rfl sc_made_b.nd rfl rfl (by decide) rfl rfl (pa_cons (pe_and (pe_callB (call_isC' T8.ins) (by rfl) mI (by decide +kernel) (pa_cons (pv 5) (pa_cons (pe_glob (v := .ref C8) (by rfl) T8.m rfl) pa_nil))) (pe_one (pe_callB (call_isC' T8.ins) (by rfl) mI (by decide +kernel) (pa_cons (pv 6) (pa_cons (pe_glob (v := .ref C8) (by rfl) T8.m rfl) pa_nil))))) (pa_cons (pe_lst (pa_cons (pe_fld (pv 5) rfl) pa_nil)) pa_nil)) (by rfl))
      (pss_cons (ps_expr (pe_bm PySem.F.plainAttrs_list PySem.F.slot_list_append PySem.F.type_list_append mt_append (pv 4) (pa_cons (pe_tup (pa_cons (pv 5) (pa_cons (pv 6) (pa_cons (pv 7) (pa_cons (pv 8) (pa_cons (pe_lst (pa_cons (pe_fld (pv 6) rfl) pa_nil)) (pa_cons (pe_lst (pa_cons (pv 0) pa_nil)) pa_nil))))))) pa_nil)))
      (pss_cons (ps_par (i := 5) (j := 6) rfl sc_made_b.nd rfl rfl (by decide) rfl rfl (pa_cons (pe_make T9.mkr T9.ok hr (by rfl) T9.m T9.b .nil pass0 (pa_cons (pv 0) pa_nil)) (pa_cons (pe_makeK0 T9.mkr T9.ok hr (by rfl) T9.m T9.kb pass0 (pk_cons (pv 0) pk_nil)) pa_nil)) (by rfl))
      (pss_cons (ps_par (i := 7) (j := 8) rfl sc_made_b.nd rfl rfl (by decide) rfl rfl (pa_cons (pe_and (pe_callB (call_isC' T9.ins) (by rfl) mI (by decide +kernel) (pa_cons (pv 5) (pa_cons (pe_glob (v := .ref C9) (by rfl) T9.m rfl) pa_nil))) (pe_one (pe_callB (call_isC' T9.ins) (by rfl) mI (by decide +kernel) (pa_cons (pv 6) (pa_cons (pe_glob (v := .ref C9) (by rfl) T9.m rfl) pa_nil))))) (pa_cons (pe_lst (pa_cons (pe_fld (pv 5) rfl) pa_nil)) pa_nil)) (by rfl))
      (pss_cons (ps_expr (pe_bm PySem.F.plainAttrs_list PySem.F.slot_list_append PySem.F.type_list_append mt_append (pv 4) (pa_cons (pe_tup (pa_cons (pv 5) (pa_cons (pv 6) (pa_cons (pv 7) (pa_cons (pv 8) (pa_cons (pe_lst (pa_cons (pe_fld (pv 6) rfl) pa_nil)) (pa_cons (pe_lst (pa_cons (pv 0) pa_nil)) pa_nil))))))) pa_nil)))
      (pss_cons (ps_par (i := 5) (j := 6) rfl sc_made_b.nd rfl rfl (by decide) rfl rfl (pa_cons (pe_make T10.mkr T10.ok hr (by rfl) T10.m T10.b .nil pass0 (pa_cons (pv 0) pa_nil)) (pa_cons (pe_makeK0 T10.mkr T10.ok hr (by rfl) T10.m T10.kb pass0 (pk_cons (pv 0) pk_nil)) pa_nil)) (by rfl))
      (pss_cons (ps_par (i := 7) (j := 8) rfl sc_made_b.nd rfl rfl (by decide) rfl rfl (pa_cons (pe_and (pe_callB (call_isC' T10.ins) (by rfl) mI (by decide +kernel) (pa_cons (pv 5) (pa_cons (pe_glob (v := .ref C10) (by rfl) T10.m rfl) pa_nil))) (pe_one (pe_callB (call_isC' T10.ins) (by rfl) mI (by decide +kernel) (pa_cons (pv 6) (pa_cons (pe_glob (v := .ref C10) (by rfl) T10.m rfl) pa_nil))))) (pa_cons (pe_lst (pa_cons (pe_fld (pv 5) rfl) pa_nil)) pa_nil)) (by rfl))
      (pss_cons (ps_expr (pe_bm PySem.F.plainAttrs_list PySem.F.slot_list_append PySem.F.type_list_append mt_append (pv 4) (pa_cons (pe_tup (pa_cons (pv 5) (pa_cons (pv 6) (pa_cons (pv 7) (pa_cons (pv 8) (pa_cons (pe_lst (pa_cons (pe_fld (pv 6) rfl) pa_nil)) (pa_cons (pe_lst (pa_cons (pv 0) pa_nil)) pa_nil))))))) pa_nil)))
      (pss_one (ps_ret (pv 4))))))))))))))))))))))))))))))))))))), ?_⟩
  refine made_start s0 hv dw gd fun l σ0 H0' D0 => ?_
  refine grp T0 (js := [0, 1]) rfl (by decide) (by decide) D0 (by decide) fun σ1 H1 D1 => ?_
  refine grp T1 (js := [0, 1, 2]) rfl (by decide) (by decide) D1 (by decide) fun σ2 H2 D2 => ?_
  refine grp T2 (js := [0, 1]) rfl (by decide) (by decide) D2 (by decide) fun σ3 H3 D3 => ?_
  refine grp T3 (js := [0]) rfl (by decide) (by decide) D3 (by decide) fun σ4 H4 D4 => ?_
  refine grp T4 (js := [0]) rfl (by decide) (by decide) D4 (by decide) fun σ5 H5 D5 => ?_
  refine grp T5 (js := [0]) rfl (by decide) (by decide) D5 (by decide) fun σ6 H6 D6 => ?_
  refine grp T6 (js := [0]) rfl (by decide) (by decide) D6 (by decide) fun σ7 H7 D7 => ?_
  refine grp T7 (js := [0]) rfl (by decide) (by decide) D7 (by decide) fun σ8 H8 D8 => ?_
  refine grp T8 (js := [0]) rfl (by decide) (by decide) D8 (by decide) fun σ9 H9 D9 => ?_
  refine grp T9 (js := [0]) rfl (by decide) (by decide) D9 (by decide) fun σ10 H10 D10 => ?_
  refine grp T10 (js := [0]) rfl (by decide) (by decide) D10 (by decide) fun σ11 H11 D11 => ?_
  exact made_end D11 k
theorem sc_made_c : FnScope ["a", "b", "c", "d", "rows", "one", "two", "kind", "first"] ["a", "b", "c", "d"] (defScope (top 98)) := ⟨rfl, rfl, rfl, by decide +kernel, rfl, by decide +kernel, by decide +kernel⟩
theorem ok_made_c {f : Addr} {fd : FuncData} (F : FnP K "_law_made_c" (top 98) f fd) (mI : mg "isinstance" = none) {C0 f0 : Addr} {d0 : FuncData} (T0 : ClsT P w K mg base "Share" ["share", "ways", "row"] C0 f0 d0) {C1 f1 : Addr} {d1 : FuncData} (T1 : ClsT P w K mg base "Join" ["ties", "cuts"] C1 f1 d1) {C2 f2 : Addr} {d2 : FuncData} (T2 : ClsT P w K mg base "OneLonger" ["tie", "lot"] C2 f2 d2) {C3 f3 : Addr} {d3 : FuncData} (T3 : ClsT P w K mg base "TreeCuts" ["cuts"] C3 f3 d3) {C4 f4 : Addr} {d4 : FuncData} (T4 : ClsT P w K mg base "FourApart" ["a", "b", "c", "d"] C4 f4 d4) {C5 f5 : Addr} {d5 : FuncData} (T5 : ClsT P w K mg base "Pressed" ["lots"] C5 f5 d5) {C6 f6 : Addr} {d6 : FuncData} (T6 : ClsT P w K mg base "Narrow" ["row"] C6 f6 d6) {C7 f7 : Addr} {d7 : FuncData} (T7 : ClsT P w K mg base "FourLots" ["lots"] C7 f7 d7) {C8 f8 : Addr} {d8 : FuncData} (T8 : ClsT P w K mg base "ThreeTree" ["bags", "links", "papers"] C8 f8 d8) {C9 f9 : Addr} {d9 : FuncData} (T9 : ClsT P w K mg base "SixLots" ["lots"] C9 f9 d9) {C10 f10 : Addr} {d10 : FuncData} (T10 : ClsT P w K mg base "OddLots" ["lots", "side"] C10 f10 d10) :
    FnOk P w K mg base CX0 4 f fd ["a", "b", "c", "d"] (spMade K 11) := by
  refine F.ok sc_made_c (fun vs H Q E h => spMade_len vs H Q E h) (fun cdv A outer s H vs Q E hr h => ?_)
  obtain ⟨G, ds, hv, s0, dw, gd, k⟩ := h
  refine ⟨_, PSs.nox (pss_cons (ps_set (i := 4) sc_made_c.nd rfl (Or.inl rfl) (pe_lst pa_nil))
      (pss_cons (ps_par (i := 5) (j := 6) rfl sc_made_c.nd rfl rfl (by decide) rfl rfl (pa_cons (pe_make T0.mkr T0.ok hr (by rfl) T0.m T0.b .nil pass0 (pa_cons (pv 0) (pa_cons (pv 1) (pa_cons (pv 2) pa_nil)))) (pa_cons (pe_makeK0 T0.mkr T0.ok hr (by rfl) T0.m T0.kb pass0 (pk_cons (pv 2) (pk_cons (pv 1) (pk_cons (pv 0) pk_nil)))) pa_nil)) (by rfl))
      (pss_cons (ps_par (i := 7) (j := 8) rfl sc_made_c.nd rfl rfl (by decide) rfl rfl (pa_cons (pe_and (pe_callB (call_isC' T0.ins) (by rfl) mI (by decide +kernel) (pa_cons (pv 5) (pa_cons (pe_glob (v := .ref C0) (by rfl) T0.m rfl) pa_nil))) (pe_one (pe_callB (call_isC' T0.ins) (by rfl) mI (by decide +kernel) (pa_cons (pv 6) (pa_cons (pe_glob (v := .ref C0) (by rfl) T0.m rfl) pa_nil))))) (pa_cons (pe_lst (pa_cons (pe_fld (pv 5) rfl) (pa_cons (pe_fld (pv 5) rfl) (pa_cons (pe_fld (pv 5) rfl) pa_nil)))) pa_nil)) (by rfl))
      (pss_cons (ps_expr (pe_bm PySem.F.plainAttrs_list PySem.F.slot_list_append PySem.F.type_list_append mt_append (pv 4) (pa_cons (pe_tup (pa_cons (pv 5) (pa_cons (pv 6) (pa_cons (pv 7) (pa_cons (pv 8) (pa_cons (pe_lst (pa_cons (pe_fld (pv 6) rfl) (pa_cons (pe_fld (pv 6) rfl) (pa_cons (pe_fld (pv 6) rfl) pa_nil)))) (pa_cons (pe_lst (pa_cons (pv 0) (pa_cons (pv 1) (pa_cons (pv 2) pa_nil)))) pa_nil))))))) pa_nil)))
      (pss_cons (ps_par (i := 5) (j := 6) rfl sc_made_c.nd rfl rfl (by decide) rfl rfl (pa_cons (pe_make T1.mkr T1.ok hr (by rfl) T1.m T1.b .nil pass0 (pa_cons (pv 0) (pa_cons (pv 1) pa_nil))) (pa_cons (pe_makeK0 T1.mkr T1.ok hr (by rfl) T1.m T1.kb pass0 (pk_cons (pv 1) (pk_cons (pv 0) pk_nil))) pa_nil)) (by rfl))
      (pss_cons (ps_par (i := 7) (j := 8) rfl sc_made_c.nd rfl rfl (by decide) rfl rfl (pa_cons (pe_and (pe_callB (call_isC' T1.ins) (by rfl) mI (by decide +kernel) (pa_cons (pv 5) (pa_cons (pe_glob (v := .ref C1) (by rfl) T1.m rfl) pa_nil))) (pe_one (pe_callB (call_isC' T1.ins) (by rfl) mI (by decide +kernel) (pa_cons (pv 6) (pa_cons (pe_glob (v := .ref C1) (by rfl) T1.m rfl) pa_nil))))) (pa_cons (pe_lst (pa_cons (pe_fld (pv 5) rfl) (pa_cons (pe_fld (pv 5) rfl) pa_nil))) pa_nil)) (by rfl))
      (pss_cons (ps_expr (pe_bm PySem.F.plainAttrs_list PySem.F.slot_list_append PySem.F.type_list_append mt_append (pv 4) (pa_cons (pe_tup (pa_cons (pv 5) (pa_cons (pv 6) (pa_cons (pv 7) (pa_cons (pv 8) (pa_cons (pe_lst (pa_cons (pe_fld (pv 6) rfl) (pa_cons (pe_fld (pv 6) rfl) pa_nil))) (pa_cons (pe_lst (pa_cons (pv 0) (pa_cons (pv 1) pa_nil))) pa_nil))))))) pa_nil)))
      (pss_cons (ps_par (i := 5) (j := 6) rfl sc_made_c.nd rfl rfl (by decide) rfl rfl (pa_cons (pe_make T2.mkr T2.ok hr (by rfl) T2.m T2.b .nil pass0 (pa_cons (pv 0) (pa_cons (pv 1) pa_nil))) (pa_cons (pe_makeK0 T2.mkr T2.ok hr (by rfl) T2.m T2.kb pass0 (pk_cons (pv 1) (pk_cons (pv 0) pk_nil))) pa_nil)) (by rfl))
      (pss_cons (ps_par (i := 7) (j := 8) rfl sc_made_c.nd rfl rfl (by decide) rfl rfl (pa_cons (pe_and (pe_callB (call_isC' T2.ins) (by rfl) mI (by decide +kernel) (pa_cons (pv 5) (pa_cons (pe_glob (v := .ref C2) (by rfl) T2.m rfl) pa_nil))) (pe_one (pe_callB (call_isC' T2.ins) (by rfl) mI (by decide +kernel) (pa_cons (pv 6) (pa_cons (pe_glob (v := .ref C2) (by rfl) T2.m rfl) pa_nil))))) (pa_cons (pe_lst (pa_cons (pe_fld (pv 5) rfl) (pa_cons (pe_fld (pv 5) rfl) pa_nil))) pa_nil)) (by rfl))
      (pss_cons (ps_expr (pe_bm PySem.F.plainAttrs_list PySem.F.slot_list_append PySem.F.type_list_append mt_append (pv 4) (pa_cons (pe_tup (pa_cons (pv 5) (pa_cons (pv 6) (pa_cons (pv 7) (pa_cons (pv 8) (pa_cons (pe_lst (pa_cons (pe_fld (pv 6) rfl) (pa_cons (pe_fld (pv 6) rfl) pa_nil))) (pa_cons (pe_lst (pa_cons (pv 0) (pa_cons (pv 1) pa_nil))) pa_nil))))))) pa_nil)))
      (pss_cons (ps_par (i := 5) (j := 6) rfl sc_made_c.nd rfl rfl (by decide) rfl rfl (pa_cons (pe_make T3.mkr T3.ok hr (by rfl) T3.m T3.b .nil pass0 (pa_cons (pv 0) pa_nil)) (pa_cons (pe_makeK0 T3.mkr T3.ok hr (by rfl) T3.m T3.kb pass0 (pk_cons (pv 0) pk_nil)) pa_nil)) (by rfl))
      (pss_cons (ps_par (i := 7) (j := 8) rfl sc_made_c.nd rfl rfl (by decide) rfl rfl (pa_cons (pe_and (pe_callB (call_isC' T3.ins) (by rfl) mI (by decide +kernel) (pa_cons (pv 5) (pa_cons (pe_glob (v := .ref C3) (by rfl) T3.m rfl) pa_nil))) (pe_one (pe_callB (call_isC' T3.ins) (by rfl) mI (by decide +kernel) (pa_cons (pv 6) (pa_cons (pe_glob (v := .ref C3) (by rfl) T3.m rfl) pa_nil))))) (pa_cons (pe_lst (pa_cons (pe_fld (pv 5) rfl) pa_nil)) pa_nil)) (by rfl))
      (pss_cons (ps_expr (pe_bm PySem.F.plainAttrs_list PySem.F.slot_list_append PySem.F.type_list_append mt_append (pv 4) (pa_cons (pe_tup (pa_cons (pv 5) (pa_cons (pv 6) (pa_cons (pv 7) (pa_cons (pv 8) (pa_cons (pe_lst (pa_cons (pe_fld (pv 6) rfl) pa_nil)) (pa_cons (pe_lst (pa_cons (pv 0) pa_nil)) pa_nil))))))) pa_nil)))
      (pss_cons (ps_par (i := 5) (j := 6) rfl sc_made_c.nd rfl rfl (by decide) rfl rfl (pa_cons (pe_make T4.mkr T4.ok hr (by rfl) T4.m T4.b .nil pass0 (pa_cons (pv 0) (pa_cons (pv 1) (pa_cons (pv 2) (pa_cons (pv 3) pa_nil))))) (pa_cons (pe_makeK0 T4.mkr T4.ok hr (by rfl) T4.m T4.kb pass0 (pk_cons (pv 3) (pk_cons (pv 2) (pk_cons (pv 1) (pk_cons (pv 0) pk_nil))))) pa_nil)) (by rfl))
      (pss_cons (ps_par (i := 7) (j := 8) rfl sc_made_c.nd rfl rfl (by decide) rfl rfl (pa_cons (pe_and (pe_callB (call_isC' T4.ins) (by rfl) mI (by decide +kernel) (pa_cons (pv 5) (pa_cons (pe_glob (v := .ref C4) (by rfl) T4.m rfl) pa_nil))) (pe_one (pe_callB (call_isC' T4.ins) (by rfl) mI (by decide +kernel) (pa_cons (pv 6) (pa_cons (pe_glob (v := .ref C4) (by rfl) T4.m rfl) pa_nil))))) (pa_cons (pe_lst (pa_cons (pe_fld (pv 5) rfl) (pa_cons (pe_fld (pv 5) rfl) (pa_cons (pe_fld (pv 5) rfl) (pa_cons (pe_fld (pv 5) rfl) pa_nil))))) pa_nil)) (by rfl))
      (pss_cons (ps_expr (pe_bm PySem.F.plainAttrs_list PySem.F.slot_list_append PySem.F.type_list_append mt_append (pv 4) (pa_cons (pe_tup (pa_cons (pv 5) (pa_cons (pv 6) (pa_cons (pv 7) (pa_cons (pv 8) (pa_cons (pe_lst (pa_cons (pe_fld (pv 6) rfl) (pa_cons (pe_fld (pv 6) rfl) (pa_cons (pe_fld (pv 6) rfl) (pa_cons (pe_fld (pv 6) rfl) pa_nil))))) (pa_cons (pe_lst (pa_cons (pv 0) (pa_cons (pv 1) (pa_cons (pv 2) (pa_cons (pv 3) pa_nil))))) pa_nil))))))) pa_nil)))
      (pss_cons (ps_par (i := 5) (j := 6) rfl sc_made_c.nd rfl rfl (by decide) rfl rfl (pa_cons (pe_make T5.mkr T5.ok hr (by rfl) T5.m T5.b .nil pass0 (pa_cons (pv 0) pa_nil)) (pa_cons (pe_makeK0 T5.mkr T5.ok hr (by rfl) T5.m T5.kb pass0 (pk_cons (pv 0) pk_nil)) pa_nil)) (by rfl))
      (pss_cons (ps_par (i := 7) (j := 8) rfl sc_made_c.nd rfl rfl (by decide) rfl rfl (pa_cons (pe_and (pe_callB (call_isC' T5.ins) (by rfl) mI (by decide +kernel) (pa_cons (pv 5) (pa_cons (pe_glob (v := .ref C5) (by rfl) T5.m rfl) pa_nil))) (pe_one (pe_callB (call_isC' T5.ins) (by rfl) mI (by decide +kernel) (pa_cons (pv 6) (pa_cons (pe_glob (v := .ref C5) (by rfl) T5.m rfl) pa_nil))))) (pa_cons (pe_lst (pa_cons (pe_fld (pv 5) rfl) pa_nil)) pa_nil)) (by rfl))
      (pss_cons (ps_expr (pe_bm PySem.F.plainAttrs_list PySem.F.slot_list_append PySem.F.type_list_append mt_append (pv 4) (pa_cons (pe_tup (pa_cons (pv 5) (pa_cons (pv 6) (pa_cons (pv 7) (pa_cons (pv 8) (pa_cons (pe_lst (pa_cons (pe_fld (pv 6) rfl) pa_nil)) (pa_cons (pe_lst (pa_cons (pv 0) pa_nil)) pa_nil))))))) pa_nil)))
      (pss_cons (ps_par (i := 5) (j := 6) rfl sc_made_c.nd rfl rfl (by decide) rfl rfl (pa_cons (pe_make T6.mkr T6.ok hr (by rfl) T6.m T6.b .nil pass0 (pa_cons (pv 0) pa_nil)) (pa_cons (pe_makeK0 T6.mkr T6.ok hr (by rfl) T6.m T6.kb pass0 (pk_cons (pv 0) pk_nil)) pa_nil)) (by rfl))
      (pss_cons (ps_par (i := 7) (j := 8) rfl sc_made_c.nd rfl rfl (by decide) rfl rfl (pa_cons (pe_and (pe_callB (call_isC' T6.ins) (by rfl) mI (by decide +kernel) (pa_cons (pv 5) (pa_cons (pe_glob (v := .ref C6) (by rfl) T6.m rfl) pa_nil))) (pe_one (pe_callB (call_isC' T6.ins) (by rfl) mI (by decide +kernel) (pa_cons (pv 6) (pa_cons (pe_glob (v := .ref C6) (by rfl) T6.m rfl) pa_nil))))) (pa_cons (pe_lst (pa_cons (pe_fld (pv 5) rfl) pa_nil)) pa_nil)) (by rfl))
      (pss_cons (ps_expr (pe_bm PySem.F.plainAttrs_list PySem.F.slot_list_append PySem.F.type_list_append mt_append (pv 4) (pa_cons (pe_tup (pa_cons (pv 5) (pa_cons (pv 6) (pa_cons (pv 7) (pa_cons (pv 8) (pa_cons (pe_lst (pa_cons (pe_fld (pv 6) rfl) pa_nil)) (pa_cons (pe_lst (pa_cons (pv 0) pa_nil)) pa_nil))))))) pa_nil)))
      (pss_cons (ps_par (i := 5) (j := 6) rfl sc_made_c.nd rfl rfl (by decide) rfl rfl (pa_cons (pe_make T7.mkr T7.ok hr (by rfl) T7.m T7.b .nil pass0 (pa_cons (pv 0) pa_nil)) (pa_cons (pe_makeK0 T7.mkr T7.ok hr (by rfl) T7.m T7.kb pass0 (pk_cons (pv 0) pk_nil)) pa_nil)) (by rfl))
      (pss_cons (ps_par (i := 7) (j := 8) rfl sc_made_c.nd rfl rfl (by decide) rfl rfl (pa_cons (pe_and (pe_callB (call_isC' T7.ins) (by rfl) mI (by decide +kernel) (pa_cons (pv 5) (pa_cons (pe_glob (v := .ref C7) (by rfl) T7.m rfl) pa_nil))) (pe_one (pe_callB (call_isC' T7.ins) (by rfl) mI (by decide +kernel) (pa_cons (pv 6) (pa_cons (pe_glob (v := .ref C7) (by rfl) T7.m rfl) pa_nil))))) (pa_cons (pe_lst (pa_cons (pe_fld (pv 5) rfl) pa_nil)) pa_nil)) (by rfl))
      (pss_cons (ps_expr (pe_bm PySem.F.plainAttrs_list PySem.F.slot_list_append PySem.F.type_list_append mt_append (pv 4) (pa_cons (pe_tup (pa_cons (pv 5) (pa_cons (pv 6) (pa_cons (pv 7) (pa_cons (pv 8) (pa_cons (pe_lst (pa_cons (pe_fld (pv 6) rfl) pa_nil)) (pa_cons (pe_lst (pa_cons (pv 0) pa_nil)) pa_nil))))))) pa_nil)))
      (pss_cons (ps_par (i := 5) (j := 6) rfl sc_made_c.nd rfl rfl (by decide) rfl rfl (pa_cons (pe_make T8.mkr T8.ok hr (by rfl) T8.m T8.b .nil pass0 (pa_cons (pv 0) (pa_cons (pv 1) (pa_cons (pv 2) pa_nil)))) (pa_cons (pe_makeK0 T8.mkr T8.ok hr (by rfl) T8.m T8.kb pass0 (pk_cons (pv 2) (pk_cons (pv 1) (pk_cons (pv 0) pk_nil)))) pa_nil)) (by rfl))
      (pss_cons (ps_par (i := 7) (j := 8) rfl sc_made_c.nd rfl rfl (by decide) rfl rfl (pa_cons (pe_and (pe_callB (call_isC' T8.ins) (by rfl) mI (by decide +kernel) (pa_cons (pv 5) (pa_cons (pe_glob (v := .ref C8) (by rfl) T8.m rfl) pa_nil))) (pe_one (pe_callB (call_isC' T8.ins) (by rfl) mI (by decide +kernel) (pa_cons (pv 6) (pa_cons (pe_glob (v := .ref C8) (by rfl) T8.m rfl) pa_nil))))) (pa_cons (pe_lst (pa_cons (pe_fld (pv 5) rfl) (pa_cons (pe_fld (pv 5) rfl) (pa_cons (pe_fld (pv 5) rfl) pa_nil)))) pa_nil)) (by rfl))
      (pss_cons (ps_expr (pe_bm PySem.F.plainAttrs_list PySem.F.slot_list_append PySem.F.type_list_append mt_append (pv 4) (pa_cons (pe_tup (pa_cons (pv 5) (pa_cons (pv 6) (pa_cons (pv 7) (pa_cons (pv 8) (pa_cons (pe_lst (pa_cons (pe_fld (pv 6) rfl) (pa_cons (pe_fld (pv 6) rfl) (pa_cons (pe_fld (pv 6) rfl) pa_nil)))) (pa_cons (pe_lst (pa_cons (pv 0) (pa_cons (pv 1) (pa_cons (pv 2) pa_nil)))) pa_nil))))))) pa_nil)))
      (pss_cons (ps_par (i := 5) (j := 6) rfl sc_made_c.nd rfl rfl (by decide) rfl rfl (pa_cons (pe_make T9.mkr T9.ok hr (by rfl) T9.m T9.b .nil pass0 (pa_cons (pv 0) pa_nil)) (pa_cons (pe_makeK0 T9.mkr T9.ok hr (by rfl) T9.m T9.kb pass0 (pk_cons (pv 0) pk_nil)) pa_nil)) (by rfl))
      (pss_cons (ps_par (i := 7) (j := 8) rfl sc_made_c.nd rfl rfl (by decide) rfl rfl (pa_cons (pe_and (pe_callB (call_isC' T9.ins) (by rfl) mI (by decide +kernel) (pa_cons (pv 5) (pa_cons (pe_glob (v := .ref C9) (by rfl) T9.m rfl) pa_nil))) (pe_one (pe_callB (call_isC' T9.ins) (by rfl) mI (by decide +kernel) (pa_cons (pv 6) (pa_cons (pe_glob (v := .ref C9) (by rfl) T9.m rfl) pa_nil))))) (pa_cons (pe_lst (pa_cons (pe_fld (pv 5) rfl) pa_nil)) pa_nil)) (by rfl))
      (pss_cons (ps_expr (pe_bm PySem.F.plainAttrs_list PySem.F.slot_list_append PySem.F.type_list_append mt_append (pv 4) (pa_cons (pe_tup (pa_cons (pv 5) (pa_cons (pv 6) (pa_cons (pv 7) (pa_cons (pv 8) (pa_cons (pe_lst (pa_cons (pe_fld (pv 6) rfl) pa_nil)) (pa_cons (pe_lst (pa_cons (pv 0) pa_nil)) pa_nil))))))) pa_nil)))
      (pss_cons (ps_par (i := 5) (j := 6) rfl sc_made_c.nd rfl rfl (by decide) rfl rfl (pa_cons (pe_make T10.mkr T10.ok hr (by rfl) T10.m T10.b .nil pass0 (pa_cons (pv 0) (pa_cons (pv 1) pa_nil))) (pa_cons (pe_makeK0 T10.mkr T10.ok hr (by rfl) T10.m T10.kb pass0 (pk_cons (pv 1) (pk_cons (pv 0) pk_nil))) pa_nil)) (by rfl))
      (pss_cons (ps_par (i := 7) (j := 8) rfl sc_made_c.nd rfl rfl (by decide) rfl rfl (pa_cons (pe_and (pe_callB (call_isC' T10.ins) (by rfl) mI (by decide +kernel) (pa_cons (pv 5) (pa_cons (pe_glob (v := .ref C10) (by rfl) T10.m rfl) pa_nil))) (pe_one (pe_callB (call_isC' T10.ins) (by rfl) mI (by decide +kernel) (pa_cons (pv 6) (pa_cons (pe_glob (v := .ref C10) (by rfl) T10.m rfl) pa_nil))))) (pa_cons (pe_lst (pa_cons (pe_fld (pv 5) rfl) (pa_cons (pe_fld (pv 5) rfl) pa_nil))) pa_nil)) (by rfl))
      (pss_cons (ps_expr (pe_bm PySem.F.plainAttrs_list PySem.F.slot_list_append PySem.F.type_list_append mt_append (pv 4) (pa_cons (pe_tup (pa_cons (pv 5) (pa_cons (pv 6) (pa_cons (pv 7) (pa_cons (pv 8) (pa_cons (pe_lst (pa_cons (pe_fld (pv 6) rfl) (pa_cons (pe_fld (pv 6) rfl) pa_nil))) (pa_cons (pe_lst (pa_cons (pv 0) (pa_cons (pv 1) pa_nil))) pa_nil))))))) pa_nil)))
      (pss_one (ps_ret (pv 4))))))))))))))))))))))))))))))))))))), ?_⟩
  refine made_start s0 hv dw gd fun l σ0 H0' D0 => ?_
  refine grp T0 (js := [0, 1, 2]) rfl (by decide) (by decide) D0 (by decide) fun σ1 H1 D1 => ?_
  refine grp T1 (js := [0, 1]) rfl (by decide) (by decide) D1 (by decide) fun σ2 H2 D2 => ?_
  refine grp T2 (js := [0, 1]) rfl (by decide) (by decide) D2 (by decide) fun σ3 H3 D3 => ?_
  refine grp T3 (js := [0]) rfl (by decide) (by decide) D3 (by decide) fun σ4 H4 D4 => ?_
  refine grp T4 (js := [0, 1, 2, 3]) rfl (by decide) (by decide) D4 (by decide) fun σ5 H5 D5 => ?_
  refine grp T5 (js := [0]) rfl (by decide) (by decide) D5 (by decide) fun σ6 H6 D6 => ?_
  refine grp T6 (js := [0]) rfl (by decide) (by decide) D6 (by decide) fun σ7 H7 D7 => ?_
  refine grp T7 (js := [0]) rfl (by decide) (by decide) D7 (by decide) fun σ8 H8 D8 => ?_
  refine grp T8 (js := [0, 1, 2]) rfl (by decide) (by decide) D8 (by decide) fun σ9 H9 D9 => ?_
  refine grp T9 (js := [0]) rfl (by decide) (by decide) D9 (by decide) fun σ10 H10 D10 => ?_
  refine grp T10 (js := [0, 1]) rfl (by decide) (by decide) D10 (by decide) fun σ11 H11 D11 => ?_
  exact made_end D11 k
theorem sc_made_d : FnScope ["a", "b", "c", "d", "rows", "one", "two", "kind", "first"] ["a", "b", "c", "d"] (defScope (top 99)) := ⟨rfl, rfl, rfl, by decide +kernel, rfl, by decide +kernel, by decide +kernel⟩
theorem ok_made_d {f : Addr} {fd : FuncData} (F : FnP K "_law_made_d" (top 99) f fd) (mI : mg "isinstance" = none) {C0 f0 : Addr} {d0 : FuncData} (T0 : ClsT P w K mg base "LooseFive" ["weights", "point"] C0 f0 d0) {C1 f1 : Addr} {d1 : FuncData} (T1 : ClsT P w K mg base "Cover" ["lot", "side"] C1 f1 d1) {C2 f2 : Addr} {d2 : FuncData} (T2 : ClsT P w K mg base "Tight" ["lot", "rounds"] C2 f2 d2) {C3 f3 : Addr} {d3 : FuncData} (T3 : ClsT P w K mg base "Loose" ["point", "rounds"] C3 f3 d3) {C4 f4 : Addr} {d4 : FuncData} (T4 : ClsT P w K mg base "Apart" ["rounds"] C4 f4 d4) {C5 f5 : Addr} {d5 : FuncData} (T5 : ClsT P w K mg base "Meets" ["lot"] C5 f5 d5) {C6 f6 : Addr} {d6 : FuncData} (T6 : ClsT P w K mg base "Plane" ["drawing"] C6 f6 d6) {C7 f7 : Addr} {d7 : FuncData} (T7 : ClsT P w K mg base "Barred" ["kind", "lots"] C7 f7 d7) {C8 f8 : Addr} {d8 : FuncData} (T8 : ClsT P w K mg base "Outer" ["drawing", "face"] C8 f8 d8) {C9 f9 : Addr} {d9 : FuncData} (T9 : ClsT P w K mg base "OuterBarred" ["kind", "lots"] C9 f9 d9) {C10 f10 : Addr} {d10 : FuncData} (T10 : ClsT P w K mg base "Way" ["row", "cuts"] C10 f10 d10) :
    FnOk P w K mg base CX0 4 f fd ["a", "b", "c", "d"] (spMade K 11) := by
  refine F.ok sc_made_d (fun vs H Q E h => spMade_len vs H Q E h) (fun cdv A outer s H vs Q E hr h => ?_)
  obtain ⟨G, ds, hv, s0, dw, gd, k⟩ := h
  refine ⟨_, PSs.nox (pss_cons (ps_set (i := 4) sc_made_d.nd rfl (Or.inl rfl) (pe_lst pa_nil))
      (pss_cons (ps_par (i := 5) (j := 6) rfl sc_made_d.nd rfl rfl (by decide) rfl rfl (pa_cons (pe_make T0.mkr T0.ok hr (by rfl) T0.m T0.b .nil pass0 (pa_cons (pv 0) (pa_cons (pv 1) pa_nil))) (pa_cons (pe_makeK0 T0.mkr T0.ok hr (by rfl) T0.m T0.kb pass0 (pk_cons (pv 1) (pk_cons (pv 0) pk_nil))) pa_nil)) (by rfl))
      (pss_cons (ps_par (i := 7) (j := 8) rfl sc_made_d.nd rfl rfl (by decide) rfl rfl (pa_cons (pe_and (pe_callB (call_isC' T0.ins) (by rfl) mI (by decide +kernel) (pa_cons (pv 5) (pa_cons (pe_glob (v := .ref C0) (by rfl) T0.m rfl) pa_nil))) (pe_one (pe_callB (call_isC' T0.ins) (by rfl) mI (by decide +kernel) (pa_cons (pv 6) (pa_cons (pe_glob (v := .ref C0) (by rfl) T0.m rfl) pa_nil))))) (pa_cons (pe_lst (pa_cons (pe_fld (pv 5) rfl) (pa_cons (pe_fld (pv 5) rfl) pa_nil))) pa_nil)) (by rfl))
      (pss_cons (ps_expr (pe_bm PySem.F.plainAttrs_list PySem.F.slot_list_append PySem.F.type_list_append mt_append (pv 4) (pa_cons (pe_tup (pa_cons (pv 5) (pa_cons (pv 6) (pa_cons (pv 7) (pa_cons (pv 8) (pa_cons (pe_lst (pa_cons (pe_fld (pv 6) rfl) (pa_cons (pe_fld (pv 6) rfl) pa_nil))) (pa_cons (pe_lst (pa_cons (pv 0) (pa_cons (pv 1) pa_nil))) pa_nil))))))) pa_nil)))
      (pss_cons (ps_par (i := 5) (j := 6) rfl sc_made_d.nd rfl rfl (by decide) rfl rfl (pa_cons (pe_make T1.mkr T1.ok hr (by rfl) T1.m T1.b .nil pass0 (pa_cons (pv 0) (pa_cons (pv 1) pa_nil))) (pa_cons (pe_makeK0 T1.mkr T1.ok hr (by rfl) T1.m T1.kb pass0 (pk_cons (pv 1) (pk_cons (pv 0) pk_nil))) pa_nil)) (by rfl))
      (pss_cons (ps_par (i := 7) (j := 8) rfl sc_made_d.nd rfl rfl (by decide) rfl rfl (pa_cons (pe_and (pe_callB (call_isC' T1.ins) (by rfl) mI (by decide +kernel) (pa_cons (pv 5) (pa_cons (pe_glob (v := .ref C1) (by rfl) T1.m rfl) pa_nil))) (pe_one (pe_callB (call_isC' T1.ins) (by rfl) mI (by decide +kernel) (pa_cons (pv 6) (pa_cons (pe_glob (v := .ref C1) (by rfl) T1.m rfl) pa_nil))))) (pa_cons (pe_lst (pa_cons (pe_fld (pv 5) rfl) (pa_cons (pe_fld (pv 5) rfl) pa_nil))) pa_nil)) (by rfl))
      (pss_cons (ps_expr (pe_bm PySem.F.plainAttrs_list PySem.F.slot_list_append PySem.F.type_list_append mt_append (pv 4) (pa_cons (pe_tup (pa_cons (pv 5) (pa_cons (pv 6) (pa_cons (pv 7) (pa_cons (pv 8) (pa_cons (pe_lst (pa_cons (pe_fld (pv 6) rfl) (pa_cons (pe_fld (pv 6) rfl) pa_nil))) (pa_cons (pe_lst (pa_cons (pv 0) (pa_cons (pv 1) pa_nil))) pa_nil))))))) pa_nil)))
      (pss_cons (ps_par (i := 5) (j := 6) rfl sc_made_d.nd rfl rfl (by decide) rfl rfl (pa_cons (pe_make T2.mkr T2.ok hr (by rfl) T2.m T2.b .nil pass0 (pa_cons (pv 0) (pa_cons (pv 1) pa_nil))) (pa_cons (pe_makeK0 T2.mkr T2.ok hr (by rfl) T2.m T2.kb pass0 (pk_cons (pv 1) (pk_cons (pv 0) pk_nil))) pa_nil)) (by rfl))
      (pss_cons (ps_par (i := 7) (j := 8) rfl sc_made_d.nd rfl rfl (by decide) rfl rfl (pa_cons (pe_and (pe_callB (call_isC' T2.ins) (by rfl) mI (by decide +kernel) (pa_cons (pv 5) (pa_cons (pe_glob (v := .ref C2) (by rfl) T2.m rfl) pa_nil))) (pe_one (pe_callB (call_isC' T2.ins) (by rfl) mI (by decide +kernel) (pa_cons (pv 6) (pa_cons (pe_glob (v := .ref C2) (by rfl) T2.m rfl) pa_nil))))) (pa_cons (pe_lst (pa_cons (pe_fld (pv 5) rfl) (pa_cons (pe_fld (pv 5) rfl) pa_nil))) pa_nil)) (by rfl))
      (pss_cons (ps_expr (pe_bm PySem.F.plainAttrs_list PySem.F.slot_list_append PySem.F.type_list_append mt_append (pv 4) (pa_cons (pe_tup (pa_cons (pv 5) (pa_cons (pv 6) (pa_cons (pv 7) (pa_cons (pv 8) (pa_cons (pe_lst (pa_cons (pe_fld (pv 6) rfl) (pa_cons (pe_fld (pv 6) rfl) pa_nil))) (pa_cons (pe_lst (pa_cons (pv 0) (pa_cons (pv 1) pa_nil))) pa_nil))))))) pa_nil)))
      (pss_cons (ps_par (i := 5) (j := 6) rfl sc_made_d.nd rfl rfl (by decide) rfl rfl (pa_cons (pe_make T3.mkr T3.ok hr (by rfl) T3.m T3.b .nil pass0 (pa_cons (pv 0) (pa_cons (pv 1) pa_nil))) (pa_cons (pe_makeK0 T3.mkr T3.ok hr (by rfl) T3.m T3.kb pass0 (pk_cons (pv 1) (pk_cons (pv 0) pk_nil))) pa_nil)) (by rfl))
      (pss_cons (ps_par (i := 7) (j := 8) rfl sc_made_d.nd rfl rfl (by decide) rfl rfl (pa_cons (pe_and (pe_callB (call_isC' T3.ins) (by rfl) mI (by decide +kernel) (pa_cons (pv 5) (pa_cons (pe_glob (v := .ref C3) (by rfl) T3.m rfl) pa_nil))) (pe_one (pe_callB (call_isC' T3.ins) (by rfl) mI (by decide +kernel) (pa_cons (pv 6) (pa_cons (pe_glob (v := .ref C3) (by rfl) T3.m rfl) pa_nil))))) (pa_cons (pe_lst (pa_cons (pe_fld (pv 5) rfl) (pa_cons (pe_fld (pv 5) rfl) pa_nil))) pa_nil)) (by rfl))
      (pss_cons (ps_expr (pe_bm PySem.F.plainAttrs_list PySem.F.slot_list_append PySem.F.type_list_append mt_append (pv 4) (pa_cons (pe_tup (pa_cons (pv 5) (pa_cons (pv 6) (pa_cons (pv 7) (pa_cons (pv 8) (pa_cons (pe_lst (pa_cons (pe_fld (pv 6) rfl) (pa_cons (pe_fld (pv 6) rfl) pa_nil))) (pa_cons (pe_lst (pa_cons (pv 0) (pa_cons (pv 1) pa_nil))) pa_nil))))))) pa_nil)))
      (pss_cons (ps_par (i := 5) (j := 6) rfl sc_made_d.nd rfl rfl (by decide) rfl rfl (pa_cons (pe_make T4.mkr T4.ok hr (by rfl) T4.m T4.b .nil pass0 (pa_cons (pv 0) pa_nil)) (pa_cons (pe_makeK0 T4.mkr T4.ok hr (by rfl) T4.m T4.kb pass0 (pk_cons (pv 0) pk_nil)) pa_nil)) (by rfl))
      (pss_cons (ps_par (i := 7) (j := 8) rfl sc_made_d.nd rfl rfl (by decide) rfl rfl (pa_cons (pe_and (pe_callB (call_isC' T4.ins) (by rfl) mI (by decide +kernel) (pa_cons (pv 5) (pa_cons (pe_glob (v := .ref C4) (by rfl) T4.m rfl) pa_nil))) (pe_one (pe_callB (call_isC' T4.ins) (by rfl) mI (by decide +kernel) (pa_cons (pv 6) (pa_cons (pe_glob (v := .ref C4) (by rfl) T4.m rfl) pa_nil))))) (pa_cons (pe_lst (pa_cons (pe_fld (pv 5) rfl) pa_nil)) pa_nil)) (by rfl))
      (pss_cons (ps_expr (pe_bm PySem.F.plainAttrs_list PySem.F.slot_list_append PySem.F.type_list_append mt_append (pv 4) (pa_cons (pe_tup (pa_cons (pv 5) (pa_cons (pv 6) (pa_cons (pv 7) (pa_cons (pv 8) (pa_cons (pe_lst (pa_cons (pe_fld (pv 6) rfl) pa_nil)) (pa_cons (pe_lst (pa_cons (pv 0) pa_nil)) pa_nil))))))) pa_nil)))
      (pss_cons (ps_par (i := 5) (j := 6) rfl sc_made_d.nd rfl rfl (by decide) rfl rfl (pa_cons (pe_make T5.mkr T5.ok hr (by rfl) T5.m T5.b .nil pass0 (pa_cons (pv 0) pa_nil)) (pa_cons (pe_makeK0 T5.mkr T5.ok hr (by rfl) T5.m T5.kb pass0 (pk_cons (pv 0) pk_nil)) pa_nil)) (by rfl))
      (pss_cons (ps_par (i := 7) (j := 8) rfl sc_made_d.nd rfl rfl (by decide) rfl rfl (pa_cons (pe_and (pe_callB (call_isC' T5.ins) (by rfl) mI (by decide +kernel) (pa_cons (pv 5) (pa_cons (pe_glob (v := .ref C5) (by rfl) T5.m rfl) pa_nil))) (pe_one (pe_callB (call_isC' T5.ins) (by rfl) mI (by decide +kernel) (pa_cons (pv 6) (pa_cons (pe_glob (v := .ref C5) (by rfl) T5.m rfl) pa_nil))))) (pa_cons (pe_lst (pa_cons (pe_fld (pv 5) rfl) pa_nil)) pa_nil)) (by rfl))
      (pss_cons (ps_expr (pe_bm PySem.F.plainAttrs_list PySem.F.slot_list_append PySem.F.type_list_append mt_append (pv 4) (pa_cons (pe_tup (pa_cons (pv 5) (pa_cons (pv 6) (pa_cons (pv 7) (pa_cons (pv 8) (pa_cons (pe_lst (pa_cons (pe_fld (pv 6) rfl) pa_nil)) (pa_cons (pe_lst (pa_cons (pv 0) pa_nil)) pa_nil))))))) pa_nil)))
      (pss_cons (ps_par (i := 5) (j := 6) rfl sc_made_d.nd rfl rfl (by decide) rfl rfl (pa_cons (pe_make T6.mkr T6.ok hr (by rfl) T6.m T6.b .nil pass0 (pa_cons (pv 0) pa_nil)) (pa_cons (pe_makeK0 T6.mkr T6.ok hr (by rfl) T6.m T6.kb pass0 (pk_cons (pv 0) pk_nil)) pa_nil)) (by rfl))
      (pss_cons (ps_par (i := 7) (j := 8) rfl sc_made_d.nd rfl rfl (by decide) rfl rfl (pa_cons (pe_and (pe_callB (call_isC' T6.ins) (by rfl) mI (by decide +kernel) (pa_cons (pv 5) (pa_cons (pe_glob (v := .ref C6) (by rfl) T6.m rfl) pa_nil))) (pe_one (pe_callB (call_isC' T6.ins) (by rfl) mI (by decide +kernel) (pa_cons (pv 6) (pa_cons (pe_glob (v := .ref C6) (by rfl) T6.m rfl) pa_nil))))) (pa_cons (pe_lst (pa_cons (pe_fld (pv 5) rfl) pa_nil)) pa_nil)) (by rfl))
      (pss_cons (ps_expr (pe_bm PySem.F.plainAttrs_list PySem.F.slot_list_append PySem.F.type_list_append mt_append (pv 4) (pa_cons (pe_tup (pa_cons (pv 5) (pa_cons (pv 6) (pa_cons (pv 7) (pa_cons (pv 8) (pa_cons (pe_lst (pa_cons (pe_fld (pv 6) rfl) pa_nil)) (pa_cons (pe_lst (pa_cons (pv 0) pa_nil)) pa_nil))))))) pa_nil)))
      (pss_cons (ps_par (i := 5) (j := 6) rfl sc_made_d.nd rfl rfl (by decide) rfl rfl (pa_cons (pe_make T7.mkr T7.ok hr (by rfl) T7.m T7.b .nil pass0 (pa_cons (pv 0) (pa_cons (pv 1) pa_nil))) (pa_cons (pe_makeK0 T7.mkr T7.ok hr (by rfl) T7.m T7.kb pass0 (pk_cons (pv 1) (pk_cons (pv 0) pk_nil))) pa_nil)) (by rfl))
      (pss_cons (ps_par (i := 7) (j := 8) rfl sc_made_d.nd rfl rfl (by decide) rfl rfl (pa_cons (pe_and (pe_callB (call_isC' T7.ins) (by rfl) mI (by decide +kernel) (pa_cons (pv 5) (pa_cons (pe_glob (v := .ref C7) (by rfl) T7.m rfl) pa_nil))) (pe_one (pe_callB (call_isC' T7.ins) (by rfl) mI (by decide +kernel) (pa_cons (pv 6) (pa_cons (pe_glob (v := .ref C7) (by rfl) T7.m rfl) pa_nil))))) (pa_cons (pe_lst (pa_cons (pe_fld (pv 5) rfl) (pa_cons (pe_fld (pv 5) rfl) pa_nil))) pa_nil)) (by rfl))
      (pss_cons (ps_expr (pe_bm PySem.F.plainAttrs_list PySem.F.slot_list_append PySem.F.type_list_append mt_append (pv 4) (pa_cons (pe_tup (pa_cons (pv 5) (pa_cons (pv 6) (pa_cons (pv 7) (pa_cons (pv 8) (pa_cons (pe_lst (pa_cons (pe_fld (pv 6) rfl) (pa_cons (pe_fld (pv 6) rfl) pa_nil))) (pa_cons (pe_lst (pa_cons (pv 0) (pa_cons (pv 1) pa_nil))) pa_nil))))))) pa_nil)))
      (pss_cons (ps_par (i := 5) (j := 6) rfl sc_made_d.nd rfl rfl (by decide) rfl rfl (pa_cons (pe_make T8.mkr T8.ok hr (by rfl) T8.m T8.b .nil pass0 (pa_cons (pv 0) (pa_cons (pv 1) pa_nil))) (pa_cons (pe_makeK0 T8.mkr T8.ok hr (by rfl) T8.m T8.kb pass0 (pk_cons (pv 1) (pk_cons (pv 0) pk_nil))) pa_nil)) (by rfl))
      (pss_cons (ps_par (i := 7) (j := 8) rfl sc_made_d.nd rfl rfl (by decide) rfl rfl (pa_cons (pe_and (pe_callB (call_isC' T8.ins) (by rfl) mI (by decide +kernel) (pa_cons (pv 5) (pa_cons (pe_glob (v := .ref C8) (by rfl) T8.m rfl) pa_nil))) (pe_one (pe_callB (call_isC' T8.ins) (by rfl) mI (by decide +kernel) (pa_cons (pv 6) (pa_cons (pe_glob (v := .ref C8) (by rfl) T8.m rfl) pa_nil))))) (pa_cons (pe_lst (pa_cons (pe_fld (pv 5) rfl) (pa_cons (pe_fld (pv 5) rfl) pa_nil))) pa_nil)) (by rfl))
      (pss_cons (ps_expr (pe_bm PySem.F.plainAttrs_list PySem.F.slot_list_append PySem.F.type_list_append mt_append (pv 4) (pa_cons (pe_tup (pa_cons (pv 5) (pa_cons (pv 6) (pa_cons (pv 7) (pa_cons (pv 8) (pa_cons (pe_lst (pa_cons (pe_fld (pv 6) rfl) (pa_cons (pe_fld (pv 6) rfl) pa_nil))) (pa_cons (pe_lst (pa_cons (pv 0) (pa_cons (pv 1) pa_nil))) pa_nil))))))) pa_nil)))
      (pss_cons (ps_par (i := 5) (j := 6) rfl sc_made_d.nd rfl rfl (by decide) rfl rfl (pa_cons (pe_make T9.mkr T9.ok hr (by rfl) T9.m T9.b .nil pass0 (pa_cons (pv 0) (pa_cons (pv 1) pa_nil))) (pa_cons (pe_makeK0 T9.mkr T9.ok hr (by rfl) T9.m T9.kb pass0 (pk_cons (pv 1) (pk_cons (pv 0) pk_nil))) pa_nil)) (by rfl))
      (pss_cons (ps_par (i := 7) (j := 8) rfl sc_made_d.nd rfl rfl (by decide) rfl rfl (pa_cons (pe_and (pe_callB (call_isC' T9.ins) (by rfl) mI (by decide +kernel) (pa_cons (pv 5) (pa_cons (pe_glob (v := .ref C9) (by rfl) T9.m rfl) pa_nil))) (pe_one (pe_callB (call_isC' T9.ins) (by rfl) mI (by decide +kernel) (pa_cons (pv 6) (pa_cons (pe_glob (v := .ref C9) (by rfl) T9.m rfl) pa_nil))))) (pa_cons (pe_lst (pa_cons (pe_fld (pv 5) rfl) (pa_cons (pe_fld (pv 5) rfl) pa_nil))) pa_nil)) (by rfl))
      (pss_cons (ps_expr (pe_bm PySem.F.plainAttrs_list PySem.F.slot_list_append PySem.F.type_list_append mt_append (pv 4) (pa_cons (pe_tup (pa_cons (pv 5) (pa_cons (pv 6) (pa_cons (pv 7) (pa_cons (pv 8) (pa_cons (pe_lst (pa_cons (pe_fld (pv 6) rfl) (pa_cons (pe_fld (pv 6) rfl) pa_nil))) (pa_cons (pe_lst (pa_cons (pv 0) (pa_cons (pv 1) pa_nil))) pa_nil))))))) pa_nil)))
      (pss_cons (ps_par (i := 5) (j := 6) rfl sc_made_d.nd rfl rfl (by decide) rfl rfl (pa_cons (pe_make T10.mkr T10.ok hr (by rfl) T10.m T10.b .nil pass0 (pa_cons (pv 0) (pa_cons (pv 1) pa_nil))) (pa_cons (pe_makeK0 T10.mkr T10.ok hr (by rfl) T10.m T10.kb pass0 (pk_cons (pv 1) (pk_cons (pv 0) pk_nil))) pa_nil)) (by rfl))
      (pss_cons (ps_par (i := 7) (j := 8) rfl sc_made_d.nd rfl rfl (by decide) rfl rfl (pa_cons (pe_and (pe_callB (call_isC' T10.ins) (by rfl) mI (by decide +kernel) (pa_cons (pv 5) (pa_cons (pe_glob (v := .ref C10) (by rfl) T10.m rfl) pa_nil))) (pe_one (pe_callB (call_isC' T10.ins) (by rfl) mI (by decide +kernel) (pa_cons (pv 6) (pa_cons (pe_glob (v := .ref C10) (by rfl) T10.m rfl) pa_nil))))) (pa_cons (pe_lst (pa_cons (pe_fld (pv 5) rfl) (pa_cons (pe_fld (pv 5) rfl) pa_nil))) pa_nil)) (by rfl))
      (pss_cons (ps_expr (pe_bm PySem.F.plainAttrs_list PySem.F.slot_list_append PySem.F.type_list_append mt_append (pv 4) (pa_cons (pe_tup (pa_cons (pv 5) (pa_cons (pv 6) (pa_cons (pv 7) (pa_cons (pv 8) (pa_cons (pe_lst (pa_cons (pe_fld (pv 6) rfl) (pa_cons (pe_fld (pv 6) rfl) pa_nil))) (pa_cons (pe_lst (pa_cons (pv 0) (pa_cons (pv 1) pa_nil))) pa_nil))))))) pa_nil)))
      (pss_one (ps_ret (pv 4))))))))))))))))))))))))))))))))))))), ?_⟩
  refine made_start s0 hv dw gd fun l σ0 H0' D0 => ?_
  refine grp T0 (js := [0, 1]) rfl (by decide) (by decide) D0 (by decide) fun σ1 H1 D1 => ?_
  refine grp T1 (js := [0, 1]) rfl (by decide) (by decide) D1 (by decide) fun σ2 H2 D2 => ?_
  refine grp T2 (js := [0, 1]) rfl (by decide) (by decide) D2 (by decide) fun σ3 H3 D3 => ?_
  refine grp T3 (js := [0, 1]) rfl (by decide) (by decide) D3 (by decide) fun σ4 H4 D4 => ?_
  refine grp T4 (js := [0]) rfl (by decide) (by decide) D4 (by decide) fun σ5 H5 D5 => ?_
  refine grp T5 (js := [0]) rfl (by decide) (by decide) D5 (by decide) fun σ6 H6 D6 => ?_
  refine grp T6 (js := [0]) rfl (by decide) (by decide) D6 (by decide) fun σ7 H7 D7 => ?_
  refine grp T7 (js := [0, 1]) rfl (by decide) (by decide) D7 (by decide) fun σ8 H8 D8 => ?_
  refine grp T8 (js := [0, 1]) rfl (by decide) (by decide) D8 (by decide) fun σ9 H9 D9 => ?_
  refine grp T9 (js := [0, 1]) rfl (by decide) (by decide) D9 (by decide) fun σ10 H10 D10 => ?_
  refine grp T10 (js := [0, 1]) rfl (by decide) (by decide) D10 (by decide) fun σ11 H11 D11 => ?_
  exact made_end D11 k
theorem sc_made_e : FnScope ["a", "b", "c", "d", "rows", "one", "two", "kind", "first"] ["a", "b", "c", "d"] (defScope (top 100)) := ⟨rfl, rfl, rfl, by decide +kernel, rfl, by decide +kernel, by decide +kernel⟩
theorem ok_made_e {f : Addr} {fd : FuncData} (F : FnP K "_law_made_e" (top 100) f fd) (mI : mg "isinstance" = none) {C0 f0 : Addr} {d0 : FuncData} (T0 : ClsT P w K mg base "Beyond" ["tie"] C0 f0 d0) {C1 f1 : Addr} {d1 : FuncData} (T1 : ClsT P w K mg base "Breaks" ["lot", "odd"] C1 f1 d1) {C2 f2 : Addr} {d2 : FuncData} (T2 : ClsT P w K mg base "Rounds" ["amounts"] C2 f2 d2) {C3 f3 : Addr} {d3 : FuncData} (T3 : ClsT P w K mg base "Heavier" ["side", "tie"] C3 f3 d3) {C4 f4 : Addr} {d4 : FuncData} (T4 : ClsT P w K mg base "Parts" ["rounds"] C4 f4 d4) {C5 f5 : Addr} {d5 : FuncData} (T5 : ClsT P w K mg base "OddPlace" ["place"] C5 f5 d5) {C6 f6 : Addr} {d6 : FuncData} (T6 : ClsT P w K mg base "Trails" ["ways"] C6 f6 d6) {C7 f7 : Addr} {d7 : FuncData} (T7 : ClsT P w K mg base "EvenSide" ["side"] C7 f7 d7) {C8 f8 : Addr} {d8 : FuncData} (T8 : ClsT P w K mg base "OddOne" ["lot"] C8 f8 d8) {C9 f9 : Addr} {d9 : FuncData} (T9 : ClsT P w K mg base "TurnedBy" ["side"] C9 f9 d9) {C10 f10 : Addr} {d10 : FuncData} (T10 : ClsT P w K mg base "RoundApart" ["lot"] C10 f10 d10) :
    FnOk P w K mg base CX0 4 f fd ["a", "b", "c", "d"] (spMade K 11) := by
  refine F.ok sc_made_e (fun vs H Q E h => spMade_len vs H Q E h) (fun cdv A outer s H vs Q E hr h => ?_)
  obtain ⟨G, ds, hv, s0, dw, gd, k⟩ := h
  refine ⟨_, PSs.nox (pss_cons (ps_set (i := 4) sc_made_e.nd rfl (Or.inl rfl) (pe_lst pa_nil))
      (pss_cons (ps_par (i := 5) (j := 6) rfl sc_made_e.nd rfl rfl (by decide) rfl rfl (pa_cons (pe_make T0.mkr T0.ok hr (by rfl) T0.m T0.b .nil pass0 (pa_cons (pv 0) pa_nil)) (pa_cons (pe_makeK0 T0.mkr T0.ok hr (by rfl) T0.m T0.kb pass0 (pk_cons (pv 0) pk_nil)) pa_nil)) (by rfl))
      (pss_cons (ps_par (i := 7) (j := 8) rfl sc_made_e.nd rfl rfl (by decide) rfl rfl (pa_cons (pe_and (pe_callB (call_isC' T0.ins) (by rfl) mI (by decide +kernel) (pa_cons (pv 5) (pa_cons (pe_glob (v := .ref C0) (by rfl) T0.m rfl) pa_nil))) (pe_one (pe_callB (call_isC' T0.ins) (by rfl) mI (by decide +kernel) (pa_cons (pv 6) (pa_cons (pe_glob (v := .ref C0) (by rfl) T0.m rfl) pa_nil))))) (pa_cons (pe_lst (pa_cons (pe_fld (pv 5) rfl) pa_nil)) pa_nil)) (by rfl))
      (pss_cons (ps_expr (pe_bm PySem.F.plainAttrs_list PySem.F.slot_list_append PySem.F.type_list_append mt_append (pv 4) (pa_cons (pe_tup (pa_cons (pv 5) (pa_cons (pv 6) (pa_cons (pv 7) (pa_cons (pv 8) (pa_cons (pe_lst (pa_cons (pe_fld (pv 6) rfl) pa_nil)) (pa_cons (pe_lst (pa_cons (pv 0) pa_nil)) pa_nil))))))) pa_nil)))
      (pss_cons (ps_par (i := 5) (j := 6) rfl sc_made_e.nd rfl rfl (by decide) rfl rfl (pa_cons (pe_make T1.mkr T1.ok hr (by rfl) T1.m T1.b .nil pass0 (pa_cons (pv 0) (pa_cons (pv 1) pa_nil))) (pa_cons (pe_makeK0 T1.mkr T1.ok hr (by rfl) T1.m T1.kb pass0 (pk_cons (pv 1) (pk_cons (pv 0) pk_nil))) pa_nil)) (by rfl))
      (pss_cons (ps_par (i := 7) (j := 8) rfl sc_made_e.nd rfl rfl (by decide) rfl rfl (pa_cons (pe_and (pe_callB (call_isC' T1.ins) (by rfl) mI (by decide +kernel) (pa_cons (pv 5) (pa_cons (pe_glob (v := .ref C1) (by rfl) T1.m rfl) pa_nil))) (pe_one (pe_callB (call_isC' T1.ins) (by rfl) mI (by decide +kernel) (pa_cons (pv 6) (pa_cons (pe_glob (v := .ref C1) (by rfl) T1.m rfl) pa_nil))))) (pa_cons (pe_lst (pa_cons (pe_fld (pv 5) rfl) (pa_cons (pe_fld (pv 5) rfl) pa_nil))) pa_nil)) (by rfl))
      (pss_cons (ps_expr (pe_bm PySem.F.plainAttrs_list PySem.F.slot_list_append PySem.F.type_list_append mt_append (pv 4) (pa_cons (pe_tup (pa_cons (pv 5) (pa_cons (pv 6) (pa_cons (pv 7) (pa_cons (pv 8) (pa_cons (pe_lst (pa_cons (pe_fld (pv 6) rfl) (pa_cons (pe_fld (pv 6) rfl) pa_nil))) (pa_cons (pe_lst (pa_cons (pv 0) (pa_cons (pv 1) pa_nil))) pa_nil))))))) pa_nil)))
      (pss_cons (ps_par (i := 5) (j := 6) rfl sc_made_e.nd rfl rfl (by decide) rfl rfl (pa_cons (pe_make T2.mkr T2.ok hr (by rfl) T2.m T2.b .nil pass0 (pa_cons (pv 0) pa_nil)) (pa_cons (pe_makeK0 T2.mkr T2.ok hr (by rfl) T2.m T2.kb pass0 (pk_cons (pv 0) pk_nil)) pa_nil)) (by rfl))
      (pss_cons (ps_par (i := 7) (j := 8) rfl sc_made_e.nd rfl rfl (by decide) rfl rfl (pa_cons (pe_and (pe_callB (call_isC' T2.ins) (by rfl) mI (by decide +kernel) (pa_cons (pv 5) (pa_cons (pe_glob (v := .ref C2) (by rfl) T2.m rfl) pa_nil))) (pe_one (pe_callB (call_isC' T2.ins) (by rfl) mI (by decide +kernel) (pa_cons (pv 6) (pa_cons (pe_glob (v := .ref C2) (by rfl) T2.m rfl) pa_nil))))) (pa_cons (pe_lst (pa_cons (pe_fld (pv 5) rfl) pa_nil)) pa_nil)) (by rfl))
      (pss_cons (ps_expr (pe_bm PySem.F.plainAttrs_list PySem.F.slot_list_append PySem.F.type_list_append mt_append (pv 4) (pa_cons (pe_tup (pa_cons (pv 5) (pa_cons (pv 6) (pa_cons (pv 7) (pa_cons (pv 8) (pa_cons (pe_lst (pa_cons (pe_fld (pv 6) rfl) pa_nil)) (pa_cons (pe_lst (pa_cons (pv 0) pa_nil)) pa_nil))))))) pa_nil)))
      (pss_cons (ps_par (i := 5) (j := 6) rfl sc_made_e.nd rfl rfl (by decide) rfl rfl (pa_cons (pe_make T3.mkr T3.ok hr (by rfl) T3.m T3.b .nil pass0 (pa_cons (pv 0) (pa_cons (pv 1) pa_nil))) (pa_cons (pe_makeK0 T3.mkr T3.ok hr (by rfl) T3.m T3.kb pass0 (pk_cons (pv 1) (pk_cons (pv 0) pk_nil))) pa_nil)) (by rfl))
      (pss_cons (ps_par (i := 7) (j := 8) rfl sc_made_e.nd rfl rfl (by decide) rfl rfl (pa_cons (pe_and (pe_callB (call_isC' T3.ins) (by rfl) mI (by decide +kernel) (pa_cons (pv 5) (pa_cons (pe_glob (v := .ref C3) (by rfl) T3.m rfl) pa_nil))) (pe_one (pe_callB (call_isC' T3.ins) (by rfl) mI (by decide +kernel) (pa_cons (pv 6) (pa_cons (pe_glob (v := .ref C3) (by rfl) T3.m rfl) pa_nil))))) (pa_cons (pe_lst (pa_cons (pe_fld (pv 5) rfl) (pa_cons (pe_fld (pv 5) rfl) pa_nil))) pa_nil)) (by rfl))
      (pss_cons (ps_expr (pe_bm PySem.F.plainAttrs_list PySem.F.slot_list_append PySem.F.type_list_append mt_append (pv 4) (pa_cons (pe_tup (pa_cons (pv 5) (pa_cons (pv 6) (pa_cons (pv 7) (pa_cons (pv 8) (pa_cons (pe_lst (pa_cons (pe_fld (pv 6) rfl) (pa_cons (pe_fld (pv 6) rfl) pa_nil))) (pa_cons (pe_lst (pa_cons (pv 0) (pa_cons (pv 1) pa_nil))) pa_nil))))))) pa_nil)))
      (pss_cons (ps_par (i := 5) (j := 6) rfl sc_made_e.nd rfl rfl (by decide) rfl rfl (pa_cons (pe_make T4.mkr T4.ok hr (by rfl) T4.m T4.b .nil pass0 (pa_cons (pv 0) pa_nil)) (pa_cons (pe_makeK0 T4.mkr T4.ok hr (by rfl) T4.m T4.kb pass0 (pk_cons (pv 0) pk_nil)) pa_nil)) (by rfl))
      (pss_cons (ps_par (i := 7) (j := 8) rfl sc_made_e.nd rfl rfl (by decide) rfl rfl (pa_cons (pe_and (pe_callB (call_isC' T4.ins) (by rfl) mI (by decide +kernel) (pa_cons (pv 5) (pa_cons (pe_glob (v := .ref C4) (by rfl) T4.m rfl) pa_nil))) (pe_one (pe_callB (call_isC' T4.ins) (by rfl) mI (by decide +kernel) (pa_cons (pv 6) (pa_cons (pe_glob (v := .ref C4) (by rfl) T4.m rfl) pa_nil))))) (pa_cons (pe_lst (pa_cons (pe_fld (pv 5) rfl) pa_nil)) pa_nil)) (by rfl))
      (pss_cons (ps_expr (pe_bm PySem.F.plainAttrs_list PySem.F.slot_list_append PySem.F.type_list_append mt_append (pv 4) (pa_cons (pe_tup (pa_cons (pv 5) (pa_cons (pv 6) (pa_cons (pv 7) (pa_cons (pv 8) (pa_cons (pe_lst (pa_cons (pe_fld (pv 6) rfl) pa_nil)) (pa_cons (pe_lst (pa_cons (pv 0) pa_nil)) pa_nil))))))) pa_nil)))
      (pss_cons (ps_par (i := 5) (j := 6) rfl sc_made_e.nd rfl rfl (by decide) rfl rfl (pa_cons (pe_make T5.mkr T5.ok hr (by rfl) T5.m T5.b .nil pass0 (pa_cons (pv 0) pa_nil)) (pa_cons (pe_makeK0 T5.mkr T5.ok hr (by rfl) T5.m T5.kb pass0 (pk_cons (pv 0) pk_nil)) pa_nil)) (by rfl))
      (pss_cons (ps_par (i := 7) (j := 8) rfl sc_made_e.nd rfl rfl (by decide) rfl rfl (pa_cons (pe_and (pe_callB (call_isC' T5.ins) (by rfl) mI (by decide +kernel) (pa_cons (pv 5) (pa_cons (pe_glob (v := .ref C5) (by rfl) T5.m rfl) pa_nil))) (pe_one (pe_callB (call_isC' T5.ins) (by rfl) mI (by decide +kernel) (pa_cons (pv 6) (pa_cons (pe_glob (v := .ref C5) (by rfl) T5.m rfl) pa_nil))))) (pa_cons (pe_lst (pa_cons (pe_fld (pv 5) rfl) pa_nil)) pa_nil)) (by rfl))
      (pss_cons (ps_expr (pe_bm PySem.F.plainAttrs_list PySem.F.slot_list_append PySem.F.type_list_append mt_append (pv 4) (pa_cons (pe_tup (pa_cons (pv 5) (pa_cons (pv 6) (pa_cons (pv 7) (pa_cons (pv 8) (pa_cons (pe_lst (pa_cons (pe_fld (pv 6) rfl) pa_nil)) (pa_cons (pe_lst (pa_cons (pv 0) pa_nil)) pa_nil))))))) pa_nil)))
      (pss_cons (ps_par (i := 5) (j := 6) rfl sc_made_e.nd rfl rfl (by decide) rfl rfl (pa_cons (pe_make T6.mkr T6.ok hr (by rfl) T6.m T6.b .nil pass0 (pa_cons (pv 0) pa_nil)) (pa_cons (pe_makeK0 T6.mkr T6.ok hr (by rfl) T6.m T6.kb pass0 (pk_cons (pv 0) pk_nil)) pa_nil)) (by rfl))
      (pss_cons (ps_par (i := 7) (j := 8) rfl sc_made_e.nd rfl rfl (by decide) rfl rfl (pa_cons (pe_and (pe_callB (call_isC' T6.ins) (by rfl) mI (by decide +kernel) (pa_cons (pv 5) (pa_cons (pe_glob (v := .ref C6) (by rfl) T6.m rfl) pa_nil))) (pe_one (pe_callB (call_isC' T6.ins) (by rfl) mI (by decide +kernel) (pa_cons (pv 6) (pa_cons (pe_glob (v := .ref C6) (by rfl) T6.m rfl) pa_nil))))) (pa_cons (pe_lst (pa_cons (pe_fld (pv 5) rfl) pa_nil)) pa_nil)) (by rfl))
      (pss_cons (ps_expr (pe_bm PySem.F.plainAttrs_list PySem.F.slot_list_append PySem.F.type_list_append mt_append (pv 4) (pa_cons (pe_tup (pa_cons (pv 5) (pa_cons (pv 6) (pa_cons (pv 7) (pa_cons (pv 8) (pa_cons (pe_lst (pa_cons (pe_fld (pv 6) rfl) pa_nil)) (pa_cons (pe_lst (pa_cons (pv 0) pa_nil)) pa_nil))))))) pa_nil)))
      (pss_cons (ps_par (i := 5) (j := 6) rfl sc_made_e.nd rfl rfl (by decide) rfl rfl (pa_cons (pe_make T7.mkr T7.ok hr (by rfl) T7.m T7.b .nil pass0 (pa_cons (pv 0) pa_nil)) (pa_cons (pe_makeK0 T7.mkr T7.ok hr (by rfl) T7.m T7.kb pass0 (pk_cons (pv 0) pk_nil)) pa_nil)) (by rfl))
      (pss_cons (ps_par (i := 7) (j := 8) rfl sc_made_e.nd rfl rfl (by decide) rfl rfl (pa_cons (pe_and (pe_callB (call_isC' T7.ins) (by rfl) mI (by decide +kernel) (pa_cons (pv 5) (pa_cons (pe_glob (v := .ref C7) (by rfl) T7.m rfl) pa_nil))) (pe_one (pe_callB (call_isC' T7.ins) (by rfl) mI (by decide +kernel) (pa_cons (pv 6) (pa_cons (pe_glob (v := .ref C7) (by rfl) T7.m rfl) pa_nil))))) (pa_cons (pe_lst (pa_cons (pe_fld (pv 5) rfl) pa_nil)) pa_nil)) (by rfl))
      (pss_cons (ps_expr (pe_bm PySem.F.plainAttrs_list PySem.F.slot_list_append PySem.F.type_list_append mt_append (pv 4) (pa_cons (pe_tup (pa_cons (pv 5) (pa_cons (pv 6) (pa_cons (pv 7) (pa_cons (pv 8) (pa_cons (pe_lst (pa_cons (pe_fld (pv 6) rfl) pa_nil)) (pa_cons (pe_lst (pa_cons (pv 0) pa_nil)) pa_nil))))))) pa_nil)))
      (pss_cons (ps_par (i := 5) (j := 6) rfl sc_made_e.nd rfl rfl (by decide) rfl rfl (pa_cons (pe_make T8.mkr T8.ok hr (by rfl) T8.m T8.b .nil pass0 (pa_cons (pv 0) pa_nil)) (pa_cons (pe_makeK0 T8.mkr T8.ok hr (by rfl) T8.m T8.kb pass0 (pk_cons (pv 0) pk_nil)) pa_nil)) (by rfl))
      (pss_cons (ps_par (i := 7) (j := 8) rfl sc_made_e.nd rfl rfl (by decide) rfl rfl (pa_cons (pe_and (pe_callB (call_isC' T8.ins) (by rfl) mI (by decide +kernel) (pa_cons (pv 5) (pa_cons (pe_glob (v := .ref C8) (by rfl) T8.m rfl) pa_nil))) (pe_one (pe_callB (call_isC' T8.ins) (by rfl) mI (by decide +kernel) (pa_cons (pv 6) (pa_cons (pe_glob (v := .ref C8) (by rfl) T8.m rfl) pa_nil))))) (pa_cons (pe_lst (pa_cons (pe_fld (pv 5) rfl) pa_nil)) pa_nil)) (by rfl))
      (pss_cons (ps_expr (pe_bm PySem.F.plainAttrs_list PySem.F.slot_list_append PySem.F.type_list_append mt_append (pv 4) (pa_cons (pe_tup (pa_cons (pv 5) (pa_cons (pv 6) (pa_cons (pv 7) (pa_cons (pv 8) (pa_cons (pe_lst (pa_cons (pe_fld (pv 6) rfl) pa_nil)) (pa_cons (pe_lst (pa_cons (pv 0) pa_nil)) pa_nil))))))) pa_nil)))
      (pss_cons (ps_par (i := 5) (j := 6) rfl sc_made_e.nd rfl rfl (by decide) rfl rfl (pa_cons (pe_make T9.mkr T9.ok hr (by rfl) T9.m T9.b .nil pass0 (pa_cons (pv 0) pa_nil)) (pa_cons (pe_makeK0 T9.mkr T9.ok hr (by rfl) T9.m T9.kb pass0 (pk_cons (pv 0) pk_nil)) pa_nil)) (by rfl))
      (pss_cons (ps_par (i := 7) (j := 8) rfl sc_made_e.nd rfl rfl (by decide) rfl rfl (pa_cons (pe_and (pe_callB (call_isC' T9.ins) (by rfl) mI (by decide +kernel) (pa_cons (pv 5) (pa_cons (pe_glob (v := .ref C9) (by rfl) T9.m rfl) pa_nil))) (pe_one (pe_callB (call_isC' T9.ins) (by rfl) mI (by decide +kernel) (pa_cons (pv 6) (pa_cons (pe_glob (v := .ref C9) (by rfl) T9.m rfl) pa_nil))))) (pa_cons (pe_lst (pa_cons (pe_fld (pv 5) rfl) pa_nil)) pa_nil)) (by rfl))
      (pss_cons (ps_expr (pe_bm PySem.F.plainAttrs_list PySem.F.slot_list_append PySem.F.type_list_append mt_append (pv 4) (pa_cons (pe_tup (pa_cons (pv 5) (pa_cons (pv 6) (pa_cons (pv 7) (pa_cons (pv 8) (pa_cons (pe_lst (pa_cons (pe_fld (pv 6) rfl) pa_nil)) (pa_cons (pe_lst (pa_cons (pv 0) pa_nil)) pa_nil))))))) pa_nil)))
      (pss_cons (ps_par (i := 5) (j := 6) rfl sc_made_e.nd rfl rfl (by decide) rfl rfl (pa_cons (pe_make T10.mkr T10.ok hr (by rfl) T10.m T10.b .nil pass0 (pa_cons (pv 0) pa_nil)) (pa_cons (pe_makeK0 T10.mkr T10.ok hr (by rfl) T10.m T10.kb pass0 (pk_cons (pv 0) pk_nil)) pa_nil)) (by rfl))
      (pss_cons (ps_par (i := 7) (j := 8) rfl sc_made_e.nd rfl rfl (by decide) rfl rfl (pa_cons (pe_and (pe_callB (call_isC' T10.ins) (by rfl) mI (by decide +kernel) (pa_cons (pv 5) (pa_cons (pe_glob (v := .ref C10) (by rfl) T10.m rfl) pa_nil))) (pe_one (pe_callB (call_isC' T10.ins) (by rfl) mI (by decide +kernel) (pa_cons (pv 6) (pa_cons (pe_glob (v := .ref C10) (by rfl) T10.m rfl) pa_nil))))) (pa_cons (pe_lst (pa_cons (pe_fld (pv 5) rfl) pa_nil)) pa_nil)) (by rfl))
      (pss_cons (ps_expr (pe_bm PySem.F.plainAttrs_list PySem.F.slot_list_append PySem.F.type_list_append mt_append (pv 4) (pa_cons (pe_tup (pa_cons (pv 5) (pa_cons (pv 6) (pa_cons (pv 7) (pa_cons (pv 8) (pa_cons (pe_lst (pa_cons (pe_fld (pv 6) rfl) pa_nil)) (pa_cons (pe_lst (pa_cons (pv 0) pa_nil)) pa_nil))))))) pa_nil)))
      (pss_one (ps_ret (pv 4))))))))))))))))))))))))))))))))))))), ?_⟩
  refine made_start s0 hv dw gd fun l σ0 H0' D0 => ?_
  refine grp T0 (js := [0]) rfl (by decide) (by decide) D0 (by decide) fun σ1 H1 D1 => ?_
  refine grp T1 (js := [0, 1]) rfl (by decide) (by decide) D1 (by decide) fun σ2 H2 D2 => ?_
  refine grp T2 (js := [0]) rfl (by decide) (by decide) D2 (by decide) fun σ3 H3 D3 => ?_
  refine grp T3 (js := [0, 1]) rfl (by decide) (by decide) D3 (by decide) fun σ4 H4 D4 => ?_
  refine grp T4 (js := [0]) rfl (by decide) (by decide) D4 (by decide) fun σ5 H5 D5 => ?_
  refine grp T5 (js := [0]) rfl (by decide) (by decide) D5 (by decide) fun σ6 H6 D6 => ?_
  refine grp T6 (js := [0]) rfl (by decide) (by decide) D6 (by decide) fun σ7 H7 D7 => ?_
  refine grp T7 (js := [0]) rfl (by decide) (by decide) D7 (by decide) fun σ8 H8 D8 => ?_
  refine grp T8 (js := [0]) rfl (by decide) (by decide) D8 (by decide) fun σ9 H9 D9 => ?_
  refine grp T9 (js := [0]) rfl (by decide) (by decide) D9 (by decide) fun σ10 H10 D10 => ?_
  refine grp T10 (js := [0]) rfl (by decide) (by decide) D10 (by decide) fun σ11 H11 D11 => ?_
  exact made_end D11 k
theorem sc_made_f : FnScope ["a", "b", "c", "d", "rows", "one", "two", "kind", "first"] ["a", "b", "c", "d"] (defScope (top 101)) := ⟨rfl, rfl, rfl, by decide +kernel, rfl, by decide +kernel, by decide +kernel⟩
theorem ok_made_f {f : Addr} {fd : FuncData} (F : FnP K "_law_made_f" (top 101) f fd) (mI : mg "isinstance" = none) {C0 f0 : Addr} {d0 : FuncData} (T0 : ClsT P w K mg base "Kept" ["cuts"] C0 f0 d0) {C1 f1 : Addr} {d1 : FuncData} (T1 : ClsT P w K mg base "Low" ["ties"] C1 f1 d1) {C2 f2 : Addr} {d2 : FuncData} (T2 : ClsT P w K mg base "Straight" ["points"] C2 f2 d2) {C3 f3 : Addr} {d3 : FuncData} (T3 : ClsT P w K mg base "Tree" ["bags", "links", "papers"] C3 f3 d3) {C4 f4 : Addr} {d4 : FuncData} (T4 : ClsT P w K mg base "FiveLots" ["lots"] C4 f4 d4) {C5 f5 : Addr} {d5 : FuncData} (T5 : ClsT P w K mg base "WheelWay" ["steps"] C5 f5 d5) {C6 f6 : Addr} {d6 : FuncData} (T6 : ClsT P w K mg base "Whole" ["rounds"] C6 f6 d6) {C7 f7 : Addr} {d7 : FuncData} (T7 : ClsT P w K mg base "Bridge" ["tie"] C7 f7 d7) :
    FnOk P w K mg base CX0 4 f fd ["a", "b", "c", "d"] (spMade K 8) := by
  refine F.ok sc_made_f (fun vs H Q E h => spMade_len vs H Q E h) (fun cdv A outer s H vs Q E hr h => ?_)
  obtain ⟨G, ds, hv, s0, dw, gd, k⟩ := h
  refine ⟨_, PSs.nox (pss_cons (ps_set (i := 4) sc_made_f.nd rfl (Or.inl rfl) (pe_lst pa_nil))
      (pss_cons (ps_par (i := 5) (j := 6) rfl sc_made_f.nd rfl rfl (by decide) rfl rfl (pa_cons (pe_make T0.mkr T0.ok hr (by rfl) T0.m T0.b .nil pass0 (pa_cons (pv 0) pa_nil)) (pa_cons (pe_makeK0 T0.mkr T0.ok hr (by rfl) T0.m T0.kb pass0 (pk_cons (pv 0) pk_nil)) pa_nil)) (by rfl))
      (pss_cons (ps_par (i := 7) (j := 8) rfl sc_made_f.nd rfl rfl (by decide) rfl rfl (pa_cons (pe_and (pe_callB (call_isC' T0.ins) (by rfl) mI (by decide +kernel) (pa_cons (pv 5) (pa_cons (pe_glob (v := .ref C0) (by rfl) T0.m rfl) pa_nil))) (pe_one (pe_callB (call_isC' T0.ins) (by rfl) mI (by decide +kernel) (pa_cons (pv 6) (pa_cons (pe_glob (v := .ref C0) (by rfl) T0.m rfl) pa_nil))))) (pa_cons (pe_lst (pa_cons (pe_fld (pv 5) rfl) pa_nil)) pa_nil)) (by rfl))
      (pss_cons (ps_expr (pe_bm PySem.F.plainAttrs_list PySem.F.slot_list_append PySem.F.type_list_append mt_append (pv 4) (pa_cons (pe_tup (pa_cons (pv 5) (pa_cons (pv 6) (pa_cons (pv 7) (pa_cons (pv 8) (pa_cons (pe_lst (pa_cons (pe_fld (pv 6) rfl) pa_nil)) (pa_cons (pe_lst (pa_cons (pv 0) pa_nil)) pa_nil))))))) pa_nil)))
      (pss_cons (ps_par (i := 5) (j := 6) rfl sc_made_f.nd rfl rfl (by decide) rfl rfl (pa_cons (pe_make T1.mkr T1.ok hr (by rfl) T1.m T1.b .nil pass0 (pa_cons (pv 0) pa_nil)) (pa_cons (pe_makeK0 T1.mkr T1.ok hr (by rfl) T1.m T1.kb pass0 (pk_cons (pv 0) pk_nil)) pa_nil)) (by rfl))
      (pss_cons (ps_par (i := 7) (j := 8) rfl sc_made_f.nd rfl rfl (by decide) rfl rfl (pa_cons (pe_and (pe_callB (call_isC' T1.ins) (by rfl) mI (by decide +kernel) (pa_cons (pv 5) (pa_cons (pe_glob (v := .ref C1) (by rfl) T1.m rfl) pa_nil))) (pe_one (pe_callB (call_isC' T1.ins) (by rfl) mI (by decide +kernel) (pa_cons (pv 6) (pa_cons (pe_glob (v := .ref C1) (by rfl) T1.m rfl) pa_nil))))) (pa_cons (pe_lst (pa_cons (pe_fld (pv 5) rfl) pa_nil)) pa_nil)) (by rfl))
      (pss_cons (ps_expr (pe_bm PySem.F.plainAttrs_list PySem.F.slot_list_append PySem.F.type_list_append mt_append (pv 4) (pa_cons (pe_tup (pa_cons (pv 5) (pa_cons (pv 6) (pa_cons (pv 7) (pa_cons (pv 8) (pa_cons (pe_lst (pa_cons (pe_fld (pv 6) rfl) pa_nil)) (pa_cons (pe_lst (pa_cons (pv 0) pa_nil)) pa_nil))))))) pa_nil)))
      (pss_cons (ps_par (i := 5) (j := 6) rfl sc_made_f.nd rfl rfl (by decide) rfl rfl (pa_cons (pe_make T2.mkr T2.ok hr (by rfl) T2.m T2.b .nil pass0 (pa_cons (pv 0) pa_nil)) (pa_cons (pe_makeK0 T2.mkr T2.ok hr (by rfl) T2.m T2.kb pass0 (pk_cons (pv 0) pk_nil)) pa_nil)) (by rfl))
      (pss_cons (ps_par (i := 7) (j := 8) rfl sc_made_f.nd rfl rfl (by decide) rfl rfl (pa_cons (pe_and (pe_callB (call_isC' T2.ins) (by rfl) mI (by decide +kernel) (pa_cons (pv 5) (pa_cons (pe_glob (v := .ref C2) (by rfl) T2.m rfl) pa_nil))) (pe_one (pe_callB (call_isC' T2.ins) (by rfl) mI (by decide +kernel) (pa_cons (pv 6) (pa_cons (pe_glob (v := .ref C2) (by rfl) T2.m rfl) pa_nil))))) (pa_cons (pe_lst (pa_cons (pe_fld (pv 5) rfl) pa_nil)) pa_nil)) (by rfl))
      (pss_cons (ps_expr (pe_bm PySem.F.plainAttrs_list PySem.F.slot_list_append PySem.F.type_list_append mt_append (pv 4) (pa_cons (pe_tup (pa_cons (pv 5) (pa_cons (pv 6) (pa_cons (pv 7) (pa_cons (pv 8) (pa_cons (pe_lst (pa_cons (pe_fld (pv 6) rfl) pa_nil)) (pa_cons (pe_lst (pa_cons (pv 0) pa_nil)) pa_nil))))))) pa_nil)))
      (pss_cons (ps_par (i := 5) (j := 6) rfl sc_made_f.nd rfl rfl (by decide) rfl rfl (pa_cons (pe_make T3.mkr T3.ok hr (by rfl) T3.m T3.b .nil pass0 (pa_cons (pv 0) (pa_cons (pv 1) (pa_cons (pv 2) pa_nil)))) (pa_cons (pe_makeK0 T3.mkr T3.ok hr (by rfl) T3.m T3.kb pass0 (pk_cons (pv 2) (pk_cons (pv 1) (pk_cons (pv 0) pk_nil)))) pa_nil)) (by rfl))
      (pss_cons (ps_par (i := 7) (j := 8) rfl sc_made_f.nd rfl rfl (by decide) rfl rfl (pa_cons (pe_and (pe_callB (call_isC' T3.ins) (by rfl) mI (by decide +kernel) (pa_cons (pv 5) (pa_cons (pe_glob (v := .ref C3) (by rfl) T3.m rfl) pa_nil))) (pe_one (pe_callB (call_isC' T3.ins) (by rfl) mI (by decide +kernel) (pa_cons (pv 6) (pa_cons (pe_glob (v := .ref C3) (by rfl) T3.m rfl) pa_nil))))) (pa_cons (pe_lst (pa_cons (pe_fld (pv 5) rfl) (pa_cons (pe_fld (pv 5) rfl) (pa_cons (pe_fld (pv 5) rfl) pa_nil)))) pa_nil)) (by rfl))
      (pss_cons (ps_expr (pe_bm PySem.F.plainAttrs_list PySem.F.slot_list_append PySem.F.type_list_append mt_append (pv 4) (pa_cons (pe_tup (pa_cons (pv 5) (pa_cons (pv 6) (pa_cons (pv 7) (pa_cons (pv 8) (pa_cons (pe_lst (pa_cons (pe_fld (pv 6) rfl) (pa_cons (pe_fld (pv 6) rfl) (pa_cons (pe_fld (pv 6) rfl) pa_nil)))) (pa_cons (pe_lst (pa_cons (pv 0) (pa_cons (pv 1) (pa_cons (pv 2) pa_nil)))) pa_nil))))))) pa_nil)))
      (pss_cons (ps_par (i := 5) (j := 6) rfl sc_made_f.nd rfl rfl (by decide) rfl rfl (pa_cons (pe_make T4.mkr T4.ok hr (by rfl) T4.m T4.b .nil pass0 (pa_cons (pv 0) pa_nil)) (pa_cons (pe_makeK0 T4.mkr T4.ok hr (by rfl) T4.m T4.kb pass0 (pk_cons (pv 0) pk_nil)) pa_nil)) (by rfl))
      (pss_cons (ps_par (i := 7) (j := 8) rfl sc_made_f.nd rfl rfl (by decide) rfl rfl (pa_cons (pe_and (pe_callB (call_isC' T4.ins) (by rfl) mI (by decide +kernel) (pa_cons (pv 5) (pa_cons (pe_glob (v := .ref C4) (by rfl) T4.m rfl) pa_nil))) (pe_one (pe_callB (call_isC' T4.ins) (by rfl) mI (by decide +kernel) (pa_cons (pv 6) (pa_cons (pe_glob (v := .ref C4) (by rfl) T4.m rfl) pa_nil))))) (pa_cons (pe_lst (pa_cons (pe_fld (pv 5) rfl) pa_nil)) pa_nil)) (by rfl))
      (pss_cons (ps_expr (pe_bm PySem.F.plainAttrs_list PySem.F.slot_list_append PySem.F.type_list_append mt_append (pv 4) (pa_cons (pe_tup (pa_cons (pv 5) (pa_cons (pv 6) (pa_cons (pv 7) (pa_cons (pv 8) (pa_cons (pe_lst (pa_cons (pe_fld (pv 6) rfl) pa_nil)) (pa_cons (pe_lst (pa_cons (pv 0) pa_nil)) pa_nil))))))) pa_nil)))
      (pss_cons (ps_par (i := 5) (j := 6) rfl sc_made_f.nd rfl rfl (by decide) rfl rfl (pa_cons (pe_make T5.mkr T5.ok hr (by rfl) T5.m T5.b .nil pass0 (pa_cons (pv 0) pa_nil)) (pa_cons (pe_makeK0 T5.mkr T5.ok hr (by rfl) T5.m T5.kb pass0 (pk_cons (pv 0) pk_nil)) pa_nil)) (by rfl))
      (pss_cons (ps_par (i := 7) (j := 8) rfl sc_made_f.nd rfl rfl (by decide) rfl rfl (pa_cons (pe_and (pe_callB (call_isC' T5.ins) (by rfl) mI (by decide +kernel) (pa_cons (pv 5) (pa_cons (pe_glob (v := .ref C5) (by rfl) T5.m rfl) pa_nil))) (pe_one (pe_callB (call_isC' T5.ins) (by rfl) mI (by decide +kernel) (pa_cons (pv 6) (pa_cons (pe_glob (v := .ref C5) (by rfl) T5.m rfl) pa_nil))))) (pa_cons (pe_lst (pa_cons (pe_fld (pv 5) rfl) pa_nil)) pa_nil)) (by rfl))
      (pss_cons (ps_expr (pe_bm PySem.F.plainAttrs_list PySem.F.slot_list_append PySem.F.type_list_append mt_append (pv 4) (pa_cons (pe_tup (pa_cons (pv 5) (pa_cons (pv 6) (pa_cons (pv 7) (pa_cons (pv 8) (pa_cons (pe_lst (pa_cons (pe_fld (pv 6) rfl) pa_nil)) (pa_cons (pe_lst (pa_cons (pv 0) pa_nil)) pa_nil))))))) pa_nil)))
      (pss_cons (ps_par (i := 5) (j := 6) rfl sc_made_f.nd rfl rfl (by decide) rfl rfl (pa_cons (pe_make T6.mkr T6.ok hr (by rfl) T6.m T6.b .nil pass0 (pa_cons (pv 0) pa_nil)) (pa_cons (pe_makeK0 T6.mkr T6.ok hr (by rfl) T6.m T6.kb pass0 (pk_cons (pv 0) pk_nil)) pa_nil)) (by rfl))
      (pss_cons (ps_par (i := 7) (j := 8) rfl sc_made_f.nd rfl rfl (by decide) rfl rfl (pa_cons (pe_and (pe_callB (call_isC' T6.ins) (by rfl) mI (by decide +kernel) (pa_cons (pv 5) (pa_cons (pe_glob (v := .ref C6) (by rfl) T6.m rfl) pa_nil))) (pe_one (pe_callB (call_isC' T6.ins) (by rfl) mI (by decide +kernel) (pa_cons (pv 6) (pa_cons (pe_glob (v := .ref C6) (by rfl) T6.m rfl) pa_nil))))) (pa_cons (pe_lst (pa_cons (pe_fld (pv 5) rfl) pa_nil)) pa_nil)) (by rfl))
      (pss_cons (ps_expr (pe_bm PySem.F.plainAttrs_list PySem.F.slot_list_append PySem.F.type_list_append mt_append (pv 4) (pa_cons (pe_tup (pa_cons (pv 5) (pa_cons (pv 6) (pa_cons (pv 7) (pa_cons (pv 8) (pa_cons (pe_lst (pa_cons (pe_fld (pv 6) rfl) pa_nil)) (pa_cons (pe_lst (pa_cons (pv 0) pa_nil)) pa_nil))))))) pa_nil)))
      (pss_cons (ps_par (i := 5) (j := 6) rfl sc_made_f.nd rfl rfl (by decide) rfl rfl (pa_cons (pe_make T7.mkr T7.ok hr (by rfl) T7.m T7.b .nil pass0 (pa_cons (pv 0) pa_nil)) (pa_cons (pe_makeK0 T7.mkr T7.ok hr (by rfl) T7.m T7.kb pass0 (pk_cons (pv 0) pk_nil)) pa_nil)) (by rfl))
      (pss_cons (ps_par (i := 7) (j := 8) rfl sc_made_f.nd rfl rfl (by decide) rfl rfl (pa_cons (pe_and (pe_callB (call_isC' T7.ins) (by rfl) mI (by decide +kernel) (pa_cons (pv 5) (pa_cons (pe_glob (v := .ref C7) (by rfl) T7.m rfl) pa_nil))) (pe_one (pe_callB (call_isC' T7.ins) (by rfl) mI (by decide +kernel) (pa_cons (pv 6) (pa_cons (pe_glob (v := .ref C7) (by rfl) T7.m rfl) pa_nil))))) (pa_cons (pe_lst (pa_cons (pe_fld (pv 5) rfl) pa_nil)) pa_nil)) (by rfl))
      (pss_cons (ps_expr (pe_bm PySem.F.plainAttrs_list PySem.F.slot_list_append PySem.F.type_list_append mt_append (pv 4) (pa_cons (pe_tup (pa_cons (pv 5) (pa_cons (pv 6) (pa_cons (pv 7) (pa_cons (pv 8) (pa_cons (pe_lst (pa_cons (pe_fld (pv 6) rfl) pa_nil)) (pa_cons (pe_lst (pa_cons (pv 0) pa_nil)) pa_nil))))))) pa_nil)))
      (pss_one (ps_ret (pv 4)))))))))))))))))))))))))))), ?_⟩
  refine made_start s0 hv dw gd fun l σ0 H0' D0 => ?_
  refine grp T0 (js := [0]) rfl (by decide) (by decide) D0 (by decide) fun σ1 H1 D1 => ?_
  refine grp T1 (js := [0]) rfl (by decide) (by decide) D1 (by decide) fun σ2 H2 D2 => ?_
  refine grp T2 (js := [0]) rfl (by decide) (by decide) D2 (by decide) fun σ3 H3 D3 => ?_
  refine grp T3 (js := [0, 1, 2]) rfl (by decide) (by decide) D3 (by decide) fun σ4 H4 D4 => ?_
  refine grp T4 (js := [0]) rfl (by decide) (by decide) D4 (by decide) fun σ5 H5 D5 => ?_
  refine grp T5 (js := [0]) rfl (by decide) (by decide) D5 (by decide) fun σ6 H6 D6 => ?_
  refine grp T6 (js := [0]) rfl (by decide) (by decide) D6 (by decide) fun σ7 H7 D7 => ?_
  refine grp T7 (js := [0]) rfl (by decide) (by decide) D7 (by decide) fun σ8 H8 D8 => ?_
  exact made_end D8 k
end
end K90
/-! Rows of the two classes without fields. -/
namespace K90
open PySem L2

/-- what is known of a class without an __init__ -/
structure BareT (K : PySem.W.Frag) (mg : Str → Option Value) (x : Str) (C : Addr) : Prop where
  m : mg x = some (.ref C)
  mks : PySem.W.makesIn K C = true
  init : PySem.W.findIn K (.ref C) "__init__" = some (some (.builtin "object.__init__"))
  kp : PySem.W.keepIn K (.ref C) = true
  ins : C8.InsC K C
  eq : EqC K C
theorem Grow.inst {G H : Hp} {x dx C : Addr} {fs : List (Str × V)} (s : Same G H) (nx : H x = none) (ndx : H dx = none) (ne : dx ≠ x) : Grow G H (upd G x (.ins C dx fs)) (upd (upd H dx (.own x)) x (.ins C dx fs)) :=
  ⟨same_new (s.free nx), fun b o e => by
    rw [upd_ne (ne_of_none e nx), upd_ne (ne_of_none e ndx)]
    exact e, fun b o e => by
    by_cases hb : b = x
    · rw [hb, upd_same] at e ⊢
      exact e
    · rw [upd_ne hb] at e
      have e2 := s b o e
      rw [upd_ne hb, upd_ne (ne_of_none e2 ndx)]
      exact e2, fun b h1 h2 => by
    have hb : b ≠ x := fun z => h2 (by rw [z, nx])
    rw [upd_ne hb]
    exact h1⟩

/-- how far the def has come -/
structure DoneB (K : PySem.W.Frag) (G0 H0 : Hp) (l : Addr) (n : Nat) (σ : L2.St) (H : Hp) : Prop where
  ex : ∃ (G : Hp) (rs : List V) (os : List Addr) (o1 o2 : Option V), σ = [some (.ref l), o1, o2] ∧ Grow G0 H0 G H ∧ G l = none ∧ H l = some (.lst rs) ∧ Rows K G rs os ∧ rs.length = n ∧ os.Nodup ∧ (∀ o ∈ os, H0 o = none) ∧ H0 l = none
abbrev tBare (C : Addr) : TE := fun _ H Q => ∀ x dx, H x = none → H dx = none → dx ≠ x → Q (.ref x) (upd (upd H dx (.own x)) x (.ins C dx []))
abbrev sB1 (C : Addr) : TS := tPar 1 2 (tCons (tBare C) (tCons (tBare C) tNil))
abbrev sB2 (K : PySem.W.Frag) (C : Addr) : TS := tDrop (tBM K "list" rAppend (tVar 0) (tCons (tTup (tCons (tVar 1) (tCons (tVar 2) (tCons (tCB (rIsC C) (tCons (tVar 1) (tCons (tC (.ref C)) tNil))) (tCons (tLst tNil) (tCons (tLst tNil) (tCons (tLst tNil) tNil))))))) tNil))
theorem grpB {K : PySem.W.Frag} {mg : Str → Option Value} {x : Str} {C l : Addr} {G0 H0 H : Hp} {n : Nat} {D : Ends} {σ : L2.St} {rest : TS} (T : BareT K mg x C) (S : DoneB K G0 H0 l n σ H) (hn : n < 1000) (k : ∀ σ' H', DoneB K G0 H0 l (n + 1) σ' H' → rest D σ' H') :
    tSeq (sB1 C) (tSeq (sB2 K C) rest) D σ H := by
  obtain ⟨⟨G, rs, os, o1, o2, rfl, g0, hGl, hl, R, hrn, nd, fr, hl0⟩⟩ := S
  refine fun a da na nda nea => fun b db nb ndb neb => ⟨_, _, rfl, ?_⟩
  have g1 := Grow.inst (C := C) (fs := []) g0.s na nda nea
  have g2 := Grow.inst (C := C) (fs := []) g1.s nb ndb neb
  have hl1 : ∀ {Gx Hx : Hp}, Grow G H Gx Hx → Hx l = some (.lst rs) := fun gx => gx.h _ _ hl
  have nab : a ≠ b := ne_of_none upd_same nb
  have ea := g2.g _ _ (upd_same (H := G) (a := a) (o := .ins C da []))
  refine ⟨_, rfl, .inl ⟨rfl, rs, .inl (.inl (hl1 (g1.trans g2)))⟩, _, rfl, _, rfl, _, rfl, ⟨a, da, [], rfl, g2.s _ _ ea, ⟨Nat.zero_le _, fun p1 n1 => ⟨Nat.zero_le _, fun p2 n2 => ⟨Nat.zero_le _, fun p3 n3 => ⟨by show 6 ≤ sizeLine; decide, fun t nt => ?_⟩⟩⟩⟩⟩⟩
  have g3 := Grow.new (o := .lst []) g2.s n1
  have g4 := Grow.new (o := .lst []) g3.s n2
  have g5 := Grow.new (o := .lst []) g4.s n3
  have g6 := Grow.new (o := .tup [.ref a, .ref b, .bl true, .ref p1, .ref p2, .ref p3]) g5.s nt
  have G6 := g1.trans (g2.trans (g3.trans (g4.trans (g5.trans g6))))
  refine ⟨l, rs, .ref t, rfl, rfl, hl1 G6, Nat.lt_of_lt_of_le (show rs.length < 1000 by omega) (by decide), ?_⟩
  have hlG := G6.n l hGl (by
    rw [hl]
    intro z
    cases z)
  have g36 := g3.g.trans (g4.g.trans (g5.g.trans g6.g))
  have na0 : H0 a = none := g0.h.free na
  have out := Grow.trans g0 G6
  refine k _ _ ⟨⟨_, rs ++ [.ref t], os ++ [a], some (.ref a), some (.ref b), rfl, ⟨out.g, fun q o e => ?_, fun q o e => ?_, out.n⟩, hlG, upd_same, ?_, by simp [hrn], ?_, ?_, hl0⟩⟩
  · rw [upd_ne (ne_of_none e hl0)]
    exact out.h q o e
  · rw [upd_ne fun z => by
      rw [z, hlG] at e
      cases e]
    exact out.s q o e
  · refine (R.same G6.g).append (.cons ⟨⟨t, b, p1, p2, p3, C, da, db, [], [], [], [], [], [], rfl, upd_same, g36 _ _ ea, g36 _ _ upd_same, nab, T.eq, (g4.g.trans (g5.g.trans g6.g)) _ _ upd_same, (g5.g.trans g6.g) _ _ upd_same, g6.g _ _ upd_same, .nil, .nil, .nil, Nat.zero_le _, fun d hd => absurd hd List.not_mem_nil⟩⟩ .nil)
  · refine List.nodup_append.mpr ⟨nd, by simp, fun q hq r hr e => ?_⟩
    rw [List.mem_singleton.mp hr] at e
    obtain ⟨i, hi, hx⟩ := List.mem_iff_getElem.mp hq
    have hi2 : i < rs.length := by
      rw [R.len]
      exact hi
    obtain ⟨o, ho, hR⟩ := R.at (i := i) (List.getElem?_eq_getElem hi2)
    rw [List.getElem?_eq_getElem hi, hx, e] at ho
    cases ho
    obtain ⟨⟨_, _, _, _, _, _, _, _, _, _, _, _, _, _, _, _, h3, _⟩⟩ := hR
    have q := g0.s _ _ h3
    rw [na] at q
    cases q
  · intro q hq
    rcases List.mem_append.mp hq with hq | hq
    · exact fr q hq
    · rw [List.mem_singleton.mp hq]
      exact na0
/-- the two rows -/
def spBare (K : PySem.W.Frag) : Sp := fun vs H Q _ => ∃ G : Hp, vs = [] ∧ Same G H ∧
  ∀ (l : Addr) (G' H' : Hp) (rs : List V) (os : List Addr), Grow G H G' H' → H l = none → G' l = none → H' l = some (.lst rs) → Rows K G' rs os → rs.length = 2 → os.Nodup → (∀ o ∈ os, H o = none) → Q (.ref l) H'
section
variable {P : Program} {w : World} {K : PySem.W.Frag} {mg : Str → Option Value} {base : Heap}
theorem scBare : FnScope ["rows", "one", "two"] [] (defScope (top 102)) := ⟨rfl, rfl, rfl, by decide +kernel, rfl, by decide +kernel, by decide +kernel⟩
theorem ok_bare {f C1 C2 : Addr} {fd : FuncData} (F : FnP K "_law_bare" (top 102) f fd) (mI : mg "isinstance" = none) (T1 : BareT K mg "AllKept" C1) (T2 : BareT K mg "Keeps" C2) : FnOk P w K mg base CX0 1 f fd [] (spBare K) := by
  refine F.ok scBare (fun vs H Q E h => ?_) (fun cdv A outer s H vs Q E hr h => ?_)
  · obtain ⟨G, rfl, _⟩ := h
    rfl
  · obtain ⟨G, rfl, s0, k⟩ := h
    refine ⟨_, PSs.nox (pss_cons (ps_set (i := 0) scBare.nd rfl (Or.inl rfl) (pe_lst pa_nil))
      (pss_cons (ps_par (i := 1) (j := 2) rfl scBare.nd rfl rfl (by decide) rfl rfl (pa_cons (pe_bare T1.mks T1.init T1.kp T1.eq (by rfl) T1.m) (pa_cons (pe_bare T1.mks T1.init T1.kp T1.eq (by rfl) T1.m) pa_nil)) (by rfl))
      (pss_cons (ps_expr (pe_bm PySem.F.plainAttrs_list PySem.F.slot_list_append PySem.F.type_list_append mt_append (pv 0) (pa_cons (pe_tup (pa_cons (pv 1) (pa_cons (pv 2) (pa_cons (pe_callB (call_isC' T1.ins) (by rfl) mI (by decide +kernel) (pa_cons (pv 1) (pa_cons (pe_glob (v := .ref C1) (by rfl) T1.m rfl) pa_nil))) (pa_cons (pe_lst pa_nil) (pa_cons (pe_lst pa_nil) (pa_cons (pe_lst pa_nil) pa_nil))))))) pa_nil)))
      (pss_cons (ps_par (i := 1) (j := 2) rfl scBare.nd rfl rfl (by decide) rfl rfl (pa_cons (pe_bare T2.mks T2.init T2.kp T2.eq (by rfl) T2.m) (pa_cons (pe_bare T2.mks T2.init T2.kp T2.eq (by rfl) T2.m) pa_nil)) (by rfl))
      (pss_cons (ps_expr (pe_bm PySem.F.plainAttrs_list PySem.F.slot_list_append PySem.F.type_list_append mt_append (pv 0) (pa_cons (pe_tup (pa_cons (pv 1) (pa_cons (pv 2) (pa_cons (pe_callB (call_isC' T2.ins) (by rfl) mI (by decide +kernel) (pa_cons (pv 1) (pa_cons (pe_glob (v := .ref C2) (by rfl) T2.m rfl) pa_nil))) (pa_cons (pe_lst pa_nil) (pa_cons (pe_lst pa_nil) (pa_cons (pe_lst pa_nil) pa_nil))))))) pa_nil)))
      (pss_one (ps_ret (pv 0)))))))), ?_⟩
    refine ⟨Nat.zero_le _, fun l nl => ?_⟩
    have D0 : DoneB K G H l 0 [some (.ref l), none, none] (upd H l (.lst [])) := ⟨⟨G, [], [], none, none, rfl, Grow.out s0 nl, s0.free nl, upd_same, .nil, rfl, .nil, (fun o h => absurd h List.not_mem_nil), nl⟩⟩
    refine grpB T1 D0 (by decide) fun σ1 H1 D1 => ?_
    refine grpB T2 D1 (by decide) fun σ2 H2 D2 => ?_
    obtain ⟨⟨G', rs, os, o1, o2, rfl, g0, hGl, hl, R, hrn, nd, fr, hl0⟩⟩ := D2
    exact ⟨_, rfl, k l G' H2 rs os g0 hl0 hGl hl R hrn nd fr⟩
end
end K90
/-! A drawn value. -/
namespace K90
open PySem L2

/-- a drawn value: a list stands outside of G, what it holds within -/
inductive ValIs (K : PySem.W.Frag) (G H : Hp) : V → PyData → Prop where
  | flat {v : V} {d : PyData} (h : Dw K G v d) (n : isL d = false) : ValIs K G H v d
  | list {m : Addr} {xs : List V} {ds : List PyData} (h : H m = some (.lst xs)) (hG : G m = none) (ha : DpAll K G xs ds) : ValIs K G H (.ref m) (.list ds)
def spValue (K : PySem.W.Frag) : Sp := fun vs H Q _ => ∃ (p : Addr) (z : Addr × List Int) (n : Nat) (G : Hp), vs = [.ref p] ∧ PenAt K H p z n ∧ n ≤ 1000 ∧ Same G H ∧ G p = none ∧
  ∀ (v : V) (d : PyData) (G' H' : Hp), PenAt K H' p z (n + 4) → GrowAt p G H G' H' → ValIs K G' H' v d → GoodD d → (∀ m, v = .ref m → G' m = none → H m = none) → Q v H'

theorem good_of {d : PyData} (h : (d.showable && (decide (d.depth ≤ 10) && (decide (d.shown.length ≤ 10000) && decide ((cpy d).shown.length ≤ 10000)))) = true) : GoodD d := by
  simp only [Bool.and_eq_true, decide_eq_true_eq] at h
  exact ⟨h.1, h.2.1, h.2.2.1, h.2.2.2⟩
/-- the ints below nine, in a list of three -/
theorem good_three : ∀ a b c : _root_.Fin 9, GoodD (.list [.int a.val, .int b.val, .int c.val]) := by
  have e : ∀ a b c : _root_.Fin 9, (fun d : PyData => d.showable && (decide (d.depth ≤ 10) && (decide (d.shown.length ≤ 10000) && decide ((cpy d).shown.length ≤ 10000)))) (.list [.int a.val, .int b.val, .int c.val]) = true := by decide +kernel
  exact fun a b c => good_of (e a b c)
theorem good3 {a b c : Int} (ha : 0 ≤ a) (ha' : a < 9) (hb : 0 ≤ b) (hb' : b < 9) (hc : 0 ≤ c) (hc' : c < 9) : GoodD (.list [.int a, .int b, .int c]) := by
  have q := good_three ⟨a.toNat, by omega⟩ ⟨b.toNat, by omega⟩ ⟨c.toNat, by omega⟩
  simp only [Int.toNat_of_nonneg ha, Int.toNat_of_nonneg hb, Int.toNat_of_nonneg hc] at q
  exact q

theorem Grow.new2 {G H : Hp} {p : Addr} {o u : HO} (s : Same G H) (h : H p = none) : Grow G H (upd G p o) (upd (upd H p u) p o) := by
  rw [upd_upd]
  exact Grow.new s h
theorem some_ne {H : Hp} {p : Addr} {o : HO} (h : H p = some o) : H p ≠ none := by
  rw [h]
  intro z
  cases z

theorem yes_then {σ : L2.St} {H : Hp} {A B : Hp → Prop} (h : A H) : tYes σ H fun b H3 => if b = true then A H3 else B H3 := by
  show (if true = true then A H else B H)
  rw [if_pos rfl]
  exact h
/-- the drawn list of three, and the picking -/
theorem value_rest {K : PySem.W.Frag} {G H G' H' : Hp} {p L t1 i1 m1 m2 t2 t3 t4 i2 i3 m3 d1 m4 : Addr} {z : Addr × List Int} {n : Nat} {Q : VK} {D : Ends} {o2 : Option V} (gA : Grow G H G' H') (fp : G' p = none) (S : PenAt K H' p z n) (hn : n ≤ 1000)
    (hL : H' L = some (.lst [.ref t1, .ref m1, .ref m2, .ref t2, .str "web", .int 5, .non, .bl true, .ref t4, .ref m3, .ref d1, .int (-3), .str "", .ref m4]))
    (e1 : G' t1 = some (.tup [.int 1, .int 2])) (e2 : G' i1 = some (.lst [.int 2])) (e5 : G' t2 = some (.tup [])) (e6 : G' t3 = some (.tup [.int 0, .int 1])) (e7 : G' t4 = some (.tup [.ref t3])) (e8 : G' i2 = some (.lst [.int 0])) (e9 : G' i3 = some (.lst [.int 1])) (e11 : G' d1 = some (.dK oneD))
    (h3 : H' m1 = some (.lst [.int 1, .ref i1])) (h4 : H' m2 = some (.lst [])) (h10 : H' m3 = some (.lst [.ref i2, .ref i3])) (h12 : H' m4 = some (.lst [.non])) (f3 : G' m1 = none) (f4 : G' m2 = none) (f10 : G' m3 = none) (f12 : G' m4 = none) (q3 : H m1 = none) (q4 : H m2 = none) (q10 : H m3 = none) (q12 : H m4 = none)
    (k : ∀ (v : V) (d : PyData) (G2 H2 : Hp), PenAt K H2 p z (n + 4) → GrowAt p G H G2 H2 → ValIs K G2 H2 v d → GoodD d → (∀ m, v = .ref m → G2 m = none → H m = none) → Q v H2) (hD : D.rt = Q := by rfl) :
    tRet (tCall (spPick K) [] E0 (tCons (tVar 0) (tCons (tOp rCat (tVar 1) (tLst (tCons (tLc (iRng1 (tCons (tC (.int 3)) tNil)) (gName 2) tYes (tCall (spDraw K) [] E0 (tCons (tVar 0) (tCons (tC (.int 9)) tNil))) [2]) tNil))) tNil))) D [some (.ref p), some (.ref L), o2] H' := by
  refine ⟨_, rfl, ⟨_, rfl, ?_⟩⟩
  refine ⟨3, rfl, by decide, by decide, fun Dl nD => lc_range (lo := 0) (n := 3) (fun i H2 => ∃ ns : List Int, PenAt K H2 p z (n + i) ∧ (∀ b o, H' b = some o → b ≠ p → H2 b = some o) ∧ H2 Dl = some (.lst (ns.map V.int)) ∧ ns.length = i ∧ ∀ x ∈ ns, 0 ≤ x ∧ x < 9) ?_ ?_ ?_⟩
  · exact ⟨[], S.same (same_new nD), fun b o e _ => same_new nD b o e, upd_same, rfl, fun x hx => absurd hx List.not_mem_nil⟩
  · rintro i H2 hi ⟨ns, S2, kp, hl, hlen, hall⟩
    refine ⟨rfl, ?_⟩
    refine yes_then ?_
    refine ⟨_, rfl, p, z, n + i, 9, rfl, S2, by omega, by decide, by decide, fun r H3 h0 h9 S3 k3 => ?_⟩
    obtain ⟨kvs, hp2⟩ := S2.dict
    have ndp : Dl ≠ p := ne_of hl hp2 (by intro z; cases z)
    refine ⟨ns.map V.int, k3 _ _ hl ndp, Nat.lt_of_lt_of_le (show (ns.map V.int).length < 20 by rw [List.length_map]; omega) (by decide), ns ++ [r], S.other nD S3, fun b o e hb => ?_, ?_, by simp [hlen], fun x hx => ?_⟩
    · rw [upd_ne (ne_of_none e nD)]
      exact k3 b o (kp b o e hb) hb
    · rw [upd_same, List.map_append]
      rfl
    · rcases List.mem_append.mp hx with hx | hx
      · exact hall x hx
      · rw [List.mem_singleton.mp hx]
        exact ⟨h0, h9⟩
  · rintro H2 ⟨ns, S2, kp, hl, hlen, hall⟩
    obtain ⟨kvs, hp⟩ := S.dict
    refine ⟨Nat.le_trans (show 1 ≤ 20 by decide) (by decide), fun L2 n2 => ?_⟩
    have pL : L ≠ p := ne_of hL hp (by intro z; cases z)
    have hL2 := kp _ _ hL pL
    refine ⟨L, L2, _, [.ref Dl], rfl, rfl, same_new n2 _ _ hL2, upd_same, Nat.le_trans (show 15 ≤ 20 by decide) (by decide), fun L3 n3 => ?_⟩
    have s2 : Same H2 (upd H2 L2 (.lst [.ref Dl])) := same_new n2
    have s3 := s2.trans (same_new (o := .lst ([.ref t1, .ref m1, .ref m2, .ref t2, .str "web", .int 5, .non, .bl true, .ref t4, .ref m3, .ref d1, .int (-3), .str "", .ref m4] ++ [.ref Dl])) n3)
    refine ⟨p, L3, z, n + 3, _, rfl, S2.same s3, by omega, .inl (.inl upd_same), by show 1 ≤ 15; decide, by show 15 ≤ 1000000; decide, fun v H5 hv S5 k5 => ?_⟩
    have all : ∀ b o, H' b = some o → b ≠ p → H5 b = some o := fun b o e hb => k5 b o (s3 b o (kp b o e hb)) hb
    have ndp : Dl ≠ p := ne_of_none hp nD |>.symm
    have hD5 : H5 Dl = some (.lst (ns.map V.int)) := k5 _ _ (s3 _ _ hl) ndp
    have fD : G' Dl = none := gA.s.free nD
    have gr : GrowAt p G H G' H5 := ⟨gA.g, fun b o e hb => all b o (gA.h b o e) hb, fun b o e => all b o (gA.s b o e) (ne_of_none e fp), gA.n⟩
    have lk : ∀ {m : Addr} {xs : List V}, H' m = some (.lst xs) → H5 m = some (.lst xs) := fun h => all _ _ h (ne_of h hp (by intro z; cases z))
    have dl : ∀ {a : Addr} {xs : List V} {ds : List PyData}, G' a = some (.lst xs) → DpAll K G' xs ds → Dp K G' (.ref a) (.list ds) := fun h t => .lst (.inl (.inl h)) t
    have dt : ∀ {a : Addr} {xs : List V} {ds : List PyData}, G' a = some (.tup xs) → DpAll K G' xs ds → Dp K G' (.ref a) (.tuple ds) := fun h t => .tup (.inl (.inl h)) t
    have one : ∀ {v : V} {d : PyData}, Dp K G' v d → DpAll K G' [v] [d] := fun h => .cons h .nil
    have two : ∀ {v u : V} {d e : PyData}, Dp K G' v d → Dp K G' u e → DpAll K G' [v, u] [d, e] := fun h t => .cons h (.cons t .nil)
    have go : ∀ {v : V} {d : PyData}, ValIs K G' H5 v d → GoodD d → (∀ m, v = .ref m → G' m = none → H m = none) → D.rt v H5 := fun a b c => by
      rw [hD]
      exact k _ _ _ _ S5 gr a b c
    have nf : ∀ {a : Addr} {o : HO}, G' a = some o → ∀ m, V.ref a = .ref m → G' m = none → H m = none := fun e m z h => by
      cases z
      rw [e] at h
      cases h
    have nn : ∀ {a : Addr}, H a = none → ∀ m, V.ref a = .ref m → G' m = none → H m = none := fun e m z _ => by
      cases z
      exact e
    simp only [List.cons_append, List.nil_append, List.mem_cons, List.not_mem_nil, or_false] at hv
    rcases hv with rfl | rfl | rfl | rfl | rfl | rfl | rfl | rfl | rfl | rfl | rfl | rfl | rfl | rfl | rfl
    · exact go (.flat (.dp (dt e1 (two (.int 1) (.int 2)))) rfl) (good_of (by decide +kernel)) (nf e1)
    · exact go (.list (lk h3) f3 (two (.int 1) (dl e2 (one (.int 2))))) (good_of (by decide +kernel)) (nn q3)
    · exact go (.list (lk h4) f4 .nil) (good_of (by decide +kernel)) (nn q4)
    · exact go (.flat (.dp (dt e5 .nil)) rfl) (good_of (by decide +kernel)) (nf e5)
    · exact go (.flat (.dp (.str "web")) rfl) (good_of (by decide +kernel)) (fun m z => by cases z)
    · exact go (.flat (.dp (.int 5)) rfl) (good_of (by decide +kernel)) (fun m z => by cases z)
    · exact go (.flat (.dp .non) rfl) (good_of (by decide +kernel)) (fun m z => by cases z)
    · exact go (.flat (.dp (.bl true)) rfl) (good_of (by decide +kernel)) (fun m z => by cases z)
    · exact go (.flat (.dp (dt e7 (one (dt e6 (two (.int 0) (.int 1)))))) rfl) (good_of (by decide +kernel)) (nf e7)
    · exact go (.list (lk h10) f10 (two (dl e8 (one (.int 0))) (dl e9 (one (.int 1))))) (good_of (by decide +kernel)) (nn q10)
    · exact go (.flat (.dic e11) rfl) (good_of (by decide +kernel)) (nf e11)
    · exact go (.flat (.dp (.int (-3))) rfl) (good_of (by decide +kernel)) (fun m z => by cases z)
    · exact go (.flat (.dp (.str "")) rfl) (good_of (by decide +kernel)) (fun m z => by cases z)
    · exact go (.list (lk h12) f12 (one .non)) (good_of (by decide +kernel)) (nn q12)
    · obtain ⟨a, b, c, rfl⟩ : ∃ a b c, ns = [a, b, c] := by
        match ns, hlen with
        | [a, b, c], _ => exact ⟨a, b, c, rfl⟩
      have qa := hall a (by simp)
      have qb := hall b (by simp)
      have qc := hall c (by simp)
      exact go (.list hD5 fD (.cons (.int a) (two (.int b) (.int c)))) (good3 qa.1 qa.2 qb.1 qb.2 qc.1 qc.2) (nn (gA.h.free nD))

section
variable {P : Program} {w : World} {K : PySem.W.Frag} {mg : Str → Option Value} {base : Heap}
theorem scValue : FnScope ["pen", "some", "k"] ["pen"] (defScope (top 103)) := ⟨rfl, rfl, rfl, by decide +kernel, rfl, by decide +kernel, by decide +kernel⟩
theorem ok_value {f fD fP : Addr} {fd fdD fdP : FuncData} (F : FnP K "_law_value" (top 103) f fd) (FD : FnP K "_law_draw" sDraw fD fdD) (FP : FnP K "_law_pick" sPick fP fdP) (mLen : mg "len" = none) (mInt : mg "int" = none) (mR : mg "range" = none)
    (mD : mg "_law_draw" = some (.ref fD)) (mP : mg "_law_pick" = some (.ref fP)) : FnOk P w K mg base CX0 3 f fd ["pen"] (spValue K) := by
  have GD : FnOk P w K mg base CX0 1 fD fdD ["pen", "many"] (spDraw K) := ok_draw FD mLen mInt
  have bD : Binds K fdD ["pen", "many"] [] := FD.bindsN fun _ _ _ _ _ _ us hl => match us, hl with | [_, _], _ => rfl
  have GP : FnOk P w K mg base CX0 2 fP fdP ["pen", "some"] (spPick K) := ok_pick FP FD mLen mInt mD
  have bP : Binds K fdP ["pen", "some"] [] := FP.bindsN fun _ _ _ _ _ _ us hl => match us, hl with | [_, _], _ => rfl
  refine F.ok scValue (fun vs H Q E h => ?_) (fun cdv A outer s H vs Q E hr h => ?_)
  · obtain ⟨p, z, n, G, rfl, _⟩ := h
    rfl
  · obtain ⟨p, z, n, G, rfl, S, hn, s0, hGp, k⟩ := h
    have hr1 : Room 1 _ := hr.mono (by decide)
    refine ⟨_, PSs.nox (pss_cons (ps_set (i := 1) scValue.nd rfl (Or.inl rfl) (pe_lst
        (pa_cons (pe_tup (pa_cons pe_int (pa_cons pe_int pa_nil)))
        (pa_cons (pe_lst (pa_cons pe_int (pa_cons (pe_lst (pa_cons pe_int pa_nil)) pa_nil)))
        (pa_cons (pe_lst pa_nil)
        (pa_cons (pe_tup pa_nil)
        (pa_cons pe_str (pa_cons pe_int (pa_cons pe_non (pa_cons pe_bl
        (pa_cons (pe_tup (pa_cons (pe_tup (pa_cons pe_int (pa_cons pe_int pa_nil))) pa_nil))
        (pa_cons (pe_lst (pa_cons (pe_lst (pa_cons pe_int pa_nil)) (pa_cons (pe_lst (pa_cons pe_int pa_nil)) pa_nil)))
        (pa_cons (pe_disp (pps_cons pe_str pe_int pps_nil) (by rfl) (by rfl) (fun z => by cases z) (by decide))
        (pa_cons (pe_un un_neg pe_int) (pa_cons pe_str
        (pa_cons (pe_lst (pa_cons pe_non pa_nil)) pa_nil))))))))))))))))
      (pss_one (ps_ret (pe_call GP hr (by rfl) mP FP.kp bP .nil pass0 (pa_cons (pv 0) (pa_cons (pe_op op_cat (pv 1) (pe_lst (pa_cons
        (pe_lc (own := [("k", 2)]) (g := gName 2) (tt := tYes) rfl scValue.nd (pi_range1 (by rfl) mR (pa_cons pe_int pa_nil)) (blkOk_by (own := [("k", 2)]) (N := ["pen", "some", "k"]) (sc := defScope (top 103)) (by decide +kernel))
          (fun _ _ _ _ _ => pg_name (i := 2) scValue.nd rfl (Or.inl rfl)) (fun _ _ _ _ _ => pts_nil) (fun _ _ _ _ _ => pe_call GD hr1 (by rfl) mD FD.kp bD .nil pass0 (pa_cons (pv 0) (pa_cons pe_int pa_nil)))) pa_nil))) pa_nil)))))), ?_⟩
    have sz : ∀ {n : Nat}, n ≤ 20 → n ≤ sizeLine := fun h => Nat.le_trans h (by decide)
    -- the written ones
    refine ⟨sz (by show 2 ≤ 20; decide), fun t1 n1 => ⟨sz (by show 1 ≤ 20; decide), fun i1 n2 => ⟨sz (by show 2 ≤ 20; decide), fun m1 n3 => ⟨sz (by show 0 ≤ 20; decide), fun m2 n4 => ⟨sz (by show 0 ≤ 20; decide), fun t2 n5 => ⟨sz (by show 2 ≤ 20; decide), fun t3 n6 =>
      ⟨sz (by show 1 ≤ 20; decide), fun t4 n7 => ⟨sz (by show 1 ≤ 20; decide), fun i2 n8 => ⟨sz (by show 1 ≤ 20; decide), fun i3 n9 => ⟨sz (by show 2 ≤ 20; decide), fun m3 n10 => fun d1 n11 => ⟨upd_same, oneD, rfl, (by show 1 ≤ 15; decide), ⟨_, rfl, ⟨sz (by show 1 ≤ 20; decide), fun m4 n12 =>
      ⟨sz (by show 14 ≤ 20; decide), fun L n13 => ?_⟩⟩⟩⟩⟩⟩⟩⟩⟩⟩⟩⟩⟩⟩
    have g1 := Grow.new (o := .tup [.int 1, .int 2]) s0 n1
    have g2 := Grow.new (o := .lst [.int 2]) g1.s n2
    have g3 := Grow.out (o := .lst [.int 1, .ref i1]) g2.s n3
    have g4 := Grow.out (o := .lst []) g3.s n4
    have g5 := Grow.new (o := .tup []) g4.s n5
    have g6 := Grow.new (o := .tup [.int 0, .int 1]) g5.s n6
    have g7 := Grow.new (o := .tup [.ref t3]) g6.s n7
    have g8 := Grow.new (o := .lst [.int 0]) g7.s n8
    have g9 := Grow.new (o := .lst [.int 1]) g8.s n9
    have g10 := Grow.out (o := .lst [.ref i2, .ref i3]) g9.s n10
    have g11 := Grow.new2 (o := .dK oneD) (u := .dK []) g10.s n11
    have g12 := Grow.out (o := .lst [.non]) g11.s n12
    have g13 := Grow.out (o := .lst [.ref t1, .ref m1, .ref m2, .ref t2, .str "web", .int 5, .non, .bl true, .ref t4, .ref m3, .ref d1, .int (-3), .str "", .ref m4]) g12.s n13
    have q12 := g12.trans g13
    have q11 := g11.trans q12
    have q10 := g10.trans q11
    have q9 := g9.trans q10
    have q8 := g8.trans q9
    have q7 := g7.trans q8
    have q6 := g6.trans q7
    have q5 := g5.trans q6
    have q4 := g4.trans q5
    have q3 := g3.trans q4
    have q2 := g2.trans q3
    have gA := g1.trans q2
    have e1 := q2.g _ _ (upd_same (H := G) (a := t1) (o := .tup [.int 1, .int 2]))
    have e2 := q3.g _ _ (upd_same (a := i1) (o := .lst [.int 2]))
    have e5 := q6.g _ _ (upd_same (a := t2) (o := .tup []))
    have e6 := q7.g _ _ (upd_same (a := t3) (o := .tup [.int 0, .int 1]))
    have e7 := q8.g _ _ (upd_same (a := t4) (o := .tup [.ref t3]))
    have e8 := q9.g _ _ (upd_same (a := i2) (o := .lst [.int 0]))
    have e9 := q10.g _ _ (upd_same (a := i3) (o := .lst [.int 1]))
    have e11 := q12.g _ _ (upd_same (a := d1) (o := .dK oneD))
    have h3 := q4.h _ _ (upd_same (a := m1) (o := .lst [.int 1, .ref i1]))
    have h4 := q5.h _ _ (upd_same (a := m2) (o := .lst []))
    have h10 := q11.h _ _ (upd_same (a := m3) (o := .lst [.ref i2, .ref i3]))
    have h12 := g13.h _ _ (upd_same (a := m4) (o := .lst [.non]))
    have f3 := q4.n m1 (g2.s.free n3) (some_ne upd_same)
    have f4 := q5.n m2 (g3.s.free n4) (some_ne upd_same)
    have f10 := q11.n m3 (g9.s.free n10) (some_ne upd_same)
    have f12 := g13.n m4 (g11.s.free n12) (some_ne upd_same)
    have p2 := g1.trans g2
    have p3 := p2.trans g3
    have p9 := p3.trans (g4.trans (g5.trans (g6.trans (g7.trans (g8.trans g9)))))
    have p11 := p9.trans (g10.trans g11)
    obtain ⟨kvs, hp⟩ := S.dict
    have fp := gA.n p hGp (some_ne hp)
    have S13 := S.same gA.h
    exact value_rest gA fp S13 hn upd_same e1 e2 e5 e6 e7 e8 e9 e11 h3 h4 h10 h12 f3 f4 f10 f12 (p2.h.free n3) (p3.h.free n4) (p9.h.free n10) (p11.h.free n12) k
end
end K90
/-! The law itself. -/
namespace K90
open PySem L2

/-! ### values that were drawn -/
inductive ValAll (K : PySem.W.Frag) (G H : Hp) : List V → List PyData → Prop where
  | nil : ValAll K G H [] []
  | cons {v : V} {d : PyData} {vs : List V} {ds : List PyData} (h : ValIs K G H v d) (t : ValAll K G H vs ds) : ValAll K G H (v :: vs) (d :: ds)
section
variable {K : PySem.W.Frag} {G H G' H' : Hp} {v : V} {d : PyData} {p : Addr} {vs : List V} {ds : List PyData}
theorem ValIs.grow (gr : Grow G H G' H') (h : ValIs K G H v d) : ValIs K G' H' v d := by
  cases h with
  | flat h n => exact .flat (dw_same gr.g h) n
  | list h hG ha => exact .list (gr.h _ _ h) (gr.n _ hG (some_ne h)) (dpAll_same gr.g _ _ ha)
theorem ValIs.growAt {kvs : List (Key × V)} (gr : GrowAt p G H G' H') (hp : H p = some (.dK kvs)) (h : ValIs K G H v d) : ValIs K G' H' v d := by
  cases h with
  | flat h n => exact .flat (dw_same gr.g h) n
  | list h hG ha => exact .list (gr.h _ _ h (ne_of h hp (by intro z; cases z))) (gr.n _ hG (some_ne h)) (dpAll_same gr.g _ _ ha)
theorem ValIs.put {D : Addr} {o : HO} (hn : ∀ m, v = .ref m → G m = none → m ≠ D) (h : ValIs K G H v d) : ValIs K G (upd H D o) v d := by
  cases h with
  | flat h n => exact .flat h n
  | list h hG ha =>
    refine .list ?_ hG ha
    rw [upd_ne (hn _ rfl hG)]
    exact h
theorem ValIs.dv (h : ValIs K G H v d) : Dv K G H v d := by
  cases h with
  | flat h n => exact .dw h
  | list h hG ha => exact .list (.inl (.inl h)) ha
theorem ValAll.map (f : ∀ v d, v ∈ vs → ValIs K G H v d → ValIs K G' H' v d) (h : ValAll K G H vs ds) : ValAll K G' H' vs ds := by
  induction h with
  | nil => exact .nil
  | cons h t ih => exact .cons (f _ _ List.mem_cons_self h) (ih fun v d m => f v d (List.mem_cons_of_mem _ m))
theorem ValAll.snoc (h : ValAll K G H vs ds) (hv : ValIs K G H v d) : ValAll K G H (vs ++ [v]) (ds ++ [d]) := by
  induction h with
  | nil => exact .cons hv .nil
  | cons h t ih => exact .cons h ih
theorem ValAll.len (h : ValAll K G H vs ds) : vs.length = ds.length := by
  induction h with
  | nil => rfl
  | cons h t ih => exact congrArg Nat.succ ih
theorem ValAll.at (h : ValAll K G H vs ds) : ∀ {i : Nat}, vs[i]? = some v → ∃ d, ds[i]? = some d ∧ ValIs K G H v d := by
  induction h with
  | nil => exact fun e => by cases e
  | cons h t ih =>
    intro i e
    cases i with
    | zero =>
      cases e
      exact ⟨_, rfl, h⟩
    | succ i => exact ih (i := i) e
theorem Grow.put {D : Addr} {o : HO} (gr : Grow G H G' H') (h1 : H D = none) (h2 : G' D = none) : Grow G H G' (upd H' D o) :=
  ⟨gr.g, fun b u e => by
    rw [upd_ne (ne_of_none e h1)]
    exact gr.h b u e, fun b u e => by
    rw [upd_ne (ne_of_none e h2)]
    exact gr.s b u e, gr.n⟩
theorem DwAll.snoc {w : V} (h : DwAll K G vs ds) (hw : Dw K G w d) : DwAll K G (vs ++ [w]) (ds ++ [d]) := by
  induction h with
  | nil => exact .cons hw .nil
  | cons h t ih => exact .cons h ih
theorem take_snoc {α : Type} {xs : List α} {i : Nat} {x : α} (h : xs[i]? = some x) : xs.take (i + 1) = xs.take i ++ [x] := by
  rw [List.take_add_one, h]
  rfl
end

/-- the law's names, as they stand -/
abbrev st (a0 a1 a2 a3 a4 a5 a6 a7 a8 a9 a10 a11 a12 a13 a14 a15 a16 a17 a18 a19 a20 : Option V) : L2.St := [a0, a1, a2, a3, a4, a5, a6, a7, a8, a9, a10, a11, a12, a13, a14, a15, a16, a17, a18, a19, a20]

section
variable {K : PySem.W.Frag} {G H : Hp} {p : Addr} {z : Addr × List Int}
/-- the four draws -/
theorem values_read {Q : VK} {a0 : Option V} (s : Same G H) (gp : G p = none) (S : PenAt K H p z 0)
    (k : ∀ (lv : Addr) (vs : List V) (ds : List PyData) (G' H' : Hp), Same G' H' → G' p = none → PenAt K H' p z 16 → H' lv = some (.lst vs) → ValAll K G' H' vs ds → vs.length = 4 → (∀ d ∈ ds, GoodD d) → Q (.ref lv) H') :
    tLc (iRng1 (tCons (tC (.int 4)) tNil)) (gName 2) tYes (tCall (spValue K) [] E0 (tCons (tVar 1) tNil)) [2] (st a0 (some (.ref p)) none none none none none none none none none none none none none none none none none none none) H Q := by
  refine ⟨4, rfl, by decide, by decide, fun D nD => lc_range (lo := 0) (n := 4) (fun i H2 => ∃ (G2 : Hp) (vs : List V) (ds : List PyData), Same G2 H2 ∧ G2 p = none ∧ G2 D = none ∧ PenAt K H2 p z (4 * i) ∧ H2 D = some (.lst vs) ∧
    ValAll K G2 H2 vs ds ∧ (∀ m, V.ref m ∈ vs → G2 m = none → m ≠ D) ∧ vs.length = i ∧ ∀ d ∈ ds, GoodD d) ?_ ?_ ?_⟩
  · exact ⟨G, [], [], s.trans (same_new nD), gp, s.free nD, S.same (same_new nD), upd_same, .nil, fun m h => absurd h List.not_mem_nil, rfl, fun d h => absurd h List.not_mem_nil⟩
  · rintro i H2 hi ⟨G2, vs, ds, s2, gp2, gD, S2, hD, va, hne, hlen, good⟩
    refine ⟨rfl, yes_then ⟨_, rfl, p, z, 4 * i, G2, rfl, S2, by omega, s2, gp2, fun v d G' H' S' gr hv hd hn => ?_⟩⟩
    obtain ⟨kvs, hp2⟩ := S2.dict
    have ndp : D ≠ p := ne_of hD hp2 (by intro z; cases z)
    have hD' := gr.h _ _ hD ndp
    have gD' : G' D = none := gr.n D gD (some_ne hD)
    have old : ∀ m, V.ref m ∈ vs → G' m = none → m ≠ D := fun m hm e => hne m hm (gr.g.free e)
    have new : ∀ m, v = V.ref m → G' m = none → m ≠ D := fun m hm e z => by
      have q := hn m hm e
      rw [z, hD] at q
      cases q
    refine ⟨vs, hD', Nat.lt_of_lt_of_le (show vs.length < 4 by omega) (by decide), G', vs ++ [v], ds ++ [d], fun b o e => ?_, gr.n p gp2 (some_ne hp2), gD', S.other nD S', upd_same, ?_, fun m hm => ?_, by simp [hlen], fun x hx => ?_⟩
    · rw [upd_ne (ne_of_none e gD')]
      exact gr.s b o e
    · exact ValAll.snoc (va.map fun u e hu h => (h.growAt gr hp2).put fun m hm => old m (hm ▸ hu)) (hv.put new)
    · rcases List.mem_append.mp hm with hm | hm
      · exact old m hm
      · exact new m (List.mem_singleton.mp hm).symm
    · rcases List.mem_append.mp hx with hx | hx
      · exact good x hx
      · rw [List.mem_singleton.mp hx]
        exact hd
  · rintro H2 ⟨G2, vs, ds, s2, gp2, gD, S2, hD, va, hne, hlen, good⟩
    exact k D vs ds G2 H2 s2 gp2 S2 hD va hlen good

abbrev rToL (K : PySem.W.Frag) : List V → Hp → VK → Prop := fun xs H Q => ∃ p ys, xs = [V.ref p] ∧ (SqL K H p ys ∨ SqT K H p ys) ∧ ∀ l, H l = none → Q (.ref l) (upd H l (.lst ys))
/-- lists among them copied -/
theorem copies_read {Q : VK} {lv : Addr} {vs : List V} {ds : List PyData} {a0 a1 : Option V} (s : Same G H) (hlv : H lv = some (.lst vs)) (va : ValAll K G H vs ds) (hv4 : vs.length = 4)
    (k : ∀ (D : Addr) (ws : List V) (G' H' : Hp), Grow G H G' H' → H' D = some (.lst ws) → DwAll K G' ws ds → Q (.ref D) H') :
    tLc (iList K (tVar 3)) (gName 20) tYes (tIf (tTest (tCB (rIsi K) (tCons (tVar 20) (tCons (tC (.ty "list")) tNil)))) (tCB (rToL K) (tCons (tVar 20) tNil)) (tVar 20)) [20] (st a0 a1 none (some (.ref lv)) none none none none none none none none none none none none none none none none none) H Q := by
  refine ⟨_, rfl, lv, rfl, ⟨vs, .inl (.inl hlv)⟩, fun D nD => lc_list (xs := vs) (fun i H2 => ∃ (G2 : Hp) (ws : List V), Grow G H G2 H2 ∧ G2 D = none ∧ H2 D = some (.lst ws) ∧ DwAll K G2 ws (ds.take i) ∧ ws.length = i) ?_ ?_ ?_ ?_⟩
  · exact ⟨G, [], Grow.out s nD, s.free nD, upd_same, .nil, rfl⟩
  · rintro i H2 hi ⟨G2, ws, gr, gD, hD, hw, hl⟩
    exact .inl (.inl (gr.h _ _ hlv))
  · rintro i v H2 hx ⟨G2, ws, gr, gD, hD, hw, hl⟩
    obtain ⟨d, hd, hv⟩ := va.at hx
    have hv2 := hv.grow gr
    obtain ⟨t, ty, kt⟩ := dw_ty (hv2.dv.here gr.s)
    have hi : i < vs.length := by
      rcases Nat.lt_or_ge i vs.length with h | h
      · exact h
      · rw [List.getElem?_eq_none h] at hx
        cases hx
    refine ⟨rfl, yes_then ⟨_, rfl, v, .ty "list", t, .type "list", isL d, rfl, .ty _, ty, kt, _, rfl, ?_⟩⟩
    have fin : ∀ (G3 H3 : Hp) (w : V), Grow G H G3 H3 → G3 D = none → H3 D = some (.lst ws) → Same G2 G3 → Dw K G3 w d →
        ∃ acc, H3 D = some (.lst acc) ∧ acc.length < sizeLine ∧ ∃ (G2 : Hp) (ws : List V), Grow G H G2 (upd H3 D (.lst (acc ++ [w]))) ∧ G2 D = none ∧ upd H3 D (.lst (acc ++ [w])) D = some (.lst ws) ∧ DwAll K G2 ws (ds.take (i + 1)) ∧ ws.length = i + 1 := by
      intro G3 H3 w g3 e1 e2 sg hwd
      refine ⟨ws, e2, ?_, G3, ws ++ [w], g3.put nD e1, e1, upd_same, ?_, by simp [hl]⟩
      · exact Nat.lt_of_lt_of_le (show ws.length < 4 by omega) (by decide)
      · rw [take_snoc hd]
        exact (dwAll_same sg hw).snoc hwd
    cases hv2 with
    | flat h n =>
      rw [n]
      exact iteF ⟨_, rfl, fin G2 H2 _ gr gD hD (Same.refl _) h⟩
    | @list m xs es h hG ha =>
      refine iteT ⟨_, rfl, m, xs, rfl, .inl (.inl (.inl h)), fun l hl0 => ?_⟩
      have g1 := Grow.new (o := .lst xs) gr.s hl0
      refine fin _ _ _ (gr.trans g1) (g1.n D gD (some_ne hD)) (g1.h _ _ hD) g1.g (.dp (.lst (.inl (.inl upd_same)) (dpAll_same g1.g _ _ ha)))
  · rintro H2 ⟨G2, ws, gr, gD, hD, hw, hl⟩
    refine k D ws G2 H2 gr hD ?_
    rw [va.len, List.take_length] at hw
    exact hw
end
end K90
/-! The law: its loops. -/
namespace K90
open PySem L2

/-! ### the rows of the defs, gathered -/
structure Got (K : PySem.W.Frag) (G H : Hp) (ls : List Addr) (rss : List (List V)) (os : List Addr) (n : Nat) : Prop where
  at_ : ∀ (i : Nat) (l : Addr), ls[i]? = some l → ∃ rs, rss[i]? = some rs ∧ H l = some (.lst rs)
  len : ls.length = rss.length
  R : Rows K G rss.flatten os
  nd : os.Nodup
  sz : rss.flatten.length = n
section
variable {K : PySem.W.Frag} {G H G' H' : Hp} {ls : List Addr} {rss : List (List V)} {rs : List V} {os os' : List Addr} {n m : Nat} {l : Addr}
theorem Got.grow (g : Got K G H ls rss os n) (gr : Grow G H G' H') : Got K G' H' ls rss os n :=
  ⟨fun i l e => by
    obtain ⟨rs, a, b⟩ := g.at_ i l e
    exact ⟨rs, a, gr.h _ _ b⟩, g.len, g.R.same gr.g, g.nd, g.sz⟩
theorem Rows.mem : ∀ {rs : List V} {os : List Addr} {o : Addr}, Rows K G rs os → o ∈ os → ∃ u, G o = some u
  | _, _, _, .nil, h => absurd h List.not_mem_nil
  | _, _, _, .cons (o := q) h t, e => by
    rcases List.mem_cons.mp e with e | e
    · obtain ⟨⟨_, _, _, _, _, _, _, _, _, _, _, _, _, _, _, _, h3, _⟩⟩ := h
      exact ⟨_, e ▸ h3⟩
    · exact t.mem e
theorem Got.add (g : Got K G H ls rss os n) (s : Same G H) (gr : Grow G H G' H') (hl : H' l = some (.lst rs)) (R : Rows K G' rs os') (hn : rs.length = m) (nd' : os'.Nodup) (fr : ∀ o ∈ os', H o = none) :
    Got K G' H' (ls ++ [l]) (rss ++ [rs]) (os ++ os') (n + m) := by
  refine ⟨fun i q e => ?_, by simp [g.len], ?_, List.nodup_append.mpr ⟨g.nd, nd', fun a ha b hb e => ?_⟩, by simp [g.sz, hn]⟩
  · rcases Nat.lt_or_ge i ls.length with h | h
    · rw [List.getElem?_append_left h] at e
      obtain ⟨rs', a, b⟩ := g.at_ i q e
      exact ⟨rs', by rw [List.getElem?_append_left (g.len ▸ h)]; exact a, gr.h _ _ b⟩
    · rw [List.getElem?_append_right h] at e
      have e0 : i - ls.length = 0 := by
        rcases Nat.eq_zero_or_pos (i - ls.length) with h | h
        · exact h
        · rw [List.getElem?_eq_none (show [l].length ≤ i - ls.length from h)] at e
          cases e
      rw [e0] at e
      cases e
      refine ⟨rs, ?_, hl⟩
      rw [List.getElem?_append_right (g.len ▸ h), ← g.len, e0]
      rfl
  · rw [List.flatten_append]
    have e : [rs].flatten = rs := by simp
    rw [e]
    exact (g.R.same gr.g).append R
  · obtain ⟨u, hu⟩ := g.R.mem ha
    have q := s _ _ hu
    rw [e, fr b hb] at q
    cases q
end

/-! ### what is held over -/
structure Held (K : PySem.W.Frag) (p : Addr) (z : Addr × List Int) (n : Nat) (lv : Addr) (v0 : V) (vr : List V) (d0 : PyData) (G H : Hp) : Prop where
  s : Same G H
  gp : G p = none
  pen : PenAt K H p z n
  hlv : H lv = some (.lst (v0 :: vr))
  val : ValIs K G H v0 d0
  good : GoodD d0
section
variable {K : PySem.W.Frag} {G H G' H' : Hp} {p lv : Addr} {z : Addr × List Int} {n : Nat} {v0 : V} {vr : List V} {d0 : PyData}
theorem Held.grow (h : Held K p z n lv v0 vr d0 G H) (gr : Grow G H G' H') : Held K p z n lv v0 vr d0 G' H' := by
  obtain ⟨kvs, hp⟩ := h.pen.dict
  exact ⟨gr.s, gr.n p h.gp (some_ne hp), h.pen.same gr.h, gr.h _ _ h.hlv, h.val.grow gr, h.good⟩
theorem Grow.same (s : Same G H) (e : Same H H') : Grow G H G H' := ⟨Same.refl G, e, s.trans e, fun _ h _ => h⟩

abbrev tMd (K : PySem.W.Frag) (n : Nat) : TE := tCall (spMade K n) [] E0 (tCons (tVar 4) (tCons (tVar 5) (tCons (tVar 6) (tCons (tVar 7) tNil))))
theorem made_read {σ : L2.St} {Q : VK} {wa wb wc wd : V} {ds : List PyData} {ls : List Addr} {rss : List (List V)} {os : List Addr} {n m : Nat} (h4 : σ[4]? = some (some wa)) (h5 : σ[5]? = some (some wb)) (h6 : σ[6]? = some (some wc)) (h7 : σ[7]? = some (some wd))
    (s : Same G H) (dw : DwAll K G [wa, wb, wc, wd] ds) (good : ∀ d ∈ ds, GoodD d) (g : Got K G H ls rss os n)
    (k : ∀ (l : Addr) (rs : List V) (os' : List Addr) (G' H' : Hp), Grow G H G' H' → Got K G' H' (ls ++ [l]) (rss ++ [rs]) (os ++ os') (n + m) → Q (.ref l) H') : tMd K m σ H Q :=
  ⟨_, h4, _, h5, _, h6, _, h7, G, ds, rfl, s, dw, good, fun l G' H' rs os' gr n1 n2 hl R hn nd fr => k l rs os' G' H' gr (g.add s gr hl R hn nd fr)⟩

/-- slots 1, 3 and 8 -/
def Sl (p lv R : Addr) (σ : L2.St) : Prop := ∃ a0 a2 a4 a5 a6 a7 a9 a10 a11 a12 a13 a14 a15 a16 a17 a18 a19 a20, σ = st a0 (some (.ref p)) a2 (some (.ref lv)) a4 a5 a6 a7 (some (.ref R)) a9 a10 a11 a12 a13 a14 a15 a16 a17 a18 a19 a20

theorem mores_loop {D : Ends} {σ : L2.St} {l0 M : Addr} {lt : List Addr} {rss : List (List V)} {os : List Addr} {n : Nat} (sl : Sl p lv l0 σ) (g : Got K G H (l0 :: lt) rss os n) (hn : n ≤ 1000) (hlt : 0 < lt.length)
    (hM : H M = some (.lst (lt.map V.ref)))
    (k : ∀ (R : Addr) (σ' : L2.St) (H' : Hp), Sl p lv R σ' → Same H H' → H R = none → H' R = some (.lst rss.flatten) → D.nx σ' H') :
    ∃ W : Nat → Nat → St → Hp → Prop, (∃ m, W 0 m σ H) ∧ ∀ i m σ H, W i m σ H →
      ((Itl K M).stop i H ∧ D.nx σ H) ∨ ((Itl K M).go i H ∧ ∃ N : St → Hp → Prop, (∀ σ' H', N σ' H' → ∃ m', m' < m ∧ W (i + 1) m' σ' H') ∧ ∀ x H', (Itl K M).yld i H x H' → gName 9 x σ H' fun σ2 H2 => tAsg (tOp rCat (tVar 8) (tVar 9)) (gName 8) { D with nx := N, ct := N, bk := D.nx } σ2 H2) := by
  have tot : ∀ j, (rss.take j).flatten.length ≤ n := fun j => by
    have e : rss.flatten = (rss.take j).flatten ++ (rss.drop j).flatten := by rw [← List.flatten_append, List.take_append_drop]
    have q := g.sz
    rw [e, List.length_append] at q
    omega
  refine for_list (xs := lt.map V.ref) (fun i σ' H2 => ∃ R, Sl p lv R σ' ∧ Same H H2 ∧ (0 < i → H R = none) ∧ H2 R = some (.lst (rss.take (i + 1)).flatten)) ?_ ?_ ?_ ?_
  · refine ⟨l0, sl, Same.refl H, fun h => absurd h (Nat.lt_irrefl 0), ?_⟩
    obtain ⟨rs, e, h⟩ := g.at_ 0 l0 rfl
    rw [take_snoc e, h]
    simp
  · rintro i σ' H2 _ ⟨R, _, sm, _, _⟩
    exact .inl (.inl (sm _ _ hM))
  · rintro i x σ' H2 hx ⟨R, ⟨a0, a2, a4, a5, a6, a7, a9, a10, a11, a12, a13, a14, a15, a16, a17, a18, a19, a20, rfl⟩, sm, nR, hR⟩
    rw [List.getElem?_map] at hx
    obtain ⟨l, hl, rfl⟩ := Option.map_eq_some_iff.mp hx
    obtain ⟨rs, e, h⟩ := g.at_ (i + 1) l hl
    have e2 : (rss.take (i + 1 + 1)).flatten = (rss.take (i + 1)).flatten ++ rs := by
      rw [take_snoc e, List.flatten_append]
      simp
    have sz := tot (i + 1 + 1)
    rw [e2, List.length_append] at sz
    refine ⟨_, rfl, _, rfl, R, l, _, _, rfl, rfl, hR, sm _ _ h, Nat.le_trans (Nat.le_trans sz hn) (by decide), fun q nq => ⟨q, ⟨_, _, _, _, _, _, _, _, _, _, _, _, _, _, _, _, _, _, rfl⟩, sm.trans (same_new nq), fun _ => sm.free nq, ?_⟩⟩
    rw [upd_same, e2]
  · rintro σ' H2 ⟨R, sl2, sm, nR, hR⟩
    rw [List.length_map] at nR hR
    have e : lt.length + 1 = rss.length := g.len
    rw [e, List.take_length] at hR
    exact k R σ' H2 sl2 sm (nR hlt) hR
end
end K90
/-! The law: the row's turn, the pairs' turn, the end. -/
namespace K90
open PySem L2 PySem.Spec PyProof.Rows

theorem cpy_sh {d : PyData} (h : d.showable = true) : (cpy d).showable = true := by
  cases d with
  | list ds => simpa only [cpy, PyData.showable] using h
  | _ => exact h
theorem cpy_depth (d : PyData) : (cpy d).depth = d.depth := by
  cases d with
  | list ds => simp only [cpy, PyData.depth]
  | _ => rfl
theorem due_all : ∀ ds : List PyData, (∀ d ∈ ds, GoodD d) → PyData.showableAll (ds.map cpy) = true ∧ PyData.depthAll (ds.map cpy) ≤ 10 ∧ ((PyData.shownAll (ds.map cpy)).map (·.length)).sum ≤ 10000 * ds.length ∧ (PyData.shownAll (ds.map cpy)).length = ds.length
  | [], _ => ⟨rfl, Nat.zero_le _, Nat.le_refl _, rfl⟩
  | d :: ds, h => by
    obtain ⟨h1, h2, h3, h4⟩ := due_all ds fun x hx => h x (List.mem_cons_of_mem _ hx)
    have g := h d List.mem_cons_self
    refine ⟨?_, ?_, ?_, ?_⟩
    · simp only [List.map_cons, PyData.showableAll, cpy_sh g.sh, h1, Bool.and_self]
    · simp only [List.map_cons, PyData.depthAll, cpy_depth]
      exact Nat.max_le.mpr ⟨g.dp, h2⟩
    · have e := g.l2
      simp only [List.map_cons, PyData.shownAll, List.sum_cons, List.length_cons]
      omega
    · simp only [List.map_cons, PyData.shownAll, List.length_cons, h4]
theorem due_facts {ds : List PyData} (good : ∀ d ∈ ds, GoodD d) (hn : ds.length ≤ 4) : PyData.showableAll (ds.map cpy) = true ∧ PyData.depthAll (ds.map cpy) ≤ 20 ∧ (PyData.list (ds.map cpy)).shown.length ≤ sizeLine := by
  obtain ⟨h1, h2, h3, h4⟩ := due_all ds good
  refine ⟨h1, Nat.le_trans h2 (by decide), ?_⟩
  have e := listText_len_le (PyData.shownAll (ds.map cpy))
  have e2 : (PyData.list (ds.map cpy)).shown = listText (PyData.shownAll (ds.map cpy)) := by simp only [PyData.shown]
  rw [e2]
  refine Nat.le_trans e (Nat.le_trans (show _ ≤ 50000 by omega) (by decide))

abbrev rRepL (K : PySem.W.Frag) : List V → Hp → VK → Prop := fun xs H Q => ∃ a ys ds, xs = [V.ref a] ∧ SqL K H a ys ∧ DwAll K H ys ds ∧ PyData.showableAll ds = true ∧ PyData.depthAll ds ≤ 20 ∧ (PyData.list ds).shown.length ≤ sizeLine ∧ Q (.str (PyData.list ds).shown) H
abbrev rRepV (K : PySem.W.Frag) : List V → Hp → VK → Prop := fun xs H Q => ∃ v d, xs = [v] ∧ Dw K H v d ∧ d.showable = true ∧ d.depth ≤ 20 ∧ d.shown.length ≤ sizeLine ∧ Q (.str d.shown) H
section
variable {K : PySem.W.Frag} {G H : Hp} {p lv : Addr} {z : Addr × List Int} {n : Nat} {v0 : V} {vr : List V} {d0 : PyData}
theorem repL_read {Q : VK} {i : Nat} {σ : L2.St} {l : Addr} {ys : List V} {ds : List PyData} (h : σ[i]? = some (some (.ref l))) (hl : SqL K H l ys) (dw : DwAll K H ys (ds.map cpy)) (good : ∀ d ∈ ds, GoodD d) (hn : ds.length ≤ 4) (q : Q (.str (PyData.list (ds.map cpy)).shown) H) :
    tCB (rRepL K) (tCons (tVar i) tNil) σ H Q := by
  obtain ⟨h1, h2, h3⟩ := due_facts good hn
  exact ⟨_, h, l, ys, ds.map cpy, rfl, hl, dw, h1, h2, h3, q⟩
/-- the comprehension of copies -/
theorem due_read {Q : VK} {σ : L2.St} {l : Addr} {xs : List V} {ds : List PyData} (h15 : σ[15]? = some (some (.ref l))) (hw : ∀ v : V, ((wipe σ [20]).set 20 (some v))[20]? = some (some v)) (hw2 : ∀ v : V, wipe ((wipe σ [20]).set 20 (some v)) [20] = wipe σ [20]) (s : Same G H) (hl : H l = some (.lst xs)) (dw : DwAll K G xs ds) (hn : ds.length ≤ 4)
    (k : ∀ (D : Addr) (ws : List V) (G' H' : Hp), Grow G H G' H' → H' D = some (.lst ws) → DwAll K G' ws (ds.map cpy) → Q (.ref D) H') :
    tLc (iList K (tVar 15)) (gName 20) tYes (tCall (spCopy K) [] E0 (tCons (tVar 20) tNil)) [20] σ H Q := by
  refine ⟨_, h15, l, rfl, ⟨xs, .inl (.inl hl)⟩, fun D nD => lc_list (xs := xs) (fun i H2 => ∃ (G2 : Hp) (ws : List V), Grow G H G2 H2 ∧ G2 D = none ∧ H2 D = some (.lst ws) ∧ DwAll K G2 ws ((ds.map cpy).take i) ∧ ws.length = i) ?_ ?_ ?_ ?_⟩
  · exact ⟨G, [], Grow.out s nD, s.free nD, upd_same, .nil, rfl⟩
  · rintro i H2 hi ⟨G2, ws, gr, gD, hD, hws, hlen⟩
    exact .inl (.inl (gr.h _ _ hl))
  · rintro i v H2 hx ⟨G2, ws, gr, gD, hD, hws, hlen⟩
    have hi : i < xs.length := by
      rcases Nat.lt_or_ge i xs.length with h | h
      · exact h
      · rw [List.getElem?_eq_none h] at hx
        cases hx
    obtain ⟨hv, _⟩ := dw.at hi
    have ev : xs.getD i .non = v := by
      rw [List.getD_eq_getElem?_getD, hx]
      rfl
    rw [ev] at hv
    have ed : ds[i]? = some (ds.getD i .none) := by
      rw [List.getD_eq_getElem?_getD, List.getElem?_eq_getElem (dw.len ▸ hi)]
      rfl
    refine ⟨hw2 v, yes_then ⟨_, hw v, G2, v, _, rfl, gr.s, .dw (dw_same gr.g hv), fun w G3 H3 g3 hw3 => ?_⟩⟩
    have g4 := gr.trans g3
    have gD3 := g3.n D gD (some_ne hD)
    refine ⟨ws, g3.h _ _ hD, ?_, G3, ws ++ [w], g4.put nD gD3, gD3, upd_same, ?_, by simp [hlen]⟩
    · have := dw.len
      exact Nat.lt_of_lt_of_le (show ws.length < 4 by omega) (by decide)
    · have e2 : (ds.map cpy)[i]? = some (cpy (ds.getD i .none)) := by rw [List.getElem?_map, ed]; rfl
      rw [take_snoc e2]
      exact (dwAll_same g3.g hws).snoc hw3
  · rintro H2 ⟨G2, ws, gr, gD, hD, hws, hlen⟩
    refine k D ws G2 H2 gr hD ?_
    rw [dw.len, ← List.length_map (f := cpy), List.take_length] at hws
    exact hws

abbrev tsB (K : PySem.W.Frag) : TS := tIfS (tOr (tTest (tOp rNotB (tVar 12) (tC (.bl true)))) (tOr (tTest (tOp rNe (tCB (rRepL K) (tCons (tVar 13) tNil)) (tVar 16))) (tOr (tTest (tOp rNe (tCB (rRepL K) (tCons (tVar 14) tNil)) (tVar 16)))
  (tOr (tNot (tTest (tOp (rEqI K) (tVar 10) (tVar 10)))) (tTest (tOp (rEqI K) (tVar 10) (tVar 11))))))) (tRet (tC (.bl false))) tNext
abbrev tsRow (K : PySem.W.Frag) : TS := tSeq (tAsg (tCB (rRepL K) (tCons (tLc (iList K (tVar 15)) (gName 20) tYes (tCall (spCopy K) [] E0 (tCons (tVar 20) tNil)) [20]) tNil)) (gName 16)) (tsB K)
abbrev gRow (K : PySem.W.Frag) : TG := gTup K 6 (gCons (gName 10) (gCons (gName 11) (gCons (gName 12) (gCons (gName 13) (gCons (gName 14) (gCons (gName 15) gNil))))))
/-- one row -/
theorem row_turn {D : Ends} {σ : L2.St} {R : Addr} {r : V} {o : Addr} {H2 : Hp} (sl : Sl p lv R σ) (s : Same G H2) (hr : RowIs K G r o) (k : ∀ σ' H', Sl p lv R σ' → Same H2 H' → D.nx σ' H') : gRow K r σ H2 fun σ2 H3 => tsRow K D σ2 H3 := by
  obtain ⟨a0, a2, a4, a5, a6, a7, a9, a10, a11, a12, a13, a14, a15, a16, a17, a18, a19, a20, rfl⟩ := sl
  obtain ⟨⟨t, o2, l1, l2, l3, C, dx, dx2, fs, gs, x1, x2, x3, ds, rfl, ht, ho, ho2, hne, ec, h1, h2, h3, w1, w2, w3, hn, good⟩⟩ := hr
  refine ⟨t, _, rfl, .inl (.inl (s _ _ ht)), rfl, _, _, rfl, _, _, rfl, _, _, rfl, _, _, rfl, _, _, rfl, _, _, rfl, rfl, ?_⟩
  show tLc (iList K (tVar 15)) (gName 20) tYes (tCall (spCopy K) [] E0 (tCons (tVar 20) tNil)) [20] (st a0 (some (.ref p)) a2 (some (.ref lv)) a4 a5 a6 a7 (some (.ref R)) a9 (some (.ref o)) (some (.ref o2)) (some (.bl true)) (some (.ref l1)) (some (.ref l2)) (some (.ref l3)) a16 a17 a18 a19 a20) H2 (fun x H1 => rRepL K [x] H1 (fun y H4 => gName 16 y (st a0 (some (.ref p)) a2 (some (.ref lv)) a4 a5 a6 a7 (some (.ref R)) a9 (some (.ref o)) (some (.ref o2)) (some (.bl true)) (some (.ref l1)) (some (.ref l2)) (some (.ref l3)) a16 a17 a18 a19 a20) H4 (fun σ' H' => tsB K D σ' H')))
  refine due_read (G := G) (σ := st a0 (some (.ref p)) a2 (some (.ref lv)) a4 a5 a6 a7 (some (.ref R)) a9 (some (.ref o)) (some (.ref o2)) (some (.bl true)) (some (.ref l1)) (some (.ref l2)) (some (.ref l3)) a16 a17 a18 a19 a20) rfl (fun _ => rfl) (fun _ => rfl) s (s _ _ h3) w3 hn fun Dl ws G3 H3 gr hD hw => ?_
  obtain ⟨e1, e2, e3⟩ := due_facts good hn
  refine ⟨Dl, ws, ds.map cpy, rfl, .inl (.inl hD), dwAll_same gr.s hw, e1, e2, e3, ?_⟩
  have up : Same G H3 := gr.g.trans gr.s
  have ne0 : (!decide (V.str (PyData.list (ds.map cpy)).shown = V.str (PyData.list (ds.map cpy)).shown)) = false := by
    rw [decide_eq_true rfl]
    rfl
  have end_ : D.nx _ H3 := k (st a0 (some (.ref p)) a2 (some (.ref lv)) a4 a5 a6 a7 (some (.ref R)) a9 (some (.ref o)) (some (.ref o2)) (some (.bl true)) (some (.ref l1)) (some (.ref l2)) (some (.ref l3)) (some (.str (PyData.list (ds.map cpy)).shown)) a17 a18 a19 a20) H3 ⟨_, _, _, _, _, _, _, _, _, _, _, _, _, _, _, _, _, _, rfl⟩ gr.h
  refine ⟨_, rfl, true, true, rfl, rfl, false, rfl, iteF ?_⟩
  refine repL_read (i := 13) rfl (.inl (.inl (up _ _ h1))) (dwAll_same up w1) good hn ⟨_, rfl, rfl, false, congrArg V.bl ne0, iteF ?_⟩
  refine repL_read (i := 14) rfl (.inl (.inl (up _ _ h2))) (dwAll_same up w2) good hn ⟨_, rfl, rfl, false, congrArg V.bl ne0, iteF ?_⟩
  refine ⟨_, rfl, _, rfl, o, o, C, C, dx, dx, fs, fs, rfl, rfl, up _ _ ho, up _ _ ho, ec, ec, true, congrArg V.bl (decide_eq_true rfl), iteF ?_⟩
  exact ⟨_, rfl, _, rfl, o, o2, C, C, dx, dx2, fs, gs, rfl, rfl, up _ _ ho, up _ _ ho2, ec, ec, false, congrArg V.bl (decide_eq_false hne), iteF end_⟩
end
end K90
/-! The law: two rows against each other; the kept list. -/
namespace K90
open PySem L2 PySem.Spec PyProof.Rows

abbrev rLn (K : PySem.W.Frag) : List V → Hp → VK → Prop := fun xs H Q => ∃ x n, xs = [x] ∧ LenV K x H n ∧ Q (.int n) H
abbrev rInt1 : List V → Hp → VK → Prop := fun xs H Q => (∃ i, xs = [V.int i] ∧ Q (.int i) H) ∨ ∃ k, xs = [V.bl k] ∧ Q (.int (if k then 1 else 0)) H
abbrev rAdd : R2 := rI0 fun i j => .int (i + j)
abbrev rSubI : R2 := rI0 fun i j => .int (i - j)
abbrev rModI : R2 := rI (fun _ j => 0 < j) fun i j => .int (i % j)
abbrev tLen8 (K : PySem.W.Frag) : TE := tCB (rLn K) (tCons (tVar 8) tNil)
abbrev tOther (K : PySem.W.Frag) : TE := tOp (rIx K) (tOp (rIx K) (tVar 8) (tOp rModI (tCB rInt1 (tCons (tOp rAdd (tOp rAdd (tVar 2) (tC (.int 1))) (tCall (spDraw K) [] E0 (tCons (tVar 1) (tCons (tOp rSubI (tLen8 K) (tC (.int 1))) tNil)))) tNil)) (tLen8 K))) (tC (.int 0))
abbrev tThis (K : PySem.W.Frag) : TE := tOp (rIx K) (tOp (rIx K) (tVar 8) (tVar 2)) (tC (.int 0))
abbrev tsCmp (K : PySem.W.Frag) : TS := tIfS (tOr (tTest (tOp (rEqI K) (tThis K) (tVar 17))) (tOr (tTest (tOp (rEqI K) (tVar 17) (tThis K))) (tNot (tTest (tOp (rNeI K) (tThis K) (tVar 17)))))) (tRet (tC (.bl false))) tNext
abbrev tsPair (K : PySem.W.Frag) : TS := tSeq (tAsg (tOther K) (gName 17)) (tsCmp K)
section
variable {K : PySem.W.Frag} {G H : Hp} {p lv : Addr} {z : Addr × List Int} {n : Nat} {v0 : V} {vr : List V} {d0 : PyData}
theorem same_but {H' : Hp} (s : Same G H) (gp : G p = none) (k : KeepBut p H H') : Same G H' := fun b o e => k b o (s b o e) (ne_of_none e gp)
/-- rows[j][0] -/
theorem row_at {Q : VK} {R t o2 l1 l2 l3 : Addr} {o : Addr} {rs : List V} {j : Nat} {H : Hp} (hR : H R = some (.lst rs)) (hr : rs[j]? = some (.ref t)) (ht : H t = some (.tup [.ref o, .ref o2, .bl true, .ref l1, .ref l2, .ref l3])) (q : Q (.ref o) H) :
    rIx K (.ref R) (.int (j : Int)) H fun x H1 => rIx K x (.int 0) H1 Q :=
  .inl ⟨R, rs, _, _, rfl, rfl, .inl (.inl hR), atI_nat hr, .inr (.inl ⟨t, _, _, _, rfl, rfl, .inl (.inl ht), rfl, q⟩)⟩
theorem pair_turn {D : Ends} {σ : L2.St} {R : Addr} {rs : List V} {os : List Addr} {H2 : Hp} {i m : Nat} (sl : Sl p lv R σ) (hi : i < 65) (s : Same G H2) (gp : G p = none) (S : PenAt K H2 p z m) (hm : m ≤ 1000) (hR : H2 R = some (.lst rs)) (rw_ : Rows K G rs os) (nd : os.Nodup) (hl : rs.length = 65)
    (k : ∀ σ' H', Sl p lv R σ' → KeepBut p H2 H' → PenAt K H' p z (m + 1) → D.nx σ' H') : gName 2 (.int (0 + (i : Int))) σ H2 fun σ2 H3 => tsPair K D σ2 H3 := by
  obtain ⟨a0, a2, a4, a5, a6, a7, a9, a10, a11, a12, a13, a14, a15, a16, a17, a18, a19, a20, rfl⟩ := sl
  have eI : (0 : Int) + (i : Int) = (i : Int) := by omega
  rw [eI]
  have len : ∀ {Hx : Hp}, Hx R = some (.lst rs) → LenV K (.ref R) Hx 65 := fun h => .inl ⟨rs, .inl (.inl h), hl.symm⟩
  have got : ∀ {j : Nat}, j < 65 → ∃ (t o o2 l1 l2 l3 C dx : Addr) (fs : List (Str × V)), rs[j]? = some (.ref t) ∧ os[j]? = some o ∧ G t = some (.tup [.ref o, .ref o2, .bl true, .ref l1, .ref l2, .ref l3]) ∧ G o = some (.ins C dx fs) ∧ EqC K C := by
    intro j hj
    have e := List.getElem?_eq_getElem (show j < rs.length by omega)
    obtain ⟨o, ho, ⟨⟨t, o2, l1, l2, l3, C, dx, dx2, fs, gs, x1, x2, x3, ds, hr, ht, h3, _, _, ec, _⟩⟩⟩ := rw_.at e
    rw [hr] at e
    exact ⟨t, o, o2, l1, l2, l3, C, dx, fs, e, ho, ht, h3, ec⟩
  show tsPair K D (st a0 (some (.ref p)) (some (.int (i : Int))) (some (.ref lv)) a4 a5 a6 a7 (some (.ref R)) a9 a10 a11 a12 a13 a14 a15 a16 a17 a18 a19 a20) H2
  refine ⟨_, rfl, _, rfl, _, _, rfl, rfl, _, rfl, _, rfl, _, 65, rfl, len hR, _, _, rfl, rfl, p, z, m, _, rfl, S, by omega, by decide, by decide, fun r H3 h0 h1 S3 kb => ?_⟩
  obtain ⟨kvs, hp⟩ := S.dict
  have hR3 : H3 R = some (.lst rs) := kb _ _ hR (ne_of hR hp (by intro z; cases z))
  have s3 : Same G H3 := same_but s gp kb
  refine ⟨_, _, rfl, rfl, .inl ⟨_, rfl, _, rfl, _, 65, rfl, len hR3, _, _, rfl, rfl, (show (0 : Int) < ((65 : Nat) : Int) by decide), ?_⟩⟩
  have h1' : r < 64 := h1
  obtain ⟨j, hj, hji, ej⟩ : ∃ j : Nat, j < 65 ∧ j ≠ i ∧ ((i : Int) + 1 + r) % ((65 : Nat) : Int) = (j : Int) := ⟨(i + 1 + r.toNat) % 65, by omega, by omega, by omega⟩
  show rIx K (.ref R) (.int (((i : Int) + 1 + r) % ((65 : Nat) : Int))) H3 _
  rw [ej]
  obtain ⟨t, o, o2, l1, l2, l3, C, dx, fs, hr, ho, ht, h3, ec⟩ := got hj
  obtain ⟨t', o', o2', l1', l2', l3', C', dx', fs', hr', ho', ht', h3', ec'⟩ := got hi
  have ne : o' ≠ o := fun e => hji (by
    have q : os[j]? = os[i]? := by rw [ho, ho', e]
    have hj2 : j < os.length := by rw [← rw_.len]; omega
    exact (List.getElem?_inj hj2 nd).mp q)
  refine row_at hR3 hr (s3 _ _ ht) ?_
  have this : ∀ {Q : VK}, Q (.ref o') H3 → tThis K (st a0 (some (.ref p)) (some (.int (i : Int))) (some (.ref lv)) a4 a5 a6 a7 (some (.ref R)) a9 a10 a11 a12 a13 a14 a15 a16 (some (.ref o)) a18 a19 a20) H3 Q := fun q =>
    ⟨_, rfl, _, rfl, row_at hR3 hr' (s3 _ _ ht') q⟩
  show tsCmp K D (st a0 (some (.ref p)) (some (.int (i : Int))) (some (.ref lv)) a4 a5 a6 a7 (some (.ref R)) a9 a10 a11 a12 a13 a14 a15 a16 (some (.ref o)) a18 a19 a20) H3
  refine this ⟨_, rfl, o', o, C', C, dx', dx, fs', fs, rfl, rfl, s3 _ _ h3', s3 _ _ h3, ec', ec, false, congrArg V.bl (decide_eq_false ne), iteF ?_⟩
  refine ⟨_, rfl, this ⟨o, o', C, C', dx, dx', fs, fs', rfl, rfl, s3 _ _ h3, s3 _ _ h3', ec, ec', false, congrArg V.bl (decide_eq_false (Ne.symm ne)), iteF ?_⟩⟩
  refine this ⟨_, rfl, o', o, C', C, dx', dx, fs', fs, rfl, rfl, s3 _ _ h3', s3 _ _ h3, ec', ec, ne, true, rfl, iteF ?_⟩
  exact k _ H3 ⟨_, _, _, _, _, _, _, _, _, _, _, _, _, _, _, _, _, _, rfl⟩ kb S3
end
end K90
/-! The law: its end. -/
namespace K90
open PySem L2 PySem.Spec PyProof.Rows

theorem dpAll_len {K : PySem.W.Frag} {G : Hp} : ∀ (ds : List PyData) (xs : List V), DpAll K G xs ds → xs.length = ds.length
  | [], _, h => by
    cases h
    rfl
  | d :: ds, _, h => by
    cases h with
    | cons h1 h2 => exact congrArg Nat.succ (dpAll_len ds _ h2)
theorem shownAll_len : ∀ ds : List PyData, (PyData.shownAll ds).length = ds.length
  | [] => rfl
  | d :: ds => by
    simp only [PyData.shownAll, List.length_cons, shownAll_len ds]
theorem good_len {ds : List PyData} (h : GoodD (.list ds)) : ds.length ≤ 10001 := by
  have h1 := (textFrom_len (PyData.shownAll ds) 0 "[").1
  have h2 := h.l1
  have e : (PyData.list ds).shown = listText (PyData.shownAll ds) := by simp only [PyData.shown]
  have hX : (listText (PyData.shownAll ds)).length = (textFrom 0 "[" (PyData.shownAll ds)).length + 1 := by
    show (textFrom 0 "[" (PyData.shownAll ds) ++ "]").length = _
    rw [strLen_append]; rfl
  rw [e, hX] at h2
  rw [shownAll_len] at h1
  have h3 : (if (0 : Nat) > 0 then (0 : Nat) else 2) = 2 := rfl
  rw [h3] at h1
  omega

abbrev tV0 (K : PySem.W.Frag) : TE := tOp (rIx K) (tVar 3) (tC (.int 0))
abbrev tLots (K : PySem.W.Frag) : TE := tCB (rRepV K) (tCons (tFld K (tVar 18) "lots") tNil)
abbrev tsApp (K : PySem.W.Frag) : TS := tIfS (tTest (tCB (rIsi K) (tCons (tV0 K) (tCons (tC (.ty "list")) tNil)))) (tDrop (tBM K "list" rAppend (tV0 K) (tCons (tC (.int 7)) tNil))) tNext
abbrev tsRet (K : PySem.W.Frag) : TS := tRet (tAndV (tOp rEq (tLots K) (tVar 19)) (tOp rEq (tLen8 K) (tC (.int 65))))
abbrev tsEnd (K : PySem.W.Frag) (C : Addr) : TS := tSeq (tAsg (tMake C (spInit K C ["lots"]) [] E0 (tCons (tV0 K) tNil)) (gName 18)) (tSeq (tAsg (tLots K) (gName 19)) (C8.tCut (tsApp K) (tsRet K)))
section
variable {P : Program} {w : World} {K : PySem.W.Frag} {mg : Str → Option Value} {base : Heap} {G H : Hp} {p lv : Addr} {z : Addr × List Int} {n : Nat} {v0 : V} {vr : List V} {d0 : PyData}
theorem end_read {D : Ends} {σ : L2.St} {R C f : Addr} {fd : FuncData} {rs : List V} (T : ClsT P w K mg base "Five" ["lots"] C f fd) (sl : Sl p lv R σ) (h : Held K p z n lv v0 vr d0 G H) (hR : H R = some (.lst rs)) (hl : rs.length = 65)
    (hne : ∀ m es, v0 = .ref m → d0 = .list es → m ≠ R) (k : ∀ H', D.rt (.bl true) H') : tsEnd K C D σ H := by
  obtain ⟨a0, a2, a4, a5, a6, a7, a9, a10, a11, a12, a13, a14, a15, a16, a17, a18, a19, a20, rfl⟩ := sl
  have at0 : atI (v0 :: vr) 0 = some v0 := atI_nat (j := 0) rfl
  refine ⟨_, rfl, .inl ⟨lv, _, _, v0, rfl, rfl, .inl (.inl h.hlv), at0, fun x dx nx ndx ne => ?_⟩⟩
  refine make_fresh (fs := ["lots"]) (ws := [v0]) (ds := [d0]) h.s rfl (.cons h.val.dv .nil) nx ndx ne fun G3 H3 zs gr hx hlz hw => ?_
  obtain ⟨u, rfl⟩ : ∃ u, zs = [u] := by
    match zs, hlz with
    | [u], _ => exact ⟨u, rfl⟩
  have hw1 : Dw K G3 u (cpy d0) := by
    cases hw with
    | cons h _ => exact h
  have hh := h.grow gr
  have hR3 := gr.h _ _ hR
  have na := T.na "lots" (List.mem_singleton.mpr rfl)
  have dp : (cpy d0).depth ≤ 20 := by
    rw [cpy_depth]
    exact Nat.le_trans h.good.dp (by decide)
  have lz : (cpy d0).shown.length ≤ sizeLine := Nat.le_trans h.good.l2 (by decide)
  refine ⟨_, rfl, x, C, dx, _, u, rfl, gr.s _ _ hx, T.ins.cl, na, rfl, u, cpy d0, rfl, dw_same gr.s hw1, cpy_sh h.good.sh, dp, lz, ?_⟩
  refine ⟨fun σ' H' => σ' = st a0 (some (.ref p)) a2 (some (.ref lv)) a4 a5 a6 a7 (some (.ref R)) a9 a10 a11 a12 a13 a14 a15 a16 a17 (some (.ref x)) (some (.str (cpy d0).shown)) a20 ∧ Same G3 H' ∧ H' R = some (.lst rs), ?_, ?_⟩
  · obtain ⟨t, ty, kt⟩ := dw_ty (hh.val.dv.here gr.s)
    refine ⟨_, rfl, .inl ⟨lv, _, _, v0, rfl, rfl, .inl (.inl hh.hlv), at0, ?_⟩⟩
    refine ⟨v0, .ty "list", t, .type "list", isL d0, rfl, .ty _, ty, kt, isL d0, rfl, ?_⟩
    have hv := hh.val
    cases hv with
    | flat h' n =>
      rw [n]
      exact iteF ⟨rfl, gr.s, hR3⟩
    | @list m xs es hm hG ha =>
      refine iteT ?_
      have sz : xs.length < sizeLine := by
        rw [dpAll_len _ _ ha]
        exact Nat.lt_of_le_of_lt (good_len h.good) (by decide)
      refine ⟨_, rfl, .inl ⟨lv, _, _, .ref m, rfl, rfl, .inl (.inl hh.hlv), at0, .inl ⟨rfl, xs, .inl (.inl hm)⟩, m, xs, .int 7, rfl, rfl, hm, sz, rfl, fun b o e => ?_, ?_⟩⟩
      · rw [upd_ne (ne_of_none e hG)]
        exact gr.s b o e
      · rw [upd_ne (Ne.symm (hne m es rfl rfl))]
        exact hR3
  · rintro σ' H' ⟨rfl, s3, hR'⟩
    refine ⟨_, rfl, x, C, dx, _, u, rfl, s3 _ _ hx, T.ins.cl, na, rfl, u, cpy d0, rfl, dw_same s3 hw1, cpy_sh h.good.sh, dp, lz, _, rfl, rfl, true, congrArg V.bl (decide_eq_true rfl), iteT ?_⟩
    refine ⟨_, rfl, .ref R, 65, rfl, .inl ⟨rs, .inl (.inl hR'), hl.symm⟩, rfl, ?_⟩
    have e : decide (V.int ((65 : Nat) : Int) = V.int 65) = true := decide_eq_true rfl
    show D.rt (.bl (decide (V.int ((65 : Nat) : Int) = V.int 65))) H'
    rw [e]
    exact k H'
end
end K90
/-! The law's def. -/
namespace K90
open PySem L2 PySem.Spec PyProof.Rows

/-- what is known of a def -/
structure Told (P : Program) (w : World) (K : PySem.W.Frag) (mg : Str → Option Value) (base : Heap) (x : Str) (k : Nat) (ps : List Str) (sp : Sp) (f : Addr) (fd : FuncData) : Prop where
  ok : FnOk P w K mg base CX0 k f fd ps sp
  m : mg x = some (.ref f)
  kp : PySem.W.keepIn K (.ref f) = true
  b : Binds K fd ps []
abbrev sLaw : Stmt := top 105
abbrev lawN : List Str := ["script", "pen", "k", "values", "a", "b", "c", "d", "rows", "more", "one", "two", "kind", "first", "second", "handed", "due", "other", "kept", "before", "value"]
theorem scLaw : FnScope lawN ["script"] (defScope sLaw) := ⟨rfl, rfl, rfl, by decide +kernel, rfl, by decide +kernel, by decide +kernel⟩
def spLaw (K : PySem.W.Frag) : Sp := fun vs H Q _ => ∃ (a : Addr) (ns : List Int), vs = [.ref a] ∧ SqL K H a (ns.map V.int) ∧ ns.length ≤ 63 ∧ ∀ H', Q (.bl true) H'
/-- between the loops -/
def Mid (K : PySem.W.Frag) (n : Nat) (σ : L2.St) (H : Hp) : Prop := ∃ (p lv R : Addr) (z : Addr × List Int) (v0 : V) (vr : List V) (d0 : PyData) (G : Hp) (rs : List V) (os : List Addr),
  Sl p lv R σ ∧ Held K p z n lv v0 vr d0 G H ∧ H R = some (.lst rs) ∧ Rows K G rs os ∧ os.Nodup ∧ rs.length = 65 ∧ (∀ m es, v0 = .ref m → d0 = .list es → m ≠ R)
theorem Sl.r {p lv R : Addr} {σ : L2.St} (h : Sl p lv R σ) : σ[8]? = some (some (.ref R)) := by
  obtain ⟨_, _, _, _, _, _, _, _, _, _, _, _, _, _, _, _, _, _, rfl⟩ := h
  rfl
def MidA (K : PySem.W.Frag) (a : Addr) (σ : L2.St) (H : Hp) : Prop := ∃ (p lv : Addr) (z : Addr × List Int) (vs : List V) (ds : List PyData) (G : Hp), σ = st (some (.ref a)) (some (.ref p)) none (some (.ref lv)) none none none none none none none none none none none none none none none none none ∧
  Same G H ∧ G p = none ∧ PenAt K H p z 16 ∧ H lv = some (.lst vs) ∧ ValAll K G H vs ds ∧ vs.length = 4 ∧ ∀ d ∈ ds, GoodD d
def MidB (K : PySem.W.Frag) (a : Addr) (σ : L2.St) (H : Hp) : Prop := ∃ (p lv : Addr) (z : Addr × List Int) (v0 : V) (vr : List V) (d0 : PyData) (ds : List PyData) (wa wb wc wd : V) (G : Hp),
  σ = st (some (.ref a)) (some (.ref p)) none (some (.ref lv)) (some wa) (some wb) (some wc) (some wd) none none none none none none none none none none none none none ∧ Held K p z 16 lv v0 vr d0 G H ∧ DwAll K G [wa, wb, wc, wd] ds ∧ ∀ d ∈ ds, GoodD d
theorem tAsg_of {te : TE} {g : TG} {D : Ends} {σ : L2.St} {H : Hp} (h : te σ H fun x H1 => g x σ H1 D.nx) : tAsg te g D σ H := h
theorem tLst_of {t : TA} {σ : L2.St} {H : Hp} {Q : VK} (h : t σ H fun vs H1 => vs.length ≤ sizeLine ∧ ∀ l, H1 l = none → Q (.ref l) (upd H1 l (.lst vs))) : tLst t σ H Q := h
theorem tCons_of {t : TE} {u : TA} {σ : L2.St} {H : Hp} {Q : List V → Hp → Prop} (h : t σ H fun x H1 => u σ H1 fun xs H2 => Q (x :: xs) H2) : tCons t u σ H Q := h
theorem tFor_list {K : PySem.W.Frag} {tl : TE} {g : TG} {tb : TS} {D : Ends} {σ : L2.St} {H : Hp} (h : tl σ H fun x H1 => ∃ a, x = .ref a ∧ (∃ xs, SqL K H1 a xs) ∧ ∃ W : Nat → Nat → L2.St → Hp → Prop, (∃ m, W 0 m σ H1) ∧ ∀ i m σ H, W i m σ H →
    ((Itl K a).stop i H ∧ D.nx σ H) ∨ ((Itl K a).go i H ∧ ∃ N : L2.St → Hp → Prop, (∀ σ' H', N σ' H' → ∃ m', m' < m ∧ W (i + 1) m' σ' H') ∧ ∀ x H', (Itl K a).yld i H x H' → g x σ H' fun σ2 H2 => tb { D with nx := N, ct := N, bk := D.nx } σ2 H2)) : tFor (iList K tl) g tb D σ H := h
section
variable {P : Program} {w : World} {K : PySem.W.Frag} {mg : Str → Option Value} {base : Heap}
theorem ok_law {f fpen fdraw fval fa fb fc fd_ fe ff fbare fcopy C fI : Addr} {fd dpen ddraw dval da db dc dd de df dbare dcopy dI : FuncData} (F : FnP K "law" sLaw f fd)
    (mI : mg "isinstance" = none) (mL : mg "list" = none) (mN : mg "len" = none) (mInt : mg "int" = none) (mR : mg "range" = none) (mRep : mg "repr" = none)
    (TP : Told P w K mg base "_law_pen" 1 ["script"] (spPen K) fpen dpen) (TD : Told P w K mg base "_law_draw" 1 ["pen", "many"] (spDraw K) fdraw ddraw) (TV : Told P w K mg base "_law_value" 3 ["pen"] (spValue K) fval dval)
    (TA : Told P w K mg base "_law_made_a" 4 ["a", "b", "c", "d"] (spMade K 11) fa da) (TB : Told P w K mg base "_law_made_b" 4 ["a", "b", "c", "d"] (spMade K 11) fb db) (TC : Told P w K mg base "_law_made_c" 4 ["a", "b", "c", "d"] (spMade K 11) fc dc)
    (TE_ : Told P w K mg base "_law_made_d" 4 ["a", "b", "c", "d"] (spMade K 11) fd_ dd) (TF : Told P w K mg base "_law_made_e" 4 ["a", "b", "c", "d"] (spMade K 11) fe de) (TG_ : Told P w K mg base "_law_made_f" 4 ["a", "b", "c", "d"] (spMade K 8) ff df)
    (TB0 : Told P w K mg base "_law_bare" 1 [] (spBare K) fbare dbare) (TC0 : Told P w K mg base "_law_copy" 1 ["value"] (spCopy K) fcopy dcopy) (T5 : ClsT P w K mg base "Five" ["lots"] C fI dI) :
    FnG P w K mg base CX0 5 f fd ["script"] (spLaw K) := by
  refine okG F scLaw (fun vs H Q E h => ?_) (fun cdv A outer s H vs Q E hg hr h => ?_)
  · obtain ⟨a, ns, rfl, _⟩ := h
    rfl
  · obtain ⟨a, ns, rfl, hS, hn, k⟩ := h
    have hr1 : Room 1 _ := hr.mono (by decide)
    have hr3 : Room 3 _ := hr.mono (by decide)
    have hu := hu_of hr
    have hu64 := hr.units
    refine ⟨_, PSs.nox (pss_cons (ps_set (i := 1) scLaw.nd rfl (Or.inr rfl) (pe_call TP.ok hr1 (by rfl) TP.m TP.kp TP.b .nil pass0 (pa_cons (pv 0) pa_nil)))
      (C8.pss_cut (ps_setLc (i := 3) (own := [("k", 2)]) (g := gName 2) (tt := tYes) rfl scLaw.nd rfl rfl (by rfl) (pi_range1 (by rfl) mR (pa_cons pe_int pa_nil)) (blkOk_by (own := [("k", 2)]) (N := lawN) (sc := defScope sLaw) (by decide +kernel))
          (fun _ _ _ _ _ => pg_name (i := 2) scLaw.nd rfl (Or.inl rfl)) (fun _ _ _ _ _ => pts_nil) (fun _ _ _ _ _ => pe_call TV.ok hr3 (by rfl) TV.m TV.kp TV.b .nil pass0 (pa_cons (pv 1) pa_nil)))
      (C8.pss_cut (ps_asg (pe_lc (own := [("value", 20)]) (g := gName 20) (tt := tYes) (te := tIf (tB (tCB (rIsi K) (tCons (tVar 20) (tCons (tC (.ty "list")) tNil)))) (tCB (rToL K) (tCons (tVar 20) tNil)) (tVar 20)) rfl scLaw.nd (pi_list (pv 3)) (blkOk_by (own := [("value", 20)]) (N := lawN) (sc := defScope sLaw) (by decide +kernel))
          (fun _ _ _ _ _ => pg_name (i := 20) scLaw.nd rfl (Or.inl rfl)) (fun _ _ _ _ _ => pts_nil)
          (fun _ _ _ _ _ => pe_ifExp (pt_val (pe_callB (id := "isinstance") call_isi (by rfl) mI (by decide +kernel) (pa_cons (pv 20) (pa_cons (pe_bltn (v := .ty "list") (by rfl) mL (by decide +kernel) rfl) pa_nil)))) (pe_callTy (T := "list") call_list_of (by rfl) mL (by decide +kernel) (pa_cons (pv 20) pa_nil)) (pv 20)))
          (pg_unl (n := 4) rfl (pgs_cons (pg_name (i := 4) scLaw.nd rfl (Or.inl rfl)) (pgs_cons (pg_name (i := 5) scLaw.nd rfl (Or.inl rfl)) (pgs_cons (pg_name (i := 6) scLaw.nd rfl (Or.inl rfl)) (pgs_cons (pg_name (i := 7) scLaw.nd rfl (Or.inl rfl)) pgs_nil))))))
      (pss_cons (ps_set (i := 8) scLaw.nd rfl (Or.inl rfl) (pe_call0 TB0.ok hr1 (by rfl) TB0.m TB0.kp TB0.b .nil pass0))
      (C8.pss_cut (ps_for PassesOwn.never rfl (pi_list (pe_lst
            (pa_cons (pe_call TA.ok hr (by rfl) TA.m TA.kp TA.b .nil pass0 (pa_cons (pv 4) (pa_cons (pv 5) (pa_cons (pv 6) (pa_cons (pv 7) pa_nil)))))
            (pa_cons (pe_call TB.ok hr (by rfl) TB.m TB.kp TB.b .nil pass0 (pa_cons (pv 4) (pa_cons (pv 5) (pa_cons (pv 6) (pa_cons (pv 7) pa_nil)))))
            (pa_cons (pe_call TC.ok hr (by rfl) TC.m TC.kp TC.b .nil pass0 (pa_cons (pv 4) (pa_cons (pv 5) (pa_cons (pv 6) (pa_cons (pv 7) pa_nil)))))
            (pa_cons (pe_call TE_.ok hr (by rfl) TE_.m TE_.kp TE_.b .nil pass0 (pa_cons (pv 4) (pa_cons (pv 5) (pa_cons (pv 6) (pa_cons (pv 7) pa_nil)))))
            (pa_cons (pe_call TF.ok hr (by rfl) TF.m TF.kp TF.b .nil pass0 (pa_cons (pv 4) (pa_cons (pv 5) (pa_cons (pv 6) (pa_cons (pv 7) pa_nil)))))
            (pa_cons (pe_call TG_.ok hr (by rfl) TG_.m TG_.kp TG_.b .nil pass0 (pa_cons (pv 4) (pa_cons (pv 5) (pa_cons (pv 6) (pa_cons (pv 7) pa_nil))))) pa_nil)))))))) (pg_name (i := 9) scLaw.nd rfl (Or.inl rfl))
          (pss_one (ps_set (i := 8) scLaw.nd rfl (Or.inl rfl) (pe_op op_cat (pv 8) (pv 9)))))
      (C8.pss_cut (ps_for PassesOwn.never rfl (pi_list (pv 8)) (pg_tup (n := 6) rfl (pgs_cons (pg_name (i := 10) scLaw.nd rfl (Or.inl rfl)) (pgs_cons (pg_name (i := 11) scLaw.nd rfl (Or.inl rfl)) (pgs_cons (pg_name (i := 12) scLaw.nd rfl (Or.inl rfl))
              (pgs_cons (pg_name (i := 13) scLaw.nd rfl (Or.inl rfl)) (pgs_cons (pg_name (i := 14) scLaw.nd rfl (Or.inl rfl)) (pgs_cons (pg_name (i := 15) scLaw.nd rfl (Or.inl rfl)) pgs_nil)))))))
          (pss_cons (ps_set (i := 16) scLaw.nd rfl (Or.inl rfl) (pe_callB (call_reprL hg hu64) (by rfl) mRep (by decide +kernel) (pa_cons (pe_lc (own := [("value", 20)]) (g := gName 20) (tt := tYes) rfl scLaw.nd (pi_list (pv 15)) (blkOk_by (own := [("value", 20)]) (N := lawN) (sc := defScope sLaw) (by decide +kernel))
              (fun _ _ _ _ _ => pg_name (i := 20) scLaw.nd rfl (Or.inl rfl)) (fun _ _ _ _ _ => pts_nil) (fun _ _ _ _ _ => pe_call TC0.ok hr1 (by rfl) TC0.m TC0.kp TC0.b .nil pass0 (pa_cons (pv 20) pa_nil))) pa_nil)))
          (pss_one (ps_if (PW.pt (pw_or (pt_cmpR op_notBl (pv 12) pe_bl (nomark _)) (pw_or (pt_cmpR op_ne (pe_callB (call_reprL hg hu64) (by rfl) mRep (by decide +kernel) (pa_cons (pv 13) pa_nil)) (pv 16) (nomark _))
              (pw_or (pt_cmpR op_ne (pe_callB (call_reprL hg hu64) (by rfl) mRep (by decide +kernel) (pa_cons (pv 14) pa_nil)) (pv 16) (nomark _)) (pw_or (pt_not (pt_cmpR (op_eqI hu) (pv 10) (pv 10) (nomark _))) (pw_or1 (pt_cmpR (op_eqI hu) (pv 10) (pv 11) (nomark _))))))))
              (pss_one (ps_ret pe_bl)) pss_nil))))
      (C8.pss_cut (ps_for PassesOwn.never rfl (pi_range1 (by rfl) mR (pa_cons (pe_callB call_len (by rfl) mN PySem.boot_len (pa_cons (pv 8) pa_nil)) pa_nil)) (pg_name (i := 2) scLaw.nd rfl (Or.inl rfl))
          (pss_cons (ps_set (i := 17) scLaw.nd rfl (Or.inl rfl) (pe_ix ix_seq (pe_ix ix_seq (pv 8) (pe_op op_mod (pe_callTy call_int1 (by rfl) mInt (by decide +kernel) (pa_cons (pe_op op_add (pe_op op_add (pv 2) pe_int)
              (pe_call TD.ok hr1 (by rfl) TD.m TD.kp TD.b .nil pass0 (pa_cons (pv 1) (pa_cons (pe_op op_sub (pe_callB call_len (by rfl) mN PySem.boot_len (pa_cons (pv 8) pa_nil)) pe_int) pa_nil)))) pa_nil)) (pe_callB call_len (by rfl) mN PySem.boot_len (pa_cons (pv 8) pa_nil))) (fun _ _ => rfl)) pe_int (fun _ _ => rfl)))
          (pss_one (ps_if (PW.pt (pw_or (pt_cmpR (op_eqI hu) (pe_ix ix_seq (pe_ix ix_seq (pv 8) (pv 2) (fun _ _ => rfl)) pe_int (fun _ _ => rfl)) (pv 17) (nomark _)) (pw_or (pt_cmpR (op_eqI hu) (pv 17) (pe_ix ix_seq (pe_ix ix_seq (pv 8) (pv 2) (fun _ _ => rfl)) pe_int (fun _ _ => rfl)) (nomark _))
              (pw_or1 (pt_not (pt_cmpR (op_neI hu) (pe_ix ix_seq (pe_ix ix_seq (pv 8) (pv 2) (fun _ _ => rfl)) pe_int (fun _ _ => rfl)) (pv 17) (nomark _)))))))
              (pss_one (ps_ret pe_bl)) pss_nil))))
      (pss_cons (ps_set (i := 18) scLaw.nd rfl (Or.inl rfl) (pe_make T5.mkr T5.ok hr3 (by rfl) T5.m T5.b .nil pass0 (pa_cons (pe_ix ix_seq (pv 3) pe_int (fun _ _ => rfl)) pa_nil)))
      (pss_cons (ps_set (i := 19) scLaw.nd rfl (Or.inl rfl) (pe_callB (call_reprV hg hu64) (by rfl) mRep (by decide +kernel) (pa_cons (pe_fld (pv 18) rfl) pa_nil)))
      (C8.pss_cut (ps_if (pt_val (pe_callB call_isi (by rfl) mI (by decide +kernel) (pa_cons (pe_ix ix_seq (pv 3) pe_int (fun _ _ => rfl)) (pa_cons (pe_bltn (v := .ty "list") (by rfl) mL (by decide +kernel) rfl) pa_nil))))
          (pss_one (ps_expr (pe_bm PySem.F.plainAttrs_list PySem.F.slot_list_append PySem.F.type_list_append mt_append (pe_ix ix_seq (pv 3) pe_int (fun _ _ => rfl)) (pa_cons pe_int pa_nil)))) pss_nil)
      (pss_one (ps_ret (pe_and (pe_cmpR op_eq (pe_callB (call_reprV hg hu64) (by rfl) mRep (by decide +kernel) (pa_cons (pe_fld (pv 18) rfl) pa_nil)) (pv 19) (nomark _))
          (pe_one (pe_cmpR op_eq (pe_callB call_len (by rfl) mN PySem.boot_len (pa_cons (pv 8) pa_nil)) pe_int (nomark _)))))))))))))))), ?_⟩
    refine ⟨_, rfl, a, ns, rfl, hS, hn, fun p z H1 np S1 s01 => ?_⟩
    refine ⟨MidA K a, ?_, fun σ2 H2 M2 => ?_⟩
    · refine tAsg_of (values_read s01 np S1 fun lv vs ds G2 H2 s2 gp2 S2 hlv va h4 good => ?_)
      exact ⟨p, lv, z, vs, ds, G2, rfl, s2, gp2, S2, hlv, va, h4, good⟩
    obtain ⟨p, lv, z, vs, ds, G2, rfl, s2, gp2, S2, hlv, va, h4, good⟩ := M2
    obtain ⟨v0, v1, v2, v3, rfl⟩ : ∃ v0 v1 v2 v3, vs = [v0, v1, v2, v3] := by
      match vs, h4 with
      | [v0, v1, v2, v3], _ => exact ⟨v0, v1, v2, v3, rfl⟩
    obtain ⟨d0, hd0, hv0⟩ := va.at (i := 0) rfl
    have hh2 : Held K p z 16 lv v0 [v1, v2, v3] d0 G2 H2 := ⟨s2, gp2, S2, hlv, hv0, good d0 (List.mem_of_getElem? hd0)⟩
    refine ⟨MidB K a, ?_, fun σ3 H3 M3 => ?_⟩
    · refine tAsg_of (copies_read s2 hlv va h4 fun Dl ws G3 H3 g3 hD dw => ?_)
      obtain ⟨wa, wb, wc, wd, rfl⟩ : ∃ wa wb wc wd, ws = [wa, wb, wc, wd] := by
        have e : ws.length = 4 := dw.len.trans (va.len.symm.trans h4)
        match ws, e with
        | [wa, wb, wc, wd], _ => exact ⟨wa, wb, wc, wd, rfl⟩
      exact ⟨Dl, _, rfl, .inl (.inl hD), rfl, wa, _, rfl, wb, _, rfl, wc, _, rfl, wd, _, rfl, rfl, p, lv, z, v0, _, d0, ds, wa, wb, wc, wd, G3, rfl, hh2.grow g3, dw, good⟩
    obtain ⟨p, lv, z, v0, vr, d0, ds, wa, wb, wc, wd, G3, rfl, hh3, dw, good⟩ := M3
    have g3 := Grow.refl hh3.s
    have hh2 := hh3
    refine ⟨G3, rfl, g3.s, fun l0 G4 H4 rs0 os0 g4 nl0 Gl0 hl0 R0 hn0 nd0 fr0 => ?_⟩
    have hh4 := hh2.grow (g3.trans g4)
    have at0 : ∀ (i : Nat) (l : Addr), [l0][i]? = some l → ∃ rs, [rs0][i]? = some rs ∧ H4 l = some (.lst rs) := fun i l e => by
      cases i with
      | zero =>
        cases e
        exact ⟨rs0, rfl, hl0⟩
      | succ i => cases e
    have got0 : Got K G4 H4 [l0] [rs0] os0 2 := ⟨at0, rfl, by simpa using R0, nd0, by simpa using hn0⟩
    have dw4 := dwAll_same g4.g dw
    refine ⟨Mid K 16, ?_, fun σ5 H5 M5 => ?_⟩
    · refine tFor_list (tLst_of (tCons_of (made_read (m := 11) rfl rfl rfl rfl g4.s dw4 good got0 fun l1 rs1 os1 G5 H5 g5 got1 => ?_)))
      have dw5 := dwAll_same g5.g dw4
      refine tCons_of (made_read (m := 11) rfl rfl rfl rfl g5.s dw5 good got1 fun l2 rs2 os2 G6 H6 g6 got2 => ?_)
      have dw6 := dwAll_same g6.g dw5
      refine tCons_of (made_read (m := 11) rfl rfl rfl rfl g6.s dw6 good got2 fun l3 rs3 os3 G7 H7 g7 got3 => ?_)
      have dw7 := dwAll_same g7.g dw6
      refine tCons_of (made_read (m := 11) rfl rfl rfl rfl g7.s dw7 good got3 fun l4 rs4 os4 G8 H8 g8 got4 => ?_)
      have dw8 := dwAll_same g8.g dw7
      refine tCons_of (made_read (m := 11) rfl rfl rfl rfl g8.s dw8 good got4 fun l5 rs5 os5 G9 H9 g9 got5 => ?_)
      have dw9 := dwAll_same g9.g dw8
      refine tCons_of (made_read (m := 8) rfl rfl rfl rfl g9.s dw9 good got5 fun l6 rs6 os6 GA HA gA got6 => ?_)
      refine ⟨by show 6 ≤ sizeLine; decide, fun M nM => ⟨M, rfl, ⟨_, .inl (.inl upd_same)⟩, ?_⟩⟩
      have gM := Grow.out (o := .lst [.ref l1, .ref l2, .ref l3, .ref l4, .ref l5, .ref l6]) gA.s nM
      have got7 : Got K GA _ (l0 :: [l1, l2, l3, l4, l5, l6]) _ _ 65 := got6.grow gM
      have hhA := (((((((hh4.grow g5).grow g6).grow g7).grow g8).grow g9).grow gA)).grow gM
      refine mores_loop (p := p) (lv := lv) (l0 := l0) (lt := [l1, l2, l3, l4, l5, l6]) (n := 65) ⟨_, _, _, _, _, _, _, _, _, _, _, _, _, _, _, _, _, _, rfl⟩ got7 (by decide) (Nat.succ_pos _) upd_same fun R σ' H' sl sm nR hR => ?_
      refine ⟨p, lv, R, z, v0, _, d0, GA, _, _, sl, hhA.grow (Grow.same hhA.s sm), hR, got7.R, got7.nd, got7.sz, fun m es e1 e2 e3 => ?_⟩
      have hv := hhA.val
      rw [e1, e2] at hv
      cases hv with
      | flat _ n => cases n
      | list hm _ _ =>
        rw [e3, nR] at hm
        cases hm
    · obtain ⟨p, lv, R, z, v0, vr, d0, G5, rs, os, sl, hh, hR, hrw, nd, hl, hne⟩ := M5
      refine ⟨Mid K 16, ?_, fun σ6 H6 M6 => ?_⟩
      · refine ⟨_, sl.r, R, rfl, ⟨rs, .inl (.inl hR)⟩, for_list (xs := rs) (fun i σ' H' => Sl p lv R σ' ∧ Same H5 H') ⟨sl, Same.refl _⟩ (fun i σ' H' _ ⟨_, sm⟩ => .inl (.inl (sm _ _ hR))) (fun i x σ' H' hx ⟨sl', sm⟩ => ?_) (fun σ' H' ⟨sl', sm⟩ => ?_)⟩
        · obtain ⟨o, ho, hr⟩ := hrw.at hx
          exact row_turn sl' (hh.s.trans sm) hr fun σ'' H'' sl'' sm' => ⟨sl'', sm.trans sm'⟩
        · exact ⟨p, lv, R, z, v0, vr, d0, G5, rs, os, sl', hh.grow (Grow.same hh.s sm), sm _ _ hR, hrw, nd, hl, hne⟩
      · obtain ⟨p, lv, R, z, v0, vr, d0, G5, rs, os, sl, hh, hR, hrw, nd, hl, hne⟩ := M6
        obtain ⟨kvs, hp⟩ := hh.pen.dict
        refine ⟨Mid K 81, ?_, fun σ7 H7 M7 => ?_⟩
        · refine ⟨_, sl.r, .ref R, 65, rfl, .inl ⟨rs, .inl (.inl hR), hl.symm⟩, ((65 : Nat) : Int), rfl, by decide, by decide, for_range (lo := 0) (n := 65) (fun i σ' H' => Sl p lv R σ' ∧ KeepBut p H6 H' ∧ PenAt K H' p z (16 + i)) ⟨sl, KeepBut.refl p _, hh.pen⟩ (fun i σ' H' hi ⟨sl', kb, S'⟩ => ?_) (fun σ' H' ⟨sl', kb, S'⟩ => ?_)⟩
          · exact pair_turn sl' hi (same_but hh.s hh.gp kb) hh.gp S' (by omega) (kb _ _ hR (ne_of hR hp (by intro z; cases z))) hrw nd hl fun σ'' H'' sl'' kb' S'' => ⟨sl'', kb.trans kb', S''⟩
          · have gr : GrowAt p G5 H6 G5 H' := ⟨Same.refl G5, kb, same_but hh.s hh.gp kb, fun _ h _ => h⟩
            exact ⟨p, lv, R, z, v0, vr, d0, G5, rs, os, sl', ⟨gr.s, hh.gp, S', kb _ _ hh.hlv (ne_of hh.hlv hp (by intro z; cases z)), hh.val.growAt gr hp, hh.good⟩, kb _ _ hR (ne_of hR hp (by intro z; cases z)), hrw, nd, hl, hne⟩
        · obtain ⟨p, lv, R, z, v0, vr, d0, G5, rs, os, sl, hh, hR, hrw, nd, hl, hne⟩ := M7
          exact end_read T5 sl hh hR hl hne k
end
end K90
/-! What the head tells, turned into what the walk asks. -/
namespace K90
open PySem L2
structure HeadK (K : PySem.W.Frag) : Prop where
  u : He.SaysD faU fnU K
  v : He.SaysD faV fnV K
  ex : exAll K = true
theorem eqC_of {K : PySem.W.Frag} {x : Str} (e : exC K x = true) : EqC K (He.ga K x) := by
  obtain ⟨e1, e⟩ := He.ba e
  obtain ⟨e2, e⟩ := He.ba e
  obtain ⟨e3, _⟩ := He.ba e
  exact ⟨of_decide_eq_true e1, He.eqO_ok e2, He.eqO_ok e3⟩
theorem HeadK.i {K : PySem.W.Frag} (h : HeadK K) {p : Nat × Str × List Str} (hp : p ∈ clsI) : exC K p.2.1 = true := List.all_eq_true.mp (He.ba h.ex).1 p hp
theorem HeadK.b {K : PySem.W.Frag} (h : HeadK K) {x : Str} (hp : x ∈ clsB) : exC K x = true ∧ exB K x = true := He.ba (List.all_eq_true.mp (He.ba (He.ba h.ex).2).1 x hp)
theorem insC_of {K : PySem.W.Frag} {x : Str} (h : HeadK K) (cl : Cls K (He.ga K x)) (e : exC K x = true) : C8.InsC K (He.ga K x) := by
  have e4 := (He.ba (He.ba (He.ba e).2).2).2
  obtain ⟨s1, s2⟩ := He.ba (He.ba (He.ba h.ex).2).2
  refine ⟨cl, He.eqO_ok e4, He.eqO_ok s1, of_decide_eq_true s2, (eqC_of e).top, ?_⟩
  unfold PySem.W.kitOne
  rw [if_pos (by simp)]
section
variable {P : Program} {w : World} {K : PySem.W.Frag} {h : Heap} {mg : Str → Option Value} {base : Heap}
theorem cls_told (c : HeadK K) (X : K.In h) (G : h.Ns mainGlobals mg) (p : Nat × Str × List Str) (hp : p ∈ clsU ∨ p ∈ clsV) : ∃ fd, ClsH K mg p.2.1 p.1 p.2.2 (He.ga K p.2.1) (He.ma K (He.ga K p.2.1) "__init__") fd := by
  have hI : p ∈ clsI := by
    have e : clsI = clsU ++ clsV := by unfold clsI clsU clsV; simp only [List.append_assoc]
    rw [e]
    exact List.mem_append.mpr hp
  have fact : ∀ {f : He.Fa}, f ∈ faC p → f.ok K = true := fun {f} hf => by
    rcases hp with hp | hp
    · exact c.u.facts (List.mem_append_right _ (List.mem_append_left _ (List.mem_flatMap.mpr ⟨p, hp, hf⟩)))
    · exact c.v.facts (List.mem_append_left _ (List.mem_flatMap.mpr ⟨p, hp, hf⟩))
  have fn : ∃ fd, InitD K p.2.1 p.1 (He.ma K (He.ga K p.2.1) "__init__") fd := by
    rcases hp with hp | hp
    · exact c.u.defs (d := dInit p) (List.mem_append_right _ (List.mem_map.mpr ⟨p, hp, rfl⟩))
    · exact c.v.defs (d := dInit p) (List.mem_map.mpr ⟨p, hp, rfl⟩)
  obtain ⟨fd, F⟩ := fn
  have hc := He.cls_ok (fact (List.mem_append_left _ (List.mem_cons_of_mem _ (List.mem_cons_self))))
  exact ⟨fd, He.glo_ok X G (fact (List.mem_append_left _ List.mem_cons_self)), He.mkr_ok (fact (List.mem_append_left _ (List.mem_cons_of_mem _ (List.mem_cons_of_mem _ List.mem_cons_self)))), F, insC_of c hc (c.i hI), eqC_of (c.i hI),
    fun g hg => He.noat_ok (fact (List.mem_append_right _ (List.mem_map.mpr ⟨g, hg, rfl⟩)))⟩
theorem bare_told (c : HeadK K) (X : K.In h) (G : h.Ns mainGlobals mg) (x : Str) (hx : x ∈ clsB) : BareT K mg x (He.ga K x) := by
  have fact : ∀ {f : He.Fa}, f ∈ ([.glo x, .cls x, .keep x] : List He.Fa) → f.ok K = true := fun {f} hf => c.v.facts (List.mem_append_right _ (List.mem_flatMap.mpr ⟨x, hx, hf⟩))
  obtain ⟨e1, e2⟩ := c.b hx
  obtain ⟨b1, b2⟩ := He.ba e2
  exact ⟨He.glo_ok X G (fact List.mem_cons_self), b1, He.eqO_ok b2, He.keep_ok (fact (List.mem_cons_of_mem _ (List.mem_cons_of_mem _ List.mem_cons_self))), insC_of c (He.cls_ok (fact (List.mem_cons_of_mem _ List.mem_cons_self))) e1, eqC_of e1⟩
theorem told_of {x : Str} {i k : Nat} {ps : List Str} {sp : Sp} {f : Addr} {fd : FuncData} (F : FnP K x (top i) f fd) (m : mg x = some (.ref f)) (ok : FnOk P w K mg base CX0 k f fd ps sp) (b : Binds K fd ps []) : Told P w K mg base x k ps sp f fd := ⟨ok, m, F.kp, b⟩
theorem law_told {f : Addr} (X : K.In h) (G : h.Ns mainGlobals mg) (hfa : mg ("law" : Str) = some (.ref f)) (c : HeadK K) :
    ∃ fd : FuncData, (∀ (s : Shared) (v : Value), BindsTo s fd ⟨[v], []⟩ [("script", v)]) ∧ ∀ base : Heap, K.In base → base.Ns mainGlobals mg → FnG P w K mg base CX0 5 f fd ["script"] (spLaw K) := by
  obtain ⟨d_copied, E_copied⟩ := c.u.def_ 0 (d := dDef (1, "copied")) rfl
  have F_copied : FnP K "copied" (top 1) (He.ga K "copied") d_copied := E_copied
  obtain ⟨d_law_pen, E_law_pen⟩ := c.u.def_ 1 (d := dDef (93, "_law_pen")) rfl
  have F_law_pen : FnP K "_law_pen" (top 93) (He.ga K "_law_pen") d_law_pen := E_law_pen
  obtain ⟨d_law_draw, E_law_draw⟩ := c.u.def_ 2 (d := dDef (94, "_law_draw")) rfl
  have F_law_draw : FnP K "_law_draw" (top 94) (He.ga K "_law_draw") d_law_draw := E_law_draw
  obtain ⟨d_law_pick, E_law_pick⟩ := c.u.def_ 3 (d := dDef (95, "_law_pick")) rfl
  have F_law_pick : FnP K "_law_pick" (top 95) (He.ga K "_law_pick") d_law_pick := E_law_pick
  obtain ⟨d_law_made_a, E_law_made_a⟩ := c.u.def_ 4 (d := dDef (96, "_law_made_a")) rfl
  have F_law_made_a : FnP K "_law_made_a" (top 96) (He.ga K "_law_made_a") d_law_made_a := E_law_made_a
  obtain ⟨d_law_made_b, E_law_made_b⟩ := c.u.def_ 5 (d := dDef (97, "_law_made_b")) rfl
  have F_law_made_b : FnP K "_law_made_b" (top 97) (He.ga K "_law_made_b") d_law_made_b := E_law_made_b
  obtain ⟨d_law_made_c, E_law_made_c⟩ := c.u.def_ 6 (d := dDef (98, "_law_made_c")) rfl
  have F_law_made_c : FnP K "_law_made_c" (top 98) (He.ga K "_law_made_c") d_law_made_c := E_law_made_c
  obtain ⟨d_law_made_d, E_law_made_d⟩ := c.u.def_ 7 (d := dDef (99, "_law_made_d")) rfl
  have F_law_made_d : FnP K "_law_made_d" (top 99) (He.ga K "_law_made_d") d_law_made_d := E_law_made_d
  obtain ⟨d_law_made_e, E_law_made_e⟩ := c.u.def_ 8 (d := dDef (100, "_law_made_e")) rfl
  have F_law_made_e : FnP K "_law_made_e" (top 100) (He.ga K "_law_made_e") d_law_made_e := E_law_made_e
  obtain ⟨d_law_made_f, E_law_made_f⟩ := c.u.def_ 9 (d := dDef (101, "_law_made_f")) rfl
  have F_law_made_f : FnP K "_law_made_f" (top 101) (He.ga K "_law_made_f") d_law_made_f := E_law_made_f
  obtain ⟨d_law_bare, E_law_bare⟩ := c.u.def_ 10 (d := dDef (102, "_law_bare")) rfl
  have F_law_bare : FnP K "_law_bare" (top 102) (He.ga K "_law_bare") d_law_bare := E_law_bare
  obtain ⟨d_law_value, E_law_value⟩ := c.u.def_ 11 (d := dDef (103, "_law_value")) rfl
  have F_law_value : FnP K "_law_value" (top 103) (He.ga K "_law_value") d_law_value := E_law_value
  obtain ⟨d_law_copy, E_law_copy⟩ := c.u.def_ 12 (d := dDef (104, "_law_copy")) rfl
  have F_law_copy : FnP K "_law_copy" (top 104) (He.ga K "_law_copy") d_law_copy := E_law_copy
  obtain ⟨d_law, E_law⟩ := c.u.def_ 13 (d := dDef (105, "law")) rfl
  have F_law : FnP K "law" (top 105) (He.ga K "law") d_law := E_law
  have m_copied : mg "copied" = some (.ref (He.ga K "copied")) := He.glo_ok X G (c.u.fact 0 (f := .glo "copied") rfl)
  have m_law_pen : mg "_law_pen" = some (.ref (He.ga K "_law_pen")) := He.glo_ok X G (c.u.fact 1 (f := .glo "_law_pen") rfl)
  have m_law_draw : mg "_law_draw" = some (.ref (He.ga K "_law_draw")) := He.glo_ok X G (c.u.fact 2 (f := .glo "_law_draw") rfl)
  have m_law_pick : mg "_law_pick" = some (.ref (He.ga K "_law_pick")) := He.glo_ok X G (c.u.fact 3 (f := .glo "_law_pick") rfl)
  have m_law_made_a : mg "_law_made_a" = some (.ref (He.ga K "_law_made_a")) := He.glo_ok X G (c.u.fact 4 (f := .glo "_law_made_a") rfl)
  have m_law_made_b : mg "_law_made_b" = some (.ref (He.ga K "_law_made_b")) := He.glo_ok X G (c.u.fact 5 (f := .glo "_law_made_b") rfl)
  have m_law_made_c : mg "_law_made_c" = some (.ref (He.ga K "_law_made_c")) := He.glo_ok X G (c.u.fact 6 (f := .glo "_law_made_c") rfl)
  have m_law_made_d : mg "_law_made_d" = some (.ref (He.ga K "_law_made_d")) := He.glo_ok X G (c.u.fact 7 (f := .glo "_law_made_d") rfl)
  have m_law_made_e : mg "_law_made_e" = some (.ref (He.ga K "_law_made_e")) := He.glo_ok X G (c.u.fact 8 (f := .glo "_law_made_e") rfl)
  have m_law_made_f : mg "_law_made_f" = some (.ref (He.ga K "_law_made_f")) := He.glo_ok X G (c.u.fact 9 (f := .glo "_law_made_f") rfl)
  have m_law_bare : mg "_law_bare" = some (.ref (He.ga K "_law_bare")) := He.glo_ok X G (c.u.fact 10 (f := .glo "_law_bare") rfl)
  have m_law_value : mg "_law_value" = some (.ref (He.ga K "_law_value")) := He.glo_ok X G (c.u.fact 11 (f := .glo "_law_value") rfl)
  have m_law_copy : mg "_law_copy" = some (.ref (He.ga K "_law_copy")) := He.glo_ok X G (c.u.fact 12 (f := .glo "_law_copy") rfl)
  have m_law : mg "law" = some (.ref (He.ga K "law")) := He.glo_ok X G (c.u.fact 13 (f := .glo "law") rfl)
  have g_len : mg "len" = none := He.free_ok X G (c.u.facts (f := .free "len") (List.mem_append_right _ (List.mem_append_right _ (List.mem_of_getElem? (i := 0) rfl))))
  have g_int : mg "int" = none := He.free_ok X G (c.u.facts (f := .free "int") (List.mem_append_right _ (List.mem_append_right _ (List.mem_of_getElem? (i := 1) rfl))))
  have g_list : mg "list" = none := He.free_ok X G (c.u.facts (f := .free "list") (List.mem_append_right _ (List.mem_append_right _ (List.mem_of_getElem? (i := 2) rfl))))
  have g_tuple : mg "tuple" = none := He.free_ok X G (c.u.facts (f := .free "tuple") (List.mem_append_right _ (List.mem_append_right _ (List.mem_of_getElem? (i := 3) rfl))))
  have g_isinstance : mg "isinstance" = none := He.free_ok X G (c.u.facts (f := .free "isinstance") (List.mem_append_right _ (List.mem_append_right _ (List.mem_of_getElem? (i := 4) rfl))))
  have g_range : mg "range" = none := He.free_ok X G (c.u.facts (f := .free "range") (List.mem_append_right _ (List.mem_append_right _ (List.mem_of_getElem? (i := 5) rfl))))
  have g_repr : mg "repr" = none := He.free_ok X G (c.u.facts (f := .free "repr") (List.mem_append_right _ (List.mem_append_right _ (List.mem_of_getElem? (i := 6) rfl))))
  have e := hfa.symm.trans m_law
  cases e
  refine ⟨d_law, fun s v => FunD.bindsA (ps := ["script"]) F_law (fun _ _ _ _ _ _ us hl => match us, hl with | [_], _ => rfl) s [v] rfl, fun base _ _ => ?_⟩
  have Z : CopH P w K mg base (He.ga K "copied") d_copied := ⟨ok_copied F_copied g_isinstance g_list g_tuple, F_copied.kp, F_copied.bindsN fun _ _ _ _ _ _ us hl => match us, hl with | [_], _ => rfl, m_copied⟩
  obtain ⟨d_Cuts, H_Cuts⟩ := cls_told c X G (16, "Cuts", ["cuts"]) (.inl (List.mem_of_getElem? (i := 8) rfl))
  obtain ⟨d_CutBars, H_CutBars⟩ := cls_told c X G (17, "CutBars", ["bars"]) (.inl (List.mem_of_getElem? (i := 9) rfl))
  obtain ⟨d_Heavy, H_Heavy⟩ := cls_told c X G (23, "Heavy", ["side", "rounds", "ends"]) (.inl (List.mem_of_getElem? (i := 12) rfl))
  obtain ⟨d_Gap, H_Gap⟩ := cls_told c X G (24, "Gap", ["row"]) (.inl (List.mem_of_getElem? (i := 13) rfl))
  obtain ⟨d_Best, H_Best⟩ := cls_told c X G (25, "Best", ["row", "rounds", "ends"]) (.inl (List.mem_of_getElem? (i := 14) rfl))
  obtain ⟨d_CutTree, H_CutTree⟩ := cls_told c X G (40, "CutTree", ["parents"]) (.inl (List.mem_of_getElem? (i := 25) rfl))
  obtain ⟨d_Dual, H_Dual⟩ := cls_told c X G (42, "Dual", ["web", "ties", "drawing"]) (.inl (List.mem_of_getElem? (i := 26) rfl))
  obtain ⟨d_Base, H_Base⟩ := cls_told c X G (43, "Base", ["lots"]) (.inl (List.mem_of_getElem? (i := 27) rfl))
  obtain ⟨d_Free, H_Free⟩ := cls_told c X G (34, "Free", ["tree"]) (.inl (List.mem_of_getElem? (i := 20) rfl))
  obtain ⟨d_Five, H_Five⟩ := cls_told c X G (35, "Five", ["lots"]) (.inl (List.mem_of_getElem? (i := 21) rfl))
  obtain ⟨d_CutBreak, H_CutBreak⟩ := cls_told c X G (36, "CutBreak", ["weights", "point"]) (.inl (List.mem_of_getElem? (i := 22) rfl))
  obtain ⟨d_ConeBreak, H_ConeBreak⟩ := cls_told c X G (37, "ConeBreak", ["row", "bars"]) (.inl (List.mem_of_getElem? (i := 23) rfl))
  obtain ⟨d_FlowBreak, H_FlowBreak⟩ := cls_told c X G (38, "FlowBreak", ["room", "wants", "lengths"]) (.inl (List.mem_of_getElem? (i := 24) rfl))
  obtain ⟨d_Least, H_Least⟩ := cls_told c X G (45, "Least", ["side", "ways"]) (.inl (List.mem_of_getElem? (i := 28) rfl))
  obtain ⟨d_LeastTree, H_LeastTree⟩ := cls_told c X G (46, "LeastTree", ["rows"]) (.inl (List.mem_of_getElem? (i := 29) rfl))
  obtain ⟨d_Covered, H_Covered⟩ := cls_told c X G (48, "Covered", ["rows"]) (.inl (List.mem_of_getElem? (i := 30) rfl))
  obtain ⟨d_Dense, H_Dense⟩ := cls_told c X G (49, "Dense", ["lot"]) (.inl (List.mem_of_getElem? (i := 31) rfl))
  obtain ⟨d_Trees, H_Trees⟩ := cls_told c X G (50, "Trees", ["rows"]) (.inr (List.mem_of_getElem? (i := 0) rfl))
  obtain ⟨d_Parting, H_Parting⟩ := cls_told c X G (51, "Parting", ["lots"]) (.inr (List.mem_of_getElem? (i := 1) rfl))
  obtain ⟨d_Flow, H_Flow⟩ := cls_told c X G (29, "Flow", ["ways"]) (.inl (List.mem_of_getElem? (i := 16) rfl))
  obtain ⟨d_Bars, H_Bars⟩ := cls_told c X G (30, "Bars", ["side"]) (.inl (List.mem_of_getElem? (i := 17) rfl))
  obtain ⟨d_Stuck, H_Stuck⟩ := cls_told c X G (31, "Stuck", ["row"]) (.inl (List.mem_of_getElem? (i := 18) rfl))
  obtain ⟨d_Share, H_Share⟩ := cls_told c X G (32, "Share", ["share", "ways", "row"]) (.inl (List.mem_of_getElem? (i := 19) rfl))
  obtain ⟨d_Join, H_Join⟩ := cls_told c X G (27, "Join", ["ties", "cuts"]) (.inl (List.mem_of_getElem? (i := 15) rfl))
  obtain ⟨d_OneLonger, H_OneLonger⟩ := cls_told c X G (4, "OneLonger", ["tie", "lot"]) (.inl (List.mem_of_getElem? (i := 0) rfl))
  obtain ⟨d_TreeCuts, H_TreeCuts⟩ := cls_told c X G (53, "TreeCuts", ["cuts"]) (.inr (List.mem_of_getElem? (i := 2) rfl))
  obtain ⟨d_FourApart, H_FourApart⟩ := cls_told c X G (54, "FourApart", ["a", "b", "c", "d"]) (.inr (List.mem_of_getElem? (i := 3) rfl))
  obtain ⟨d_Pressed, H_Pressed⟩ := cls_told c X G (6, "Pressed", ["lots"]) (.inl (List.mem_of_getElem? (i := 1) rfl))
  obtain ⟨d_Narrow, H_Narrow⟩ := cls_told c X G (56, "Narrow", ["row"]) (.inr (List.mem_of_getElem? (i := 4) rfl))
  obtain ⟨d_FourLots, H_FourLots⟩ := cls_told c X G (57, "FourLots", ["lots"]) (.inr (List.mem_of_getElem? (i := 5) rfl))
  obtain ⟨d_ThreeTree, H_ThreeTree⟩ := cls_told c X G (58, "ThreeTree", ["bags", "links", "papers"]) (.inr (List.mem_of_getElem? (i := 6) rfl))
  obtain ⟨d_SixLots, H_SixLots⟩ := cls_told c X G (59, "SixLots", ["lots"]) (.inr (List.mem_of_getElem? (i := 7) rfl))
  obtain ⟨d_OddLots, H_OddLots⟩ := cls_told c X G (66, "OddLots", ["lots", "side"]) (.inr (List.mem_of_getElem? (i := 12) rfl))
  obtain ⟨d_LooseFive, H_LooseFive⟩ := cls_told c X G (67, "LooseFive", ["weights", "point"]) (.inr (List.mem_of_getElem? (i := 13) rfl))
  obtain ⟨d_Cover, H_Cover⟩ := cls_told c X G (69, "Cover", ["lot", "side"]) (.inr (List.mem_of_getElem? (i := 14) rfl))
  obtain ⟨d_Tight, H_Tight⟩ := cls_told c X G (70, "Tight", ["lot", "rounds"]) (.inr (List.mem_of_getElem? (i := 15) rfl))
  obtain ⟨d_Loose, H_Loose⟩ := cls_told c X G (71, "Loose", ["point", "rounds"]) (.inr (List.mem_of_getElem? (i := 16) rfl))
  obtain ⟨d_Apart, H_Apart⟩ := cls_told c X G (72, "Apart", ["rounds"]) (.inr (List.mem_of_getElem? (i := 17) rfl))
  obtain ⟨d_Meets, H_Meets⟩ := cls_told c X G (73, "Meets", ["lot"]) (.inr (List.mem_of_getElem? (i := 18) rfl))
  obtain ⟨d_Plane, H_Plane⟩ := cls_told c X G (8, "Plane", ["drawing"]) (.inl (List.mem_of_getElem? (i := 2) rfl))
  obtain ⟨d_Barred, H_Barred⟩ := cls_told c X G (9, "Barred", ["kind", "lots"]) (.inl (List.mem_of_getElem? (i := 3) rfl))
  obtain ⟨d_Outer, H_Outer⟩ := cls_told c X G (10, "Outer", ["drawing", "face"]) (.inl (List.mem_of_getElem? (i := 4) rfl))
  obtain ⟨d_OuterBarred, H_OuterBarred⟩ := cls_told c X G (11, "OuterBarred", ["kind", "lots"]) (.inl (List.mem_of_getElem? (i := 5) rfl))
  obtain ⟨d_Way, H_Way⟩ := cls_told c X G (75, "Way", ["row", "cuts"]) (.inr (List.mem_of_getElem? (i := 19) rfl))
  obtain ⟨d_Beyond, H_Beyond⟩ := cls_told c X G (20, "Beyond", ["tie"]) (.inl (List.mem_of_getElem? (i := 10) rfl))
  obtain ⟨d_Breaks, H_Breaks⟩ := cls_told c X G (21, "Breaks", ["lot", "odd"]) (.inl (List.mem_of_getElem? (i := 11) rfl))
  obtain ⟨d_Rounds, H_Rounds⟩ := cls_told c X G (77, "Rounds", ["amounts"]) (.inr (List.mem_of_getElem? (i := 20) rfl))
  obtain ⟨d_Heavier, H_Heavier⟩ := cls_told c X G (78, "Heavier", ["side", "tie"]) (.inr (List.mem_of_getElem? (i := 21) rfl))
  obtain ⟨d_Parts, H_Parts⟩ := cls_told c X G (79, "Parts", ["rounds"]) (.inr (List.mem_of_getElem? (i := 22) rfl))
  obtain ⟨d_OddPlace, H_OddPlace⟩ := cls_told c X G (80, "OddPlace", ["place"]) (.inr (List.mem_of_getElem? (i := 23) rfl))
  obtain ⟨d_Trails, H_Trails⟩ := cls_told c X G (81, "Trails", ["ways"]) (.inr (List.mem_of_getElem? (i := 24) rfl))
  obtain ⟨d_EvenSide, H_EvenSide⟩ := cls_told c X G (61, "EvenSide", ["side"]) (.inr (List.mem_of_getElem? (i := 8) rfl))
  obtain ⟨d_OddOne, H_OddOne⟩ := cls_told c X G (62, "OddOne", ["lot"]) (.inr (List.mem_of_getElem? (i := 9) rfl))
  obtain ⟨d_TurnedBy, H_TurnedBy⟩ := cls_told c X G (63, "TurnedBy", ["side"]) (.inr (List.mem_of_getElem? (i := 10) rfl))
  obtain ⟨d_RoundApart, H_RoundApart⟩ := cls_told c X G (64, "RoundApart", ["lot"]) (.inr (List.mem_of_getElem? (i := 11) rfl))
  obtain ⟨d_Kept, H_Kept⟩ := cls_told c X G (83, "Kept", ["cuts"]) (.inr (List.mem_of_getElem? (i := 25) rfl))
  obtain ⟨d_Low, H_Low⟩ := cls_told c X G (84, "Low", ["ties"]) (.inr (List.mem_of_getElem? (i := 26) rfl))
  obtain ⟨d_Straight, H_Straight⟩ := cls_told c X G (86, "Straight", ["points"]) (.inr (List.mem_of_getElem? (i := 27) rfl))
  obtain ⟨d_Tree, H_Tree⟩ := cls_told c X G (13, "Tree", ["bags", "links", "papers"]) (.inl (List.mem_of_getElem? (i := 6) rfl))
  obtain ⟨d_FiveLots, H_FiveLots⟩ := cls_told c X G (14, "FiveLots", ["lots"]) (.inl (List.mem_of_getElem? (i := 7) rfl))
  obtain ⟨d_WheelWay, H_WheelWay⟩ := cls_told c X G (88, "WheelWay", ["steps"]) (.inr (List.mem_of_getElem? (i := 28) rfl))
  obtain ⟨d_Whole, H_Whole⟩ := cls_told c X G (90, "Whole", ["rounds"]) (.inr (List.mem_of_getElem? (i := 29) rfl))
  obtain ⟨d_Bridge, H_Bridge⟩ := cls_told c X G (91, "Bridge", ["tie"]) (.inr (List.mem_of_getElem? (i := 30) rfl))
  have T_Cuts := cls_Cuts (P := P) (w := w) (base := base) H_Cuts Z
  have T_CutBars := cls_CutBars (P := P) (w := w) (base := base) H_CutBars Z
  have T_Heavy := cls_Heavy (P := P) (w := w) (base := base) H_Heavy Z
  have T_Gap := cls_Gap (P := P) (w := w) (base := base) H_Gap Z
  have T_Best := cls_Best (P := P) (w := w) (base := base) H_Best Z
  have T_CutTree := cls_CutTree (P := P) (w := w) (base := base) H_CutTree Z
  have T_Dual := cls_Dual (P := P) (w := w) (base := base) H_Dual Z
  have T_Base := cls_Base (P := P) (w := w) (base := base) H_Base Z
  have T_Free := cls_Free (P := P) (w := w) (base := base) H_Free Z
  have T_Five := cls_Five (P := P) (w := w) (base := base) H_Five Z
  have T_CutBreak := cls_CutBreak (P := P) (w := w) (base := base) H_CutBreak Z
  have T_ConeBreak := cls_ConeBreak (P := P) (w := w) (base := base) H_ConeBreak Z
  have T_FlowBreak := cls_FlowBreak (P := P) (w := w) (base := base) H_FlowBreak Z
  have T_Least := cls_Least (P := P) (w := w) (base := base) H_Least Z
  have T_LeastTree := cls_LeastTree (P := P) (w := w) (base := base) H_LeastTree Z
  have T_Covered := cls_Covered (P := P) (w := w) (base := base) H_Covered Z
  have T_Dense := cls_Dense (P := P) (w := w) (base := base) H_Dense Z
  have T_Trees := cls_Trees (P := P) (w := w) (base := base) H_Trees Z
  have T_Parting := cls_Parting (P := P) (w := w) (base := base) H_Parting Z
  have T_Flow := cls_Flow (P := P) (w := w) (base := base) H_Flow Z
  have T_Bars := cls_Bars (P := P) (w := w) (base := base) H_Bars Z
  have T_Stuck := cls_Stuck (P := P) (w := w) (base := base) H_Stuck Z
  have T_Share := cls_Share (P := P) (w := w) (base := base) H_Share Z
  have T_Join := cls_Join (P := P) (w := w) (base := base) H_Join Z
  have T_OneLonger := cls_OneLonger (P := P) (w := w) (base := base) H_OneLonger Z
  have T_TreeCuts := cls_TreeCuts (P := P) (w := w) (base := base) H_TreeCuts Z
  have T_FourApart := cls_FourApart (P := P) (w := w) (base := base) H_FourApart Z
  have T_Pressed := cls_Pressed (P := P) (w := w) (base := base) H_Pressed Z
  have T_Narrow := cls_Narrow (P := P) (w := w) (base := base) H_Narrow Z
  have T_FourLots := cls_FourLots (P := P) (w := w) (base := base) H_FourLots Z
  have T_ThreeTree := cls_ThreeTree (P := P) (w := w) (base := base) H_ThreeTree Z
  have T_SixLots := cls_SixLots (P := P) (w := w) (base := base) H_SixLots Z
  have T_OddLots := cls_OddLots (P := P) (w := w) (base := base) H_OddLots Z
  have T_LooseFive := cls_LooseFive (P := P) (w := w) (base := base) H_LooseFive Z
  have T_Cover := cls_Cover (P := P) (w := w) (base := base) H_Cover Z
  have T_Tight := cls_Tight (P := P) (w := w) (base := base) H_Tight Z
  have T_Loose := cls_Loose (P := P) (w := w) (base := base) H_Loose Z
  have T_Apart := cls_Apart (P := P) (w := w) (base := base) H_Apart Z
  have T_Meets := cls_Meets (P := P) (w := w) (base := base) H_Meets Z
  have T_Plane := cls_Plane (P := P) (w := w) (base := base) H_Plane Z
  have T_Barred := cls_Barred (P := P) (w := w) (base := base) H_Barred Z
  have T_Outer := cls_Outer (P := P) (w := w) (base := base) H_Outer Z
  have T_OuterBarred := cls_OuterBarred (P := P) (w := w) (base := base) H_OuterBarred Z
  have T_Way := cls_Way (P := P) (w := w) (base := base) H_Way Z
  have T_Beyond := cls_Beyond (P := P) (w := w) (base := base) H_Beyond Z
  have T_Breaks := cls_Breaks (P := P) (w := w) (base := base) H_Breaks Z
  have T_Rounds := cls_Rounds (P := P) (w := w) (base := base) H_Rounds Z
  have T_Heavier := cls_Heavier (P := P) (w := w) (base := base) H_Heavier Z
  have T_Parts := cls_Parts (P := P) (w := w) (base := base) H_Parts Z
  have T_OddPlace := cls_OddPlace (P := P) (w := w) (base := base) H_OddPlace Z
  have T_Trails := cls_Trails (P := P) (w := w) (base := base) H_Trails Z
  have T_EvenSide := cls_EvenSide (P := P) (w := w) (base := base) H_EvenSide Z
  have T_OddOne := cls_OddOne (P := P) (w := w) (base := base) H_OddOne Z
  have T_TurnedBy := cls_TurnedBy (P := P) (w := w) (base := base) H_TurnedBy Z
  have T_RoundApart := cls_RoundApart (P := P) (w := w) (base := base) H_RoundApart Z
  have T_Kept := cls_Kept (P := P) (w := w) (base := base) H_Kept Z
  have T_Low := cls_Low (P := P) (w := w) (base := base) H_Low Z
  have T_Straight := cls_Straight (P := P) (w := w) (base := base) H_Straight Z
  have T_Tree := cls_Tree (P := P) (w := w) (base := base) H_Tree Z
  have T_FiveLots := cls_FiveLots (P := P) (w := w) (base := base) H_FiveLots Z
  have T_WheelWay := cls_WheelWay (P := P) (w := w) (base := base) H_WheelWay Z
  have T_Whole := cls_Whole (P := P) (w := w) (base := base) H_Whole Z
  have T_Bridge := cls_Bridge (P := P) (w := w) (base := base) H_Bridge Z
  have W_a : Told P w K mg base "_law_made_a" 4 ["a", "b", "c", "d"] (spMade K 11) _ _ := told_of F_law_made_a m_law_made_a (ok_made_a F_law_made_a g_isinstance T_Cuts T_CutBars T_Heavy T_Gap T_Best T_CutTree T_Dual T_Base T_Free T_Five T_CutBreak) (F_law_made_a.bindsN fun _ _ _ _ _ _ us hl => match us, hl with | [_, _, _, _], _ => rfl)
  have W_b : Told P w K mg base "_law_made_b" 4 ["a", "b", "c", "d"] (spMade K 11) _ _ := told_of F_law_made_b m_law_made_b (ok_made_b F_law_made_b g_isinstance T_ConeBreak T_FlowBreak T_Least T_LeastTree T_Covered T_Dense T_Trees T_Parting T_Flow T_Bars T_Stuck) (F_law_made_b.bindsN fun _ _ _ _ _ _ us hl => match us, hl with | [_, _, _, _], _ => rfl)
  have W_c : Told P w K mg base "_law_made_c" 4 ["a", "b", "c", "d"] (spMade K 11) _ _ := told_of F_law_made_c m_law_made_c (ok_made_c F_law_made_c g_isinstance T_Share T_Join T_OneLonger T_TreeCuts T_FourApart T_Pressed T_Narrow T_FourLots T_ThreeTree T_SixLots T_OddLots) (F_law_made_c.bindsN fun _ _ _ _ _ _ us hl => match us, hl with | [_, _, _, _], _ => rfl)
  have W_d : Told P w K mg base "_law_made_d" 4 ["a", "b", "c", "d"] (spMade K 11) _ _ := told_of F_law_made_d m_law_made_d (ok_made_d F_law_made_d g_isinstance T_LooseFive T_Cover T_Tight T_Loose T_Apart T_Meets T_Plane T_Barred T_Outer T_OuterBarred T_Way) (F_law_made_d.bindsN fun _ _ _ _ _ _ us hl => match us, hl with | [_, _, _, _], _ => rfl)
  have W_e : Told P w K mg base "_law_made_e" 4 ["a", "b", "c", "d"] (spMade K 11) _ _ := told_of F_law_made_e m_law_made_e (ok_made_e F_law_made_e g_isinstance T_Beyond T_Breaks T_Rounds T_Heavier T_Parts T_OddPlace T_Trails T_EvenSide T_OddOne T_TurnedBy T_RoundApart) (F_law_made_e.bindsN fun _ _ _ _ _ _ us hl => match us, hl with | [_, _, _, _], _ => rfl)
  have W_f : Told P w K mg base "_law_made_f" 4 ["a", "b", "c", "d"] (spMade K 8) _ _ := told_of F_law_made_f m_law_made_f (ok_made_f F_law_made_f g_isinstance T_Kept T_Low T_Straight T_Tree T_FiveLots T_WheelWay T_Whole T_Bridge) (F_law_made_f.bindsN fun _ _ _ _ _ _ us hl => match us, hl with | [_, _, _, _], _ => rfl)
  have W_pen : Told P w K mg base "_law_pen" 1 ["script"] (spPen K) _ _ := told_of F_law_pen m_law_pen (ok_pen F_law_pen g_int g_list) (F_law_pen.bindsN fun _ _ _ _ _ _ us hl => match us, hl with | [_], _ => rfl)
  have W_draw : Told P w K mg base "_law_draw" 1 ["pen", "many"] (spDraw K) _ _ := told_of F_law_draw m_law_draw (ok_draw F_law_draw g_len g_int) (F_law_draw.bindsN fun _ _ _ _ _ _ us hl => match us, hl with | [_, _], _ => rfl)
  have W_value : Told P w K mg base "_law_value" 3 ["pen"] (spValue K) _ _ := told_of F_law_value m_law_value (ok_value F_law_value F_law_draw F_law_pick g_len g_int g_range m_law_draw m_law_pick) (F_law_value.bindsN fun _ _ _ _ _ _ us hl => match us, hl with | [_], _ => rfl)
  have W_bare : Told P w K mg base "_law_bare" 1 [] (spBare K) _ _ := told_of F_law_bare m_law_bare (ok_bare F_law_bare g_isinstance (bare_told c X G "AllKept" (List.mem_of_getElem? (i := 0) rfl)) (bare_told c X G "Keeps" (List.mem_of_getElem? (i := 1) rfl))) (F_law_bare.bindsN fun _ _ _ _ _ _ us hl => match us, hl with | [], _ => rfl)
  have W_copy : Told P w K mg base "_law_copy" 1 ["value"] (spCopy K) _ _ := told_of F_law_copy m_law_copy (ok_copy F_law_copy g_isinstance g_list g_tuple) (F_law_copy.bindsN fun _ _ _ _ _ _ us hl => match us, hl with | [_], _ => rfl)
  exact ok_law F_law g_isinstance g_list g_len g_int g_range g_repr W_pen W_draw W_value W_a W_b W_c W_d W_e W_f W_bare W_copy T_Five
end
end K90
open PySem PySem.W PySem.Calls PyProof.Rows
theorem PySem.Challenge.cw_cutrounds_k90_classes_made_by_hand_holds : PySem.Challenge.rw_cutrounds_k90_classes_made_by_hand.Holds := by
  w_on; o_law
  refine HandSHeadRun.head_any (r := OpenLaw.row PySem.Challenge.rw_cutrounds_k90_classes_made_by_hand) (q := view (OpenLaw.row PySem.Challenge.rw_cutrounds_k90_classes_made_by_hand).prog [105]) (H := K90.hk) (ob := K90.ob) (M := 20000) (loose := K90.looseAll) (d := HandSHeadRun.topDef (OpenLaw.row PySem.Challenge.rw_cutrounds_k90_classes_made_by_hand).prog 105) (kwd := []) K90.ob_eq
    (by kernel_rfl) (fun s => by kernel_rfl) K90.run (by kernel_rfl) (by kernel_rfl) (by kernel_rfl) (by rfl) (by first | assumption | decide +kernel) (by decide +kernel) ⟨rfl, rfl, rfl, rfl, rfl, by decide +kernel⟩ ?hw ?hc
  case hw => w_witness2
  case hc =>
    refine K90.walkG (l := PySem.Challenge.rw_cutrounds_k90_classes_made_by_hand) (n := 63) (k := 5) (x := "script") (CX := L2.CX0) rfl (by decide) (by kernel_rfl) ⟨rfl, by decide, by decide⟩ ?F (fun _ _ _ _ z => z)
    intro w mg fa h Y G hmg0
    obtain ⟨K, KX, c1, c2, c3⟩ := Y
    have hmg : mg ("law" : PySem.Str) = some (.ref fa) := by
      have e : (HandSHeadRun.topDef (OpenLaw.row PySem.Challenge.rw_cutrounds_k90_classes_made_by_hand).prog 105).name = ("law" : PySem.Str) := by kernel_rfl
      rw [← e]
      exact hmg0
    obtain ⟨fd, hb, hF⟩ := K90.law_told (P := (PySem.Challenge.rw_cutrounds_k90_classes_made_by_hand).prog) (w := w) KX G hmg ⟨c1, c2, c3⟩
    exact ⟨K, fd, K90.spLaw K, KX, hb, fun H a ns hl _ hS => ⟨a, ns, rfl, hS, hl, fun _ => rfl⟩, hF⟩

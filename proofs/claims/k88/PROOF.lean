import PyProof.Rows.All
import Wide.All
import OpenK.AllK
import Wide.FinOn
import PySem.Challenge.RW_cutrounds_k88_whole_texts_of_webs
import KE.KStateDown
import HandS.ForMost
import HandS.Exc
import HandS.ExcInit
import HandS.ExcField
import HandS.Defaults
import HandS.Codes
import HandS.Head0
import HandS.Head1
import HandS.Head2
import HandS.HeadEnd
import HandS.HeadHook1
import HandS.HeadHook2
import HandS.HeadHook3
import HandS.HeadHook4
import HandS.More
import HandS.Text
import HandS.Strs
import HandS.ClsMeth
import HandS.SortRule
import HandS.SortOrd
import HandS.IsInst
import PyProof.P3Eq
import HandS.OwnEq
import PyProof.StrBlock2
import PyProof.ListStr
import PyProof.Rows.StrMul
import HandS.FStr
import PyProof.ReprRoads
import PyProof.ReprLen
import PyProof.CallFns
import HandS.Lambda
import HandS.EndBits
import HandS.EndTab
import HandS.CallRecv
import HandS.HeadWalk
import KE.KNestM
set_option Elab.async false
set_option linter.all false
set_option maxRecDepth 100000
set_option maxHeartbeats 0
namespace K88
open PySem
def top (i : Nat) : Stmt := PySem.Challenge.pw_cutrounds_k88_whole_texts_of_webs.main.body.getD i (.Pass ⟨0, 0, 0, 0⟩)
end K88
/-! The head: what the top leaves, told by names. -/
namespace K88
open PySem L2
/-- the defs: their places, names -/
def defsD0 : List (Nat × String) := [(9, "run_end"), (10, "past_spaces"), (11, "name_scan"), (12, "word_scan"), (13, "gap_scan"), (14, "rest_scan"), (15, "between_scan"), (17, "is_whole"), (18, "in_tuples"), (19, "is_tuple_of"), (24, "is_tie"), (25, "web_key"), (27, "refuse"), (28, "title_scan"), (29, "title_of"), (30, "read_tie"), (31, "other_scan"), (32, "read_end"), (33, "web_behind"), (34, "lines_of"), (35, "items_of"), (36, "item_text"), (37, "text_of"),
  (39, "_law_pen"), (40, "_law_draw"), (41, "_law_pick"), (42, "_law_shuffled"), (43, "_law_web"), (44, "_law_words"), (45, "_law_small"), (46, "_law_run"), (47, "_law_gap"), (48, "_law_rest"), (49, "_law_one_word"), (50, "_law_one_name"), (51, "_law_web_text"), (52, "_law_name"), (53, "_law_items"), (54, "_law_text"), (55, "_law_spoiled"), (56, "_law_one_of"), (57, "_law_title"), (58, "_law_tie"), (59, "_law_read"), (60, "_law_line"), (61, "_law_plain_items"), (62, "law")]
def defsD : List (Nat × Str) := defsD0.map fun p => (p.1, (p.2 : Str))
def dDef (p : Nat × Str) : He.DefD := ⟨(p.2, none), p.2, p.2, defArgs (top p.1), defBody (top p.1), defScope (top p.1), [], []⟩
def dMeth (i j : Nat) (c m : Str) : He.DefD := ⟨(c, some m), m, c ++ "." ++ m, defArgs (inClass (top i) j), defBody (inClass (top i) j), defScope (inClass (top i) j), [], []⟩
def fnAll : List He.DefD := defsD.map dDef ++ [dMeth 3 0 "BadLine" "__init__", dMeth 23 0 "Web" "__init__", dMeth 23 1 "Web" "__eq__"]
def frees : List Str := ["len", "range", "str", "any", "all", "int", "isinstance", "tuple", "list", "bool", "min", "max", "sorted", "repr"]
def faAll : List He.Fa := defsD.map (fun p => .glo p.2) ++ frees.map .free ++ [.glo "WebError", .glo "BadLine", .glo "Web", .glo "WORDS", .int "MOST_SIZE" 12, .int "MOST_TIES" 40, .int "LONGEST" 8, .str "SMALL" "abcdefghijklmnopqrstuvwxyz", .str "DIGITS" "0123456789",
  .cls "Web", .mkr "Web", .noat "Web" "size", .noat "Web" "ties", .noat "BadLine" "line", .noat "BadLine" "column", .exm "BadLine" "BadLine" true]
abbrev R : PySem.W.OpenRow := PySem.W.OpenLaw.row PySem.Challenge.rw_cutrounds_k88_whole_texts_of_webs
/-- an own error class with ValueError's tail, by what stands there -/
def oexB (K : PySem.W.Frag) (C : Addr) : Bool := match K.lookup C with
  | some ⟨.type "type", _, .cls cd, sl⟩ => (match cd.mro, sl.toList with
    | .ref D :: bm, [_, _, _, _, some (.builtin n), _] => decide (D = C) && (decide (n = "ValueError.__new__") && (!cd.hasDel && (cd.hasDict && PySem.HandSPX.refsVE bm)))
    | _, _ => false)
  | _ => false
/-- the tuple of the words -/
def wordsB (K : PySem.W.Frag) (a : Addr) : Bool := match K.lookup a with
  | some ⟨.type "tuple", _, .seq its _, _⟩ => decide (its.toList.map absV = (["web", "tie", "end", "has", "pieces", "rounds", "is", "free", "plane", "presses", "to"] : List Str).map fun x => some (V.str x))
  | _ => false
def exAll (K : PySem.W.Frag) : Bool :=
  (oexB K (He.ga K "BadLine") && (He.eqO (PySem.W.findIn K (.ref (He.ga K "BadLine")) "__setattr__") (some (some (.builtin "object.__setattr__"))) && (decide (PySem.W.subIn K (.ref (He.ga K "BadLine")) (.type "BaseException") = some true) &&
    (decide (PySem.W.typeIn K (.ref (He.ga K "BadLine")) = some (.type "type")) && (PySem.W.keepIn K (.ref (He.ga K "BadLine")) && (He.eqO (PySem.W.findIn K (.ref (He.ga K "BadLine")) "__init__") (some (some (.ref (He.ma K (He.ga K "BadLine") "__init__")))) &&
    (decide (PySem.W.typeIn K (.ref (He.ma K (He.ga K "BadLine") "__init__")) = some (.type "function")) && L2.xfB K (He.ga K "BadLine")))))))) &&
  ((PySem.W.readsIn K (He.ga K "WebError") (.type "type") && (He.eqO (PySem.W.specialIn K (.ref (He.ga K "WebError")) "__getattribute__") (some (some (.builtin "type.__getattribute__"))) && (match PySem.W.findCls K (.ref (He.ga K "WebError")) (.type "type") "__init__" with | some (.val (.builtin n)) => decide (n = "ValueError.__init__") | _ => false))) &&
  ((He.eqO (PySem.W.findIn K (.ref (He.ga K "Web")) "__eq__") (some (some (.ref (He.ma K (He.ga K "Web") "__eq__")))) && (PySem.W.isFn K (.ref (He.ma K (He.ga K "Web") "__eq__")) && (He.eqO (PySem.W.findIn K (.ref (He.ga K "Web")) "__class__") (some (some (.builtin "object.__class__"))) &&
    (He.eqO (PySem.W.specialIn K (.builtin "object.__class__") "__get__") (some (some (.builtin "getset_descriptor.__get__"))) && (decide (PySem.W.takesIn K (.builtin "object.__class__") = some true) && decide (PySem.W.mroIn K (He.ga K "Web") (.type "object") = some true)))))) && wordsB K (He.ga K "WORDS")))
/-- the frag that is asked: what the globals reach, and the statics -/
def frK (g : Addr → Option Obj) : PySem.W.Frag := He.frT g (cStatics :: He.asD g 4)
abbrev lawF : List He.Defn := [("law", none)]
/-- what is told of the top's end -/
structure SaysK (h : Heap) (K : PySem.W.Frag) : Prop where
  d : He.SaysD faAll fnAll K
  ex : exAll K = true
  tab : ∀ p ∈ lawF, PySem.W.codeHdIn K (He.cT K p).1 (He.cT K p).2 = true ∧ K.lookup (He.cT K p).2 = none ∧ h.get? (He.cT K p).2 = some { cls := .none, data := .fields #[] }
abbrev AlK : Type := He.AlD × Bool
def obsK (g : Addr → Option Obj) : AlK := (He.obsD faAll fnAll (frK g), exAll (frK g) && He.tabsB g lawF (frK g))
theorem saysK_of {h : Heap} (e : obsK h.get? = (He.valD fnAll, true)) : SaysK h (frK h.get?) := by
  have e1 : He.obsD faAll fnAll (frK h.get?) = He.valD fnAll := congrArg Prod.fst e
  obtain ⟨e2, e3⟩ := He.ba (show (exAll (frK h.get?) && He.tabsB h.get? lawF (frK h.get?)) = true from congrArg Prod.snd e)
  refine ⟨e1, e2, fun p hp => ?_⟩
  obtain ⟨t1, t2⟩ := He.ba (List.all_eq_true.mp e3 p hp)
  cases q : h.get? (He.cT (frK h.get?) p).2 with
  | none =>
    rw [q] at t2
    cases t2
  | some o =>
    rw [q] at t2
    exact ⟨t1, He.frT_none q t2, congrArg some (He.emptyTab_eq t2)⟩
def hk : PySem.W.Hook where
  α := AlK
  obs := fun s => obsK s.heap.get?
  val := fun _ => (He.valD fnAll, true)
  says := fun _ h => ∃ K : PySem.W.Frag, K.In h ∧ SaysK h K
  of := fun _ _ e => ⟨_, He.frT_in, saysK_of e⟩
  keeps := fun _ _ _ ⟨K, hK, c⟩ k => ⟨K, PySem.W.Frag.In.keeps hK k, ⟨c.d, c.ex, fun p hp => ⟨(c.tab p hp).1, (c.tab p hp).2.1, k _ _ (c.tab p hp).2.2⟩⟩⟩
def ob (s : PySem.W.SharedT) : AlK := obsK (HandSHeadRun.getT s)
theorem ob_eq (s : PySem.W.SharedT) : ob s = hk.obs s.abs := congrArg obsK (funext (HandSHeadRun.getT_eq s))
def loose0 : List String := ["WebError", "BadWeb", "BadLine", "SMALL", "DIGITS", "WORDS", "LONGEST", "MOST_SIZE", "MOST_TIES", "Web", "run_end", "past_spaces", "name_scan", "word_scan", "gap_scan", "rest_scan", "between_scan", "is_whole", "in_tuples", "is_tuple_of", "is_tie", "web_key", "refuse", "title_scan", "title_of", "read_tie", "other_scan", "read_end", "web_behind", "lines_of", "items_of", "item_text", "text_of"]
def loose1 : List String := ["_law_pen", "_law_draw", "_law_pick", "_law_shuffled", "_law_web", "_law_words", "_law_small", "_law_run", "_law_gap", "_law_rest", "_law_one_word", "_law_one_name", "_law_web_text", "_law_name", "_law_items", "_law_text", "_law_spoiled", "_law_one_of", "_law_title", "_law_tie", "_law_read", "_law_line", "_law_plain_items"]
def looseAll : List Str := (loose0 ++ loose1).map Str.ofString
def lawAt : Nat := 62
end K88
/-! The head: what the top leaves, told by names. -/
namespace K88
open PySem L2
theorem headRun (w : World) : HandSHeadRun.RunEq R (PySem.W.view R.prog [lawAt]) hk ob 20000 looseAll w := by
  intro os
  kernel_rfl
end K88
/-! Signs one after another: how far a run goes. -/
namespace K88
open PySem L2

abbrev FnP (K : PySem.W.Frag) (x : Str) (st : Stmt) (f : Addr) (fd : FuncData) : Prop := FunD K x x (defArgs st) (defBody st) (defScope st) [] [] f fd
/-- the first place from k on with a sign that is not among g -/
def run (z g : Str) (k : Nat) : Nat := k + ((z.cps.toList.drop k).takeWhile fun c => decide (c ∈ g.cps.toList)).length
theorem len_cps (z : Str) : z.cps.toList.length = z.length := by
  show z.cps.toList.length = z.cps.size
  simp
theorem drop_at {z : Str} {k : Nat} (h : k < z.length) : ∃ c, z.cps.toList[k]? = some c ∧ z.cps.toList.drop k = c :: z.cps.toList.drop (k + 1) := by
  have h2 : k < z.cps.toList.length := by rw [len_cps]; exact h
  exact ⟨_, List.getElem?_eq_getElem h2, List.drop_eq_getElem_cons h2⟩
theorem run_in {z g : Str} {k c : Nat} (h : z.cps.toList[k]? = some c) (hc : c ∈ g.cps.toList) : run z g k = run z g (k + 1) := by
  have hk : k < z.cps.toList.length := by
    rcases Nat.lt_or_ge k z.cps.toList.length with q | q
    · exact q
    · rw [List.getElem?_eq_none q] at h
      cases h
  have e : z.cps.toList.drop k = c :: z.cps.toList.drop (k + 1) := by
    rw [List.drop_eq_getElem_cons hk]
    rw [List.getElem?_eq_getElem hk] at h
    cases h
    rfl
  unfold run
  rw [e, List.takeWhile_cons_of_pos (by simpa using hc), List.length_cons]
  omega
theorem run_out {z g : Str} {k c : Nat} (h : z.cps.toList[k]? = some c) (hc : c ∉ g.cps.toList) : run z g k = k := by
  have hk : k < z.cps.toList.length := by
    rcases Nat.lt_or_ge k z.cps.toList.length with q | q
    · exact q
    · rw [List.getElem?_eq_none q] at h
      cases h
  have e : z.cps.toList.drop k = c :: z.cps.toList.drop (k + 1) := by
    rw [List.drop_eq_getElem_cons hk]
    rw [List.getElem?_eq_getElem hk] at h
    cases h
    rfl
  unfold run
  rw [e, List.takeWhile_cons_of_neg (by simpa using hc), List.length_nil, Nat.add_zero]
theorem run_end' {z g : Str} {k : Nat} (h : z.length ≤ k) : run z g k = k := by
  unfold run
  rw [List.drop_eq_nil_of_le (by rw [len_cps]; exact h), List.takeWhile_nil, List.length_nil, Nat.add_zero]
theorem run_ge (z g : Str) (k : Nat) : k ≤ run z g k := Nat.le_add_right _ _
theorem run_le {z g : Str} {k : Nat} (h : k ≤ z.length) : run z g k ≤ z.length := by
  have q := (List.takeWhile_sublist (l := z.cps.toList.drop k) fun c => decide (c ∈ g.cps.toList)).length_le
  rw [List.length_drop, len_cps] at q
  unfold run
  omega
/-- at the end stands no sign of g -/
theorem run_stop {z g : Str} {k c : Nat} (h : z.cps.toList[run z g k]? = some c) : c ∉ g.cps.toList := by
  have key : ∀ (l : List Nat) (c : Nat), l[(l.takeWhile fun c => decide (c ∈ g.cps.toList)).length]? = some c → c ∉ g.cps.toList := by
    intro l
    induction l with
    | nil => intro c e; cases e
    | cons a r ih =>
      intro c e
      by_cases ha : a ∈ g.cps.toList
      · rw [List.takeWhile_cons_of_pos (by simpa using ha), List.length_cons, List.getElem?_cons_succ] at e
        exact ih c e
      · rw [List.takeWhile_cons_of_neg (by simpa using ha)] at e
        cases e
        exact ha
  refine key (z.cps.toList.drop k) c ?_
  rw [List.getElem?_drop]
  exact h

/-! ### the defs -/
def spRun : Sp := fun vs H Q _ => ∃ (z g : Str) (k : Nat), vs = [.str z, .int k, .str g] ∧ z.length ≤ sizeLine ∧ k ≤ z.length ∧ Q (.int (run z g k : Nat)) H
def spRun1 (g : Str) : Sp := fun vs H Q _ => ∃ (z : Str) (k : Nat), vs = [.str z, .int k] ∧ z.length ≤ sizeLine ∧ k ≤ z.length ∧ Q (.int (run z g k : Nat)) H
section
variable {P : Program} {w : World} {K : PySem.W.Frag} {mg : Str → Option Value} {base : Heap}
abbrev sRunEnd : Stmt := top 9
theorem scRunEnd : FnScope ["line", "k", "signs", "end"] ["line", "k", "signs"] (defScope sRunEnd) := ⟨rfl, rfl, rfl, by decide +kernel, rfl, by decide +kernel, by decide +kernel⟩
theorem ok_run_end {f : Addr} {fd : FuncData} (F : FnP K "run_end" sRunEnd f fd) (mLen : mg "len" = none) : FnOk P w K mg base CX0 1 f fd ["line", "k", "signs"] spRun := by
  refine F.ok scRunEnd (fun vs H Q E h => ?_) (fun cdv A outer s H vs Q E hr h => ?_)
  · obtain ⟨z, g, k, rfl, _⟩ := h
    rfl
  · obtain ⟨z, g, k, rfl, hz, hk, q⟩ := h
    refine ⟨_, PSs.nox (pss_cons (ps_set (i := 3) scRunEnd.nd rfl (Or.inl rfl) (pv 1))
      (C8.pss_cut (ps_while PassesOwn.never (PW.pt (pw_and (pt_cmpR op_lt (pv 3) (pe_callB call_len (by rfl) mLen PySem.boot_len (pa_cons (pv 0) pa_nil)) (nomark _)) (pw_and1 (pt_cmpR op_in_sign (pe_ix ix_str (pv 0) (pv 3) (fun _ _ => rfl)) (pv 2) rfl))))
          (pss_one (ps_aug (i := 3) scRunEnd.nd rfl (Or.inl rfl) pe_int ip_add)))
      (pss_one (ps_ret (pv 3))))), ?_⟩
    refine ⟨_, rfl, fun σ' H' => H' = H ∧ ∃ o, σ' = [some (.str z), some (.int k), some (.str g), o] ∧ o = some (.int (run z g k : Nat)), ?_, ?_⟩
    · refine ⟨fun m σ' H' => H' = H ∧ ∃ e : Nat, σ' = [some (.str z), some (.int k), some (.str g), some (.int e)] ∧ e ≤ z.length ∧ run z g e = run z g k ∧ m = z.length - e, ⟨_, rfl, k, rfl, hk, rfl, rfl⟩, ?_⟩
      rintro m σ' H' ⟨rfl, e, rfl, he, hr', rfl⟩
      refine ⟨_, rfl, _, rfl, _, z.length, rfl, ⟨hz, rfl⟩, _, _, rfl, rfl, ?_⟩
      rcases Nat.lt_or_ge e z.length with lt | ge
      · obtain ⟨c, hc, _⟩ := drop_at lt
        refine ⟨true, congrArg V.bl (decide_eq_true (Int.ofNat_lt.mpr lt)), iteT ⟨_, rfl, _, rfl, z, _, c, rfl, rfl, hz, atI_nat hc, _, rfl, c, g, rfl, rfl, ?_⟩⟩
        by_cases hm : c ∈ g.cps.toList
        · refine ⟨true, congrArg V.bl (decide_eq_true hm), iteT ⟨fun σ' H'' => H'' = H' ∧ σ' = [some (.str z), some (.int k), some (.str g), some (.int (e + 1 : Nat))], ?_, ?_⟩⟩
          · rintro σ2 H2 ⟨rfl, rfl⟩
            exact ⟨z.length - (e + 1), by omega, rfl, e + 1, rfl, lt, (run_in hc hm).symm.trans hr', rfl⟩
          · exact ⟨_, rfl, _, _, rfl, rfl, rfl, rfl⟩
        · refine ⟨false, congrArg V.bl (decide_eq_false hm), iteF ⟨rfl, _, rfl, ?_⟩⟩
          rw [← hr', run_out hc hm]
      · refine ⟨false, congrArg V.bl (decide_eq_false (fun h => by omega)), iteF (iteF ⟨rfl, _, rfl, ?_⟩)⟩
        rw [← hr', run_end' ge]
    · rintro σ' H' ⟨rfl, o, rfl, rfl⟩
      exact ⟨_, rfl, q⟩
/-! ### the law's own -/
abbrev sLawRun : Stmt := top 46
theorem scLawRun : FnScope ["line", "k", "signs", "lap"] ["line", "k", "signs"] (defScope sLawRun) := ⟨rfl, rfl, rfl, by decide +kernel, rfl, by decide +kernel, by decide +kernel⟩
theorem ok_law_run {f : Addr} {fd : FuncData} (F : FnP K "_law_run" sLawRun f fd) (mLen : mg "len" = none) (mR : mg "range" = none) : FnOk P w K mg base CX0 1 f fd ["line", "k", "signs"] spRun := by
  refine F.ok scLawRun (fun vs H Q E h => ?_) (fun cdv A outer s H vs Q E hr h => ?_)
  · obtain ⟨z, g, k, rfl, _⟩ := h
    rfl
  · obtain ⟨z, g, k, rfl, hz, hk, q⟩ := h
    have hsz : sizeLine = 16777216 := sizeLine_eq
    refine ⟨_, PSs.nox (C8.pss_cut (ps_for PassesOwn.never rfl (pi_range1 (by rfl) mR (pa_cons (pe_callB call_len (by rfl) mLen PySem.boot_len (pa_cons (pv 0) pa_nil)) pa_nil)) (pg_name (i := 3) scLawRun.nd rfl (Or.inl rfl))
          (pss_one (ps_if (PW.pt (pw_and (pt_cmpR op_lt (pv 1) (pe_callB call_len (by rfl) mLen PySem.boot_len (pa_cons (pv 0) pa_nil)) (nomark _)) (pw_and1 (pt_cmpR op_in_sign (pe_ix ix_str (pv 0) (pv 1) (fun _ _ => rfl)) (pv 2) rfl))))
            (pss_one (ps_set (i := 1) scLawRun.nd rfl (Or.inl rfl) (pe_op op_add (pv 1) pe_int))) pss_nil)))
      (pss_one (ps_ret (pv 1)))), ?_⟩
    refine ⟨fun σ' H' => H' = H ∧ ∃ o, σ' = [some (.str z), some (.int (run z g k : Nat)), some (.str g), o], ?_, ?_⟩
    · refine ⟨_, rfl, _, z.length, rfl, ⟨hz, rfl⟩, _, rfl, by omega, by omega, for_range (lo := 0) (n := ((z.length : Nat) : Int).toNat) (fun i σ' H' => H' = H ∧ ∃ (e : Nat) (o : Option V), σ' = [some (.str z), some (.int e), some (.str g), o] ∧ e ≤ z.length ∧ run z g e = run z g k ∧ (e < k + i → run z g e = e)) ⟨rfl, k, none, rfl, hk, rfl, fun h => by omega⟩ ?_ ?_⟩
      · rintro i σ' H' hi ⟨rfl, e, o, rfl, he, hr', hs⟩
        refine ⟨_, rfl, _, rfl, _, z.length, rfl, ⟨hz, rfl⟩, _, _, rfl, rfl, ?_⟩
        rcases Nat.lt_or_ge e z.length with lt | ge
        · obtain ⟨c, hc, _⟩ := drop_at lt
          refine ⟨true, congrArg V.bl (decide_eq_true (Int.ofNat_lt.mpr lt)), iteT ⟨_, rfl, _, rfl, z, _, c, rfl, rfl, hz, atI_nat hc, _, rfl, c, g, rfl, rfl, ?_⟩⟩
          by_cases hm : c ∈ g.cps.toList
          · refine ⟨true, congrArg V.bl (decide_eq_true hm), iteT ⟨_, rfl, _, _, rfl, rfl, rfl, e + 1, _, rfl, lt, (run_in hc hm).symm.trans hr', fun h => ?_⟩⟩
            have q1 := hs (by omega)
            have q2 := run_in (g := g) hc hm
            have q3 := run_ge z g (e + 1)
            omega
          · refine ⟨false, congrArg V.bl (decide_eq_false hm), iteF ⟨rfl, e, _, rfl, he, hr', fun _ => run_out hc hm⟩⟩
        · exact ⟨false, congrArg V.bl (decide_eq_false (fun h => by omega)), iteF (iteF ⟨rfl, e, _, rfl, he, hr', fun _ => run_end' ge⟩)⟩
      · rintro σ' H' ⟨rfl, e, o, rfl, he, hr', hs⟩
        have e1 : run z g e = e := by
          rcases Nat.lt_or_ge e (k + ((z.length : Nat) : Int).toNat) with h | h
          · exact hs h
          · have : e = z.length := by omega
            rw [this]
            exact run_end' (Nat.le_refl _)
        exact ⟨rfl, o, by rw [← hr', e1]⟩
    · rintro σ' H' ⟨rfl, o, rfl⟩
      exact ⟨_, rfl, q⟩
end
end K88
/-! Gaps, rests, words. -/
namespace K88
open PySem L2

abbrev spaceS : Str := " "
/-- (end, None) or (None, wrong) -/
def prV : Nat ⊕ Nat → List V
  | .inl e => [.int e, .non]
  | .inr w => [.non, .int w]
def opV : Option Nat → V
  | none => .non
  | some e => .int e
def gapR (z : Str) (k : Nat) : Nat ⊕ Nat := if k < run z spaceS k then .inl (run z spaceS k) else .inr k
def restR (z : Str) (k : Nat) : Option Nat := if run z spaceS k = z.length then none else some (run z spaceS k)
def wordR (z : Str) : List Nat → Nat → Nat ⊕ Nat
  | [], k => match z.cps.toList[k]? with
    | none => .inl k
    | some c => if c = 32 then .inl k else .inr k
  | c :: r, k => if z.cps.toList[k]? = some c then wordR z r (k + 1) else .inr k
/-- what a def with a pair's answer promises -/
def spPair (r : Str → Nat → Nat ⊕ Nat) : Sp := fun vs H Q _ => ∃ (z : Str) (k : Nat), vs = [.str z, .int k] ∧ z.length ≤ sizeLine ∧ k ≤ z.length ∧ ∀ t H', Same H H' → H' t = some (.tup (prV (r z k))) → Q (.ref t) H'
def spRest : Sp := fun vs H Q _ => ∃ (z : Str) (k : Nat), vs = [.str z, .int k] ∧ z.length ≤ sizeLine ∧ k ≤ z.length ∧ Q (opV (restR z k)) H
def spWord : Sp := fun vs H Q _ => ∃ (z g : Str) (k : Nat), vs = [.str z, .int k, .str g] ∧ z.length ≤ sizeLine ∧ g.length ≤ 1000 ∧ k ≤ z.length ∧ ∀ t H', Same H H' → H' t = some (.tup (prV (wordR z g.cps.toList k))) → Q (.ref t) H'
theorem same_new {H : Hp} {p : Addr} {o : HO} (h : H p = none) : Same H (upd H p o) := fun b u e => by
  rw [upd_ne (ne_of_none e h)]
  exact e
theorem fin_tup {H : Hp} {Q : VK} {xs : List V} (q : ∀ t H', Same H H' → H' t = some (.tup xs) → Q (.ref t) H') : ∀ t, H t = none → Q (.ref t) (upd H t (.tup xs)) := fun t ht => q t _ (same_new ht) upd_same
theorem two_ok : 2 ≤ sizeLine := by decide
/-- what is known of a def -/
structure Told (P : Program) (w : World) (K : PySem.W.Frag) (mg : Str → Option Value) (base : Heap) (x : Str) (k : Nat) (ps : List Str) (sp : Sp) (f : Addr) (fd : FuncData) : Prop where
  ok : FnOk P w K mg base CX0 k f fd ps sp
  m : mg x = some (.ref f)
  kp : PySem.W.keepIn K (.ref f) = true
  b : Binds K fd ps []

section
variable {P : Program} {w : World} {K : PySem.W.Frag} {mg : Str → Option Value} {base : Heap} {f g : Addr} {fd gd : FuncData}
abbrev sPast : Stmt := top 10
theorem scPast : FnScope ["line", "k"] ["line", "k"] (defScope sPast) := ⟨rfl, rfl, rfl, by decide +kernel, rfl, by decide +kernel, by decide +kernel⟩
theorem ok_past (F : FnP K "past_spaces" sPast f fd) (T : Told P w K mg base "run_end" 1 ["line", "k", "signs"] spRun g gd) : FnOk P w K mg base CX0 2 f fd ["line", "k"] (spRun1 spaceS) := by
  refine F.ok scPast (fun vs H Q E h => ?_) (fun cdv A outer s H vs Q E hr h => ?_)
  · obtain ⟨z, k, rfl, _⟩ := h
    rfl
  · obtain ⟨z, k, rfl, hz, hk, q⟩ := h
    exact ⟨_, PSs.nox (pss_one (ps_ret (pe_call T.ok hr (by rfl) T.m T.kp T.b .nil pass0 (pa_cons (pv 0) (pa_cons (pv 1) (pa_cons pe_str pa_nil)))))), _, rfl, _, rfl, z, spaceS, k, rfl, hz, hk, q⟩
/-- the reading of both gaps -/
abbrev rGtI : R2 := rI0 fun i j => .bl (decide (i > j))
theorem gap_read {H : Hp} {Q : VK} {z : Str} {k : Nat} {σ : L2.St} (h1 : σ[1]? = some (some (.int k))) (h2 : σ[2]? = some (some (.int (run z spaceS k : Nat)))) (q : ∀ t, H t = none → Q (.ref t) (upd H t (.tup (prV (gapR z k))))) :
    tIf (tTest (tOp rGtI (tVar 2) (tVar 1))) (tTup (tCons (tVar 2) (tCons (tC .non) tNil))) (tTup (tCons (tC .non) (tCons (tVar 1) tNil))) σ H Q := by
  refine ⟨_, h2, _, h1, _, _, rfl, rfl, ?_⟩
  unfold gapR at q
  by_cases c : k < run z spaceS k
  · rw [if_pos c] at q
    exact ⟨true, congrArg V.bl (decide_eq_true (Int.ofNat_lt.mpr c)), iteT ⟨_, h2, two_ok, q⟩⟩
  · rw [if_neg c] at q
    exact ⟨false, congrArg V.bl (decide_eq_false fun h => c (Int.ofNat_lt.mp h)), iteF ⟨_, h1, two_ok, q⟩⟩
abbrev sGap : Stmt := top 13
theorem scGap : FnScope ["line", "k", "end"] ["line", "k"] (defScope sGap) := ⟨rfl, rfl, rfl, by decide +kernel, rfl, by decide +kernel, by decide +kernel⟩
theorem ok_gap (F : FnP K "gap_scan" sGap f fd) (T : Told P w K mg base "past_spaces" 2 ["line", "k"] (spRun1 spaceS) g gd) : FnOk P w K mg base CX0 3 f fd ["line", "k"] (spPair gapR) := by
  refine F.ok scGap (fun vs H Q E h => ?_) (fun cdv A outer s H vs Q E hr h => ?_)
  · obtain ⟨z, k, rfl, _⟩ := h
    rfl
  · obtain ⟨z, k, rfl, hz, hk, q⟩ := h
    refine ⟨_, PSs.nox (pss_cons (ps_set (i := 2) scGap.nd rfl (Or.inl rfl) (pe_call T.ok hr (by rfl) T.m T.kp T.b .nil pass0 (pa_cons (pv 0) (pa_cons (pv 1) pa_nil))))
      (pss_one (ps_ret (pe_ifExp (pt_cmpR op_gt (pv 2) (pv 1) (nomark _)) (pe_tup (pa_cons (pv 2) (pa_cons pe_non pa_nil))) (pe_tup (pa_cons pe_non (pa_cons (pv 1) pa_nil))))))), ?_⟩
    exact ⟨_, rfl, _, rfl, z, k, rfl, hz, hk, gap_read rfl rfl (fin_tup q)⟩
abbrev sLawGap : Stmt := top 47
theorem scLawGap : FnScope ["line", "k", "end"] ["line", "k"] (defScope sLawGap) := ⟨rfl, rfl, rfl, by decide +kernel, rfl, by decide +kernel, by decide +kernel⟩
theorem ok_law_gap (F : FnP K "_law_gap" sLawGap f fd) (T : Told P w K mg base "_law_run" 1 ["line", "k", "signs"] spRun g gd) : FnOk P w K mg base CX0 2 f fd ["line", "k"] (spPair gapR) := by
  refine F.ok scLawGap (fun vs H Q E h => ?_) (fun cdv A outer s H vs Q E hr h => ?_)
  · obtain ⟨z, k, rfl, _⟩ := h
    rfl
  · obtain ⟨z, k, rfl, hz, hk, q⟩ := h
    refine ⟨_, PSs.nox (pss_cons (ps_set (i := 2) scLawGap.nd rfl (Or.inl rfl) (pe_call T.ok hr (by rfl) T.m T.kp T.b .nil pass0 (pa_cons (pv 0) (pa_cons (pv 1) (pa_cons pe_str pa_nil)))))
      (pss_one (ps_ret (pe_ifExp (pt_cmpR op_gt (pv 2) (pv 1) (nomark _)) (pe_tup (pa_cons (pv 2) (pa_cons pe_non pa_nil))) (pe_tup (pa_cons pe_non (pa_cons (pv 1) pa_nil))))))), ?_⟩
    exact ⟨_, rfl, _, rfl, z, spaceS, k, rfl, hz, hk, gap_read rfl rfl (fin_tup q)⟩
/-! ### rests -/
abbrev rLn (K : PySem.W.Frag) : List V → Hp → VK → Prop := fun xs H Q => ∃ x n, xs = [x] ∧ LenV K x H n ∧ Q (.int n) H
theorem rest_read {H : Hp} {Q : VK} {z : Str} {k : Nat} {σ : L2.St} (h0 : σ[0]? = some (some (.str z))) (h2 : σ[2]? = some (some (.int (run z spaceS k : Nat)))) (hz : z.length ≤ sizeLine) (q : Q (opV (restR z k)) H) :
    tIf (tTest (tOp rEq (tVar 2) (tCB (rLn K) (tCons (tVar 0) tNil)))) (tC .non) (tVar 2) σ H Q := by
  refine ⟨_, h2, _, h0, _, z.length, rfl, ⟨hz, rfl⟩, rfl, ?_⟩
  unfold restR at q
  by_cases c : run z spaceS k = z.length
  · rw [if_pos c] at q
    exact ⟨true, congrArg V.bl (decide_eq_true (by rw [c])), iteT q⟩
  · rw [if_neg c] at q
    exact ⟨false, congrArg V.bl (decide_eq_false fun h => c (by injection h with h; exact Int.ofNat_inj.mp h)), iteF ⟨_, h2, q⟩⟩
abbrev sRest : Stmt := top 14
theorem scRest : FnScope ["line", "k", "end"] ["line", "k"] (defScope sRest) := ⟨rfl, rfl, rfl, by decide +kernel, rfl, by decide +kernel, by decide +kernel⟩
theorem ok_rest (F : FnP K "rest_scan" sRest f fd) (T : Told P w K mg base "past_spaces" 2 ["line", "k"] (spRun1 spaceS) g gd) (mLen : mg "len" = none) : FnOk P w K mg base CX0 3 f fd ["line", "k"] spRest := by
  refine F.ok scRest (fun vs H Q E h => ?_) (fun cdv A outer s H vs Q E hr h => ?_)
  · obtain ⟨z, k, rfl, _⟩ := h
    rfl
  · obtain ⟨z, k, rfl, hz, hk, q⟩ := h
    refine ⟨_, PSs.nox (pss_cons (ps_set (i := 2) scRest.nd rfl (Or.inl rfl) (pe_call T.ok hr (by rfl) T.m T.kp T.b .nil pass0 (pa_cons (pv 0) (pa_cons (pv 1) pa_nil))))
      (pss_one (ps_ret (pe_ifExp (pt_cmpR op_eq (pv 2) (pe_callB call_len (by rfl) mLen PySem.boot_len (pa_cons (pv 0) pa_nil)) (nomark _)) pe_non (pv 2))))), ?_⟩
    exact ⟨_, rfl, _, rfl, z, k, rfl, hz, hk, rest_read rfl rfl hz q⟩
abbrev sLawRest : Stmt := top 48
theorem scLawRest : FnScope ["line", "k", "end"] ["line", "k"] (defScope sLawRest) := ⟨rfl, rfl, rfl, by decide +kernel, rfl, by decide +kernel, by decide +kernel⟩
theorem ok_law_rest (F : FnP K "_law_rest" sLawRest f fd) (T : Told P w K mg base "_law_run" 1 ["line", "k", "signs"] spRun g gd) (mLen : mg "len" = none) : FnOk P w K mg base CX0 2 f fd ["line", "k"] spRest := by
  refine F.ok scLawRest (fun vs H Q E h => ?_) (fun cdv A outer s H vs Q E hr h => ?_)
  · obtain ⟨z, k, rfl, _⟩ := h
    rfl
  · obtain ⟨z, k, rfl, hz, hk, q⟩ := h
    refine ⟨_, PSs.nox (pss_cons (ps_set (i := 2) scLawRest.nd rfl (Or.inl rfl) (pe_call T.ok hr (by rfl) T.m T.kp T.b .nil pass0 (pa_cons (pv 0) (pa_cons (pv 1) (pa_cons pe_str pa_nil)))))
      (pss_one (ps_ret (pe_ifExp (pt_cmpR op_eq (pv 2) (pe_callB call_len (by rfl) mLen PySem.boot_len (pa_cons (pv 0) pa_nil)) (nomark _)) pe_non (pv 2))))), ?_⟩
    exact ⟨_, rfl, _, rfl, z, spaceS, k, rfl, hz, hk, rest_read rfl rfl hz q⟩
end
end K88
/-! A written word at a place. -/
namespace K88
open PySem L2

/-- the signs from i to j -/
def subS (z : Str) (i j : Nat) : Str := ⟨((z.cps.toList.drop i).take (j - i)).toArray⟩
theorem cut_sub {z : Str} {i j : Nat} (hi : i ≤ z.length) : cutS z (some (i : Int)) (some (j : Int)) = subS z i j := by
  have e : (z.cps.toList.drop i).take (min j z.length - i) = (z.cps.toList.drop i).take (j - i) := by
    rcases Nat.le_total j z.length with h | h
    · rw [Nat.min_eq_left h]
    · rw [Nat.min_eq_right h, List.take_of_length_le (by rw [List.length_drop, len_cps]; omega), List.take_of_length_le (by rw [List.length_drop, len_cps]; omega)]
  unfold cutS subS
  rw [HT.sIx_nat, HT.sIx_nat, Nat.min_eq_left hi, e]
theorem sub_one {z : Str} {k c : Nat} (h : z.cps.toList[k]? = some c) : subS z k (k + 1) = ⟨#[c]⟩ := by
  have hk : k < z.cps.toList.length := by
    rcases Nat.lt_or_ge k z.cps.toList.length with q | q
    · exact q
    · rw [List.getElem?_eq_none q] at h
      cases h
  rw [List.getElem?_eq_getElem hk] at h
  cases h
  unfold subS
  rw [Nat.add_sub_cancel_left, List.drop_eq_getElem_cons hk]
  rfl
theorem sub_over {z : Str} {k j : Nat} (h : z.length ≤ k) : subS z k j = ⟨#[]⟩ := by
  unfold subS
  rw [List.drop_eq_nil_of_le (by rw [len_cps]; exact h), List.take_nil]
theorem sign_inj {c d : Nat} : ((⟨#[c]⟩ : Str) = ⟨#[d]⟩) ↔ c = d := by
  constructor
  · intro h
    have q := congrArg (fun z : Str => z.cps.toList) h
    simpa using q
  · rintro rfl
    rfl
theorem sign_ne {d : Nat} : (⟨#[]⟩ : Str) ≠ ⟨#[d]⟩ := fun h => by
  have q := congrArg (fun z : Str => z.cps.toList) h
  simp at q
theorem word_hit {z : Str} {c : Nat} {r : List Nat} {k : Nat} (h : z.cps.toList[k]? = some c) : wordR z (c :: r) k = wordR z r (k + 1) := if_pos h
theorem word_miss {z : Str} {c : Nat} {r : List Nat} {k : Nat} (h : z.cps.toList[k]? ≠ some c) : wordR z (c :: r) k = .inr k := if_neg h
theorem at_none {z : Str} {k : Nat} (h : z.length ≤ k) : z.cps.toList[k]? = none := List.getElem?_eq_none (by rw [len_cps]; exact h)
theorem word_end_none {z : Str} {k : Nat} (h : z.cps.toList[k]? = none) : wordR z [] k = .inl k := by
  unfold wordR
  rw [h]
theorem word_end_space {z : Str} {k : Nat} (h : z.cps.toList[k]? = some 32) : wordR z [] k = .inl k := by
  unfold wordR
  rw [h]
  rfl
theorem word_end_other {z : Str} {k c : Nat} (h : z.cps.toList[k]? = some c) (n : c ≠ 32) : wordR z [] k = .inr k := by
  unfold wordR
  rw [h]
  exact if_neg n
theorem drop_get {l : List Nat} {i d : Nat} (h : l[i]? = some d) : l.drop i = d :: l.drop (i + 1) := by
  have hi : i < l.length := by
    rcases Nat.lt_or_ge i l.length with q | q
    · exact q
    · rw [List.getElem?_eq_none q] at h
      cases h
  rw [List.getElem?_eq_getElem hi] at h
  cases h
  exact List.drop_eq_getElem_cons hi

section
variable {P : Program} {w : World} {K : PySem.W.Frag} {mg : Str → Option Value} {base : Heap} {f g : Addr} {fd gd : FuncData}
abbrev sWord : Stmt := top 12
theorem scWord : FnScope ["line", "k", "word", "number", "end"] ["line", "k", "word"] (defScope sWord) := ⟨rfl, rfl, rfl, by decide +kernel, rfl, by decide +kernel, by decide +kernel⟩
theorem ok_word (F : FnP K "word_scan" sWord f fd) (mLen : mg "len" = none) (mR : mg "range" = none) : FnOk P w K mg base CX0 1 f fd ["line", "k", "word"] spWord := by
  refine F.ok scWord (fun vs H Q E h => ?_) (fun cdv A outer s H vs Q E hr h => ?_)
  · obtain ⟨z, g, k, rfl, _⟩ := h
    rfl
  · obtain ⟨z, g, k, rfl, hz, hg, hk, q⟩ := h
    replace q := fin_tup q
    have hsz : sizeLine = 16777216 := sizeLine_eq
    have hg2 : g.length ≤ sizeLine := by omega
    refine ⟨_, PSs.nox (C8.pss_cut (ps_for PassesOwn.never rfl (pi_range1 (by rfl) mR (pa_cons (pe_callB call_len (by rfl) mLen PySem.boot_len (pa_cons (pv 2) pa_nil)) pa_nil)) (pg_name (i := 3) scWord.nd rfl (Or.inl rfl))
          (pss_one (ps_if (PW.pt (pw_or (pt_cmpR op_eq (pe_op op_add (pv 1) (pv 3)) (pe_callB call_len (by rfl) mLen PySem.boot_len (pa_cons (pv 0) pa_nil)) (nomark _))
              (pw_or1 (pt_cmpR op_ne (pe_ix ix_str (pv 0) (pe_op op_add (pv 1) (pv 3)) (fun _ _ => rfl)) (pe_ix ix_str (pv 2) (pv 3) (fun _ _ => rfl)) (nomark _)))))
            (pss_one (ps_ret (pe_tup (pa_cons pe_non (pa_cons (pe_op op_add (pv 1) (pv 3)) pa_nil))))) pss_nil)))
      (pss_cons (ps_set (i := 4) scWord.nd rfl (Or.inl rfl) (pe_op op_add (pv 1) (pe_callB call_len (by rfl) mLen PySem.boot_len (pa_cons (pv 2) pa_nil))))
      (pss_cons (ps_if (PW.pt (pw_and (pt_cmpR op_lt (pv 4) (pe_callB call_len (by rfl) mLen PySem.boot_len (pa_cons (pv 0) pa_nil)) (nomark _)) (pw_and1 (pt_cmpR op_ne (pe_ix ix_str (pv 0) (pv 4) (fun _ _ => rfl)) pe_str (nomark _)))))
            (pss_one (ps_ret (pe_tup (pa_cons pe_non (pa_cons (pv 4) pa_nil))))) pss_nil)
      (pss_one (ps_ret (pe_tup (pa_cons (pv 4) (pa_cons pe_non pa_nil)))))))), ?_⟩
    refine ⟨fun σ' H' => H' = H ∧ ∃ o, σ' = [some (.str z), some (.int k), some (.str g), o, none] ∧ k + g.length ≤ z.length ∧ wordR z g.cps.toList k = wordR z [] (k + g.length), ?_, ?_⟩
    · refine ⟨_, rfl, _, g.length, rfl, ⟨hg2, rfl⟩, _, rfl, by omega, by omega, for_range (lo := 0) (n := ((g.length : Nat) : Int).toNat) (fun i σ' H' => H' = H ∧ ∃ o, σ' = [some (.str z), some (.int k), some (.str g), o, none] ∧ k + i ≤ z.length ∧ wordR z g.cps.toList k = wordR z (g.cps.toList.drop i) (k + i)) ⟨rfl, none, rfl, hk, rfl⟩ ?_ ?_⟩
      · rintro i σ' H' hi ⟨rfl, o, rfl, hki, e⟩
        have eI : (0 : Int) + (i : Int) = (i : Int) := by omega
        rw [eI]
        have hi' : i < g.length := by omega
        obtain ⟨d, hd, _⟩ := drop_at hi'
        rw [drop_get hd] at e
        have eK : ((k : Int) + (i : Int)) = ((k + i : Nat) : Int) := by omega
        refine ⟨_, rfl, _, rfl, _, _, rfl, rfl, _, rfl, _, z.length, rfl, ⟨hz, rfl⟩, rfl, ?_⟩
        have back : ∀ {σ2 : L2.St}, σ2[1]? = some (some (.int k)) → σ2[3]? = some (some (.int i)) → z.cps.toList[k + i]? ≠ some d → tRet (tTup (tCons (tC .non) (tCons (tOp (rI0 fun i j => .int (i + j)) (tVar 1) (tVar 3)) tNil))) { nx := fun _ _ => False, rt := Q, bk := fun _ _ => False, ct := fun _ _ => False } σ2 H' := by
          intro σ2 h1 h3 hm
          rw [word_miss hm] at e
          rw [e] at q
          exact ⟨_, h1, _, h3, _, _, rfl, rfl, two_ok, q⟩
        rcases Nat.lt_or_ge (k + i) z.length with lt | ge
        · obtain ⟨c, hc, _⟩ := drop_at lt
          refine ⟨false, congrArg V.bl (decide_eq_false fun h => by injection h with h; omega), iteF ?_⟩
          refine ⟨_, rfl, _, rfl, _, rfl, _, _, rfl, rfl, z, _, c, rfl, rfl, hz, atI_nat (j := k + i) hc, _, rfl, _, rfl, g, _, d, rfl, rfl, hg2, atI_nat hd, rfl, ?_⟩
          · by_cases cd : c = d
            · subst cd
              refine ⟨false, congrArg V.bl (by rw [decide_eq_true rfl]; rfl), iteF ⟨rfl, _, rfl, lt, ?_⟩⟩
              rw [e, word_hit hc]
              rfl
            · refine ⟨true, congrArg V.bl (by rw [decide_eq_false fun h => cd (sign_inj.mp (V.str.inj h))]; rfl), iteT (back rfl rfl fun h => cd ?_)⟩
              rw [hc] at h
              exact Option.some.inj h
        · refine ⟨true, congrArg V.bl (decide_eq_true (congrArg V.int (show ((k + i : Nat) : Int) = (z.length : Int) by omega))), iteT (iteT (back rfl rfl fun h => ?_))⟩
          rw [at_none ge] at h
          cases h
      · rintro σ' H' ⟨rfl, o, rfl, hki, e⟩
        refine ⟨rfl, o, rfl, by omega, ?_⟩
        rw [e, List.drop_eq_nil_of_le (by rw [len_cps]; omega)]
        rfl
    · rintro σ' H' ⟨rfl, o, rfl, hki, e⟩
      rw [e] at q
      have eK : ((k : Int) + (g.length : Int)) = ((k + g.length : Nat) : Int) := by omega
      refine ⟨_, rfl, _, rfl, _, g.length, rfl, ⟨hg2, rfl⟩, _, _, rfl, rfl, ?_⟩
      show tSeq _ _ _ ([some (.str z), some (.int k), some (.str g), o, some (.int ((k : Int) + (g.length : Int)))] : L2.St) H'
      rw [eK]
      refine ⟨_, rfl, _, rfl, _, z.length, rfl, ⟨hz, rfl⟩, _, _, rfl, rfl, ?_⟩
      rcases Nat.lt_or_ge (k + g.length) z.length with lt | ge
      · obtain ⟨c, hc, _⟩ := drop_at lt
        refine ⟨true, congrArg V.bl (decide_eq_true (Int.ofNat_lt.mpr lt)), iteT ⟨_, rfl, _, rfl, z, _, c, rfl, rfl, hz, atI_nat hc, rfl, ?_⟩⟩
        by_cases c32 : c = 32
        · subst c32
          rw [word_end_space hc] at q
          exact ⟨false, congrArg V.bl (by decide +kernel), iteF ⟨_, rfl, two_ok, q⟩⟩
        · rw [word_end_other hc c32] at q
          have ne : (⟨#[c]⟩ : Str) ≠ spaceS := fun h => c32 (sign_inj.mp (h.trans (show spaceS = ⟨#[32]⟩ by decide +kernel)))
          exact ⟨true, congrArg V.bl (by rw [decide_eq_false fun h => ne (V.str.inj h)]; rfl), iteT ⟨_, rfl, two_ok, q⟩⟩
      · rw [word_end_none (at_none ge)] at q
        exact ⟨false, congrArg V.bl (decide_eq_false fun h => by omega), iteF (iteF ⟨_, rfl, two_ok, q⟩)⟩
end
end K88
/-! The law's own look at a word; names. -/
namespace K88
open PySem L2
section
variable {P : Program} {w : World} {K : PySem.W.Frag} {mg : Str → Option Value} {base : Heap} {f g : Addr} {fd gd : FuncData}
theorem space_is : spaceS = ⟨#[32]⟩ := by decide +kernel
abbrev sLawWord : Stmt := top 49
theorem scLawWord : FnScope ["line", "k", "word", "n", "end"] ["line", "k", "word"] (defScope sLawWord) := ⟨rfl, rfl, rfl, by decide +kernel, rfl, by decide +kernel, by decide +kernel⟩
theorem ok_law_word (F : FnP K "_law_one_word" sLawWord f fd) (mLen : mg "len" = none) (mR : mg "range" = none) : FnOk P w K mg base CX0 1 f fd ["line", "k", "word"] spWord := by
  refine F.ok scLawWord (fun vs H Q E h => ?_) (fun cdv A outer s H vs Q E hr h => ?_)
  · obtain ⟨z, g, k, rfl, _⟩ := h
    rfl
  · obtain ⟨z, g, k, rfl, hz, hg, hk, q⟩ := h
    replace q := fin_tup q
    have hsz : sizeLine = 16777216 := sizeLine_eq
    have hg2 : g.length ≤ sizeLine := by omega
    refine ⟨_, PSs.nox (C8.pss_cut (ps_for PassesOwn.never rfl (pi_range1 (by rfl) mR (pa_cons (pe_callB call_len (by rfl) mLen PySem.boot_len (pa_cons (pv 2) pa_nil)) pa_nil)) (pg_name (i := 3) scLawWord.nd rfl (Or.inl rfl))
          (pss_one (ps_if (pt_cmpR op_ne (pe_slice sl_str (pv 0) (po_some (pe_op op_add (pv 1) (pv 3))) (po_some (pe_op op_add (pe_op op_add (pv 1) (pv 3)) pe_int))) (pe_ix ix_str (pv 2) (pv 3) (fun _ _ => rfl)) (nomark _))
            (pss_one (ps_ret (pe_tup (pa_cons pe_non (pa_cons (pe_op op_add (pv 1) (pv 3)) pa_nil))))) pss_nil)))
      (pss_cons (ps_set (i := 4) scLawWord.nd rfl (Or.inl rfl) (pe_op op_add (pv 1) (pe_callB call_len (by rfl) mLen PySem.boot_len (pa_cons (pv 2) pa_nil))))
      (pss_one (ps_ret (pe_ifExp (PW.pt (pw_or (pt_cmpR op_eq (pv 4) (pe_callB call_len (by rfl) mLen PySem.boot_len (pa_cons (pv 0) pa_nil)) (nomark _)) (pw_or1 (pt_cmpR op_eq (pe_ix ix_str (pv 0) (pv 4) (fun _ _ => rfl)) pe_str (nomark _)))))
            (pe_tup (pa_cons (pv 4) (pa_cons pe_non pa_nil))) (pe_tup (pa_cons pe_non (pa_cons (pv 4) pa_nil)))))))), ?_⟩
    refine ⟨fun σ' H' => H' = H ∧ ∃ o, σ' = [some (.str z), some (.int k), some (.str g), o, none] ∧ k + g.length ≤ z.length ∧ wordR z g.cps.toList k = wordR z [] (k + g.length), ?_, ?_⟩
    · refine ⟨_, rfl, _, g.length, rfl, ⟨hg2, rfl⟩, _, rfl, by omega, by omega, for_range (lo := 0) (n := ((g.length : Nat) : Int).toNat) (fun i σ' H' => H' = H ∧ ∃ o, σ' = [some (.str z), some (.int k), some (.str g), o, none] ∧ k + i ≤ z.length ∧ wordR z g.cps.toList k = wordR z (g.cps.toList.drop i) (k + i)) ⟨rfl, none, rfl, hk, rfl⟩ ?_ ?_⟩
      · rintro i σ' H' hi ⟨rfl, o, rfl, hki, e⟩
        have eI : (0 : Int) + (i : Int) = (i : Int) := by omega
        rw [eI]
        have hi' : i < g.length := by omega
        obtain ⟨d, hd, _⟩ := drop_at hi'
        rw [drop_get hd] at e
        have back : ∀ {σ2 : L2.St}, σ2[1]? = some (some (.int k)) → σ2[3]? = some (some (.int i)) → z.cps.toList[k + i]? ≠ some d → tRet (tTup (tCons (tC .non) (tCons (tOp (rI0 fun i j => .int (i + j)) (tVar 1) (tVar 3)) tNil))) { nx := fun _ _ => False, rt := Q, bk := fun _ _ => False, ct := fun _ _ => False } σ2 H' := by
          intro σ2 h1 h3 hm
          rw [word_miss hm] at e
          rw [e] at q
          exact ⟨_, h1, _, h3, _, _, rfl, rfl, two_ok, q⟩
        refine ⟨_, rfl, _, rfl, _, rfl, _, _, rfl, rfl, _, rfl, _, rfl, _, rfl, _, _, rfl, rfl, _, _, rfl, rfl, _, rfl, z, rfl, hz, _, rfl, _, rfl, g, _, d, rfl, rfl, hg2, atI_nat hd, rfl, ?_⟩
        have ec : cutS z (some ((k : Int) + (i : Int))) (some ((k : Int) + (i : Int) + 1)) = subS z (k + i) (k + i + 1) := cut_sub (i := k + i) (j := k + i + 1) hki
        show ∃ b, V.bl (!decide (V.str (cutS z (some ((k : Int) + (i : Int))) (some ((k : Int) + (i : Int) + 1))) = V.str ⟨#[d]⟩)) = .bl b ∧ _
        rw [ec]
        rcases Nat.lt_or_ge (k + i) z.length with lt | ge
        · obtain ⟨c, hc, _⟩ := drop_at lt
          rw [sub_one hc]
          by_cases cd : c = d
          · subst cd
            refine ⟨false, congrArg V.bl (by rw [decide_eq_true rfl]; rfl), iteF ⟨rfl, _, rfl, lt, ?_⟩⟩
            rw [e, word_hit hc]
            rfl
          · refine ⟨true, congrArg V.bl (by rw [decide_eq_false fun h => cd (sign_inj.mp (V.str.inj h))]; rfl), iteT (back rfl rfl fun h => cd ?_)⟩
            rw [hc] at h
            exact Option.some.inj h
        · rw [sub_over ge]
          refine ⟨true, congrArg V.bl (by rw [decide_eq_false fun h => sign_ne (V.str.inj h)]; rfl), iteT (back rfl rfl fun h => ?_)⟩
          rw [at_none ge] at h
          cases h
      · rintro σ' H' ⟨rfl, o, rfl, hki, e⟩
        refine ⟨rfl, o, rfl, by omega, ?_⟩
        rw [e, List.drop_eq_nil_of_le (by rw [len_cps]; omega)]
        rfl
    · rintro σ' H' ⟨rfl, o, rfl, hki, e⟩
      rw [e] at q
      refine ⟨_, rfl, _, rfl, _, g.length, rfl, ⟨hg2, rfl⟩, _, _, rfl, rfl, ?_⟩
      refine ⟨_, rfl, _, rfl, _, z.length, rfl, ⟨hz, rfl⟩, rfl, ?_⟩
      rcases Nat.lt_or_ge (k + g.length) z.length with lt | ge
      · obtain ⟨c, hc, _⟩ := drop_at lt
        refine ⟨false, congrArg V.bl (decide_eq_false fun h => by injection h with h; omega), iteF ⟨_, rfl, _, rfl, z, _, c, rfl, rfl, hz, atI_nat hc, rfl, ?_⟩⟩
        by_cases c32 : c = 32
        · subst c32
          rw [word_end_space hc] at q
          exact ⟨true, congrArg V.bl (by decide +kernel), iteT ⟨_, rfl, two_ok, q⟩⟩
        · rw [word_end_other hc c32] at q
          have ne : (⟨#[c]⟩ : Str) ≠ spaceS := fun h => c32 (sign_inj.mp (h.trans space_is))
          exact ⟨false, congrArg V.bl (decide_eq_false fun h => ne (V.str.inj h)), iteF ⟨_, rfl, two_ok, q⟩⟩
      · rw [word_end_none (at_none ge)] at q
        exact ⟨true, congrArg V.bl (decide_eq_true (congrArg V.int (show ((k + g.length : Nat) : Int) = (z.length : Int) by omega))), iteT (iteT ⟨_, rfl, two_ok, q⟩)⟩
end
end K88
/-! Names. -/
namespace K88
open PySem L2

abbrev smallS : Str := "abcdefghijklmnopqrstuvwxyz"
abbrev digitS : Str := "0123456789"
abbrev bothS : Str := smallS ++ digitS
abbrev wordsL : List Str := ["web", "tie", "end", "has", "pieces", "rounds", "is", "free", "plane", "presses", "to"]
def nameR (z : Str) (k : Nat) : Nat ⊕ Nat := match z.cps.toList[k]? with
  | none => .inr k
  | some c => if c ∈ smallS.cps.toList then (if 8 < run z bothS k - k then .inr (k + 8) else if inV (.str (subS z k (run z bothS k))) (wordsL.map V.str) = true then .inr (run z bothS k) else .inl (run z bothS k)) else .inr k
theorem name_none {z : Str} {k : Nat} (h : z.cps.toList[k]? = none) : nameR z k = .inr k := by
  unfold nameR
  rw [h]
theorem name_not {z : Str} {k c : Nat} (h : z.cps.toList[k]? = some c) (n : c ∉ smallS.cps.toList) : nameR z k = .inr k := by
  unfold nameR
  rw [h]
  exact if_neg n
theorem name_is {z : Str} {k c : Nat} (h : z.cps.toList[k]? = some c) (n : c ∈ smallS.cps.toList) : nameR z k = if 8 < run z bothS k - k then .inr (k + 8) else if inV (.str (subS z k (run z bothS k))) (wordsL.map V.str) = true then .inr (run z bothS k) else .inl (run z bothS k) := by
  unfold nameR
  rw [h]
  exact if_pos n
theorem small_both {c : Nat} (h : c ∈ smallS.cps.toList) : c ∈ bothS.cps.toList := by
  have key : ∀ c ∈ smallS.cps.toList, c ∈ bothS.cps.toList := by decide +kernel
  exact key c h
theorem run_more {z g : Str} {k c : Nat} (h : z.cps.toList[k]? = some c) (hc : c ∈ g.cps.toList) : k < run z g k := by
  rw [run_in h hc]
  exact run_ge z g (k + 1)
theorem both_len : smallS.length + digitS.length ≤ sizeLine := by decide +kernel

section
variable {P : Program} {w : World} {K : PySem.W.Frag} {mg : Str → Option Value} {base : Heap} {f g : Addr} {fd gd : FuncData}
/-- the end of both: from the run's end on -/
theorem name_end {H H1 : Hp} {Q : VK} {z : Str} {k c : Nat} {σ : L2.St} {tw : TE} (hc : z.cps.toList[k]? = some c) (n : c ∈ smallS.cps.toList) (h0 : σ[0]? = some (some (.str z))) (h1 : σ[1]? = some (some (.int k))) (h2 : σ[2]? = some (some (.int (run z bothS k : Nat)))) (hz : z.length ≤ sizeLine)
    (s : Same H H1) (hlen : ¬ 8 < run z bothS k - k) (q : ∀ t H', Same H H' → H' t = some (.tup (prV (nameR z k))) → Q (.ref t) H')
    (hw : ∀ R : VK, (∀ p H2, Same H1 H2 → (SqL K H2 p (wordsL.map V.str) ∨ SqT K H2 p (wordsL.map V.str)) → R (.ref p) H2) → tw σ H1 R) :
    tIf (tTest (tOp (rIn K false) (tSl rSlS (tVar 0) (tPart (tVar 1)) (tPart (tVar 2))) tw)) (tTup (tCons (tC .non) (tCons (tVar 2) tNil))) (tTup (tCons (tVar 2) (tCons (tC .non) tNil))) σ H1 Q := by
  have hk : k < z.cps.toList.length := by
    rcases Nat.lt_or_ge k z.cps.toList.length with q | q
    · exact q
    · rw [List.getElem?_eq_none q] at hc
      cases hc
  rw [len_cps] at hk
  refine ⟨_, h0, _, h1, _, rfl, _, h2, _, rfl, z, rfl, hz, hw _ fun p H2 s2 hp => ⟨p, _, rfl, hp, rfl, by decide +kernel, ?_⟩⟩
  show ∃ b, V.bl (inV (.str (cutS z (some (k : Int)) (some ((run z bothS k : Nat) : Int)))) (wordsL.map V.str)) = .bl b ∧ _
  rw [cut_sub (Nat.le_of_lt hk)]
  rw [name_is hc n, if_neg hlen] at q
  have s12 := s.trans s2
  cases e : inV (.str (subS z k (run z bothS k))) (wordsL.map V.str) with
  | true =>
    rw [e, if_pos rfl] at q
    exact ⟨true, rfl, iteT ⟨_, h2, two_ok, fun t ht => q t _ (s12.trans (same_new ht)) upd_same⟩⟩
  | false =>
    rw [e, if_neg (by decide)] at q
    exact ⟨false, rfl, iteF ⟨_, h2, two_ok, fun t ht => q t _ (s12.trans (same_new ht)) upd_same⟩⟩
abbrev sName : Stmt := top 11
theorem scName : FnScope ["line", "k", "end"] ["line", "k"] (defScope sName) := ⟨rfl, rfl, rfl, by decide +kernel, rfl, by decide +kernel, by decide +kernel⟩
theorem ok_name (F : FnP K "name_scan" sName f fd) (T : Told P w K mg base "run_end" 1 ["line", "k", "signs"] spRun g gd) (mLen : mg "len" = none) {t1 t2 t3 : Tok} {aW : Addr} (mS : mg "SMALL" = some (.str smallS t1)) (mD : mg "DIGITS" = some (.str digitS t2)) (mL : mg "LONGEST" = some (.int 8 t3))
    (mW : mg "WORDS" = some (.ref aW)) (hW : ∀ H, SqT K H aW (wordsL.map V.str)) : FnOk P w K mg base CX0 2 f fd ["line", "k"] (spPair nameR) := by
  refine F.ok scName (fun vs H Q E h => ?_) (fun cdv A outer s H vs Q E hr h => ?_)
  · obtain ⟨z, k, rfl, _⟩ := h
    rfl
  · obtain ⟨z, k, rfl, hz, hk, q⟩ := h
    refine ⟨_, PSs.nox (pss_cons (ps_if (PW.pt (pw_or (pt_cmpR op_eq (pv 1) (pe_callB call_len (by rfl) mLen PySem.boot_len (pa_cons (pv 0) pa_nil)) (nomark _)) (pw_or1 (pt_cmpR op_notIn_sign (pe_ix ix_str (pv 0) (pv 1) (fun _ _ => rfl)) (pe_glob (v := .str smallS) (by rfl) mS ⟨_, rfl⟩) rfl))))
          (pss_one (ps_ret (pe_tup (pa_cons pe_non (pa_cons (pv 1) pa_nil))))) pss_nil)
      (pss_cons (ps_set (i := 2) scName.nd rfl (Or.inl rfl) (pe_call T.ok hr (by rfl) T.m T.kp T.b .nil pass0 (pa_cons (pv 0) (pa_cons (pv 1) (pa_cons (pe_op op_add_str (pe_glob (v := .str smallS) (by rfl) mS ⟨_, rfl⟩) (pe_glob (v := .str digitS) (by rfl) mD ⟨_, rfl⟩)) pa_nil)))))
      (pss_cons (ps_if (pt_cmpR op_gt (pe_op op_sub (pv 2) (pv 1)) (pe_glob (v := .int 8) (by rfl) mL ⟨_, rfl⟩) (nomark _))
          (pss_one (ps_ret (pe_tup (pa_cons pe_non (pa_cons (pe_op op_add (pv 1) (pe_glob (v := .int 8) (by rfl) mL ⟨_, rfl⟩)) pa_nil))))) pss_nil)
      (pss_one (ps_ret (pe_ifExp (pt_cmpR op_in_seq (pe_slice sl_str (pv 0) (po_some (pv 1)) (po_some (pv 2))) (pe_glob (v := .ref aW) (by rfl) mW rfl) rfl) (pe_tup (pa_cons pe_non (pa_cons (pv 2) pa_nil))) (pe_tup (pa_cons (pv 2) (pa_cons pe_non pa_nil))))))))), ?_⟩
    refine ⟨_, rfl, _, rfl, _, z.length, rfl, ⟨hz, rfl⟩, rfl, ?_⟩
    rcases Nat.lt_or_ge k z.length with lt | ge
    · obtain ⟨c, hc, _⟩ := drop_at lt
      refine ⟨false, congrArg V.bl (decide_eq_false fun h => by injection h with h; omega), iteF ⟨_, rfl, _, rfl, z, _, c, rfl, rfl, hz, atI_nat hc, c, smallS, rfl, rfl, ?_⟩⟩
      by_cases n : c ∈ smallS.cps.toList
      · refine ⟨false, congrArg V.bl (by rw [decide_eq_true n]; rfl), iteF ?_⟩
        refine ⟨_, rfl, _, rfl, _, _, rfl, rfl, both_len, z, bothS, k, rfl, hz, hk, ?_⟩
        refine ⟨_, rfl, _, rfl, _, _, rfl, rfl, _, _, rfl, rfl, ?_⟩
        have g1 := run_ge z bothS k
        by_cases l : 8 < run z bothS k - k
        · rw [name_is hc n, if_pos l] at q
          exact ⟨true, congrArg V.bl (decide_eq_true (show ((run z bothS k : Nat) : Int) - (k : Int) > 8 by omega)), iteT ⟨_, rfl, _, _, rfl, rfl, two_ok, fin_tup q⟩⟩
        · refine ⟨false, congrArg V.bl (decide_eq_false (show ¬ ((run z bothS k : Nat) : Int) - (k : Int) > 8 by omega)), iteF ?_⟩
          exact name_end (K := K) hc n rfl rfl rfl hz (Same.refl H) l q fun R hR => hR aW H (Same.refl H) (.inr (hW H))
      · rw [name_not hc n] at q
        exact ⟨true, congrArg V.bl (by rw [decide_eq_false n]; rfl), iteT ⟨_, rfl, two_ok, fin_tup q⟩⟩
    · rw [name_none (at_none ge)] at q
      exact ⟨true, congrArg V.bl (decide_eq_true (congrArg V.int (show (k : Int) = (z.length : Int) by omega))), iteT (iteT ⟨_, rfl, two_ok, fin_tup q⟩)⟩
/-! ### the law's -/
def spSmall : Sp := fun vs H Q _ => vs = [] ∧ Q (.str smallS) H
def spWords : Sp := fun vs H Q _ => vs = [] ∧ ∀ l, H l = none → Q (.ref l) (upd H l (.lst (wordsL.map V.str)))
abbrev sSmall : Stmt := top 45
theorem scSmall : FnScope [] [] (defScope sSmall) := ⟨rfl, rfl, rfl, by decide +kernel, rfl, by decide +kernel, by decide +kernel⟩
theorem ok_small (F : FnP K "_law_small" sSmall f fd) : FnOk P w K mg base CX0 1 f fd [] spSmall := by
  refine F.ok scSmall (fun vs H Q E h => ?_) (fun cdv A outer s H vs Q E hr h => ?_)
  · obtain ⟨rfl, _⟩ := h
    rfl
  · obtain ⟨rfl, q⟩ := h
    exact ⟨_, PSs.nox (pss_one (ps_ret pe_str)), q⟩
abbrev sWords : Stmt := top 44
theorem scWords : FnScope [] [] (defScope sWords) := ⟨rfl, rfl, rfl, by decide +kernel, rfl, by decide +kernel, by decide +kernel⟩
theorem ok_words (F : FnP K "_law_words" sWords f fd) : FnOk P w K mg base CX0 1 f fd [] spWords := by
  refine F.ok scWords (fun vs H Q E h => ?_) (fun cdv A outer s H vs Q E hr h => ?_)
  · obtain ⟨rfl, _⟩ := h
    rfl
  · obtain ⟨rfl, q⟩ := h
    exact ⟨_, PSs.nox (pss_one (ps_ret (pe_lst (pa_cons pe_str (pa_cons pe_str (pa_cons pe_str (pa_cons pe_str (pa_cons pe_str (pa_cons pe_str (pa_cons pe_str (pa_cons pe_str (pa_cons pe_str (pa_cons pe_str (pa_cons pe_str pa_nil)))))))))))))), by show 11 ≤ sizeLine; decide, q⟩
abbrev sLawName : Stmt := top 50
theorem scLawName : FnScope ["line", "k", "end"] ["line", "k"] (defScope sLawName) := ⟨rfl, rfl, rfl, by decide +kernel, rfl, by decide +kernel, by decide +kernel⟩
theorem ok_law_name {fs fw : Addr} {ds dw : FuncData} (F : FnP K "_law_one_name" sLawName f fd) (T : Told P w K mg base "_law_run" 1 ["line", "k", "signs"] spRun g gd) (TS_ : Told P w K mg base "_law_small" 1 [] spSmall fs ds) (TW : Told P w K mg base "_law_words" 1 [] spWords fw dw) :
    FnOk P w K mg base CX0 2 f fd ["line", "k"] (spPair nameR) := by
  refine F.ok scLawName (fun vs H Q E h => ?_) (fun cdv A outer s H vs Q E hr h => ?_)
  · obtain ⟨z, k, rfl, _⟩ := h
    rfl
  · obtain ⟨z, k, rfl, hz, hk, q⟩ := h
    refine ⟨_, PSs.nox (pss_cons (ps_set (i := 2) scLawName.nd rfl (Or.inl rfl) (pe_call T.ok hr (by rfl) T.m T.kp T.b .nil pass0 (pa_cons (pv 0) (pa_cons (pv 1) (pa_cons (pe_op op_add_str (pe_call0 TS_.ok hr (by rfl) TS_.m TS_.kp TS_.b .nil pass0) pe_str) pa_nil)))))
      (pss_cons (ps_if (PW.pt (pw_or (pt_cmpR op_eq (pv 2) (pv 1) (nomark _)) (pw_or1 (pt_cmpR op_notIn_sign (pe_ix ix_str (pv 0) (pv 1) (fun _ _ => rfl)) (pe_call0 TS_.ok hr (by rfl) TS_.m TS_.kp TS_.b .nil pass0) rfl))))
          (pss_one (ps_ret (pe_tup (pa_cons pe_non (pa_cons (pv 1) pa_nil))))) pss_nil)
      (pss_cons (ps_if (pt_cmpR op_gt (pe_op op_sub (pv 2) (pv 1)) pe_int (nomark _))
          (pss_one (ps_ret (pe_tup (pa_cons pe_non (pa_cons (pe_op op_add (pv 1) pe_int) pa_nil))))) pss_nil)
      (pss_one (ps_ret (pe_ifExp (pt_cmpR op_in_seq (pe_slice sl_str (pv 0) (po_some (pv 1)) (po_some (pv 2))) (pe_call0 TW.ok hr (by rfl) TW.m TW.kp TW.b .nil pass0) rfl) (pe_tup (pa_cons pe_non (pa_cons (pv 2) pa_nil))) (pe_tup (pa_cons (pv 2) (pa_cons pe_non pa_nil))))))))), ?_⟩
    refine ⟨_, rfl, _, rfl, rfl, _, _, rfl, rfl, both_len, z, bothS, k, rfl, hz, hk, ?_⟩
    refine ⟨_, rfl, _, rfl, rfl, ?_⟩
    have g1 := run_ge z bothS k
    rcases Nat.lt_or_ge k z.length with lt | ge
    · obtain ⟨c, hc, _⟩ := drop_at lt
      by_cases n : c ∈ smallS.cps.toList
      · have more := run_more hc (small_both n)
        refine ⟨false, congrArg V.bl (decide_eq_false fun h => by injection h with h; omega), iteF ⟨_, rfl, _, rfl, z, _, c, rfl, rfl, hz, atI_nat hc, rfl, c, smallS, rfl, rfl, ?_⟩⟩
        refine ⟨false, congrArg V.bl (by rw [decide_eq_true n]; rfl), iteF ?_⟩
        refine ⟨_, rfl, _, rfl, _, _, rfl, rfl, _, _, rfl, rfl, ?_⟩
        by_cases l : 8 < run z bothS k - k
        · rw [name_is hc n, if_pos l] at q
          exact ⟨true, congrArg V.bl (decide_eq_true (show ((run z bothS k : Nat) : Int) - (k : Int) > 8 by omega)), iteT ⟨_, rfl, _, _, rfl, rfl, two_ok, fin_tup q⟩⟩
        · refine ⟨false, congrArg V.bl (decide_eq_false (show ¬ ((run z bothS k : Nat) : Int) - (k : Int) > 8 by omega)), iteF ?_⟩
          exact name_end (K := K) hc n rfl rfl rfl hz (Same.refl H) l q fun R hR => ⟨rfl, fun l hl => hR l _ (same_new hl) (.inl (.inl (.inl upd_same)))⟩
      · rw [name_not hc n] at q
        by_cases b : run z bothS k = k
        · exact ⟨true, congrArg V.bl (decide_eq_true (by rw [b])), iteT (iteT ⟨_, rfl, two_ok, fin_tup q⟩)⟩
        · refine ⟨false, congrArg V.bl (decide_eq_false fun h => b (by injection h with h; exact Int.ofNat_inj.mp h)), iteF ⟨_, rfl, _, rfl, z, _, c, rfl, rfl, hz, atI_nat hc, rfl, c, smallS, rfl, rfl, ?_⟩⟩
          exact ⟨true, congrArg V.bl (by rw [decide_eq_false n]; rfl), iteT ⟨_, rfl, two_ok, fin_tup q⟩⟩
    · rw [name_none (at_none ge)] at q
      exact ⟨true, congrArg V.bl (decide_eq_true (by rw [run_end' ge])), iteT (iteT ⟨_, rfl, two_ok, fin_tup q⟩)⟩
end
end K88
/-! One of some texts at a place: the longest beginning. -/
namespace K88
open PySem L2

/-- s is a beginning of t -/
def bgn (s t : Str) : Bool := decide (t.cps.toList.take s.length = s.cps.toList)
theorem start_is (t s : Str) : Txt.startswith t s = bgn s t := by
  unfold Txt.startswith bgn
  rw [PySem.StrLaws.subAt_eq, List.drop_zero]
  have hs : s.cps.toList.length = s.length := len_cps s
  have ht : t.cps.toList.length = t.length := len_cps t
  by_cases h : t.cps.toList.take s.length = s.cps.toList
  · have e : 0 + s.length ≤ t.length := by
      have q := congrArg List.length h
      rw [List.length_take, hs, ht] at q
      omega
    rw [decide_eq_true h]
    simp only [e, decide_true, Bool.true_and]
    exact beq_iff_eq.mpr h
  · rw [decide_eq_false h]
    have e : (t.cps.toList.take s.length == s.cps.toList) = false := beq_eq_false_iff_ne.mpr h
    exact Bool.and_eq_false_iff.mpr (.inr e)
theorem str_ext {a b : Str} (h : a.cps.toList = b.cps.toList) : a = b := by
  cases a with
  | mk x =>
    cases b with
    | mk y =>
      have e : x = y := Array.toList_inj.mp h
      rw [e]
theorem cut_is {t s : Str} {n : Nat} (hn : s.length = n) : (cutS t none (some (n : Int)) = s) ↔ t.cps.toList.take s.length = s.cps.toList := by
  have e : (cutS t none (some (n : Int))).cps.toList = t.cps.toList.take n := by
    unfold cutS
    rw [HT.sIx_none, HT.sIx_nat, List.drop_zero, Nat.sub_zero]
    rcases Nat.le_total n t.length with h | h
    · rw [Nat.min_eq_left h]
    · rw [Nat.min_eq_right h, List.take_of_length_le (by rw [len_cps]; omega), List.take_of_length_le (by rw [len_cps]; omega)]
  rw [hn]
  constructor
  · intro h
    rw [← e, h]
  · intro h
    exact str_ext (e.trans h)
theorem sub_len {z : Str} {i j : Nat} (hi : i ≤ j) (hj : j ≤ z.length) : (subS z i j).length = j - i := by
  rw [← len_cps]
  unfold subS
  rw [List.toList_toArray, List.length_take, List.length_drop, len_cps]
  omega
/-- is it a beginning of one of them? -/
def bg (texts : List Str) (s : Str) : Bool := texts.any fun t => bgn s t
def ext (z : Str) (texts : List Str) (k : Nat) : Nat → Nat → Nat
  | 0, e => e
  | n + 1, e => if bg texts (subS z k (e + 1)) = true then ext z texts k n (e + 1) else e
/-- how far a beginning goes -/
def extR (z : Str) (texts : List Str) (k : Nat) : Nat := ext z texts k (z.length - k) k
theorem ext_ge (z : Str) (texts : List Str) (k : Nat) : ∀ n e, e ≤ ext z texts k n e
  | 0, e => Nat.le_refl _
  | n + 1, e => by
    unfold ext
    split
    · exact Nat.le_trans (Nat.le_succ _) (ext_ge z texts k n (e + 1))
    · exact Nat.le_refl _
theorem ext_le (z : Str) (texts : List Str) (k : Nat) : ∀ n e, ext z texts k n e ≤ e + n
  | 0, e => Nat.le_refl _
  | n + 1, e => by
    unfold ext
    split
    · have := ext_le z texts k n (e + 1)
      omega
    · omega
theorem extR_le {z : Str} {texts : List Str} {k : Nat} (hk : k ≤ z.length) : extR z texts k ≤ z.length := by
  have := ext_le z texts k (z.length - k) k
  unfold extR
  omega
/-- (end, None), or where it fails -/
def oneR (z : Str) (texts : List Str) (k : Nat) : Nat ⊕ Nat := if inV (.str (subS z k (extR z texts k))) (texts.map V.str) = true then .inl (extR z texts k) else .inr (extR z texts k)
section
variable {K : PySem.W.Frag} {G H : Hp}
theorem take_more {α : Type} {l : List α} {i : Nat} {x : α} (h : l[i]? = some x) : l.take (i + 1) = l.take i ++ [x] := by
  rw [List.take_add_one, h]
  rfl
theorem yes_then {σ : L2.St} {H : Hp} {A B : Hp → Prop} (h : A H) : tYes σ H fun b H3 => if b = true then A H3 else B H3 := by
  show (if true = true then A H else B H)
  rw [if_pos rfl]
  exact h
/-- a list of answers, text by text -/
theorem bools_read {σ : L2.St} {Q : VK} {a : Addr} {texts : List Str} {i j : Nat} {te : TE} (b : Str → Bool) (hj : σ[j]? = some (some (.ref a))) (hs : ∀ H', Same H H' → SqL K H' a (texts.map V.str)) (hn : texts.length ≤ 1000) (hw : ∀ v : V, wipe ((wipe σ [i]).set i (some v)) [i] = wipe σ [i])
    (hte : ∀ (t : Str) (H3 : Hp) (R : VK), t ∈ texts → Same H H3 → R (.bl (b t)) H3 → te ((wipe σ [i]).set i (some (.str t))) H3 R)
    (k : ∀ D H', Same H H' → H' D = some (.lst ((texts.map b).map V.bl)) → Q (.ref D) H') : tLc (iList K (tVar j)) (gName i) tYes te [i] σ H Q := by
  refine ⟨_, hj, a, rfl, ⟨_, hs H (Same.refl H)⟩, fun D nD => lc_list (xs := texts.map V.str) (fun m H2 => Same H H2 ∧ H2 D = some (.lst (((texts.take m).map b).map V.bl)) ∧ m ≤ texts.length) ⟨same_new nD, upd_same, Nat.zero_le _⟩ (fun m H2 _ ⟨sm, _, _⟩ => hs H2 sm) ?_ ?_⟩
  · rintro m x H2 hx ⟨sm, hD, hm⟩
    rw [List.getElem?_map] at hx
    obtain ⟨t, ht, rfl⟩ := Option.map_eq_some_iff.mp hx
    have hml : m < texts.length := by
      rcases Nat.lt_or_ge m texts.length with q | q
      · exact q
      · rw [List.getElem?_eq_none q] at ht
        cases ht
    refine ⟨hw _, ?_⟩
    refine yes_then ?_
    refine hte t H2 _ (List.mem_of_getElem? ht) sm ⟨_, hD, ?_, ?_, ?_, hml⟩
    · refine Nat.lt_of_lt_of_le (show _ < 1001 from ?_) (by decide)
      rw [List.length_map, List.length_map, List.length_take]
      omega
    · intro c o e
      rw [upd_ne (ne_of_none e nD)]
      exact sm c o e
    · rw [upd_same, take_more ht, List.map_append, List.map_append]
      rfl
  · rintro H2 ⟨sm, hD, _⟩
    rw [List.length_map, List.take_length] at hD
    exact k D H2 sm hD
end
end K88
/-! between_scan, other_scan, the law's own. -/
namespace K88
open PySem L2

abbrev numS (i : Int) : Str := toString i
/-- m numbers from low on -/
def numsL (low m : Nat) : List Str := (List.range m).map fun (i : Nat) => numS ((low : Int) + (i : Int))
theorem nums_len (low m : Nat) : (numsL low m).length = m := by
  unfold numsL
  rw [List.length_map, List.length_range]
theorem nums_none : ∀ low m : Nat, low ≤ 12 → m ≤ 13 → inV (.str ⟨#[]⟩) ((numsL low m).map V.str) = false := by
  have key : ∀ low : _root_.Fin 13, ∀ m : _root_.Fin 14, inV (.str ⟨#[]⟩) ((numsL low.val m.val).map V.str) = false := by decide +kernel
  exact fun low m h1 h2 => key ⟨low, by omega⟩ ⟨m, by omega⟩
theorem sub_nil (z : Str) (k : Nat) : subS z k k = ⟨#[]⟩ := by
  unfold subS
  rw [Nat.sub_self, List.take_zero]
theorem log_small {i : Int} (h : i.natAbs < 1024) : i.natAbs.log2 < 1920 := by
  rcases Nat.eq_zero_or_pos i.natAbs with e | e
  · rw [e]
    decide
  · exact Nat.lt_of_lt_of_le ((Nat.log2_lt (Nat.pos_iff_ne_zero.mp e)).mpr (show i.natAbs < 2 ^ 10 by omega)) (by decide)
def spBetween : Sp := fun vs H Q _ => ∃ (z : Str) (k low m : Nat), vs = [.str z, .int k, .int low, .int ((low : Int) + (m : Int) - 1)] ∧ z.length ≤ sizeLine ∧ k ≤ z.length ∧ low ≤ 12 ∧ m ≤ 13 ∧
  ∀ t H', Same H H' → H' t = some (.tup (prV (oneR z (numsL low m) k))) → Q (.ref t) H'
theorem nums_snoc (low m : Nat) : numsL low (m + 1) = numsL low m ++ [numS ((low : Int) + (m : Int))] := by
  unfold numsL
  rw [List.range_succ, List.map_append]
  rfl
theorem flat_strs (T : List Str) : (T.map V.str).all flatV = true := List.all_eq_true.mpr fun x hx => by
  obtain ⟨t, _, rfl⟩ := List.mem_map.mp hx
  rfl
theorem any_bg (T : List Str) (s : Str) : ((T.map fun t => bgn s t).any id) = bg T s := by
  unfold bg
  rw [List.any_map]
  rfl
theorem any_of {K : PySem.W.Frag} {te : TE} {σ : L2.St} {H : Hp} {Q : Bool → Hp → Prop} (h : te σ H fun x H1 => rAny K [x] H1 fun v H2 => ∃ c, v = .bl c ∧ Q c H2) : tB (tCB (rAny K) (tCons te tNil)) σ H Q := h
theorem ext_step {z : Str} {T : List Str} {k e : Nat} (he : e < z.length) (h : bg T (subS z k (e + 1)) = true) : ext z T k (z.length - e) e = ext z T k (z.length - (e + 1)) (e + 1) := by
  have q : z.length - e = (z.length - (e + 1)) + 1 := by omega
  rw [q]
  exact if_pos h
theorem ext_stop {z : Str} {T : List Str} {k e : Nat} (he : e < z.length) (h : bg T (subS z k (e + 1)) = false) : ext z T k (z.length - e) e = e := by
  have q : z.length - e = (z.length - (e + 1)) + 1 := by omega
  rw [q]
  exact if_neg (by rw [h]; decide)
section
variable {P : Program} {w : World} {K : PySem.W.Frag} {mg : Str → Option Value} {base : Heap} {f g : Addr} {fd gd : FuncData}
abbrev sBetween : Stmt := top 15
abbrev betN : List Str := ["line", "k", "low", "high", "texts", "end", "number", "text"]
theorem scBetween : FnScope betN ["line", "k", "low", "high"] (defScope sBetween) := ⟨rfl, rfl, rfl, by decide +kernel, rfl, by decide +kernel, by decide +kernel⟩
abbrev rStart : V → List V → Hp → VK → Prop := fun x xs H Q => ∃ a b, x = .str a ∧ xs = [.str b] ∧ Q (.bl (Txt.startswith a b)) H
abbrev rStrI : List V → Hp → VK → Prop := fun xs H Q => ∃ i, xs = [V.int i] ∧ i.natAbs.log2 < 1920 ∧ Q (.str (toString i)) H
abbrev addI : R2 := rI0 fun i j => .int (i + j)
theorem ok_between (F : FnP K "between_scan" sBetween f fd) (mLen : mg "len" = none) (mR : mg "range" = none) (mStr : mg "str" = none) (mAny : mg "any" = none) : FnOk P w K mg base CX0 1 f fd ["line", "k", "low", "high"] spBetween := by
  refine F.ok scBetween (fun vs H Q E h => ?_) (fun cdv A outer s H vs Q E hr h => ?_)
  · obtain ⟨z, k, low, m, rfl, _⟩ := h
    rfl
  · obtain ⟨z, k, low, m, rfl, hz, hk, hlow, hm, q⟩ := h
    refine ⟨_, PSs.nox (C8.pss_cut (ps_setLc (i := 4) (own := [("number", 6)]) (g := gName 6) (tt := tYes) (te := tCB rStrI (tCons (tVar 6) tNil)) rfl scBetween.nd rfl rfl (by rfl) (pi_range2 (by rfl) mR (pa_cons (pv 2) (pa_cons (pe_op op_add (pv 3) pe_int) pa_nil))) (blkOk_by (own := [("number", 6)]) (N := betN) (sc := defScope sBetween) (by decide +kernel))
          (fun _ _ _ _ _ => pg_name (i := 6) scBetween.nd rfl (Or.inl rfl)) (fun _ _ _ _ _ => pts_nil) (fun _ _ _ _ _ => pe_callTy (T := "str") call_str_int (by rfl) mStr (by decide +kernel) (pa_cons (pv 6) pa_nil)))
      (pss_cons (ps_set (i := 5) scBetween.nd rfl (Or.inr rfl) (pv 1))
      (C8.pss_cut (ps_while PassesOwn.never (PW.pt (pw_and (pt_cmpR op_lt (pv 5) (pe_callB call_len (by rfl) mLen PySem.boot_len (pa_cons (pv 0) pa_nil)) (nomark _)) (pw_and1 (pt_val (pe_callB (cr_any rfl) (by rfl) mAny (by decide +kernel) (pa_cons
            (pe_lc (own := [("text", 7)]) (g := gName 7) (tt := tYes) (te := tM1 rStart (tVar 7) (tSl rSlS (tVar 0) (tPart (tVar 1)) (tPart (tOp addI (tVar 5) (tC (.int 1)))))) rfl scBetween.nd (pi_list (pv 4)) (blkOk_by (own := [("text", 7)]) (N := betN) (sc := defScope sBetween) (by decide +kernel))
              (fun _ _ _ _ _ => pg_name (i := 7) scBetween.nd rfl (Or.inl rfl)) (fun _ _ _ _ _ => pts_nil) (fun _ _ _ _ _ => pe_m1 (id := "str.startswith") PySem.F.slot_str_startswith PySem.F.type_str_startswith mt_startswith (pv 7) (pe_slice sl_str (pv 0) (po_some (pv 1)) (po_some (pe_op op_add (pv 5) pe_int))))) pa_nil))))))
          (pss_one (ps_aug (i := 5) scBetween.nd rfl (Or.inr rfl) pe_int ip_add)))
      (pss_cons (ps_if (PW.pt (pw_or (pt_cmpR op_eq (pv 5) (pv 1) (nomark _)) (pw_or1 (pt_cmpR op_notIn_seq (pe_slice sl_str (pv 0) (po_some (pv 1)) (po_some (pv 5))) (pv 4) rfl))))
          (pss_one (ps_ret (pe_tup (pa_cons pe_non (pa_cons (pv 5) pa_nil))))) pss_nil)
      (pss_one (ps_ret (pe_tup (pa_cons (pv 5) (pa_cons pe_non pa_nil))))))))), ?_⟩
    refine ⟨fun σ' H' => ∃ D, σ' = [some (.str z), some (.int k), some (.int low), some (.int ((low : Int) + (m : Int) - 1)), some (.ref D), none, none, none] ∧ Same H H' ∧ H' D = some (.lst ((numsL low m).map V.str)), ?_, ?_⟩
    · refine ⟨_, rfl, _, rfl, _, _, rfl, rfl, _, _, rfl, ⟨by omega, by omega, by omega, by omega⟩, fun D nD => lc_range (lo := (low : Int)) (n := (((low : Int) + (m : Int) - 1 + 1) - (low : Int)).toNat) (fun i H2 => Same H H2 ∧ H2 D = some (.lst ((numsL low i).map V.str)) ∧ i ≤ m) ⟨same_new nD, upd_same, Nat.zero_le _⟩ ?_ ?_⟩
      · rintro i H2 hi ⟨sm, hD, _⟩
        have hi' : i < m := by omega
        refine ⟨rfl, ?_⟩
        refine yes_then ?_
        refine ⟨_, rfl, _, rfl, log_small (by omega), _, hD, ?_, fun c o e => ?_, ?_, hi'⟩
        · rw [List.length_map, nums_len]
          exact Nat.lt_of_lt_of_le hi' (Nat.le_trans hm (by decide))
        · rw [upd_ne (ne_of_none e nD)]
          exact sm c o e
        · rw [upd_same, nums_snoc, List.map_append]
          rfl
      · rintro H2 ⟨sm, hD, _⟩
        have e : (((low : Int) + (m : Int) - 1 + 1) - (low : Int)).toNat = m := by omega
        rw [e] at hD
        exact ⟨D, rfl, sm, hD⟩
    · rintro σ1 H1 ⟨D, rfl, s1, hD⟩
      refine ⟨_, rfl, fun σ' H' => σ' = [some (.str z), some (.int k), some (.int low), some (.int ((low : Int) + (m : Int) - 1)), some (.ref D), some (.int (extR z (numsL low m) k : Nat)), none, none] ∧ Same H1 H', ?_, ?_⟩
      · refine ⟨fun n σ' H' => ∃ e : Nat, σ' = [some (.str z), some (.int k), some (.int low), some (.int ((low : Int) + (m : Int) - 1)), some (.ref D), some (.int e), none, none] ∧ Same H1 H' ∧ k ≤ e ∧ e ≤ z.length ∧ ext z (numsL low m) k (z.length - e) e = extR z (numsL low m) k ∧ n = z.length - e, ⟨_, k, rfl, Same.refl H1, Nat.le_refl k, hk, rfl, rfl⟩, ?_⟩
        rintro n σ' H' ⟨e, rfl, sm, hke, he, hx, rfl⟩
        refine ⟨_, rfl, _, rfl, _, z.length, rfl, ⟨hz, rfl⟩, _, _, rfl, rfl, ?_⟩
        rcases Nat.lt_or_ge e z.length with lt | ge
        · refine ⟨true, congrArg V.bl (decide_eq_true (Int.ofNat_lt.mpr lt)), iteT ?_⟩
          refine any_of (bools_read (a := D) (fun t => bgn (subS z k (e + 1)) t) rfl (fun H2 s2 => .inl (.inl (s2 _ _ (sm _ _ hD)))) (by rw [nums_len]; omega) (fun _ => rfl) (fun t H3 R ht s3 hR => ?_) fun D2 H2 s2 hD2 => ⟨D2, _, rfl, .inl (.inl hD2), _, rfl, ?_⟩)
          · refine ⟨_, rfl, ⟨_, rfl⟩, _, rfl, _, rfl, _, rfl, _, rfl, _, _, rfl, rfl, _, rfl, z, rfl, hz, _, _, rfl, rfl, ?_⟩
            show R (.bl (Txt.startswith t (cutS z (some (k : Int)) (some ((e + 1 : Nat) : Int))))) H3
            rw [cut_sub hk, start_is]
            exact hR
          · rw [any_bg]
            cases hb : bg (numsL low m) (subS z k (e + 1)) with
            | true =>
              refine iteT ⟨fun σ' H'' => H'' = H2 ∧ σ' = [some (.str z), some (.int k), some (.int low), some (.int ((low : Int) + (m : Int) - 1)), some (.ref D), some (.int (e + 1 : Nat)), none, none], ?_, ?_⟩
              · rintro σ2 H3 ⟨rfl, rfl⟩
                exact ⟨z.length - (e + 1), by omega, e + 1, rfl, sm.trans s2, by omega, lt, (ext_step lt hb).symm.trans hx, rfl⟩
              · exact ⟨_, rfl, _, _, rfl, rfl, rfl, rfl⟩
            | false =>
              refine iteF ⟨?_, sm.trans s2⟩
              rw [← hx, ext_stop lt hb]
        · refine ⟨false, congrArg V.bl (decide_eq_false fun h => by omega), iteF (iteF ⟨?_, sm⟩)⟩
          have e0 : z.length - e = 0 := by omega
          rw [← hx, e0]
          rfl
      · rintro σ2 H2 ⟨rfl, s2⟩
        have hD2 := s2 _ _ hD
        have sx := s1.trans s2
        have hxl := extR_le (texts := numsL low m) hk
        refine ⟨_, rfl, _, rfl, rfl, ?_⟩
        unfold oneR at q
        by_cases b : extR z (numsL low m) k = k
        · rw [b, sub_nil, nums_none low m hlow hm, if_neg (by decide)] at q
          refine ⟨true, congrArg V.bl (decide_eq_true (by rw [b])), iteT (iteT ⟨_, rfl, two_ok, fun t ht => q t _ (sx.trans (same_new ht)) ?_⟩)⟩
          rw [upd_same, b]
          rfl
        · refine ⟨false, congrArg V.bl (decide_eq_false fun h => b (by injection h with h; exact Int.ofNat_inj.mp h)), iteF ⟨_, rfl, _, rfl, _, rfl, _, rfl, _, rfl, z, rfl, hz, _, rfl, D, _, rfl, .inl (.inl (.inl hD2)), rfl, flat_strs _, ?_⟩⟩
          show ∃ c, V.bl (!inV (.str (cutS z (some (k : Int)) (some ((extR z (numsL low m) k : Nat) : Int)))) ((numsL low m).map V.str)) = .bl c ∧ _
          rw [cut_sub hk]
          cases hi : inV (.str (subS z k (extR z (numsL low m) k))) ((numsL low m).map V.str) with
          | true =>
            rw [hi, if_pos rfl] at q
            exact ⟨false, rfl, iteF ⟨_, rfl, two_ok, fun t ht => q t _ (sx.trans (same_new ht)) upd_same⟩⟩
          | false =>
            rw [hi, if_neg (by decide)] at q
            exact ⟨true, rfl, iteT ⟨_, rfl, two_ok, fun t ht => q t _ (sx.trans (same_new ht)) upd_same⟩⟩
end
end K88
/-! other_scan; the law's own. -/
namespace K88
open PySem L2

def othersL (m p : Nat) : List Str := ((List.range m).filter fun i => decide (i ≠ p)).map fun (i : Nat) => numS (i : Int)
theorem others_snoc (m p : Nat) : othersL (m + 1) p = othersL m p ++ if m = p then [] else [numS (m : Int)] := by
  unfold othersL
  rw [List.range_succ, List.filter_append, List.map_append]
  by_cases h : m = p
  · rw [if_pos h]
    simp [h]
  · rw [if_neg h]
    simp [h]
theorem others_len (m p : Nat) : (othersL m p).length ≤ m := by
  unfold othersL
  rw [List.length_map]
  exact Nat.le_trans (List.length_filter_le _ _) (Nat.le_of_eq List.length_range)
theorem num_short : ∀ i : Nat, i ≤ 13 → (numS (i : Int)).length ≤ 2 := by
  have key : ∀ i : _root_.Fin 14, (numS (i.val : Int)).length ≤ 2 := by decide +kernel
  exact fun i h => key ⟨i, by omega⟩
theorem others_short {m p : Nat} (hm : m ≤ 13) : ∀ t ∈ othersL m p, t.length ≤ 2 := fun t ht => by
  unfold othersL at ht
  obtain ⟨i, hi, rfl⟩ := List.mem_map.mp ht
  have q := List.mem_range.mp (List.mem_filter.mp hi).1
  exact num_short i (by omega)
theorem cmp_is {z t : Str} {k e : Nat} (hke : k ≤ e) (he : e < z.length) : decide (V.str (cutS t none (some ((e : Int) + 1 - (k : Int)))) = V.str (cutS z (some (k : Int)) (some ((e : Int) + 1)))) = bgn (subS z k (e + 1)) t := by
  have e1 : cutS z (some (k : Int)) (some ((e : Int) + 1)) = subS z k (e + 1) := cut_sub (j := e + 1) (by omega)
  have e2 : (e : Int) + 1 - (k : Int) = ((e + 1 - k : Nat) : Int) := by omega
  rw [e1, e2]
  have q := cut_is (t := t) (s := subS z k (e + 1)) (n := e + 1 - k) (sub_len (by omega) (by omega))
  unfold bgn
  by_cases h : t.cps.toList.take (subS z k (e + 1)).length = (subS z k (e + 1)).cps.toList
  · rw [decide_eq_true h, decide_eq_true (congrArg V.str (q.mpr h))]
  · rw [decide_eq_false h, decide_eq_false fun x => h (q.mp (V.str.inj x))]
theorem bg_short {T : List Str} {s : Str} (hT : ∀ t ∈ T, t.length ≤ 2) (h : bg T s = true) : s.length ≤ 2 := by
  obtain ⟨t, ht, hb⟩ := List.any_eq_true.mp h
  have q := of_decide_eq_true hb
  have q2 := congrArg List.length q
  rw [List.length_take, len_cps, len_cps] at q2
  have := hT t ht
  omega
def spOther : Sp := fun vs H Q _ => ∃ (z : Str) (k m p : Nat), vs = [.str z, .int k, .int m, .int p] ∧ z.length ≤ sizeLine ∧ k ≤ z.length ∧ m ≤ 13 ∧
  ∀ t H', Same H H' → H' t = some (.tup (prV (.inr (extR z (othersL m p) k)))) → Q (.ref t) H'
def spOneOf (K : PySem.W.Frag) : Sp := fun vs H Q _ => ∃ (z : Str) (k : Nat) (a : Addr) (T : List Str), vs = [.str z, .int k, .ref a] ∧ z.length ≤ sizeLine ∧ k ≤ z.length ∧ SqL K H a (T.map V.str) ∧ T.length ≤ 1000 ∧ (∀ t ∈ T, t.length ≤ 2) ∧
  ∀ t H', Same H H' → H' t = some (.tup (prV (oneR z T k))) → Q (.ref t) H'
section
variable {P : Program} {w : World} {K : PySem.W.Frag} {mg : Str → Option Value} {base : Heap} {f g : Addr} {fd gd : FuncData}
abbrev subI : R2 := rI0 fun i j => .int (i - j)
/-- text[:end + 1 - k] == line[k:end + 1] -/
abbrev tCmp (t l k e : Nat) : TE := tOp rEq (tSl rSlS (tVar t) tNoPart (tPart (tOp subI (tOp addI (tVar e) (tC (.int 1))) (tVar k)))) (tSl rSlS (tVar l) (tPart (tVar k)) (tPart (tOp addI (tVar e) (tC (.int 1)))))
theorem cmp_read {σ : L2.St} {H : Hp} {R : VK} {z x : Str} {k e : Nat} {t l kk ee : Nat} (ht : σ[t]? = some (some (.str x))) (hl : σ[l]? = some (some (.str z))) (hk : σ[kk]? = some (some (.int k))) (he : σ[ee]? = some (some (.int e))) (hz : z.length ≤ sizeLine) (hx : x.length ≤ sizeLine) (h1 : k ≤ e) (h2 : e < z.length)
    (q : R (.bl (bgn (subS z k (e + 1)) x)) H) : tCmp t l kk ee σ H R := by
  refine ⟨_, ht, _, he, _, _, rfl, rfl, _, hk, _, _, rfl, rfl, _, rfl, x, rfl, hx, _, hl, _, hk, _, rfl, _, he, _, _, rfl, rfl, _, rfl, z, rfl, hz, rfl, ?_⟩
  show R (.bl (decide (V.str (cutS x none (some ((e : Int) + 1 - (k : Int)))) = V.str (cutS z (some (k : Int)) (some ((e : Int) + 1)))))) H
  rw [cmp_is h1 h2]
  exact q
abbrev sOther : Stmt := top 31
abbrev othN : List Str := ["line", "k", "size", "place", "texts", "end", "other", "text"]
theorem scOther : FnScope othN ["line", "k", "size", "place"] (defScope sOther) := ⟨rfl, rfl, rfl, by decide +kernel, rfl, by decide +kernel, by decide +kernel⟩
theorem ok_other (F : FnP K "other_scan" sOther f fd) (mLen : mg "len" = none) (mR : mg "range" = none) (mStr : mg "str" = none) (mAny : mg "any" = none) : FnOk P w K mg base CX0 1 f fd ["line", "k", "size", "place"] spOther := by
  refine F.ok scOther (fun vs H Q E h => ?_) (fun cdv A outer s H vs Q E hr h => ?_)
  · obtain ⟨z, k, m, p, rfl, _⟩ := h
    rfl
  · obtain ⟨z, k, m, p, rfl, hz, hk, hm, q⟩ := h
    have hsz : sizeLine = 16777216 := sizeLine_eq
    refine ⟨_, PSs.nox (C8.pss_cut (ps_setLc (i := 4) (own := [("other", 6)]) (g := gName 6) (tt := tTest (tOp rNe (tVar 6) (tVar 3))) (te := tCB rStrI (tCons (tVar 6) tNil)) rfl scOther.nd rfl rfl (by rfl) (pi_range1 (by rfl) mR (pa_cons (pv 2) pa_nil)) (blkOk_by (own := [("other", 6)]) (N := othN) (sc := defScope sOther) (by decide +kernel))
          (fun _ _ _ _ _ => pg_name (i := 6) scOther.nd rfl (Or.inl rfl)) (fun _ _ _ _ _ => pts_one (pt_cmpR op_ne (pv 6) (pv 3) (nomark _))) (fun _ _ _ _ _ => pe_callTy (T := "str") call_str_int (by rfl) mStr (by decide +kernel) (pa_cons (pv 6) pa_nil)))
      (pss_cons (ps_set (i := 5) scOther.nd rfl (Or.inr rfl) (pv 1))
      (C8.pss_cut (ps_while PassesOwn.never (PW.pt (pw_and (pt_cmpR op_lt (pv 5) (pe_callB call_len (by rfl) mLen PySem.boot_len (pa_cons (pv 0) pa_nil)) (nomark _)) (pw_and1 (pt_val (pe_callB (cr_any rfl) (by rfl) mAny (by decide +kernel) (pa_cons
            (pe_lc (own := [("text", 7)]) (g := gName 7) (tt := tYes) (te := tCmp 7 0 1 5) rfl scOther.nd (pi_list (pv 4)) (blkOk_by (own := [("text", 7)]) (N := othN) (sc := defScope sOther) (by decide +kernel))
              (fun _ _ _ _ _ => pg_name (i := 7) scOther.nd rfl (Or.inl rfl)) (fun _ _ _ _ _ => pts_nil) (fun _ _ _ _ _ => pe_cmpR op_eq (pe_slice sl_str (pv 7) po_none (po_some (pe_op op_sub (pe_op op_add (pv 5) pe_int) (pv 1)))) (pe_slice sl_str (pv 0) (po_some (pv 1)) (po_some (pe_op op_add (pv 5) pe_int))) (nomark _))) pa_nil))))))
          (pss_one (ps_aug (i := 5) scOther.nd rfl (Or.inr rfl) pe_int ip_add)))
      (pss_one (ps_ret (pe_tup (pa_cons pe_non (pa_cons (pv 5) pa_nil)))))))), ?_⟩
    refine ⟨fun σ' H' => ∃ D, σ' = [some (.str z), some (.int k), some (.int m), some (.int p), some (.ref D), none, none, none] ∧ Same H H' ∧ H' D = some (.lst ((othersL m p).map V.str)), ?_, ?_⟩
    · refine ⟨_, rfl, _, rfl, by omega, by omega, fun D nD => lc_range (lo := 0) (n := ((m : Nat) : Int).toNat) (fun i H2 => Same H H2 ∧ H2 D = some (.lst ((othersL i p).map V.str)) ∧ i ≤ m) ⟨same_new nD, upd_same, Nat.zero_le _⟩ ?_ ?_⟩
      · rintro i H2 hi ⟨sm, hD, _⟩
        have hi' : i < m := by omega
        have eI : (0 : Int) + (i : Int) = (i : Int) := by omega
        rw [eI]
        refine ⟨rfl, _, rfl, _, rfl, rfl, ?_⟩
        by_cases hp : i = p
        · refine ⟨false, congrArg V.bl (by rw [decide_eq_true (by rw [hp])]; rfl), iteF ⟨sm, ?_, hi'⟩⟩
          rw [others_snoc, if_pos hp, List.append_nil]
          exact hD
        · refine ⟨true, congrArg V.bl (by rw [decide_eq_false fun h => hp (by injection h with h; exact Int.ofNat_inj.mp h)]; rfl), iteT ⟨_, rfl, _, rfl, log_small (by omega), _, hD, ?_, fun c o e => ?_, ?_, hi'⟩⟩
          · rw [List.length_map]
            exact Nat.lt_of_le_of_lt (others_len i p) (by omega)
          · rw [upd_ne (ne_of_none e nD)]
            exact sm c o e
          · rw [upd_same, others_snoc, if_neg hp, List.map_append]
            rfl
      · rintro H2 ⟨sm, hD, _⟩
        exact ⟨D, rfl, sm, hD⟩
    · rintro σ1 H1 ⟨D, rfl, s1, hD⟩
      refine ⟨_, rfl, fun σ' H' => σ' = [some (.str z), some (.int k), some (.int m), some (.int p), some (.ref D), some (.int (extR z (othersL m p) k : Nat)), none, none] ∧ Same H1 H', ?_, ?_⟩
      · refine ⟨fun n σ' H' => ∃ e : Nat, σ' = [some (.str z), some (.int k), some (.int m), some (.int p), some (.ref D), some (.int e), none, none] ∧ Same H1 H' ∧ k ≤ e ∧ e ≤ z.length ∧ ext z (othersL m p) k (z.length - e) e = extR z (othersL m p) k ∧ n = z.length - e, ⟨_, k, rfl, Same.refl H1, Nat.le_refl k, hk, rfl, rfl⟩, ?_⟩
        rintro n σ' H' ⟨e, rfl, sm, hke, he, hx, rfl⟩
        refine ⟨_, rfl, _, rfl, _, z.length, rfl, ⟨hz, rfl⟩, _, _, rfl, rfl, ?_⟩
        rcases Nat.lt_or_ge e z.length with lt | ge
        · refine ⟨true, congrArg V.bl (decide_eq_true (Int.ofNat_lt.mpr lt)), iteT ?_⟩
          refine any_of (bools_read (a := D) (fun t => bgn (subS z k (e + 1)) t) rfl (fun H2 s2 => .inl (.inl (s2 _ _ (sm _ _ hD)))) (Nat.le_trans (others_len m p) (by omega)) (fun _ => rfl) (fun t H3 R ht s3 hR => ?_) fun D2 H2 s2 hD2 => ⟨D2, _, rfl, .inl (.inl hD2), _, rfl, ?_⟩)
          · exact cmp_read rfl rfl rfl rfl hz (Nat.le_trans (others_short hm t ht) (by omega)) hke lt hR
          · rw [any_bg]
            cases hb : bg (othersL m p) (subS z k (e + 1)) with
            | true =>
              refine iteT ⟨fun σ' H'' => H'' = H2 ∧ σ' = [some (.str z), some (.int k), some (.int m), some (.int p), some (.ref D), some (.int (e + 1 : Nat)), none, none], ?_, ?_⟩
              · rintro σ2 H3 ⟨rfl, rfl⟩
                exact ⟨z.length - (e + 1), by omega, e + 1, rfl, sm.trans s2, by omega, lt, (ext_step lt hb).symm.trans hx, rfl⟩
              · exact ⟨_, rfl, _, _, rfl, rfl, rfl, rfl⟩
            | false =>
              refine iteF ⟨?_, sm.trans s2⟩
              rw [← hx, ext_stop lt hb]
        · refine ⟨false, congrArg V.bl (decide_eq_false fun h => by omega), iteF (iteF ⟨?_, sm⟩)⟩
          have e0 : z.length - e = 0 := by omega
          rw [← hx, e0]
          rfl
      · rintro σ2 H2 ⟨rfl, s2⟩
        exact ⟨_, rfl, two_ok, fun t ht => q t _ ((s1.trans s2).trans (same_new ht)) upd_same⟩
abbrev sOneOf : Stmt := top 56
abbrev oneN : List Str := ["line", "k", "texts", "end", "lap", "text"]
theorem scOneOf : FnScope oneN ["line", "k", "texts"] (defScope sOneOf) := ⟨rfl, rfl, rfl, by decide +kernel, rfl, by decide +kernel, by decide +kernel⟩
theorem ok_one_of (F : FnP K "_law_one_of" sOneOf f fd) (mLen : mg "len" = none) (mR : mg "range" = none) (mAny : mg "any" = none) : FnOk P w K mg base CX0 1 f fd ["line", "k", "texts"] (spOneOf K) := by
  refine F.ok scOneOf (fun vs H Q E h => ?_) (fun cdv A outer s H vs Q E hr h => ?_)
  · obtain ⟨z, k, a, T, rfl, _⟩ := h
    rfl
  · obtain ⟨z, k, a, T, rfl, hz, hk, hS, hT, hT2, q⟩ := h
    have hsz : sizeLine = 16777216 := sizeLine_eq
    refine ⟨_, PSs.nox (pss_cons (ps_set (i := 3) scOneOf.nd rfl (Or.inr rfl) (pv 1))
      (C8.pss_cut (ps_for PassesOwn.never rfl (pi_range1 (by rfl) mR (pa_cons pe_int pa_nil)) (pg_name (i := 4) scOneOf.nd rfl (Or.inl rfl))
          (pss_one (ps_if (PW.pt (pw_and (pt_cmpR op_lt (pv 3) (pe_callB call_len (by rfl) mLen PySem.boot_len (pa_cons (pv 0) pa_nil)) (nomark _)) (pw_and1 (pt_val (pe_callB (cr_any rfl) (by rfl) mAny (by decide +kernel) (pa_cons
            (pe_lc (own := [("text", 5)]) (g := gName 5) (tt := tYes) (te := tCmp 5 0 1 3) rfl scOneOf.nd (pi_list (pv 2)) (blkOk_by (own := [("text", 5)]) (N := oneN) (sc := defScope sOneOf) (by decide +kernel))
              (fun _ _ _ _ _ => pg_name (i := 5) scOneOf.nd rfl (Or.inl rfl)) (fun _ _ _ _ _ => pts_nil) (fun _ _ _ _ _ => pe_cmpR op_eq (pe_slice sl_str (pv 5) po_none (po_some (pe_op op_sub (pe_op op_add (pv 3) pe_int) (pv 1)))) (pe_slice sl_str (pv 0) (po_some (pv 1)) (po_some (pe_op op_add (pv 3) pe_int))) (nomark _))) pa_nil))))))
            (pss_one (ps_set (i := 3) scOneOf.nd rfl (Or.inr rfl) (pe_op op_add (pv 3) pe_int))) (pss_one ps_break))))
      (pss_one (ps_ret (pe_ifExp (pt_cmpR op_in_seq (pe_slice sl_str (pv 0) (po_some (pv 1)) (po_some (pv 3))) (pv 2) rfl) (pe_tup (pa_cons (pv 3) (pa_cons pe_non pa_nil))) (pe_tup (pa_cons pe_non (pa_cons (pv 3) pa_nil)))))))), ?_⟩
    refine ⟨_, rfl, fun σ' H' => Same H H' ∧ ∃ o, σ' = [some (.str z), some (.int k), some (.ref a), some (.int (extR z T k : Nat)), o, none], ?_, ?_⟩
    · refine ⟨3, rfl, by decide, by decide, for_range (lo := 0) (n := 3) (fun i σ' H' => Same H H' ∧ i ≤ 2 ∧ ∃ (e : Nat) (o : Option V), σ' = [some (.str z), some (.int k), some (.ref a), some (.int e), o, none] ∧ e = k + i ∧ e ≤ z.length ∧ ext z T k (z.length - e) e = extR z T k) ⟨Same.refl H, by omega, k, none, rfl, rfl, hk, rfl⟩ ?_ ?_⟩
      · rintro i σ' H' hi ⟨sm, hi2, e, o, rfl, hei, he, hx⟩
        refine ⟨_, rfl, _, rfl, _, z.length, rfl, ⟨hz, rfl⟩, _, _, rfl, rfl, ?_⟩
        rcases Nat.lt_or_ge e z.length with lt | ge
        · refine ⟨true, congrArg V.bl (decide_eq_true (Int.ofNat_lt.mpr lt)), iteT ?_⟩
          refine any_of (bools_read (a := a) (fun t => bgn (subS z k (e + 1)) t) rfl (fun H2 s2 => (sm.trans s2).seq hS) hT (fun _ => rfl) (fun t H3 R ht s3 hR => ?_) fun D2 H2 s2 hD2 => ⟨D2, _, rfl, .inl (.inl hD2), _, rfl, ?_⟩)
          · exact cmp_read rfl rfl rfl rfl hz (Nat.le_trans (hT2 t ht) (by omega)) (by omega) lt hR
          · rw [any_bg]
            cases hb : bg T (subS z k (e + 1)) with
            | true =>
              have hl := bg_short hT2 hb
              rw [sub_len (by omega) (by omega)] at hl
              exact iteT ⟨_, rfl, _, _, rfl, rfl, sm.trans s2, by omega, e + 1, _, rfl, by omega, lt, (ext_step lt hb).symm.trans hx⟩
            | false =>
              refine iteF ⟨sm.trans s2, some (.int ((0 : Int) + (i : Int))), ?_⟩
              rw [← hx, ext_stop lt hb]
              rfl
        · refine ⟨false, congrArg V.bl (decide_eq_false fun h => by omega), iteF (iteF ⟨sm, some (.int ((0 : Int) + (i : Int))), ?_⟩)⟩
          have e0 : z.length - e = 0 := by omega
          rw [← hx, e0]
          rfl
      · rintro σ' H' ⟨sm, h2, _⟩
        omega
    · rintro σ2 H2 ⟨s2, o, rfl⟩
      refine ⟨_, rfl, _, rfl, _, rfl, _, rfl, _, rfl, z, rfl, hz, _, rfl, a, _, rfl, .inl (s2.seq hS), rfl, flat_strs _, ?_⟩
      show ∃ c, V.bl (inV (.str (cutS z (some (k : Int)) (some ((extR z T k : Nat) : Int)))) (T.map V.str)) = .bl c ∧ _
      rw [cut_sub hk]
      unfold oneR at q
      cases hi : inV (.str (subS z k (extR z T k))) (T.map V.str) with
      | true =>
        rw [hi, if_pos rfl] at q
        exact ⟨true, rfl, iteT ⟨_, rfl, two_ok, fun t ht => q t _ (s2.trans (same_new ht)) upd_same⟩⟩
      | false =>
        rw [hi, if_neg (by decide)] at q
        exact ⟨false, rfl, iteF ⟨_, rfl, two_ok, fun t ht => q t _ (s2.trans (same_new ht)) upd_same⟩⟩
end
end K88
/-! A title line. -/
namespace K88
open PySem L2

def prA : Nat ⊕ Nat → V
  | .inl e => .int e
  | .inr _ => .non
def prB : Nat ⊕ Nat → V
  | .inl _ => .non
  | .inr w => .int w
theorem prV_is (r : Nat ⊕ Nat) : prV r = [prA r, prB r] := by cases r <;> rfl
theorem get_pair {K : PySem.W.Frag} {r : Nat ⊕ Nat} {σ : L2.St} {H : Hp} {t : Addr} {i j : Nat} {Q : L2.St → Hp → Prop} (h : H t = some (.tup (prV r))) (q : Q ((σ.set i (some (prA r))).set j (some (prB r))) H) :
    gTup K 2 (gCons (gName i) (gCons (gName j) gNil)) (.ref t) σ H Q := by
  rw [prV_is] at h
  exact ⟨t, _, rfl, .inl (.inl h), rfl, _, _, rfl, _, _, rfl, rfl, q⟩
/-- the number that a text is -/
def numI (s : Str) : Int := (PySem.intText? s).getD 0
theorem run_cases {z : Str} {k e : Nat} (hk : k ≤ z.length) (h : gapR z k = .inl e) : k ≤ e ∧ e ≤ z.length := by
  unfold gapR at h
  by_cases c : k < run z spaceS k
  · rw [if_pos c] at h
    cases h
    exact ⟨run_ge _ _ _, run_le hk⟩
  · rw [if_neg c] at h
    cases h
theorem gap_wrong {z : Str} {k w : Nat} (h : gapR z k = .inr w) : w = k := by
  unfold gapR at h
  by_cases c : k < run z spaceS k
  · rw [if_pos c] at h
    cases h
  · rw [if_neg c] at h
    cases h
    rfl
theorem word_le {z : Str} : ∀ (l : List Nat) (k e : Nat), k ≤ z.length → wordR z l k = .inl e → k ≤ e ∧ e ≤ z.length
  | [], k, e, hk, h => by
    cases q : z.cps.toList[k]? with
    | none =>
      rw [word_end_none q] at h
      cases h
      exact ⟨Nat.le_refl _, hk⟩
    | some c =>
      by_cases c32 : c = 32
      · subst c32
        rw [word_end_space q] at h
        cases h
        exact ⟨Nat.le_refl _, hk⟩
      · rw [word_end_other q c32] at h
        cases h
  | c :: l, k, e, hk, h => by
    by_cases q : z.cps.toList[k]? = some c
    · rw [word_hit q] at h
      have hk2 : k < z.cps.toList.length := by
        rcases Nat.lt_or_ge k z.cps.toList.length with x | x
        · exact x
        · rw [List.getElem?_eq_none x] at q
          cases q
      rw [len_cps] at hk2
      have := word_le l (k + 1) e hk2 h
      omega
    · rw [word_miss q] at h
      cases h
theorem name_le {z : Str} {k e : Nat} (hk : k ≤ z.length) (h : nameR z k = .inl e) : k ≤ e ∧ e ≤ z.length := by
  cases q : z.cps.toList[k]? with
  | none =>
    rw [name_none q] at h
    cases h
  | some c =>
    by_cases n : c ∈ smallS.cps.toList
    · rw [name_is q n] at h
      split at h
      · cases h
      · split at h
        · cases h
        · cases h
          exact ⟨run_ge _ _ _, run_le hk⟩
    · rw [name_not q n] at h
      cases h
theorem one_le {z : Str} {T : List Str} {k e : Nat} (hk : k ≤ z.length) (h : oneR z T k = .inl e) : k ≤ e ∧ e ≤ z.length ∧ inV (.str (subS z k e)) (T.map V.str) = true := by
  unfold oneR at h
  split at h
  · rename_i q
    cases h
    exact ⟨ext_ge _ _ _ _ _, extR_le hk, q⟩
  · cases h
theorem one_wrong {z : Str} {T : List Str} {k w : Nat} (h : oneR z T k = .inr w) : k ≤ w := by
  unfold oneR at h
  split at h
  · cases h
  · cases h
    exact ext_ge _ _ _ _ _
theorem inV_mem {s : Str} {T : List Str} : inV (.str s) (T.map V.str) = true ↔ s ∈ T := by
  unfold inV
  rw [List.any_map, List.any_eq_true]
  constructor
  · rintro ⟨t, ht, e⟩
    have q : t = s := eq_of_beq (show (t == s) = true from e)
    exact q ▸ ht
  · intro h
    exact ⟨s, h, show (s == s) = true from beq_self_eq_true s⟩
/-- a told number is what int tells of it -/
theorem num_text {s : Str} {low m : Nat} (h : s ∈ numsL low m) (hl : low + m ≤ 13) : ∃ i : Nat, low ≤ i ∧ i < low + m ∧ PySem.intText? s = some (i : Int) ∧ s = numS (i : Int) ∧ s.length ≤ 640 := by
  unfold numsL at h
  obtain ⟨i, hi, rfl⟩ := List.mem_map.mp h
  have hi' := List.mem_range.mp hi
  have key : ∀ j : _root_.Fin 13, PySem.intText? (numS (j.val : Int)) = some (j.val : Int) ∧ (numS (j.val : Int)).length ≤ 640 := by decide +kernel
  have q := key ⟨low + i, by omega⟩
  have e : ((low : Int) + (i : Int)) = ((low + i : Nat) : Int) := by omega
  rw [e]
  exact ⟨low + i, by omega, by omega, q.1, rfl, q.2⟩
abbrev webL : List Nat := ("web" : Str).cps.toList
abbrev tieL : List Nat := ("tie" : Str).cps.toList
abbrev endL : List Nat := ("end" : Str).cps.toList
/-- (name, start, size, wrong) -/
def tscanV (z : Str) : List V := match wordR z webL (run z spaceS 0) with
  | .inr w => [.non, .non, .non, .int w]
  | .inl k1 => match gapR z k1 with
    | .inr w => [.non, .non, .non, .int w]
    | .inl k2 => match nameR z k2 with
      | .inr w => [.non, .non, .non, .int w]
      | .inl e => match gapR z e with
        | .inr w => [.str (subS z k2 e), .int k2, .non, .int w]
        | .inl k3 => match oneR z (numsL 1 12) k3 with
          | .inr w => [.str (subS z k2 e), .int k2, .non, .int w]
          | .inl e2 => [.str (subS z k2 e), .int k2, .int (numI (subS z k3 e2)), opV (restR z e2)]
def spTScan : Sp := fun vs H Q _ => ∃ z : Str, vs = [.str z] ∧ z.length ≤ sizeLine ∧ ∀ t H', Same H H' → H' t = some (.tup (tscanV z)) → Q (.ref t) H'
theorem four_ok : 4 ≤ sizeLine := by decide
section
variable {P : Program} {w : World} {K : PySem.W.Frag} {mg : Str → Option Value} {base : Heap} {f g : Addr} {fd gd : FuncData}
abbrev sTScan : Stmt := top 28
abbrev tsN : List Str := ["line", "k", "wrong", "start", "end", "name"]
theorem scTScan : FnScope tsN ["line"] (defScope sTScan) := ⟨rfl, rfl, rfl, by decide +kernel, rfl, by decide +kernel, by decide +kernel⟩
theorem ok_tscan {fp fw fg fn fb fr : Addr} {dp dw dg dn db dr : FuncData} {t1 : Tok} (F : FnP K "title_scan" sTScan f fd) (TP : Told P w K mg base "past_spaces" 2 ["line", "k"] (spRun1 spaceS) fp dp) (TW : Told P w K mg base "word_scan" 1 ["line", "k", "word"] spWord fw dw)
    (TG_ : Told P w K mg base "gap_scan" 3 ["line", "k"] (spPair gapR) fg dg) (TN : Told P w K mg base "name_scan" 2 ["line", "k"] (spPair nameR) fn dn) (TB : Told P w K mg base "between_scan" 1 ["line", "k", "low", "high"] spBetween fb db) (TR : Told P w K mg base "rest_scan" 3 ["line", "k"] spRest fr dr)
    (mM : mg "MOST_SIZE" = some (.int 12 t1)) (mInt : mg "int" = none) : FnOk P w K mg base CX0 4 f fd ["line"] spTScan := by
  refine F.ok scTScan (fun vs H Q E h => ?_) (fun cdv A outer s H vs Q E hr h => ?_)
  · obtain ⟨z, rfl, _⟩ := h
    rfl
  · obtain ⟨z, rfl, hz, q⟩ := h
    have hr1 : Room 1 _ := hr.mono (by decide)
    have hr2 : Room 2 _ := hr.mono (by decide)
    refine ⟨_, PSs.nox (pss_cons (ps_asg (pe_call TW.ok hr1 (by rfl) TW.m TW.kp TW.b .nil pass0 (pa_cons (pv 0) (pa_cons (pe_call TP.ok hr2 (by rfl) TP.m TP.kp TP.b .nil pass0 (pa_cons (pv 0) (pa_cons pe_int pa_nil))) (pa_cons pe_str pa_nil)))) (pg_tup (n := 2) rfl (pgs_cons (pg_name (i := 1) scTScan.nd rfl (Or.inl rfl)) (pgs_cons (pg_name (i := 2) scTScan.nd rfl (Or.inl rfl)) pgs_nil))))
      (pss_cons (ps_if (pt_cmpR op_isN (pv 2) pe_non (nomark _))
          (pss_one (ps_asg (pe_call TG_.ok hr (by rfl) TG_.m TG_.kp TG_.b .nil pass0 (pa_cons (pv 0) (pa_cons (pv 1) pa_nil))) (pg_tup (n := 2) rfl (pgs_cons (pg_name (i := 1) scTScan.nd rfl (Or.inl rfl)) (pgs_cons (pg_name (i := 2) scTScan.nd rfl (Or.inl rfl)) pgs_nil))))) pss_nil)
      (pss_cons (ps_if (pt_cmpR op_notN (pv 2) pe_non (nomark _)) (pss_one (ps_ret (pe_tup (pa_cons pe_non (pa_cons pe_non (pa_cons pe_non (pa_cons (pv 2) pa_nil))))))) pss_nil)
      (pss_cons (ps_set (i := 3) scTScan.nd rfl (Or.inl rfl) (pv 1))
      (pss_cons (ps_asg (pe_call TN.ok hr2 (by rfl) TN.m TN.kp TN.b .nil pass0 (pa_cons (pv 0) (pa_cons (pv 1) pa_nil))) (pg_tup (n := 2) rfl (pgs_cons (pg_name (i := 4) scTScan.nd rfl (Or.inl rfl)) (pgs_cons (pg_name (i := 2) scTScan.nd rfl (Or.inl rfl)) pgs_nil))))
      (pss_cons (ps_if (pt_cmpR op_notN (pv 2) pe_non (nomark _)) (pss_one (ps_ret (pe_tup (pa_cons pe_non (pa_cons pe_non (pa_cons pe_non (pa_cons (pv 2) pa_nil))))))) pss_nil)
      (pss_cons (ps_set (i := 5) scTScan.nd rfl (Or.inl rfl) (pe_slice sl_str (pv 0) (po_some (pv 3)) (po_some (pv 4))))
      (pss_cons (ps_asg (pe_call TG_.ok hr (by rfl) TG_.m TG_.kp TG_.b .nil pass0 (pa_cons (pv 0) (pa_cons (pv 4) pa_nil))) (pg_tup (n := 2) rfl (pgs_cons (pg_name (i := 1) scTScan.nd rfl (Or.inl rfl)) (pgs_cons (pg_name (i := 2) scTScan.nd rfl (Or.inl rfl)) pgs_nil))))
      (pss_cons (ps_if (pt_cmpR op_isN (pv 2) pe_non (nomark _))
          (pss_one (ps_asg (pe_call TB.ok hr1 (by rfl) TB.m TB.kp TB.b .nil pass0 (pa_cons (pv 0) (pa_cons (pv 1) (pa_cons pe_int (pa_cons (pe_glob (v := .int 12) (by rfl) mM ⟨_, rfl⟩) pa_nil))))) (pg_tup (n := 2) rfl (pgs_cons (pg_name (i := 4) scTScan.nd rfl (Or.inl rfl)) (pgs_cons (pg_name (i := 2) scTScan.nd rfl (Or.inl rfl)) pgs_nil))))) pss_nil)
      (pss_cons (ps_if (pt_cmpR op_notN (pv 2) pe_non (nomark _)) (pss_one (ps_ret (pe_tup (pa_cons (pv 5) (pa_cons (pv 3) (pa_cons pe_non (pa_cons (pv 2) pa_nil))))))) pss_nil)
      (pss_one (ps_ret (pe_tup (pa_cons (pv 5) (pa_cons (pv 3) (pa_cons (pe_callTy call_int_str (by rfl) mInt (by decide +kernel) (pa_cons (pe_slice sl_str (pv 0) (po_some (pv 1)) (po_some (pv 4))) pa_nil)) (pa_cons (pe_call TR.ok hr (by rfl) TR.m TR.kp TR.b .nil pass0 (pa_cons (pv 0) (pa_cons (pv 4) pa_nil))) pa_nil))))))))))))))))), ?_⟩
    rw [show L2.start tsN [V.str z] = [some (V.str z), none, none, none, none, none] from rfl]
    have r0 := run_le (g := spaceS) (Nat.zero_le z.length)
    have hz0 := Nat.zero_le z.length
    refine ⟨_, rfl, _, rfl, z, 0, rfl, hz, hz0, z, "web", _, rfl, hz, by decide, r0, fun t1 H1 s1 h1 => ?_⟩
    unfold tscanV at q
    refine get_pair h1 ?_
    simp only [List.set_cons_succ, List.set_cons_zero]
    have bad : ∀ {a : L2.St} {H2 : Hp} {x y : V} {w : Nat} {ta tb tc : TE}, Same H H2 → a[2]? = some (some (.int w)) → (∀ t H', Same H H' → H' t = some (.tup [x, y, .non, .int w]) → Q (.ref t) H') → (∀ R : VK, R x H2 → ta a H2 R) → (∀ R : VK, R y H2 → tb a H2 R) → (∀ R : VK, R .non H2 → tc a H2 R) →
        tTup (tCons ta (tCons tb (tCons tc (tCons (tVar 2) tNil)))) a H2 Q := fun s2 h2 q ha hb hc => ha _ (hb _ (hc _ ⟨_, h2, four_ok, fun t ht => q t _ (s2.trans (same_new ht)) upd_same⟩))
    cases hw : wordR z webL (run z spaceS 0) with
    | inr w =>
      rw [hw] at q
      exact ⟨_, rfl, rfl, false, rfl, iteF ⟨_, rfl, rfl, true, rfl, iteT (bad s1 rfl q (fun _ h => h) (fun _ h => h) fun _ h => h)⟩⟩
    | inl k1 =>
      obtain ⟨_, l1⟩ := word_le _ _ _ r0 hw
      rw [hw] at q
      refine ⟨_, rfl, rfl, true, rfl, iteT ⟨_, rfl, _, rfl, z, k1, rfl, hz, l1, fun t2 H2 s2 h2 => get_pair h2 ?_⟩⟩
      simp only [List.set_cons_succ, List.set_cons_zero]
      have s12 := s1.trans s2
      cases hg : gapR z k1 with
      | inr w =>
        simp only [hg] at q
        exact ⟨_, rfl, rfl, true, rfl, iteT (bad s12 rfl q (fun _ h => h) (fun _ h => h) fun _ h => h)⟩
      | inl k2 =>
        obtain ⟨_, l2⟩ := run_cases l1 hg
        simp only [hg] at q
        refine ⟨_, rfl, rfl, false, rfl, iteF ⟨_, rfl, _, rfl, _, rfl, z, k2, rfl, hz, l2, fun t3 H3 s3 h3 => get_pair h3 ?_⟩⟩
        simp only [List.set_cons_succ, List.set_cons_zero]
        have s13 := s12.trans s3
        cases hn : nameR z k2 with
        | inr w =>
          simp only [hn] at q
          exact ⟨_, rfl, rfl, true, rfl, iteT (bad s13 rfl q (fun _ h => h) (fun _ h => h) fun _ h => h)⟩
        | inl e =>
          obtain ⟨_, l3⟩ := name_le l2 hn
          simp only [hn] at q
          refine ⟨_, rfl, rfl, false, rfl, iteF ⟨_, rfl, _, rfl, _, rfl, _, rfl, _, rfl, z, rfl, hz, ?_⟩⟩
          rw [cut_sub l2]
          refine ⟨_, rfl, _, rfl, z, e, rfl, hz, l3, fun t4 H4 s4 h4 => get_pair h4 ?_⟩
          simp only [List.set_cons_succ, List.set_cons_zero]
          have s14 := s13.trans s4
          cases hg2 : gapR z e with
          | inr w =>
            simp only [hg2] at q
            exact ⟨_, rfl, rfl, false, rfl, iteF ⟨_, rfl, rfl, true, rfl, iteT (bad s14 rfl q (fun _ h => ⟨_, rfl, h⟩) (fun _ h => ⟨_, rfl, h⟩) fun _ h => h)⟩⟩
          | inl k3 =>
            obtain ⟨_, l4⟩ := run_cases l3 hg2
            simp only [hg2] at q
            refine ⟨_, rfl, rfl, true, rfl, iteT ⟨_, rfl, _, rfl, z, k3, 1, 12, rfl, hz, l4, by decide, by decide, fun t5 H5 s5 h5 => get_pair h5 ?_⟩⟩
            simp only [List.set_cons_succ, List.set_cons_zero]
            have s15 := s14.trans s5
            cases ho : oneR z (numsL 1 12) k3 with
            | inr w =>
              simp only [ho] at q
              exact ⟨_, rfl, rfl, true, rfl, iteT (bad s15 rfl q (fun _ h => ⟨_, rfl, h⟩) (fun _ h => ⟨_, rfl, h⟩) fun _ h => h)⟩
            | inl e2 =>
              obtain ⟨_, l5, hin⟩ := one_le l4 ho
              obtain ⟨i, _, _, hi, _, hlen⟩ := num_text (inV_mem.mp hin) (by decide)
              have hnum : numI (subS z k3 e2) = (i : Int) := by
                unfold numI
                rw [hi]
                rfl
              simp only [ho] at q
              rw [hnum] at q
              refine ⟨_, rfl, rfl, false, rfl, iteF ⟨_, rfl, _, rfl, _, rfl, _, rfl, _, rfl, _, rfl, _, rfl, z, rfl, hz, ?_⟩⟩
              rw [cut_sub l4]
              exact ⟨_, _, rfl, hi, hlen, _, rfl, _, rfl, z, e2, rfl, hz, l5, four_ok, fun t ht => q t _ (s15.trans (same_new ht)) upd_same⟩
end
end K88
/-! BadLine: how it is made, what it carries. -/
namespace K88
open PySem L2

/-- what is known of WebError: its __init__ is ValueError's -/
structure WebE (K : PySem.W.Frag) (mg : Str → Option Value) (C : Addr) : Prop where
  m : mg "WebError" = some (.ref C)
  rd : PySem.W.readsIn K C (.type "type") = true
  ga : PySem.W.specialIn K (.ref C) "__getattribute__" = some (some (.builtin "type.__getattribute__"))
  v : PySem.W.findCls K (.ref C) (.type "type") "__init__" = some (.val (.builtin "ValueError.__init__"))
section
variable {X : Cx} {e : Expr} {es : List Expr} {ta : TA} {p1 p2 pos : Pos}
theorem pe_clsinit {pl : Sem Bool} {C : Addr} (T : WebE X.K X.mg C) (hg : Gl X "WebError") (ha : PA X (e :: es) ta)
    (hc : eval (.Call (.Attribute (.Name "WebError" p1) "__init__" p2) (e :: es) [] pos) X.env = (do
      let ov ← eval (.Name "WebError" p1) X.env
      standAt p2.atName
      let (f, first) ← holding [ov] (getMethod ov "__init__" pl)
      callWith pos f first (backTo pos (starEach (e :: es) X.env)) (backToKw pos (keywordEach [] X.env))) := by rfl)
    (he : starEach (e :: es) X.env = (false, eval e X.env) :: starEach es X.env := by rfl) (hpl : (backTo pos (starEach es X.env)).any (·.1) = false := by rfl) :
    PE X (.Call (.Attribute (.Name "WebError" p1) "__init__" p2) (e :: es) [] pos) (tVeI X.K ta) := by
  refine ⟨fun pins s σ H Q I h => ?_⟩
  refine PySem.W.methodCall_KW (ld_glob I hg T.m ?_ (by decide)) hc
  refine PySem.W.method_cls I.kIn T.ga (PySem.W.cls_value I.kIn T.rd T.v rfl ?_)
  show wpAny _ _ (callWith pos (Value.builtin "ValueError.__init__") [] (backTo pos (starEach (e :: es) X.env)) []) _ _ _
  refine PyProof.Rows.callWith_method1 (thn (ha.run pos pins _ σ H _ (I.tok _) h) fun us s1 ⟨vs, H1, I1, r1, a, C, ws, ev, hl, T, ea, q⟩ => ?_) he hpl
  subst ev
  cases r1 with
  | @cons _ u0 _ ur ra rw' =>
    obtain rfl : u0 = Value.ref a := ra
    have hlen : ur.length ≤ sizeLine := by
      rw [← Paired.length rw', sizeLine_eq]
      omega
    exact oinit_ok T I1 ea hlen fun s' J => ⟨.non, H1, J, rfl, q⟩
end

/-- the class of a wrong line, its __init__ at f -/
structure BadL (K : PySem.W.Frag) (mg : Str → Option Value) (C f : Addr) : Prop where
  m : mg "BadLine" = some (.ref C)
  ox : OexC K C
  iC : PySem.W.findIn K (.ref C) "__init__" = some (some (.ref f))
  tI : PySem.W.typeIn K (.ref f) = some (.type "function")
  nl : PySem.W.findIn K (.ref C) "line" = some none
  nc : PySem.W.findIn K (.ref C) "column" = some none
abbrev fldsB (l c : Int) : List (Str × V) := [("column", .int c), ("line", .int l)]
def spBL (C : Addr) : Sp := fun vs H Q _ => ∃ (a : Addr) (l c : Int), vs = [.ref a, .int l, .int c] ∧ H a = some (exo a C none) ∧
  ∀ dx H', H dx = none → dx ≠ a → (∀ b o, H b = some o → b ≠ a → H' b = some o) → H' a = some (exo a C (some dx)) → H' dx = some (exd dx (fldsB l c)) → Q .non H'
/-- BadLine(l, c) flies: its own dict, new, holds both -/
def flies (C : Addr) (E : XK) (H : Hp) (l c : Int) : Prop := ∀ d H', Same H H' → H' d = some (.xd (fldsB l c)) → E (.ref C) (some d) H'
section
variable {P : Program} {w : World} {K : PySem.W.Frag} {mg : Str → Option Value} {base : Heap} {f g : Addr} {fd gd : FuncData}
abbrev sBLi : Stmt := inClass (top 3) 0
theorem scBLi : FnScope ["self", "line", "column"] ["self", "line", "column"] (defScope sBLi) := ⟨rfl, rfl, rfl, by decide +kernel, rfl, by decide +kernel, by decide +kernel⟩
theorem ok_bli {C CW : Addr} (F : FunD K "__init__" "BadLine.__init__" (defArgs sBLi) (defBody sBLi) (defScope sBLi) [] [] f fd) (T : BadL K mg C f) (TW : WebE K mg CW) : FnOk P w K mg base CX0 1 f fd ["self", "line", "column"] (spBL C) := by
  refine F.ok scBLi (fun vs H Q E h => ?_) (fun cdv A outer s H vs Q E hr h => ?_)
  · obtain ⟨a, l, c, rfl, _⟩ := h
    rfl
  · obtain ⟨a, l, c, rfl, ha, q⟩ := h
    refine ⟨_, PSs.nox (pss_cons (ps_expr (pe_clsinit TW (by rfl) (pa_cons (pv 0) (pa_cons pe_str pa_nil))))
      (pss_cons (ps_ost (pv 0) (pv 1)) (pss_one (ps_ost (pv 0) (pv 2))))), ?_⟩
    refine ⟨_, rfl, a, C, _, rfl, by show 1 ≤ 1000; decide, T.ox, ha, ?_⟩
    refine ⟨_, rfl, _, rfl, a, C, rfl, T.ox, T.nl, .inl ⟨ha, fun dx ndx ne => ?_⟩⟩
    have hdx : upd (upd H dx (exd dx [("line", V.int l)])) a (exo a C (some dx)) dx = some (exd dx [("line", V.int l)]) := by
      rw [upd_ne ne, upd_same]
    refine ⟨_, rfl, _, rfl, a, C, rfl, T.ox, T.nc, .inr ⟨dx, _, upd_same, hdx, by show 1 ≤ 900; decide, ?_⟩⟩
    refine q dx _ ndx ne (fun b o e hb => ?_) ?_ upd_same
    · rw [upd_ne (ne_of_none e ndx), upd_ne hb, upd_ne (ne_of_none e ndx)]
      exact e
    · rw [upd_ne (Ne.symm ne), upd_same]
/-- raise BadLine(l, c) -/
theorem ps_bad {X : Cx} {W : WX} {C : Addr} {e1 e2 : Expr} {t1 t2 : TE} {p pos pos2 : Pos} (hc : X.calm = true) (T : BadL X.K X.mg C f) (F : FnOk X.prog X.w X.K X.mg X.base CX0 1 f fd ["self", "line", "column"] (spBL C)) (hr : Room 2 X.A) (hb : Binds X.K fd ["self", "line", "column"] []) (tk : Takes X W)
    (hg : Gl X "BadLine") (ha : PA X [e1, e2] (tCons t1 (tCons t2 tNil))) (he : starEach (e1 :: [e2]) X.env = (false, eval e1 X.env) :: starEach [e2] X.env := by rfl) (hpl : (backTo pos (starEach [e2] X.env)).any (·.1) = false := by rfl) :
    PS X (.Raise (some (.Call (.Name "BadLine" p) [e1, e2] [] pos)) none pos2) (fun _ σ H => tMkO C (spBL C) [] (tCons t1 (tCons t2 tNil)) σ H fun cls d H' => W cls d σ H') :=
  ps_raise hc tk (pmk_oex T.ox T.iC T.tI F hr hb .nil pass0 hg T.m ha (by decide) he hpl)
theorem bad_read {C : Addr} {t1 t2 : TE} {σ : L2.St} {H : Hp} {l c : Int} {Z : XK} (h1 : ∀ R : VK, R (.int l) H → t1 σ H R) (h2 : ∀ R : VK, R (.int c) H → t2 σ H R) (q : flies C Z H l c) :
    tMkO C (spBL C) [] (tCons t1 (tCons t2 tNil)) σ H Z := by
  refine h1 _ (h2 _ ⟨by show 2 ≤ 1000; decide, fun a na => ⟨a, l, c, rfl, upd_same, fun dx H' ndx ne keep ha hd => ⟨rfl, dx, _, ha, hd, ?_, q dx _ (fun b o e => ?_) upd_same⟩⟩⟩)
  · rw [upd_ne ne] at ndx
    exact ndx
  · have hba := ne_of_none e na
    have n0 : H dx = none := by
      rw [upd_ne ne] at ndx
      exact ndx
    rw [upd_ne (ne_of_none e n0), del_ne hba]
    exact keep b o (by rw [upd_ne hba]; exact e) hba
end
end K88
/-! What a title line says, as a plain function. -/
namespace K88
open PySem L2

/-- (name, size), or the place that is wrong; told: names that are told already -/
def titleR (z : Str) (told : Str → Bool) : (Str × Int) ⊕ Nat := match wordR z webL (run z spaceS 0) with
  | .inr w => .inr w
  | .inl k1 => match gapR z k1 with
    | .inr w => .inr w
    | .inl k2 => match nameR z k2 with
      | .inr w => .inr w
      | .inl e => if told (subS z k2 e) = true then .inr k2 else match gapR z e with
        | .inr w => .inr w
        | .inl k3 => match oneR z (numsL 1 12) k3 with
          | .inr w => .inr w
          | .inl e2 => match restR z e2 with
            | some w => .inr w
            | none => .inl (subS z k2 e, numI (subS z k3 e2))
/-- what title_scan tells is enough -/
inductive TScan (z : Str) : Prop where
  | bad (w : Nat) (h : tscanV z = [.non, .non, .non, .int w]) (r : ∀ told, titleR z told = .inr w)
  | late (x : V) (name : Str) (k w : Nat) (h : tscanV z = [.str name, .int k, x, .int w]) (le : k ≤ w) (r : ∀ told, titleR z told = if told name = true then .inr k else .inr w)
  | good (name : Str) (k : Nat) (n : Int) (h : tscanV z = [.str name, .int k, .int n, .non]) (r : ∀ told, titleR z told = if told name = true then .inr k else .inl (name, n)) (hn : 1 ≤ n ∧ n ≤ 12)
theorem rest_some {z : Str} {k w : Nat} (h : restR z k = some w) : k ≤ w := by
  unfold restR at h
  by_cases c : run z spaceS k = z.length
  · rw [if_pos c] at h
    cases h
  · rw [if_neg c] at h
    cases h
    exact run_ge _ _ _
theorem tscan (z : Str) : TScan z := by
  have r0 := run_le (g := spaceS) (Nat.zero_le z.length)
  have tv : tscanV z = tscanV z := rfl
  have tr : ∀ told, titleR z told = titleR z told := fun _ => rfl
  unfold tscanV at tv
  unfold titleR at tr
  cases hw : wordR z webL (run z spaceS 0) with
  | inr w =>
    refine .bad w ?_ fun told => ?_
    · unfold tscanV
      rw [hw]
    · unfold titleR
      rw [hw]
  | inl k1 =>
    obtain ⟨_, l1⟩ := word_le _ _ _ r0 hw
    cases hg : gapR z k1 with
    | inr w =>
      refine .bad w ?_ fun told => ?_
      · unfold tscanV
        simp only [hw, hg]
      · unfold titleR
        simp only [hw, hg]
    | inl k2 =>
      obtain ⟨_, l2⟩ := run_cases l1 hg
      cases hn : nameR z k2 with
      | inr w =>
        refine .bad w ?_ fun told => ?_
        · unfold tscanV
          simp only [hw, hg, hn]
        · unfold titleR
          simp only [hw, hg, hn]
      | inl e =>
        obtain ⟨le1, l3⟩ := name_le l2 hn
        cases hg2 : gapR z e with
        | inr w =>
          have e1 := gap_wrong hg2
          refine .late .non (subS z k2 e) k2 w ?_ (by omega) fun told => ?_
          · unfold tscanV
            simp only [hw, hg, hn, hg2]
          · unfold titleR
            simp only [hw, hg, hn, hg2]
        | inl k3 =>
          obtain ⟨le2, l4⟩ := run_cases l3 hg2
          cases ho : oneR z (numsL 1 12) k3 with
          | inr w =>
            have e1 := one_wrong ho
            refine .late .non (subS z k2 e) k2 w ?_ (by omega) fun told => ?_
            · unfold tscanV
              simp only [hw, hg, hn, hg2, ho]
            · unfold titleR
              simp only [hw, hg, hn, hg2, ho]
          | inl e2 =>
            obtain ⟨le3, l5, hin⟩ := one_le l4 ho
            obtain ⟨i, hi1, hi2, hi, _, _⟩ := num_text (inV_mem.mp hin) (by decide)
            have hnum : numI (subS z k3 e2) = (i : Int) := by
              unfold numI
              rw [hi]
              rfl
            cases hr : restR z e2 with
            | some w =>
              have e1 := rest_some hr
              refine .late (.int (numI (subS z k3 e2))) (subS z k2 e) k2 w ?_ (by omega) fun told => ?_
              · unfold tscanV
                simp only [hw, hg, hn, hg2, ho, hr]
                rfl
              · unfold titleR
                simp only [hw, hg, hn, hg2, ho, hr]
            | none =>
              refine .good (subS z k2 e) k2 (numI (subS z k3 e2)) ?_ (fun told => ?_) ⟨by omega, by omega⟩
              · unfold tscanV
                simp only [hw, hg, hn, hg2, ho, hr]
                rfl
              · unfold titleR
                simp only [hw, hg, hn, hg2, ho, hr]
end K88
/-! refuse, title_of. -/
namespace K88
open PySem L2

/-- BadLine told: its class, its __init__ -/
structure BadT (P : Program) (w : World) (K : PySem.W.Frag) (mg : Str → Option Value) (base : Heap) (C f : Addr) (fd : FuncData) : Prop where
  t : BadL K mg C f
  ok : FnOk P w K mg base CX0 1 f fd ["self", "line", "column"] (spBL C)
  b : Binds K fd ["self", "line", "column"] []
def spRefuse (C : Addr) : Sp := fun vs H Q E => ∃ (l : Int) (o : Option Nat), vs = [.int l, opV o] ∧ (o = none → Q .non H) ∧ ∀ w, o = some w → flies C E H l ((w : Int) + 1)
/-- the names that a dict tells -/
def isKey (kvs : List (Key × V)) (s : Str) : Bool := (valV kvs (.inr s)).isSome
def spTitleOf (C : Addr) : Sp := fun vs H Q E => ∃ (l : Int) (z : Str) (p : Addr) (kvs : List (Key × V)), vs = [.int l, .str z, .ref p] ∧ z.length ≤ sizeLine ∧ H p = some (.dK kvs) ∧
  (∀ n s, titleR z (isKey kvs) = .inl (n, s) → ∀ t H', Same H H' → H' t = some (.tup [.str n, .int s]) → Q (.ref t) H') ∧ (∀ w, titleR z (isKey kvs) = .inr w → flies C E H l ((w : Int) + 1))
theorem flies_same {C : Addr} {E : XK} {H H' : Hp} {l c : Int} (h : flies C E H l c) (s : Same H H') : flies C E H' l c := fun d H2 s2 e => h d H2 (s.trans s2) e
section
variable {P : Program} {w : World} {K : PySem.W.Frag} {mg : Str → Option Value} {base : Heap} {f g C fI : Addr} {fd gd dI : FuncData}
abbrev sRefuse : Stmt := top 27
theorem scRefuse : FnScope ["number", "wrong"] ["number", "wrong"] (defScope sRefuse) := ⟨rfl, rfl, rfl, by decide +kernel, rfl, by decide +kernel, by decide +kernel⟩
theorem ok_refuse (F : FnP K "refuse" sRefuse f fd) (T : BadT P w K mg base C fI dI) : FnOk P w K mg base (L2.CX P w) 3 f fd ["number", "wrong"] (spRefuse C) := by
  refine F.ok scRefuse (fun vs H Q E h => ?_) (fun cdv A outer s H vs Q E hr h => ?_)
  · obtain ⟨l, o, rfl, _⟩ := h
    rfl
  · obtain ⟨l, o, rfl, q, e⟩ := h
    refine ⟨_, pss_one (ps_if (pt_cmpR op_notN (pv 1) pe_non (nomark _)) (pss_one (ps_bad rfl T.t T.ok hr T.b (takes_of rfl rfl rfl rfl) (by rfl) (pa_cons (pv 0) (pa_cons (pe_op op_add (pv 1) pe_int) pa_nil)))) pss_nil), ?_⟩
    cases o with
    | none => exact ⟨_, rfl, rfl, false, rfl, iteF (q rfl)⟩
    | some w => exact ⟨_, rfl, rfl, true, rfl, iteT (bad_read (l := l) (c := (w : Int) + 1) (fun R h => ⟨_, rfl, h⟩) (fun R h => ⟨_, rfl, _, _, rfl, rfl, h⟩) (e w rfl))⟩
abbrev sTitleOf : Stmt := top 29
abbrev toN : List Str := ["number", "line", "names", "name", "place", "size", "wrong", "columns"]
theorem scTitleOf : FnScope toN ["number", "line", "names"] (defScope sTitleOf) := ⟨rfl, rfl, rfl, by decide +kernel, rfl, by decide +kernel, by decide +kernel⟩
theorem ok_title_of (F : FnP K "title_of" sTitleOf f fd) (T : BadT P w K mg base C fI dI) (TS_ : Told P w K mg base "title_scan" 4 ["line"] spTScan g gd) (mLen : mg "len" = none) (mMin : mg "min" = none) : FnOk P w K mg base (L2.CX P w) 5 f fd ["number", "line", "names"] (spTitleOf C) := by
  refine F.ok scTitleOf (fun vs H Q E h => ?_) (fun cdv A outer s H vs Q E hr h => ?_)
  · obtain ⟨l, z, p, kvs, rfl, _⟩ := h
    rfl
  · obtain ⟨l, z, p, kvs, rfl, hz, hp, q, e⟩ := h
    have hu := hu_of hr
    have hr2 : Room 2 _ := hr.mono (by decide)
    refine ⟨_, pss_cons (ps_asg (pe_call TS_.ok hr (by rfl) TS_.m TS_.kp TS_.b .nil pass0 (pa_cons (pv 1) pa_nil)) (pg_tup (n := 4) rfl (pgs_cons (pg_name (i := 3) scTitleOf.nd rfl (Or.inl rfl)) (pgs_cons (pg_name (i := 4) scTitleOf.nd rfl (Or.inl rfl)) (pgs_cons (pg_name (i := 5) scTitleOf.nd rfl (Or.inl rfl)) (pgs_cons (pg_name (i := 6) scTitleOf.nd rfl (Or.inl rfl)) pgs_nil))))))
      (pss_cons (ps_set (i := 7) scTitleOf.nd rfl (Or.inl rfl) (pe_ifExp (pt_cmpR op_notN (pv 6) pe_non (nomark _)) (pe_lst (pa_cons (pv 6) pa_nil)) (pe_lst pa_nil)))
      (pss_cons (ps_if (PW.pt (pw_and (pt_cmpR op_notN (pv 3) pe_non (nomark _)) (pw_and1 (pt_cmp (pc_din hu (pv 3) (pv 2))))))
          (pss_one (ps_expr (pe_bm PySem.F.plainAttrs_list PySem.F.slot_list_append PySem.F.type_list_append mt_append (pv 7) (pa_cons (pv 4) pa_nil)))) pss_nil)
      (pss_cons (ps_if (pt_cmpR op_gt (pe_callB call_len (by rfl) mLen PySem.boot_len (pa_cons (pv 7) pa_nil)) pe_int (nomark _))
          (pss_one (ps_bad rfl T.t T.ok hr2 T.b (takes_of rfl rfl rfl rfl) (by rfl) (pa_cons (pv 0) (pa_cons (pe_op op_add (pe_callB (cr_min rfl) (by rfl) mMin (by decide +kernel) (pa_cons (pv 7) pa_nil)) pe_int) pa_nil)))) pss_nil)
      (pss_one (ps_ret (pe_tup (pa_cons (pv 3) (pa_cons (pv 5) pa_nil)))))))), ?_⟩
    have fl : ∀ {H3 : Hp} {w' : Nat}, Same H H3 → titleR z (isKey kvs) = .inr w' → ∀ {σ : L2.St} {c : Addr} {ns : List Int}, σ[0]? = some (some (.int l)) → σ[7]? = some (some (.ref c)) → H3 c = some (.lst (ns.map V.int)) → 0 < ns.length → (∀ m, m ∈ ns → (∀ y, y ∈ ns → m ≤ y) → m = (w' : Int)) →
        tMkO C (spBL C) [] (tCons (tVar 0) (tCons (tOp addI (tCB (rMin K) (tCons (tVar 7) tNil)) (tC (.int 1))) tNil)) σ H3 E := by
      intro H3 w' s3 hw σ c ns h0 h7 hc hpos hm
      refine bad_read (l := l) (c := (w' : Int) + 1) (fun R h => ⟨_, h0, h⟩) (fun R h => ⟨_, h7, c, ns, rfl, .inl (.inl hc), hpos, fun m hm1 hm2 => ⟨_, _, rfl, rfl, ?_⟩⟩) (flies_same (e w' hw) s3)
      rw [hm m hm1 hm2]
      exact h
    refine ⟨_, rfl, z, rfl, hz, fun t H1 s1 h1 => ?_⟩
    have hp1 := s1 _ _ hp
    cases tscan z with
    | bad w' hv r =>
      rw [hv] at h1
      refine ⟨t, _, rfl, .inl (.inl h1), rfl, _, _, rfl, _, _, rfl, _, _, rfl, _, _, rfl, rfl, ?_⟩
      refine ⟨_, rfl, rfl, true, rfl, iteT ⟨_, rfl, by show 1 ≤ sizeLine; decide, fun c nc => ?_⟩⟩
      refine ⟨_, rfl, rfl, false, rfl, iteF (iteF ⟨_, rfl, _, 1, rfl, .inl ⟨_, .inl (.inl upd_same), rfl⟩, _, _, rfl, rfl, true, rfl, iteT ?_⟩)⟩
      exact fl (s1.trans (same_new nc)) (r _) (ns := [(w' : Int)]) rfl rfl upd_same (Nat.succ_pos _) fun m hm _ => List.mem_singleton.mp hm
    | late x name k w' hv le r =>
      rw [hv] at h1
      have r1 := r (isKey kvs)
      refine ⟨t, _, rfl, .inl (.inl h1), rfl, _, _, rfl, _, _, rfl, _, _, rfl, _, _, rfl, rfl, ?_⟩
      refine ⟨_, rfl, rfl, true, rfl, iteT ⟨_, rfl, by show 1 ≤ sizeLine; decide, fun c nc => ?_⟩⟩
      have hp2 := same_new (o := .lst [V.int w']) nc _ _ hp1
      refine ⟨_, rfl, rfl, true, rfl, iteT ⟨_, rfl, _, rfl, p, valV kvs (.inr name), rfl, DGet.k (k := .inr name) hp2, isKey kvs name, rfl, ?_⟩⟩
      cases hk : isKey kvs name with
      | true =>
        rw [hk, if_pos rfl] at r1
        refine iteT ⟨_, rfl, .inl ⟨rfl, _, .inl (.inl upd_same)⟩, _, rfl, c, _, _, rfl, rfl, upd_same, by show 1 < sizeLine; decide, ?_⟩
        refine ⟨_, rfl, _, 2, rfl, .inl ⟨_, .inl (.inl upd_same), rfl⟩, _, _, rfl, rfl, true, rfl, iteT ?_⟩
        refine fl (fun b o eb => ?_) r1 (ns := [(w' : Int), (k : Int)]) rfl rfl upd_same (Nat.succ_pos _) fun m hm hl => ?_
        · have n1 := ne_of_none (s1 b o eb) nc
          rw [upd_ne n1, upd_ne n1]
          exact s1 b o eb
        · have q1 := hl (k : Int) (List.mem_cons_of_mem _ List.mem_cons_self)
          simp only [List.mem_cons, List.not_mem_nil, or_false] at hm
          omega
      | false =>
        rw [hk, if_neg (by decide)] at r1
        refine iteF ⟨_, rfl, _, 1, rfl, .inl ⟨_, .inl (.inl upd_same), rfl⟩, _, _, rfl, rfl, true, rfl, iteT ?_⟩
        exact fl (s1.trans (same_new nc)) r1 (ns := [(w' : Int)]) rfl rfl upd_same (Nat.succ_pos _) fun m hm _ => List.mem_singleton.mp hm
    | good name k n hv r hn =>
      rw [hv] at h1
      have r1 := r (isKey kvs)
      refine ⟨t, _, rfl, .inl (.inl h1), rfl, _, _, rfl, _, _, rfl, _, _, rfl, _, _, rfl, rfl, ?_⟩
      refine ⟨_, rfl, rfl, false, rfl, iteF ⟨by show 0 ≤ sizeLine; decide, fun c nc => ?_⟩⟩
      have hp2 := same_new (o := .lst ([] : List V)) nc _ _ hp1
      refine ⟨_, rfl, rfl, true, rfl, iteT ⟨_, rfl, _, rfl, p, valV kvs (.inr name), rfl, DGet.k (k := .inr name) hp2, isKey kvs name, rfl, ?_⟩⟩
      cases hk : isKey kvs name with
      | true =>
        rw [hk, if_pos rfl] at r1
        refine iteT ⟨_, rfl, .inl ⟨rfl, _, .inl (.inl upd_same)⟩, _, rfl, c, _, _, rfl, rfl, upd_same, by show 0 < sizeLine; decide, ?_⟩
        refine ⟨_, rfl, _, 1, rfl, .inl ⟨_, .inl (.inl upd_same), rfl⟩, _, _, rfl, rfl, true, rfl, iteT ?_⟩
        refine fl (fun b o eb => ?_) r1 (ns := [(k : Int)]) rfl rfl upd_same (Nat.succ_pos _) fun m hm _ => List.mem_singleton.mp hm
        have n1 := ne_of_none (s1 b o eb) nc
        rw [upd_ne n1, upd_ne n1]
        exact s1 b o eb
      | false =>
        rw [hk, if_neg (by decide)] at r1
        refine iteF ⟨_, rfl, _, 0, rfl, .inl ⟨_, .inl (.inl upd_same), rfl⟩, _, _, rfl, rfl, false, rfl, iteF ⟨_, rfl, _, rfl, two_ok, fun t2 n2 => ?_⟩⟩
        exact q name n r1 t2 _ ((s1.trans (same_new nc)).trans (same_new n2)) upd_same
end
end K88
/-! The law's own look at a title. -/
namespace K88
open PySem L2

def spLTitle (K : PySem.W.Frag) : Sp := fun vs H Q _ => ∃ (z : Str) (a : Addr) (ns : List Str), vs = [.str z, .ref a] ∧ z.length ≤ sizeLine ∧ SqL K H a (ns.map V.str) ∧
  (∀ n s, titleR z (fun x => inV (.str x) (ns.map V.str)) = .inl (n, s) → ∀ t t2 H', Same H H' → H' t2 = some (.tup [.str n, .int s]) → H' t = some (.tup [.ref t2, .non]) → Q (.ref t) H') ∧
  (∀ w, titleR z (fun x => inV (.str x) (ns.map V.str)) = .inr w → ∀ t H', Same H H' → H' t = some (.tup [.non, .int w]) → Q (.ref t) H')
section
variable {P : Program} {w : World} {K : PySem.W.Frag} {mg : Str → Option Value} {base : Heap} {f g : Addr} {fd gd : FuncData}
theorem nums_read {σ : L2.St} {H : Hp} {Q : VK} {i : Nat} (hw : ∀ v : V, wipe ((wipe σ [i]).set i (some v)) [i] = wipe σ [i]) (ht : ∀ v : V, ((wipe σ [i]).set i (some v))[i]? = some (some v))
    (k : ∀ D H', Same H H' → H' D = some (.lst ((numsL 1 12).map V.str)) → Q (.ref D) H') : tLc (iRng2 (tCons (tC (.int 1)) (tCons (tC (.int 13)) tNil))) (gName i) tYes (tCB rStrI (tCons (tVar i) tNil)) [i] σ H Q := by
  refine ⟨_, _, rfl, ⟨by decide, by decide, by decide, by decide⟩, fun D nD => lc_range (lo := 1) (n := 12) (fun m H2 => Same H H2 ∧ H2 D = some (.lst ((numsL 1 m).map V.str)) ∧ m ≤ 12) ⟨same_new nD, upd_same, Nat.zero_le _⟩ ?_ ?_⟩
  · rintro m H2 hi ⟨sm, hD, _⟩
    refine ⟨hw _, ?_⟩
    refine yes_then ?_
    refine ⟨_, ht _, _, rfl, log_small (by omega), _, hD, ?_, fun c o e => ?_, ?_, hi⟩
    · rw [List.length_map, nums_len]
      exact Nat.lt_of_lt_of_le hi (by decide)
    · rw [upd_ne (ne_of_none e nD)]
      exact sm c o e
    · rw [upd_same, nums_snoc, List.map_append]
      rfl
  · rintro H2 ⟨sm, hD, _⟩
    exact k D H2 sm hD
abbrev sLTitle : Stmt := top 57
abbrev ltN : List Str := ["line", "told", "k", "wrong", "end", "name", "n"]
theorem scLTitle : FnScope ltN ["line", "told"] (defScope sLTitle) := ⟨rfl, rfl, rfl, by decide +kernel, rfl, by decide +kernel, by decide +kernel⟩
theorem ok_ltitle {fr fw fg fn fo fe : Addr} {dr dw dg dn do_ de : FuncData} (F : FnP K "_law_title" sLTitle f fd) (TR : Told P w K mg base "_law_run" 1 ["line", "k", "signs"] spRun fr dr) (TW : Told P w K mg base "_law_one_word" 1 ["line", "k", "word"] spWord fw dw)
    (TG_ : Told P w K mg base "_law_gap" 2 ["line", "k"] (spPair gapR) fg dg) (TN : Told P w K mg base "_law_one_name" 2 ["line", "k"] (spPair nameR) fn dn) (TO : Told P w K mg base "_law_one_of" 1 ["line", "k", "texts"] (spOneOf K) fo do_) (TE_ : Told P w K mg base "_law_rest" 2 ["line", "k"] spRest fe de)
    (mR : mg "range" = none) (mStr : mg "str" = none) (mInt : mg "int" = none) : FnOk P w K mg base CX0 3 f fd ["line", "told"] (spLTitle K) := by
  refine F.ok scLTitle (fun vs H Q E h => ?_) (fun cdv A outer s H vs Q E hr h => ?_)
  · obtain ⟨z, a, ns, rfl, _⟩ := h
    rfl
  · obtain ⟨z, a, ns, rfl, hz, hS, qg, qb⟩ := h
    have hr1 : Room 1 _ := hr.mono (by decide)
    refine ⟨_, PSs.nox (pss_cons (ps_asg (pe_call TW.ok hr1 (by rfl) TW.m TW.kp TW.b .nil pass0 (pa_cons (pv 0) (pa_cons (pe_call TR.ok hr1 (by rfl) TR.m TR.kp TR.b .nil pass0 (pa_cons (pv 0) (pa_cons pe_int (pa_cons pe_str pa_nil)))) (pa_cons pe_str pa_nil)))) (pg_tup (n := 2) rfl (pgs_cons (pg_name (i := 2) scLTitle.nd rfl (Or.inl rfl)) (pgs_cons (pg_name (i := 3) scLTitle.nd rfl (Or.inl rfl)) pgs_nil))))
      (pss_cons (ps_if (pt_cmpR op_isN (pv 3) pe_non (nomark _))
          (pss_one (ps_asg (pe_call TG_.ok hr (by rfl) TG_.m TG_.kp TG_.b .nil pass0 (pa_cons (pv 0) (pa_cons (pv 2) pa_nil))) (pg_tup (n := 2) rfl (pgs_cons (pg_name (i := 2) scLTitle.nd rfl (Or.inl rfl)) (pgs_cons (pg_name (i := 3) scLTitle.nd rfl (Or.inl rfl)) pgs_nil))))) pss_nil)
      (pss_cons (ps_if (pt_cmpR op_notN (pv 3) pe_non (nomark _)) (pss_one (ps_ret (pe_tup (pa_cons pe_non (pa_cons (pv 3) pa_nil))))) pss_nil)
      (pss_cons (ps_asg (pe_call TN.ok hr (by rfl) TN.m TN.kp TN.b .nil pass0 (pa_cons (pv 0) (pa_cons (pv 2) pa_nil))) (pg_tup (n := 2) rfl (pgs_cons (pg_name (i := 4) scLTitle.nd rfl (Or.inl rfl)) (pgs_cons (pg_name (i := 3) scLTitle.nd rfl (Or.inl rfl)) pgs_nil))))
      (pss_cons (ps_if (pt_cmpR op_notN (pv 3) pe_non (nomark _)) (pss_one (ps_ret (pe_tup (pa_cons pe_non (pa_cons (pv 3) pa_nil))))) pss_nil)
      (pss_cons (ps_if (pt_cmpR op_in_seq (pe_slice sl_str (pv 0) (po_some (pv 2)) (po_some (pv 4))) (pv 1) rfl) (pss_one (ps_ret (pe_tup (pa_cons pe_non (pa_cons (pv 2) pa_nil))))) pss_nil)
      (pss_cons (ps_set (i := 5) scLTitle.nd rfl (Or.inl rfl) (pe_slice sl_str (pv 0) (po_some (pv 2)) (po_some (pv 4))))
      (pss_cons (ps_asg (pe_call TG_.ok hr (by rfl) TG_.m TG_.kp TG_.b .nil pass0 (pa_cons (pv 0) (pa_cons (pv 4) pa_nil))) (pg_tup (n := 2) rfl (pgs_cons (pg_name (i := 2) scLTitle.nd rfl (Or.inl rfl)) (pgs_cons (pg_name (i := 3) scLTitle.nd rfl (Or.inl rfl)) pgs_nil))))
      (pss_cons (ps_if (pt_cmpR op_isN (pv 3) pe_non (nomark _))
          (pss_one (ps_asg (pe_call TO.ok hr1 (by rfl) TO.m TO.kp TO.b .nil pass0 (pa_cons (pv 0) (pa_cons (pv 2) (pa_cons
              (pe_lc (own := [("n", 6)]) (g := gName 6) (tt := tYes) (te := tCB rStrI (tCons (tVar 6) tNil)) rfl scLTitle.nd (pi_range2 (by rfl) mR (pa_cons pe_int (pa_cons pe_int pa_nil))) (blkOk_by (own := [("n", 6)]) (N := ltN) (sc := defScope sLTitle) (by decide +kernel))
                (fun _ _ _ _ _ => pg_name (i := 6) scLTitle.nd rfl (Or.inl rfl)) (fun _ _ _ _ _ => pts_nil) (fun _ _ _ _ _ => pe_callTy (T := "str") call_str_int (by rfl) mStr (by decide +kernel) (pa_cons (pv 6) pa_nil))) pa_nil))))
            (pg_tup (n := 2) rfl (pgs_cons (pg_name (i := 4) scLTitle.nd rfl (Or.inl rfl)) (pgs_cons (pg_name (i := 3) scLTitle.nd rfl (Or.inl rfl)) pgs_nil))))) pss_nil)
      (pss_cons (ps_if (pt_cmpR op_notN (pv 3) pe_non (nomark _)) (pss_one (ps_ret (pe_tup (pa_cons pe_non (pa_cons (pv 3) pa_nil))))) pss_nil)
      (pss_cons (ps_set (i := 3) scLTitle.nd rfl (Or.inl rfl) (pe_call TE_.ok hr (by rfl) TE_.m TE_.kp TE_.b .nil pass0 (pa_cons (pv 0) (pa_cons (pv 4) pa_nil))))
      (pss_one (ps_ret (pe_ifExp (pt_cmpR op_isN (pv 3) pe_non (nomark _)) (pe_tup (pa_cons (pe_tup (pa_cons (pv 5) (pa_cons (pe_callTy call_int_str (by rfl) mInt (by decide +kernel) (pa_cons (pe_slice sl_str (pv 0) (po_some (pv 2)) (po_some (pv 4))) pa_nil)) pa_nil))) (pa_cons pe_non pa_nil))) (pe_tup (pa_cons pe_non (pa_cons (pv 3) pa_nil))))))))))))))))), ?_⟩
    rw [show L2.start ltN [V.str z, V.ref a] = [some (V.str z), some (V.ref a), none, none, none, none, none] from rfl]
    have r0 := run_le (g := spaceS) (Nat.zero_le z.length)
    have hz0 := Nat.zero_le z.length
    refine ⟨_, rfl, _, rfl, z, spaceS, 0, rfl, hz, hz0, z, "web", _, rfl, hz, by decide, r0, fun t1 H1 s1 h1 => ?_⟩
    unfold titleR at qg qb
    refine get_pair h1 ?_
    simp only [List.set_cons_succ, List.set_cons_zero]
    have bad : ∀ {a : L2.St} {H2 : Hp} {j : Nat} {w : Nat}, Same H H2 → a[j]? = some (some (.int w)) → (∀ t H', Same H H' → H' t = some (.tup [.non, .int w]) → Q (.ref t) H') → tTup (tCons (tC .non) (tCons (tVar j) tNil)) a H2 Q := fun s2 h2 q => ⟨_, h2, two_ok, fun t ht => q t _ (s2.trans (same_new ht)) upd_same⟩
    cases hw : wordR z webL (run z spaceS 0) with
    | inr w =>
      simp only [hw] at qb
      exact ⟨_, rfl, rfl, false, rfl, iteF ⟨_, rfl, rfl, true, rfl, iteT (bad s1 rfl (qb w rfl))⟩⟩
    | inl k1 =>
      obtain ⟨_, l1⟩ := word_le _ _ _ r0 hw
      refine ⟨_, rfl, rfl, true, rfl, iteT ⟨_, rfl, _, rfl, z, k1, rfl, hz, l1, fun t2 H2 s2 h2 => get_pair h2 ?_⟩⟩
      simp only [List.set_cons_succ, List.set_cons_zero]
      have s12 := s1.trans s2
      cases hg : gapR z k1 with
      | inr w =>
        simp only [hw, hg] at qb
        exact ⟨_, rfl, rfl, true, rfl, iteT (bad s12 rfl (qb w rfl))⟩
      | inl k2 =>
        obtain ⟨_, l2⟩ := run_cases l1 hg
        refine ⟨_, rfl, rfl, false, rfl, iteF ⟨_, rfl, _, rfl, z, k2, rfl, hz, l2, fun t3 H3 s3 h3 => get_pair h3 ?_⟩⟩
        simp only [List.set_cons_succ, List.set_cons_zero]
        have s13 := s12.trans s3
        cases hn : nameR z k2 with
        | inr w =>
          simp only [hw, hg, hn] at qb
          exact ⟨_, rfl, rfl, true, rfl, iteT (bad s13 rfl (qb w rfl))⟩
        | inl e =>
          obtain ⟨_, l3⟩ := name_le l2 hn
          refine ⟨_, rfl, rfl, false, rfl, iteF ⟨_, rfl, _, rfl, _, rfl, _, rfl, _, rfl, z, rfl, hz, _, rfl, a, _, rfl, .inl (s13.seq hS), rfl, flat_strs _, ?_⟩⟩
          show ∃ c, V.bl (inV (.str (cutS z (some (k2 : Int)) (some (e : Int)))) (ns.map V.str)) = .bl c ∧ _
          rw [cut_sub l2]
          cases ht : inV (.str (subS z k2 e)) (ns.map V.str) with
          | true =>
            simp only [hw, hg, hn, ht, if_true] at qb
            exact ⟨true, rfl, iteT (bad s13 rfl (qb k2 rfl))⟩
          | false =>
            refine ⟨false, rfl, iteF ⟨_, rfl, _, rfl, _, rfl, _, rfl, _, rfl, z, rfl, hz, ?_⟩⟩
            rw [cut_sub l2]
            refine ⟨_, rfl, _, rfl, z, e, rfl, hz, l3, fun t4 H4 s4 h4 => get_pair h4 ?_⟩
            simp only [List.set_cons_succ, List.set_cons_zero]
            have s14 := s13.trans s4
            cases hg2 : gapR z e with
            | inr w =>
              simp only [hw, hg, hn, ht, hg2] at qb
              exact ⟨_, rfl, rfl, false, rfl, iteF ⟨_, rfl, rfl, true, rfl, iteT (bad s14 rfl (qb w rfl))⟩⟩
            | inl k3 =>
              obtain ⟨_, l4⟩ := run_cases l3 hg2
              refine ⟨_, rfl, rfl, true, rfl, iteT ⟨_, rfl, _, rfl, ?_⟩⟩
              refine nums_read (fun _ => rfl) (fun _ => rfl) fun D H5 s5 hD => ?_
              refine ⟨z, k3, D, numsL 1 12, rfl, hz, l4, .inl (.inl hD), by rw [nums_len]; decide, fun t ht => ?_, fun t5 H6 s6 h6 => get_pair h6 ?_⟩
              · obtain ⟨i, hi⟩ := num_text ht (by decide)
                rw [hi.2.2.2.1]
                exact num_short i (by omega)
              simp only [List.set_cons_succ, List.set_cons_zero]
              have s16 := s14.trans (s5.trans s6)
              cases ho : oneR z (numsL 1 12) k3 with
              | inr w =>
                simp only [hw, hg, hn, ht, hg2, ho] at qb
                exact ⟨_, rfl, rfl, true, rfl, iteT (bad s16 rfl (qb w rfl))⟩
              | inl e2 =>
                obtain ⟨_, l5, hin⟩ := one_le l4 ho
                obtain ⟨i, _, _, hi, _, hlen⟩ := num_text (inV_mem.mp hin) (by decide)
                have hnum : numI (subS z k3 e2) = (i : Int) := by
                  unfold numI
                  rw [hi]
                  rfl
                refine ⟨_, rfl, rfl, false, rfl, iteF ⟨_, rfl, _, rfl, z, e2, rfl, hz, l5, ?_⟩⟩
                cases hrest : restR z e2 with
                | some w =>
                  simp only [hw, hg, hn, ht, hg2, ho, hrest] at qb
                  exact ⟨_, rfl, rfl, false, rfl, iteF (bad s16 rfl (qb w rfl))⟩
                | none =>
                  simp only [hw, hg, hn, ht, hg2, ho, hrest] at qg
                  refine ⟨_, rfl, rfl, true, rfl, iteT ⟨_, rfl, _, rfl, _, rfl, _, rfl, _, rfl, _, rfl, z, rfl, hz, ?_⟩⟩
                  rw [cut_sub l4]
                  refine ⟨_, _, rfl, hi, hlen, two_ok, fun t6 n6 => ⟨two_ok, fun t7 n7 => ?_⟩⟩
                  refine qg _ _ rfl t7 t6 _ ((s16.trans (same_new n6)).trans (same_new n7)) ?_ upd_same
                  rw [upd_ne (Ne.symm (ne_of_none upd_same n7 |>.symm)), upd_same, hnum]
end
end K88
/-! A tie line. -/
namespace K88
open PySem L2

/-- one of the two places: where it ends, which it is; ns: those that stand ahead -/
def lapT (z : Str) (m : Nat) (ns : List Nat) : Nat ⊕ Nat → (Nat × Nat) ⊕ Nat
  | .inr w => .inr w
  | .inl k => match gapR z k with
    | .inr w => .inr w
    | .inl k2 => match oneR z (numsL 0 m) k2 with
      | .inr w => .inr w
      | .inl e => match ns with
        | [] => .inl (e, (numI (subS z k2 e)).toNat)
        | a :: _ => if (numI (subS z k2 e)).toNat = a then .inr (extR z (othersL m a) k2) else .inl (e, (numI (subS z k2 e)).toNat)
def tieR (z : Str) (m : Nat) : (Nat × Nat) ⊕ Nat := match lapT z m [] (wordR z tieL (run z spaceS 0)) with
  | .inr w => .inr w
  | .inl (e1, a) => match lapT z m [a] (.inl e1) with
    | .inr w => .inr w
    | .inl (e2, b) => match restR z e2 with
      | some w => .inr w
      | none => .inl (min a b, max a b)
theorem lap_le {z : Str} {m : Nat} {ns : List Nat} {k e n : Nat} (hm : m ≤ 12) (hk : k ≤ z.length) (h : lapT z m ns (.inl k) = .inl (e, n)) : e ≤ z.length ∧ n < m := by
  unfold lapT at h
  cases hg : gapR z k with
  | inr w =>
    simp only [hg] at h
    cases h
  | inl k2 =>
    obtain ⟨_, l2⟩ := run_cases hk hg
    simp only [hg] at h
    cases ho : oneR z (numsL 0 m) k2 with
    | inr w =>
      simp only [ho] at h
      cases h
    | inl e2 =>
      obtain ⟨_, l5, hin⟩ := one_le l2 ho
      obtain ⟨i, _, hi2, hi, _, _⟩ := num_text (inV_mem.mp hin) (by omega)
      have hnum : (numI (subS z k2 e2)).toNat = i := by
        unfold numI
        rw [hi]
        simp
      simp only [ho, hnum] at h
      cases ns with
      | nil =>
        cases h
        exact ⟨l5, by omega⟩
      | cons a r =>
        simp only at h
        split at h
        · cases h
        · cases h
          exact ⟨l5, by omega⟩
/-- what is known of a def that lets errors out -/
structure ToldX (P : Program) (w : World) (K : PySem.W.Frag) (mg : Str → Option Value) (base : Heap) (x : Str) (k : Nat) (ps : List Str) (sp : Sp) (f : Addr) (fd : FuncData) : Prop where
  ok : FnOk P w K mg base (L2.CX P w) k f fd ps sp
  m : mg x = some (.ref f)
  kp : PySem.W.keepIn K (.ref f) = true
  b : Binds K fd ps []
def spReadTie (C : Addr) : Sp := fun vs H Q E => ∃ (l : Int) (z : Str) (m : Nat) (p : Addr) (xs : List V), vs = [.int l, .str z, .int m, .ref p] ∧ z.length ≤ sizeLine ∧ m ≤ 12 ∧ H p = some (.lst xs) ∧ xs.length ≤ 1000 ∧
  (∀ a b, tieR z m = .inl (a, b) → ∀ t H', (∀ c o, H c = some o → c ≠ p → H' c = some o) → H t = none → H' t = some (.tup [.int (a : Nat), .int (b : Nat)]) → H' p = some (.lst (xs ++ [.ref t])) → Q .non H') ∧
  (∀ w, tieR z m = .inr w → flies C E H l ((w : Int) + 1))
/-- how far the places have come -/
inductive Chain (z : Str) (m : Nat) (r0 : Nat ⊕ Nat) : List Nat → Nat ⊕ Nat → Prop where
  | nil : Chain z m r0 [] r0
  | snoc {ns : List Nat} {r : Nat ⊕ Nat} {e n : Nat} (c : Chain z m r0 ns r) (h : lapT z m ns r = .inl (e, n)) : Chain z m r0 (ns ++ [n]) (.inl e)
abbrev tie0 (z : Str) : Nat ⊕ Nat := wordR z tieL (run z spaceS 0)
theorem Chain.nil_is {z : Str} {m : Nat} {r0 r : Nat ⊕ Nat} (c : Chain z m r0 [] r) : r = r0 := by
  generalize hns : ([] : List Nat) = ns at c
  cases c with
  | nil => rfl
  | snoc c h => exact absurd hns.symm (by simp)
theorem Chain.one_is {z : Str} {m a : Nat} {r0 r : Nat ⊕ Nat} (c : Chain z m r0 [a] r) : ∃ e, r = .inl e ∧ lapT z m [] r0 = .inl (e, a) := by
  generalize hns : ([a] : List Nat) = ns at c
  cases c with
  | nil => cases hns
  | @snoc ns' r' e n c h =>
    cases ns' with
    | nil =>
      cases hns
      rw [c.nil_is] at h
      exact ⟨e, rfl, h⟩
    | cons x y => cases y <;> cases hns
theorem Chain.two_is {z : Str} {m a b : Nat} {r0 r : Nat ⊕ Nat} (c : Chain z m r0 [a, b] r) : ∃ e1 e2, r = .inl e2 ∧ lapT z m [] r0 = .inl (e1, a) ∧ lapT z m [a] (.inl e1) = .inl (e2, b) := by
  generalize hns : ([a, b] : List Nat) = ns at c
  cases c with
  | nil => cases hns
  | @snoc ns' r' e n c h =>
    have q : ns' = [a] ∧ n = b := by
      match ns', hns with
      | [], hns => cases hns
      | [x], hns =>
        cases hns
        exact ⟨rfl, rfl⟩
      | x :: y :: l, hns =>
        have := congrArg List.length hns
        simp at this
    obtain ⟨rfl, rfl⟩ := q
    obtain ⟨e1, rfl, h0⟩ := c.one_is
    exact ⟨e1, e, rfl, h0, h⟩
theorem flat_nats (ns : List Nat) : (ns.map fun (n : Nat) => V.int n).all flatV = true := List.all_eq_true.mpr fun x hx => by
  obtain ⟨t, _, rfl⟩ := List.mem_map.mp hx
  rfl
theorem sort_two {a b : Nat} {ns : List Int} (hp : ns.Perm [(a : Int), (b : Int)]) (hs : ns.Pairwise (· ≤ ·)) : ns = [((min a b : Nat) : Int), ((max a b : Nat) : Int)] := by
  have hl := hp.length_eq
  match ns, hl with
  | [x, y], _ =>
    have h1 : x ≤ y := by
      have := List.pairwise_cons.mp hs
      exact this.1 y List.mem_cons_self
    have hx : x = (a : Int) ∨ x = (b : Int) := by simpa using hp.mem_iff.mp (List.mem_cons_self (a := x) (l := [y]))
    have ha : (a : Int) = x ∨ (a : Int) = y := by simpa using hp.mem_iff.mpr (List.mem_cons_self (a := (a : Int)) (l := [(b : Int)]))
    have hb : (b : Int) = x ∨ (b : Int) = y := by simpa using hp.mem_iff.mpr (show (b : Int) ∈ [(a : Int), (b : Int)] by simp)
    have hy : y = (a : Int) ∨ y = (b : Int) := by simpa using hp.mem_iff.mp (show y ∈ [x, y] by simp)
    congr 1
    · omega
    · congr 1
      omega
theorem chain_err {z : Str} {m w : Nat} {ns : List Nat} {r : Nat ⊕ Nat} (c : Chain z m (tie0 z) ns r) (hn : ns.length ≤ 1) (h : lapT z m ns r = .inr w) : tieR z m = .inr w := by
  unfold tieR
  match ns, hn with
  | [], _ =>
    rw [c.nil_is] at h
    simp only [h]
  | [a], _ =>
    obtain ⟨e, rfl, h0⟩ := c.one_is
    simp only [h0, h]
section
variable {P : Program} {w : World} {K : PySem.W.Frag} {mg : Str → Option Value} {base : Heap} {f g C fI : Addr} {fd gd dI : FuncData}
abbrev sReadTie : Stmt := top 30
abbrev rtN : List Str := ["number", "line", "size", "ties", "k", "wrong", "out", "lap", "end"]
theorem scReadTie : FnScope rtN ["number", "line", "size", "ties"] (defScope sReadTie) := ⟨rfl, rfl, rfl, by decide +kernel, rfl, by decide +kernel, by decide +kernel⟩
abbrev gPair (K : PySem.W.Frag) (i j : Nat) : TG := gTup K 2 (gCons (gName i) (gCons (gName j) gNil))
theorem ok_read_tie {fp fw fg fb fr fo ff : Addr} {dp dw dg db dr do_ df : FuncData} (F : FnP K "read_tie" sReadTie f fd) (TP : Told P w K mg base "past_spaces" 2 ["line", "k"] (spRun1 spaceS) fp dp)
    (TW : Told P w K mg base "word_scan" 1 ["line", "k", "word"] spWord fw dw) (TG_ : Told P w K mg base "gap_scan" 3 ["line", "k"] (spPair gapR) fg dg) (TB : Told P w K mg base "between_scan" 1 ["line", "k", "low", "high"] spBetween fb db) (TR : Told P w K mg base "rest_scan" 3 ["line", "k"] spRest fr dr)
    (TO : Told P w K mg base "other_scan" 1 ["line", "k", "size", "place"] spOther fo do_) (TF : ToldX P w K mg base "refuse" 3 ["number", "wrong"] (spRefuse C) ff df) (mR : mg "range" = none) (mInt : mg "int" = none) (mT : mg "tuple" = none) (mS : mg "sorted" = none) :
    FnOk P w K mg base (L2.CX P w) 4 f fd ["number", "line", "size", "ties"] (spReadTie C) := by
  refine F.ok scReadTie (fun vs H Q E h => ?_) (fun cdv A outer s H vs Q E hr h => ?_)
  · obtain ⟨l, z, m, p, xs, rfl, _⟩ := h
    rfl
  · obtain ⟨l, z, m, p, xs, rfl, hz, hm, hp, hx, q, e⟩ := h
    have hr1 : Room 1 _ := hr.mono (by decide)
    have hr2 : Room 2 _ := hr.mono (by decide)
    refine ⟨_, pss_cons (ps_asg (pe_call TW.ok hr1 (by rfl) TW.m TW.kp TW.b .nil pass0 (pa_cons (pv 1) (pa_cons (pe_call TP.ok hr2 (by rfl) TP.m TP.kp TP.b .nil pass0 (pa_cons (pv 1) (pa_cons pe_int pa_nil))) (pa_cons pe_str pa_nil)))) (pg_tup (n := 2) rfl (pgs_cons (pg_name (i := 4) scReadTie.nd rfl (Or.inl rfl)) (pgs_cons (pg_name (i := 5) scReadTie.nd rfl (Or.inl rfl)) pgs_nil))))
      (pss_cons (ps_set (i := 6) scReadTie.nd rfl (Or.inl rfl) (pe_lst pa_nil))
      (C8.pss_cut (ps_for (passes_of rfl) rfl (pi_range1 (by rfl) mR (pa_cons pe_int pa_nil)) (pg_name (i := 7) scReadTie.nd rfl (Or.inl rfl))
        (pss_cons (ps_expr (pe_call TF.ok hr (by rfl) TF.m TF.kp TF.b .nil (passes_call (takes_of rfl rfl rfl rfl) fun _ _ _ _ h => h) (pa_cons (pv 0) (pa_cons (pv 5) pa_nil))))
        (pss_cons (ps_asg (pe_call TG_.ok hr (by rfl) TG_.m TG_.kp TG_.b .nil pass0 (pa_cons (pv 1) (pa_cons (pv 4) pa_nil))) (pg_tup (n := 2) rfl (pgs_cons (pg_name (i := 4) scReadTie.nd rfl (Or.inl rfl)) (pgs_cons (pg_name (i := 5) scReadTie.nd rfl (Or.inl rfl)) pgs_nil))))
        (pss_cons (ps_expr (pe_call TF.ok hr (by rfl) TF.m TF.kp TF.b .nil (passes_call (takes_of rfl rfl rfl rfl) fun _ _ _ _ h => h) (pa_cons (pv 0) (pa_cons (pv 5) pa_nil))))
        (pss_cons (ps_asg (pe_call TB.ok hr1 (by rfl) TB.m TB.kp TB.b .nil pass0 (pa_cons (pv 1) (pa_cons (pv 4) (pa_cons pe_int (pa_cons (pe_op op_sub (pv 2) pe_int) pa_nil))))) (pg_tup (n := 2) rfl (pgs_cons (pg_name (i := 8) scReadTie.nd rfl (Or.inl rfl)) (pgs_cons (pg_name (i := 5) scReadTie.nd rfl (Or.inl rfl)) pgs_nil))))
        (C8.pss_cut (ps_if (PW.pt (pw_and (pt_cmpR op_isN (pv 5) pe_non (nomark _)) (pw_and1 (pt_cmpR op_in_seq (pe_callTy call_int_str (by rfl) mInt (by decide +kernel) (pa_cons (pe_slice sl_str (pv 1) (po_some (pv 4)) (po_some (pv 8))) pa_nil)) (pv 6) rfl))))
            (pss_one (ps_asg (pe_call TO.ok hr1 (by rfl) TO.m TO.kp TO.b .nil pass0 (pa_cons (pv 1) (pa_cons (pv 4) (pa_cons (pv 2) (pa_cons (pe_ix ix_list (pv 6) pe_int (fun _ _ => rfl)) pa_nil))))) (pg_tup (n := 2) rfl (pgs_cons (pg_name (i := 8) scReadTie.nd rfl (Or.inl rfl)) (pgs_cons (pg_name (i := 5) scReadTie.nd rfl (Or.inl rfl)) pgs_nil))))) pss_nil)
        (pss_cons (ps_expr (pe_call TF.ok hr (by rfl) TF.m TF.kp TF.b .nil (passes_call (takes_of rfl rfl rfl rfl) fun _ _ _ _ h => h) (pa_cons (pv 0) (pa_cons (pv 5) pa_nil))))
        (pss_cons (ps_expr (pe_bm PySem.F.plainAttrs_list PySem.F.slot_list_append PySem.F.type_list_append mt_append (pv 6) (pa_cons (pe_callTy call_int_str (by rfl) mInt (by decide +kernel) (pa_cons (pe_slice sl_str (pv 1) (po_some (pv 4)) (po_some (pv 8))) pa_nil)) pa_nil)))
        (pss_one (ps_set (i := 4) scReadTie.nd rfl (Or.inl rfl) (pv 8)))))))))))
      (pss_cons (ps_expr (pe_call TF.ok hr (by rfl) TF.m TF.kp TF.b .nil (passes_call (takes_of rfl rfl rfl rfl) fun _ _ _ _ h => h) (pa_cons (pv 0) (pa_cons (pe_call TR.ok hr (by rfl) TR.m TR.kp TR.b .nil pass0 (pa_cons (pv 1) (pa_cons (pv 4) pa_nil))) pa_nil))))
      (pss_one (ps_expr (pe_bm PySem.F.plainAttrs_list PySem.F.slot_list_append PySem.F.type_list_append mt_append (pv 3) (pa_cons (pe_callTy call_tuple_of (by rfl) mT (by decide +kernel) (pa_cons (pe_callB cr_sorted (by rfl) mS (by decide +kernel) (pa_cons (pv 6) pa_nil)) pa_nil)) pa_nil))))))), ?_⟩
    have r0 := run_le (g := spaceS) (Nat.zero_le z.length)
    rw [show L2.start rtN [V.int l, V.str z, V.int m, V.ref p] = [some (V.int l), some (V.str z), some (V.int m), some (V.ref p), none, none, none, none, none] from rfl]
    refine ⟨_, rfl, _, rfl, z, 0, rfl, hz, Nat.zero_le _, z, "tie", _, rfl, hz, by decide, r0, fun t1 H1 s1 h1 => get_pair h1 ?_⟩
    simp only [List.set_cons_succ, List.set_cons_zero]
    refine ⟨Nat.zero_le _, fun o no => ?_⟩
    have noH : H o = none := s1.free no
    refine ⟨fun σ' H' => ∃ (a b e2 : Nat) (lap en : Option V), Chain z m (tie0 z) [a, b] (.inl e2) ∧ σ' = [some (.int l), some (.str z), some (.int m), some (.ref p), some (.int e2), some .non, some (.ref o), lap, en] ∧ Same H H' ∧ H' o = some (.lst [.int a, .int b]), ?_, ?_⟩
    · refine ⟨2, rfl, by decide, by decide, for_range (lo := 0) (n := 2) (fun i σ' H' => ∃ (ns : List Nat) (r : Nat ⊕ Nat) (lap en : Option V), Chain z m (tie0 z) ns r ∧ ns.length = i ∧ (∀ k, r = .inl k → k ≤ z.length) ∧
        σ' = [some (.int l), some (.str z), some (.int m), some (.ref p), some (prA r), some (prB r), some (.ref o), lap, en] ∧ Same H H' ∧ H' o = some (.lst (ns.map fun (n : Nat) => V.int n))) ⟨[], tie0 z, none, none, .nil, rfl, fun k hk => (word_le _ _ _ r0 hk).2, rfl, s1.trans (same_new no), upd_same⟩ ?_ ?_⟩
      · rintro i σ' H' hi2 ⟨ns, r, lap, en, ch, hl, hr', rfl, sm, hO⟩
        show tSeq _ _ _ ([some (.int l), some (.str z), some (.int m), some (.ref p), some (prA r), some (prB r), some (.ref o), some (.int (0 + (i : Int))), en] : L2.St) H'
        cases r with
        | inr wr => exact ⟨_, rfl, _, rfl, l, some wr, rfl, (fun h => by cases h), fun w' hw' => by
            cases hw'
            exact flies_same (e wr (chain_err ch (by omega) rfl)) sm⟩
        | inl k =>
          have hk := hr' k rfl
          refine ⟨_, rfl, _, rfl, l, none, rfl, fun _ => ?_, fun w' h => by cases h⟩
          refine ⟨_, rfl, _, rfl, z, k, rfl, hz, hk, fun t2 H2 s2 h2 => get_pair h2 ?_⟩
          simp only [List.set_cons_succ, List.set_cons_zero]
          have sm2 := sm.trans s2
          have hO2 := s2 _ _ hO
          cases hg : gapR z k with
          | inr wr => exact ⟨_, rfl, _, rfl, l, some wr, rfl, (fun h => by cases h), fun w' hw' => by
              cases hw'
              refine flies_same (e wr (chain_err ch (by omega) ?_)) sm2
              unfold lapT
              simp only [hg]⟩
          | inl k2 =>
            obtain ⟨_, l2⟩ := run_cases hk hg
            refine ⟨_, rfl, _, rfl, l, none, rfl, fun _ => ?_, fun w' h => by cases h⟩
            refine ⟨_, rfl, _, rfl, _, rfl, _, _, rfl, rfl, z, k2, 0, m, (by rw [show ((0 : Nat) : Int) + (m : Int) - 1 = (m : Int) - 1 by omega]; rfl), hz, l2, by decide, by omega, fun t3 H3 s3 h3 => get_pair h3 ?_⟩
            simp only [List.set_cons_succ, List.set_cons_zero]
            have sm3 := sm2.trans s3
            have hO3 := s3 _ _ hO2
            refine ⟨fun σ' H' => Same H H' ∧ H' o = some (.lst (ns.map fun (n : Nat) => V.int n)) ∧ ∃ (lap en : Option V), ((∃ w', lapT z m ns (.inl k) = .inr w' ∧ σ' = [some (.int l), some (.str z), some (.int m), some (.ref p), some (.int k2), some (.int (w' : Nat)), some (.ref o), lap, en]) ∨
              (∃ e' n', lapT z m ns (.inl k) = .inl (e', n') ∧ PySem.intText? (subS z k2 e') = some (n' : Int) ∧ (subS z k2 e').length ≤ 640 ∧ σ' = [some (.int l), some (.str z), some (.int m), some (.ref p), some (.int k2), some .non, some (.ref o), lap, some (.int (e' : Nat))])), ?_, ?_⟩
            · cases ho : oneR z (numsL 0 m) k2 with
              | inr wr =>
                refine ⟨_, rfl, rfl, false, rfl, iteF (iteF ⟨sm3, hO3, _, _, .inl ⟨wr, ?_, rfl⟩⟩)⟩
                unfold lapT
                simp only [hg, ho]
              | inl e' =>
                obtain ⟨_, l5, hin⟩ := one_le l2 ho
                obtain ⟨n, _, _, hi, _, hlen⟩ := num_text (inV_mem.mp hin) (by omega)
                have hnum : (numI (subS z k2 e')).toNat = n := by
                  unfold numI
                  rw [hi]
                  simp
                refine ⟨_, rfl, rfl, true, rfl, iteT ⟨_, rfl, _, rfl, _, rfl, _, rfl, _, rfl, z, rfl, hz, ?_⟩⟩
                rw [cut_sub l2]
                refine ⟨_, _, rfl, hi, hlen, _, rfl, o, _, rfl, .inl (.inl (.inl hO3)), rfl, flat_nats ns, ?_⟩
                show ∃ c, V.bl (inV (.int (n : Int)) (ns.map fun (n : Nat) => V.int n)) = .bl c ∧ _
                match ns, hl, ch, hO3 with
                | [], _, ch, hO3 =>
                  refine ⟨false, rfl, iteF ⟨sm3, hO3, _, none, .inr ⟨e', n, ?_, hi, hlen, rfl⟩⟩⟩
                  unfold lapT
                  simp only [hg, ho, hnum]
                | [a], _, ch, hO3 =>
                  by_cases c : n = a
                  · refine ⟨true, congrArg V.bl (show (((a : Int) == (n : Int)) || false) = true by rw [c]; simp), iteT ?_⟩
                    refine ⟨_, rfl, _, rfl, _, rfl, _, rfl, o, _, 0, .int a, rfl, rfl, .inl (.inl hO3), atI_nat (j := 0) rfl, z, k2, m, a, rfl, hz, l2, by omega, fun t4 H4 s4 h4 => get_pair (r := .inr (extR z (othersL m a) k2)) h4 ?_⟩
                    simp only [List.set_cons_succ, List.set_cons_zero]
                    refine ⟨sm3.trans s4, s4 _ _ hO3, _, _, .inl ⟨_, ?_, rfl⟩⟩
                    unfold lapT
                    simp only [hg, ho, hnum, c, if_true]
                  · refine ⟨false, congrArg V.bl (show (((a : Int) == (n : Int)) || false) = false by simp; omega), iteF ⟨sm3, hO3, _, none, .inr ⟨e', n, ?_, hi, hlen, rfl⟩⟩⟩
                    unfold lapT
                    simp only [hg, ho, hnum, if_neg c]
                | _ :: _ :: _, hl, _, _ => exact absurd hl (by simp; omega)
            · rintro σ' H4 ⟨sm4, hO4, lap, en, ⟨w', hl', rfl⟩ | ⟨e', n', hl', hi, hlen, rfl⟩⟩
              · exact ⟨_, rfl, _, rfl, l, some w', rfl, (fun h => by cases h), fun w'' hw' => by
                  cases hw'
                  exact flies_same (e w' (chain_err ch (by omega) hl')) sm4⟩
              · refine ⟨_, rfl, _, rfl, l, none, rfl, fun _ => ?_, fun w' h => by cases h⟩
                have hle := (lap_le hm hk hl').1
                refine ⟨_, rfl, .inl ⟨rfl, _, .inl (.inl hO4)⟩, _, rfl, _, rfl, _, rfl, _, rfl, _, rfl, z, rfl, hz, ?_⟩
                rw [cut_sub l2]
                refine ⟨_, _, rfl, hi, hlen, o, _, _, rfl, rfl, hO4, ?_, _, rfl, ?_⟩
                · rw [List.length_map]
                  exact Nat.lt_of_le_of_lt (show ns.length ≤ 2 by omega) (by decide)
                · refine ⟨ns ++ [n'], .inl e', lap, some (.int (e' : Nat)), .snoc ch hl', by rw [List.length_append, List.length_singleton, hl], fun k' hk' => by cases hk'; exact hle, rfl, fun b' x' eb => ?_, ?_⟩
                  · rw [upd_ne (ne_of_none eb noH)]
                    exact sm4 b' x' eb
                  · rw [upd_same, List.map_append]
                    rfl
      · rintro σ' H' ⟨ns, r, lap, en, ch, hl, hr', rfl, sm, hO⟩
        match ns, hl, ch, hO with
        | [a, b], _, ch, hO =>
          obtain ⟨e1, e2, rfl, _, _⟩ := ch.two_is
          exact ⟨a, b, e2, lap, en, ch, rfl, sm, hO⟩
    · rintro σ2 H2 ⟨a, b, e2, lap, en, ch, rfl, sm, hO⟩
      obtain ⟨e1, e2', hee, h1', h2'⟩ := ch.two_is
      cases hee
      have hk1 : e1 ≤ z.length := by
        cases hw : tie0 z with
        | inr wr =>
          rw [hw] at h1'
          cases h1'
        | inl k =>
          rw [hw] at h1'
          exact (lap_le hm (word_le _ _ _ r0 hw).2 h1').1
      have hk2 := (lap_le hm hk1 h2').1
      have tie_is : tieR z m = match restR z e2 with
        | some w => .inr w
        | none => .inl (min a b, max a b) := by
        unfold tieR
        simp only [h1', h2']
      refine ⟨_, rfl, _, rfl, _, rfl, z, e2, rfl, hz, hk2, l, restR z e2, rfl, fun hn => ?_, fun w' hw' => ?_⟩
      · rw [hn] at tie_is
        have hp2 := sm _ _ hp
        refine ⟨_, rfl, .inl ⟨rfl, _, .inl (.inl hp2)⟩, _, rfl, o, [(a : Int), (b : Int)], rfl, .inl (.inl hO), by show 2 < 64; decide, fun ns' p' perm srt np' => ?_⟩
        rw [sort_two perm srt]
        refine ⟨p', _, rfl, .inl ⟨.inl (.inl upd_same), fun t nt => ?_⟩⟩
        have np2 : p ≠ p' := ne_of_none hp2 np'
        have hp3 : upd H2 p' (.lst ([((min a b : Nat) : Int), ((max a b : Nat) : Int)].map V.int)) p = some (.lst xs) := by
          rw [upd_ne np2]
          exact hp2
        have npt : p ≠ t := ne_of_none hp3 nt
        have ntH2 : H2 t = none := by
          by_cases c : t = p'
          · rw [c, upd_same] at nt
            cases nt
          · rw [upd_ne c] at nt
            exact nt
        refine ⟨p, xs, .ref t, rfl, rfl, ?_, Nat.lt_of_le_of_lt hx (by decide), ?_⟩
        · rw [upd_ne npt]
          exact hp3
        · refine q _ _ tie_is t _ (fun c x ec hc => ?_) (sm.free ntH2) ?_ upd_same
          · rw [upd_ne hc, upd_ne (ne_of_none (sm c x ec) ntH2), upd_ne (ne_of_none (sm c x ec) np')]
            exact sm c x ec
          · rw [upd_ne (Ne.symm npt), upd_same]
            rfl
      · rw [hw'] at tie_is
        exact flies_same (e w' tie_is) sm
end
end K88
/-! The law's own look at a tie. -/
namespace K88
open PySem L2

def textsL (m : Nat) (ns : List Nat) : List Str := ((List.range m).filter fun i => !ns.contains i).map fun (i : Nat) => numS (i : Int)
theorem texts_snoc (m : Nat) (ns : List Nat) : textsL (m + 1) ns = textsL m ns ++ if ns.contains m = true then [] else [numS (m : Int)] := by
  unfold textsL
  rw [List.range_succ, List.filter_append, List.map_append]
  have e : List.filter (fun i => !ns.contains i) [m] = if ns.contains m = true then [] else [m] := by
    rw [List.filter_cons]
    cases ns.contains m <;> rfl
  rw [e]
  cases ns.contains m <;> rfl
theorem texts_len (m : Nat) (ns : List Nat) : (textsL m ns).length ≤ m := by
  unfold textsL
  rw [List.length_map]
  exact Nat.le_trans (List.length_filter_le _ _) (Nat.le_of_eq List.length_range)
theorem texts_mem {m : Nat} {ns : List Nat} {t : Str} (h : t ∈ textsL m ns) : ∃ i : Nat, i < m ∧ t = numS (i : Int) ∧ ns.contains i = false := by
  unfold textsL at h
  obtain ⟨i, hi, rfl⟩ := List.mem_map.mp h
  obtain ⟨h1, h2⟩ := List.mem_filter.mp hi
  exact ⟨i, List.mem_range.mp h1, rfl, by simpa using h2⟩
def lapL (z : Str) (m : Nat) (ns : List Nat) : Nat ⊕ Nat → (Nat × Nat) ⊕ Nat
  | .inr w => .inr w
  | .inl k => match gapR z k with
    | .inr w => .inr w
    | .inl k2 => match oneR z (textsL m ns) k2 with
      | .inr w => .inr w
      | .inl e => .inl (e, (numI (subS z k2 e)).toNat)
def tieL2 (z : Str) (m : Nat) : (Nat × Nat) ⊕ Nat := match lapL z m [] (tie0 z) with
  | .inr w => .inr w
  | .inl (e1, a) => match lapL z m [a] (.inl e1) with
    | .inr w => .inr w
    | .inl (e2, b) => match restR z e2 with
      | some w => .inr w
      | none => .inl (min a b, max a b)
inductive ChainL (z : Str) (m : Nat) (r0 : Nat ⊕ Nat) : List Nat → Nat ⊕ Nat → Prop where
  | nil : ChainL z m r0 [] r0
  | snoc {ns : List Nat} {r : Nat ⊕ Nat} {e n : Nat} (c : ChainL z m r0 ns r) (h : lapL z m ns r = .inl (e, n)) : ChainL z m r0 (ns ++ [n]) (.inl e)
theorem ChainL.nil_is {z : Str} {m : Nat} {r0 r : Nat ⊕ Nat} (c : ChainL z m r0 [] r) : r = r0 := by
  generalize hns : ([] : List Nat) = ns at c
  cases c with
  | nil => rfl
  | snoc c h => exact absurd hns.symm (by simp)
theorem ChainL.one_is {z : Str} {m a : Nat} {r0 r : Nat ⊕ Nat} (c : ChainL z m r0 [a] r) : ∃ e, r = .inl e ∧ lapL z m [] r0 = .inl (e, a) := by
  generalize hns : ([a] : List Nat) = ns at c
  cases c with
  | nil => cases hns
  | @snoc ns' r' e n c h =>
    cases ns' with
    | nil =>
      cases hns
      rw [c.nil_is] at h
      exact ⟨e, rfl, h⟩
    | cons x y => cases y <;> cases hns
theorem ChainL.two_is {z : Str} {m a b : Nat} {r0 r : Nat ⊕ Nat} (c : ChainL z m r0 [a, b] r) : ∃ e1 e2, r = .inl e2 ∧ lapL z m [] r0 = .inl (e1, a) ∧ lapL z m [a] (.inl e1) = .inl (e2, b) := by
  generalize hns : ([a, b] : List Nat) = ns at c
  cases c with
  | nil => cases hns
  | @snoc ns' r' e n c h =>
    have q : ns' = [a] ∧ n = b := by
      match ns', hns with
      | [], hns => cases hns
      | [x], hns =>
        cases hns
        exact ⟨rfl, rfl⟩
      | x :: y :: l, hns =>
        have := congrArg List.length hns
        simp at this
    obtain ⟨rfl, rfl⟩ := q
    obtain ⟨e1, rfl, h0⟩ := c.one_is
    exact ⟨e1, e, rfl, h0, h⟩
theorem chainL_err {z : Str} {m w : Nat} {ns : List Nat} {r : Nat ⊕ Nat} (c : ChainL z m (tie0 z) ns r) (hn : ns.length ≤ 1) (h : lapL z m ns r = .inr w) : tieL2 z m = .inr w := by
  unfold tieL2
  match ns, hn with
  | [], _ =>
    rw [c.nil_is] at h
    simp only [h]
  | [a], _ =>
    obtain ⟨e, rfl, h0⟩ := c.one_is
    simp only [h0, h]
theorem lapL_le {z : Str} {m : Nat} {ns : List Nat} {k e n : Nat} (hk : k ≤ z.length) (h : lapL z m ns (.inl k) = .inl (e, n)) : e ≤ z.length := by
  unfold lapL at h
  cases hg : gapR z k with
  | inr w =>
    simp only [hg] at h
    cases h
  | inl k2 =>
    obtain ⟨_, l2⟩ := run_cases hk hg
    simp only [hg] at h
    cases ho : oneR z (textsL m ns) k2 with
    | inr w =>
      simp only [ho] at h
      cases h
    | inl e2 =>
      simp only [ho] at h
      cases h
      exact (one_le l2 ho).2.1
theorem texts_num {m : Nat} {ns : List Nat} {s : Str} (hm : m ≤ 12) (h : s ∈ textsL m ns) : ∃ i : Nat, i < m ∧ PySem.intText? s = some (i : Int) ∧ s.length ≤ 640 := by
  obtain ⟨i, hi, rfl, _⟩ := texts_mem h
  have key : ∀ j : _root_.Fin 13, PySem.intText? (numS (j.val : Int)) = some (j.val : Int) ∧ (numS (j.val : Int)).length ≤ 640 := by decide +kernel
  exact ⟨i, hi, key ⟨i, by omega⟩⟩
def spLTie : Sp := fun vs H Q _ => ∃ (z : Str) (m : Nat), vs = [.str z, .int m] ∧ z.length ≤ sizeLine ∧ m ≤ 12 ∧
  (∀ a b, tieL2 z m = .inl (a, b) → ∀ t t2 H', Same H H' → H' t2 = some (.tup [.int (a : Nat), .int (b : Nat)]) → H' t = some (.tup [.ref t2, .non]) → Q (.ref t) H') ∧
  (∀ w, tieL2 z m = .inr w → ∀ t H', Same H H' → H' t = some (.tup [.non, .int (w : Nat)]) → Q (.ref t) H')
section
variable {P : Program} {w : World} {K : PySem.W.Frag} {mg : Str → Option Value} {base : Heap} {f g : Addr} {fd gd : FuncData}
theorem inV_nats {i : Nat} {ns : List Nat} : inV (.int (i : Int)) (ns.map fun (n : Nat) => V.int n) = ns.contains i := by
  unfold inV
  rw [List.any_map]
  induction ns with
  | nil => rfl
  | cons a r ih =>
    rw [List.any_cons, List.contains_cons, ih]
    congr 1
    show ((a : Int) == (i : Int)) = (i == a)
    by_cases c : i = a
    · rw [c]
      simp
    · have c2 : ¬ (a : Int) = (i : Int) := fun h => c (by omega)
      rw [beq_eq_false_iff_ne.mpr c2, beq_eq_false_iff_ne.mpr c]
theorem texts_read {σ : L2.St} {H : Hp} {Q : VK} {o : Addr} {m : Nat} {ns : List Nat} {i j p : Nat} (hp : σ[p]? = some (some (.int m))) (hm : m ≤ 12) (hw : ∀ v : V, wipe ((wipe σ [i]).set i (some v)) [i] = wipe σ [i]) (ht : ∀ v : V, ((wipe σ [i]).set i (some v))[i]? = some (some v))
    (hj : ∀ v : V, ((wipe σ [i]).set i (some v))[j]? = some (some (.ref o))) (hO : H o = some (.lst (ns.map fun (n : Nat) => V.int n))) (k : ∀ D H', Same H H' → H' D = some (.lst ((textsL m ns).map V.str)) → Q (.ref D) H') :
    tLc (iRng1 (tCons (tVar p) tNil)) (gName i) (tTest (tOp (rIn K true) (tVar i) (tVar j))) (tCB rStrI (tCons (tVar i) tNil)) [i] σ H Q := by
  have hsz : sizeLine = 16777216 := sizeLine_eq
  refine ⟨_, hp, _, rfl, by omega, by omega, fun D nD => lc_range (lo := 0) (n := ((m : Nat) : Int).toNat) (fun x H2 => Same H H2 ∧ H2 D = some (.lst ((textsL x ns).map V.str)) ∧ x ≤ m) ⟨same_new nD, upd_same, Nat.zero_le _⟩ ?_ ?_⟩
  · rintro x H2 hi ⟨sm, hD, _⟩
    have hi' : x < m := by omega
    have eI : (0 : Int) + (x : Int) = (x : Int) := by omega
    rw [eI]
    refine ⟨hw _, _, ht _, _, hj _, o, _, rfl, .inl (.inl (.inl (sm _ _ hO))), rfl, flat_nats ns, ?_⟩
    show ∃ c, V.bl (!inV (.int (x : Int)) (ns.map fun (n : Nat) => V.int n)) = .bl c ∧ _
    rw [inV_nats]
    cases hc : ns.contains x with
    | true =>
      refine ⟨false, rfl, iteF ⟨sm, ?_, hi'⟩⟩
      rw [texts_snoc, if_pos hc, List.append_nil]
      exact hD
    | false =>
      refine ⟨true, rfl, iteT ⟨_, ht _, _, rfl, log_small (by omega), _, hD, ?_, fun c o' e => ?_, ?_, hi'⟩⟩
      · rw [List.length_map]
        exact Nat.lt_of_le_of_lt (texts_len x ns) (by omega)
      · rw [upd_ne (ne_of_none e nD)]
        exact sm c o' e
      · rw [upd_same, texts_snoc, if_neg (by rw [hc]; decide), List.map_append]
        rfl
  · rintro H2 ⟨sm, hD, _⟩
    exact k D H2 sm hD
abbrev sLTie : Stmt := top 58
abbrev lieN : List Str := ["line", "size", "k", "wrong", "found", "lap", "end", "n"]
theorem scLTie : FnScope lieN ["line", "size"] (defScope sLTie) := ⟨rfl, rfl, rfl, by decide +kernel, rfl, by decide +kernel, by decide +kernel⟩
theorem ok_ltie {fr fw fg fo fe : Addr} {dr dw dg do_ de : FuncData} (F : FnP K "_law_tie" sLTie f fd) (TR : Told P w K mg base "_law_run" 1 ["line", "k", "signs"] spRun fr dr) (TW : Told P w K mg base "_law_one_word" 1 ["line", "k", "word"] spWord fw dw)
    (TG_ : Told P w K mg base "_law_gap" 2 ["line", "k"] (spPair gapR) fg dg) (TO : Told P w K mg base "_law_one_of" 1 ["line", "k", "texts"] (spOneOf K) fo do_) (TE_ : Told P w K mg base "_law_rest" 2 ["line", "k"] spRest fe de)
    (mR : mg "range" = none) (mStr : mg "str" = none) (mInt : mg "int" = none) (mT : mg "tuple" = none) (mS : mg "sorted" = none) : FnOk P w K mg base CX0 3 f fd ["line", "size"] spLTie := by
  refine F.ok scLTie (fun vs H Q E h => ?_) (fun cdv A outer s H vs Q E hr h => ?_)
  · obtain ⟨z, m, rfl, _⟩ := h
    rfl
  · obtain ⟨z, m, rfl, hz, hm, qg, qb⟩ := h
    have hsz : sizeLine = 16777216 := sizeLine_eq
    have hr1 : Room 1 _ := hr.mono (by decide)
    refine ⟨_, PSs.nox (pss_cons (ps_asg (pe_call TW.ok hr1 (by rfl) TW.m TW.kp TW.b .nil pass0 (pa_cons (pv 0) (pa_cons (pe_call TR.ok hr1 (by rfl) TR.m TR.kp TR.b .nil pass0 (pa_cons (pv 0) (pa_cons pe_int (pa_cons pe_str pa_nil)))) (pa_cons pe_str pa_nil)))) (pg_tup (n := 2) rfl (pgs_cons (pg_name (i := 2) scLTie.nd rfl (Or.inl rfl)) (pgs_cons (pg_name (i := 3) scLTie.nd rfl (Or.inl rfl)) pgs_nil))))
      (pss_cons (ps_set (i := 4) scLTie.nd rfl (Or.inr rfl) (pe_lst pa_nil))
      (C8.pss_cut (ps_for PassesOwn.never rfl (pi_range1 (by rfl) mR (pa_cons pe_int pa_nil)) (pg_name (i := 5) scLTie.nd rfl (Or.inl rfl))
        (pss_cons (ps_if (pt_cmpR op_isN (pv 3) pe_non (nomark _))
          (pss_one (ps_asg (pe_call TG_.ok hr (by rfl) TG_.m TG_.kp TG_.b .nil pass0 (pa_cons (pv 0) (pa_cons (pv 2) pa_nil))) (pg_tup (n := 2) rfl (pgs_cons (pg_name (i := 2) scLTie.nd rfl (Or.inl rfl)) (pgs_cons (pg_name (i := 3) scLTie.nd rfl (Or.inl rfl)) pgs_nil))))) pss_nil)
        (pss_cons (ps_if (pt_cmpR op_isN (pv 3) pe_non (nomark _))
          (pss_one (ps_asg (pe_call TO.ok hr1 (by rfl) TO.m TO.kp TO.b .nil pass0 (pa_cons (pv 0) (pa_cons (pv 2) (pa_cons
              (pe_lc (own := [("n", 7)]) (g := gName 7) (tt := tTest (tOp (rIn K true) (tVar 7) (tVar 4))) (te := tCB rStrI (tCons (tVar 7) tNil)) rfl scLTie.nd (pi_range1 (by rfl) mR (pa_cons (pv 1) pa_nil)) (blkOk_by (own := [("n", 7)]) (N := lieN) (sc := defScope sLTie) (by decide +kernel))
                (fun _ _ _ _ _ => pg_name (i := 7) scLTie.nd rfl (Or.inl rfl)) (fun _ _ _ _ _ => pts_one (pt_cmpR op_notIn_seq (pv 7) (pv 4) rfl)) (fun _ _ _ _ _ => pe_callTy (T := "str") call_str_int (by rfl) mStr (by decide +kernel) (pa_cons (pv 7) pa_nil))) pa_nil))))
            (pg_tup (n := 2) rfl (pgs_cons (pg_name (i := 6) scLTie.nd rfl (Or.inl rfl)) (pgs_cons (pg_name (i := 3) scLTie.nd rfl (Or.inl rfl)) pgs_nil))))) pss_nil)
        (pss_cons (ps_if (pt_cmpR op_notN (pv 3) pe_non (nomark _)) (pss_one (ps_ret (pe_tup (pa_cons pe_non (pa_cons (pv 3) pa_nil))))) pss_nil)
        (pss_cons (ps_expr (pe_bm PySem.F.plainAttrs_list PySem.F.slot_list_append PySem.F.type_list_append mt_append (pv 4) (pa_cons (pe_callTy call_int_str (by rfl) mInt (by decide +kernel) (pa_cons (pe_slice sl_str (pv 0) (po_some (pv 2)) (po_some (pv 6))) pa_nil)) pa_nil)))
        (pss_one (ps_set (i := 2) scLTie.nd rfl (Or.inl rfl) (pv 6))))))))
      (pss_cons (ps_set (i := 3) scLTie.nd rfl (Or.inl rfl) (pe_call TE_.ok hr (by rfl) TE_.m TE_.kp TE_.b .nil pass0 (pa_cons (pv 0) (pa_cons (pv 2) pa_nil))))
      (pss_one (ps_ret (pe_ifExp (pt_cmpR op_isN (pv 3) pe_non (nomark _)) (pe_tup (pa_cons (pe_callTy call_tuple_of (by rfl) mT (by decide +kernel) (pa_cons (pe_callB cr_sorted (by rfl) mS (by decide +kernel) (pa_cons (pv 4) pa_nil)) pa_nil)) (pa_cons pe_non pa_nil))) (pe_tup (pa_cons pe_non (pa_cons (pv 3) pa_nil)))))))))), ?_⟩
    have r0 := run_le (g := spaceS) (Nat.zero_le z.length)
    rw [show L2.start lieN [V.str z, V.int m] = [some (V.str z), some (V.int m), none, none, none, none, none, none] from rfl]
    refine ⟨_, rfl, _, rfl, z, spaceS, 0, rfl, hz, Nat.zero_le _, z, "tie", _, rfl, hz, by decide, r0, fun t1 H1 s1 h1 => get_pair h1 ?_⟩
    simp only [List.set_cons_succ, List.set_cons_zero]
    refine ⟨Nat.zero_le _, fun o no => ?_⟩
    have noH : H o = none := s1.free no
    have bad : ∀ {a : L2.St} {H2 : Hp} {w : Nat}, Same H H2 → a[3]? = some (some (.int w)) → tieL2 z m = .inr w → tTup (tCons (tC .non) (tCons (tVar 3) tNil)) a H2 Q := fun s2 h2 hw => ⟨_, h2, two_ok, fun t ht => qb _ hw t _ (s2.trans (same_new ht)) upd_same⟩
    refine ⟨fun σ' H' => ∃ (a b e2 : Nat) (lap en : Option V), ChainL z m (tie0 z) [a, b] (.inl e2) ∧ e2 ≤ z.length ∧ σ' = [some (.str z), some (.int m), some (.int e2), some .non, some (.ref o), lap, en, none] ∧ Same H H' ∧ H' o = some (.lst [.int a, .int b]), ?_, ?_⟩
    · refine ⟨2, rfl, by decide, by decide, for_range (lo := 0) (n := 2) (fun i σ' H' => ∃ (ns : List Nat) (r : Nat ⊕ Nat) (lap en : Option V), ChainL z m (tie0 z) ns r ∧ ns.length = i ∧ (∀ k, r = .inl k → k ≤ z.length) ∧
        σ' = [some (.str z), some (.int m), some (prA r), some (prB r), some (.ref o), lap, en, none] ∧ Same H H' ∧ H' o = some (.lst (ns.map fun (n : Nat) => V.int n))) ⟨[], tie0 z, none, none, .nil, rfl, fun k hk => (word_le _ _ _ r0 hk).2, rfl, s1.trans (same_new no), upd_same⟩ ?_ ?_⟩
      · rintro i σ' H' hi2 ⟨ns, r, lap, en, ch, hl, hr', rfl, sm, hO⟩
        show tSeq _ _ _ ([some (.str z), some (.int m), some (prA r), some (prB r), some (.ref o), some (.int (0 + (i : Int))), en, none] : L2.St) H'
        cases r with
        | inr wr => exact ⟨_, rfl, rfl, false, rfl, iteF ⟨_, rfl, rfl, false, rfl, iteF ⟨_, rfl, rfl, true, rfl, iteT (bad sm rfl (chainL_err ch (by omega) rfl))⟩⟩⟩
        | inl k =>
          have hk := hr' k rfl
          refine ⟨_, rfl, rfl, true, rfl, iteT ⟨_, rfl, _, rfl, z, k, rfl, hz, hk, fun t2 H2 s2 h2 => get_pair h2 ?_⟩⟩
          simp only [List.set_cons_succ, List.set_cons_zero]
          have sm2 := sm.trans s2
          have hO2 := s2 _ _ hO
          cases hg : gapR z k with
          | inr wr =>
            refine ⟨_, rfl, rfl, false, rfl, iteF ⟨_, rfl, rfl, true, rfl, iteT (bad sm2 rfl (chainL_err ch (by omega) ?_))⟩⟩
            unfold lapL
            simp only [hg]
          | inl k2 =>
            obtain ⟨_, l2⟩ := run_cases hk hg
            refine ⟨_, rfl, rfl, true, rfl, iteT ⟨_, rfl, _, rfl, ?_⟩⟩
            refine texts_read (o := o) (m := m) (ns := ns) rfl hm (fun _ => rfl) (fun _ => rfl) (fun _ => rfl) hO2 fun D H3 s3 hD => ?_
            refine ⟨z, k2, D, textsL m ns, rfl, hz, l2, .inl (.inl hD), Nat.le_trans (texts_len m ns) (by omega), fun t ht => ?_, fun t4 H4 s4 h4 => get_pair h4 ?_⟩
            · obtain ⟨i, hi, rfl, _⟩ := texts_mem ht
              exact num_short i (by omega)
            simp only [List.set_cons_succ, List.set_cons_zero]
            have sm4 := sm2.trans (s3.trans s4)
            have hO4 := s4 _ _ (s3 _ _ hO2)
            cases ho : oneR z (textsL m ns) k2 with
            | inr wr =>
              refine ⟨_, rfl, rfl, true, rfl, iteT (bad sm4 rfl (chainL_err ch (by omega) ?_))⟩
              unfold lapL
              simp only [hg, ho]
            | inl e' =>
              obtain ⟨_, l5, hin⟩ := one_le l2 ho
              obtain ⟨n, _, hi, hlen⟩ := texts_num hm (inV_mem.mp hin)
              have hnum : (numI (subS z k2 e')).toNat = n := by
                unfold numI
                rw [hi]
                simp
              have hl' : lapL z m ns (.inl k) = .inl (e', n) := by
                unfold lapL
                simp only [hg, ho, hnum]
              refine ⟨_, rfl, rfl, false, rfl, iteF ⟨_, rfl, .inl ⟨rfl, _, .inl (.inl hO4)⟩, _, rfl, _, rfl, _, rfl, _, rfl, _, rfl, z, rfl, hz, ?_⟩⟩
              rw [cut_sub l2]
              refine ⟨_, _, rfl, hi, hlen, o, _, _, rfl, rfl, hO4, ?_, _, rfl, ns ++ [n], .inl e', _, _, ch.snoc hl', by simp [hl], fun k' hk' => ?_, rfl, fun b x eb => ?_, ?_⟩
              · rw [List.length_map, hl]
                exact Nat.lt_of_lt_of_le hi2 (by decide)
              · cases hk'
                exact l5
              · rw [upd_ne (ne_of_none eb noH)]
                exact sm4 b x eb
              · rw [upd_same, List.map_append]
                rfl
      · rintro σ' H' ⟨ns, r, lap, en, ch, hl, hr', rfl, sm, hO⟩
        match ns, hl, ch, hO with
        | [a, b], _, ch, hO =>
          obtain ⟨e1, e2, rfl, _, _⟩ := ch.two_is
          exact ⟨a, b, e2, lap, en, ch, hr' e2 rfl, rfl, sm, hO⟩
    · rintro σ2 H2 ⟨a, b, e2, lap, en, ch, he2, rfl, sm, hO⟩
      obtain ⟨e1, e2', hee, h1', h2'⟩ := ch.two_is
      cases hee
      have tie_is : tieL2 z m = match restR z e2 with
        | some w => .inr w
        | none => .inl (min a b, max a b) := by
        unfold tieL2
        simp only [h1', h2']
      refine ⟨_, rfl, _, rfl, z, e2, rfl, hz, he2, ?_⟩
      cases hrest : restR z e2 with
      | some wr =>
        rw [hrest] at tie_is
        exact ⟨_, rfl, rfl, false, rfl, iteF (bad sm rfl tie_is)⟩
      | none =>
        rw [hrest] at tie_is
        refine ⟨_, rfl, rfl, true, rfl, iteT ⟨_, rfl, o, [(a : Int), (b : Int)], rfl, .inl (.inl hO), by show 2 < 64; decide, fun ns' p' perm srt np' => ?_⟩⟩
        rw [sort_two perm srt]
        refine ⟨p', _, rfl, .inl ⟨.inl (.inl upd_same), fun t nt => ⟨two_ok, fun t2 nt2 => ?_⟩⟩⟩
        refine qg _ _ tie_is t2 t _ (((sm.trans (same_new np')).trans (same_new nt)).trans (same_new nt2)) ?_ upd_same
        rw [upd_ne (ne_of_none upd_same nt2), upd_same]
        rfl
end
end K88
/-! Both looks at a tie come to the same. -/
namespace K88
open PySem L2

theorem sub_take {z : Str} {k i j : Nat} (h : i ≤ j) : (subS z k i).cps.toList = (subS z k j).cps.toList.take (i - k) := by
  unfold subS
  rw [List.toList_toArray, List.toList_toArray, List.take_take]
  congr 1
  omega
theorem bg_pre {z : Str} {T : List Str} {k i j : Nat} (h1 : k ≤ i) (h2 : i ≤ j) (h3 : j ≤ z.length) (h : bg T (subS z k j) = true) : bg T (subS z k i) = true := by
  obtain ⟨t, ht, hb⟩ := List.any_eq_true.mp h
  refine List.any_eq_true.mpr ⟨t, ht, ?_⟩
  have q := of_decide_eq_true hb
  unfold bgn
  refine decide_eq_true ?_
  rw [sub_len (by omega) (by omega), sub_take h2, ← q, sub_len (by omega) h3, List.take_take]
  congr 1
  omega
/-- up to the end of the run each beginning goes on -/
theorem ext_all {z : Str} {T : List Str} {k : Nat} : ∀ n e, e + n ≤ z.length → ∀ x, e ≤ x → x < ext z T k n e → bg T (subS z k (x + 1)) = true
  | 0, e, _, x, h1, h2 => by
    unfold ext at h2
    omega
  | n + 1, e, hn, x, h1, h2 => by
    unfold ext at h2
    split at h2
    · rename_i hb
      by_cases c : x = e
      · rw [c]
        exact hb
      · exact ext_all n (e + 1) (by omega) x (by omega) h2
    · omega
theorem ext_fin {z : Str} {T : List Str} {k : Nat} : ∀ n e, ext z T k n e = e + n ∨ bg T (subS z k (ext z T k n e + 1)) = false
  | 0, e => .inl rfl
  | n + 1, e => by
    unfold ext
    split
    · rcases ext_fin (z := z) (T := T) (k := k) n (e + 1) with h | h
      · left
        omega
      · right
        exact h
    · rename_i hb
      right
      simpa using hb
theorem extR_all {z : Str} {T : List Str} {k x : Nat} (hk : k ≤ z.length) (h1 : k ≤ x) (h2 : x < extR z T k) : bg T (subS z k (x + 1)) = true := ext_all _ _ (by omega) x h1 h2
theorem extR_fin {z : Str} {T : List Str} {k : Nat} (hk : k ≤ z.length) : extR z T k = z.length ∨ bg T (subS z k (extR z T k + 1)) = false := by
  rcases ext_fin (z := z) (T := T) (k := k) (z.length - k) k with h | h
  · left
    unfold extR
    omega
  · right
    exact h
theorem extR_eq {z : Str} {T : List Str} {k e : Nat} (hk : k ≤ e) (he : e ≤ z.length) (h1 : ∀ x, k ≤ x → x < e → bg T (subS z k (x + 1)) = true) (h2 : e = z.length ∨ bg T (subS z k (e + 1)) = false) : extR z T k = e := by
  have hkz : k ≤ z.length := Nat.le_trans hk he
  have hge := ext_ge z T k (z.length - k) k
  have hle := extR_le (texts := T) hkz
  rcases Nat.lt_trichotomy (extR z T k) e with c | c | c
  · have q := h1 (extR z T k) hge c
    rcases extR_fin (T := T) hkz with h | h
    · omega
    · rw [h] at q
      cases q
  · exact c
  · have q := extR_all hkz hk c
    rcases h2 with h | h
    · omega
    · rw [h] at q
      cases q
theorem bg_sub {A B : List Str} {s : Str} (h : ∀ t ∈ B, t ∈ A) (hb : bg A s = false) : bg B s = false := by
  cases c : bg B s with
  | false => rfl
  | true =>
    obtain ⟨t, ht, hx⟩ := List.any_eq_true.mp c
    rw [show bg A s = true from List.any_eq_true.mpr ⟨t, h t ht, hx⟩] at hb
    cases hb
theorem texts_nil (m : Nat) : textsL m [] = numsL 0 m := by
  have e : (List.range m).filter (fun i => !([] : List Nat).contains i) = List.range m := List.filter_eq_self.mpr fun x _ => rfl
  unfold textsL numsL
  rw [e]
  congr 1
  funext i
  congr 1
  omega
theorem texts_one (m a : Nat) : textsL m [a] = othersL m a := by
  unfold textsL othersL
  congr 1
  refine List.filter_congr fun x _ => ?_
  by_cases c : x = a
  · simp [c]
  · simp [c]
theorem others_mem {m a : Nat} {t : Str} : t ∈ othersL m a ↔ ∃ i : Nat, i < m ∧ i ≠ a ∧ t = numS (i : Int) := by
  unfold othersL
  simp only [List.mem_map, List.mem_filter, List.mem_range, decide_eq_true_eq]
  constructor
  · rintro ⟨i, ⟨h1, h2⟩, rfl⟩
    exact ⟨i, h1, h2, rfl⟩
  · rintro ⟨i, h1, h2, rfl⟩
    exact ⟨i, ⟨h1, h2⟩, rfl⟩
theorem nums_mem {m : Nat} {t : Str} : t ∈ numsL 0 m ↔ ∃ i : Nat, i < m ∧ t = numS (i : Int) := by
  rw [← texts_nil]
  unfold textsL
  simp only [List.mem_map, List.mem_filter, List.mem_range]
  constructor
  · rintro ⟨i, ⟨h1, _⟩, rfl⟩
    exact ⟨i, h1, rfl⟩
  · rintro ⟨i, h1, rfl⟩
    exact ⟨i, ⟨h1, rfl⟩, rfl⟩
theorem num_closed {m : Nat} {s : Str} (hm : m ≤ 12) (hs : 1 ≤ s.length) (h : bg (numsL 0 m) s = true) : s ∈ numsL 0 m := by
  obtain ⟨t, ht, hb⟩ := List.any_eq_true.mp h
  obtain ⟨i, hi, rfl⟩ := nums_mem.mp ht
  have q := of_decide_eq_true hb
  have hl : s.length ≤ 2 := bg_short (fun t ht => by
    obtain ⟨j, hj, rfl⟩ := nums_mem.mp ht
    exact num_short j (by omega)) h
  have key : ∀ m : _root_.Fin 13, ∀ i : _root_.Fin 13, ∀ j : _root_.Fin 3, i.val < m.val → 1 ≤ j.val → (⟨((numS (i.val : Int)).cps.toList.take j.val).toArray⟩ : Str) ∈ numsL 0 m.val := by decide +kernel
  have r := key ⟨m, by omega⟩ ⟨i, by omega⟩ ⟨s.length, by omega⟩ hi hs
  rw [show (⟨((numS (i : Int)).cps.toList.take s.length).toArray⟩ : Str) = s from str_ext (by rw [List.toList_toArray]; exact q)] at r
  exact r
theorem num_inj {i j : Nat} (hi : i ≤ 12) (hj : j ≤ 12) (h : numS (i : Int) = numS (j : Int)) : i = j := by
  have key : ∀ i : _root_.Fin 13, ∀ j : _root_.Fin 13, numS (i.val : Int) = numS (j.val : Int) → i.val = j.val := by decide +kernel
  exact key ⟨i, by omega⟩ ⟨j, by omega⟩ h
theorem num_signs {i : Nat} (hi : i ≤ 12) : ∀ c ∈ (numS (i : Int)).cps.toList, c ≠ 32 := by
  have key : ∀ i : _root_.Fin 13, ∀ c ∈ (numS (i.val : Int)).cps.toList, c ≠ 32 := by decide +kernel
  exact key ⟨i, by omega⟩
theorem in_nil {m a : Nat} (hm : m ≤ 12) : inV (.str ⟨#[]⟩) ((othersL m a).map V.str) = false := by
  cases c : inV (.str ⟨#[]⟩) ((othersL m a).map V.str) with
  | false => rfl
  | true =>
    obtain ⟨i, hi, _, e⟩ := others_mem.mp (inV_mem.mp c)
    have key : ∀ i : _root_.Fin 13, (⟨#[]⟩ : Str) ≠ numS (i.val : Int) := by decide +kernel
    exact absurd e (key ⟨i, by omega⟩)
theorem one_inr {z : Str} {T : List Str} {k : Nat} (h : inV (.str (subS z k (extR z T k))) (T.map V.str) = false) : oneR z T k = .inr (extR z T k) := by
  unfold oneR
  rw [h]
  rfl
theorem one_inl {z : Str} {T : List Str} {k : Nat} (h : inV (.str (subS z k (extR z T k))) (T.map V.str) = true) : oneR z T k = .inl (extR z T k) := by
  unfold oneR
  rw [h]
  rfl
/-- the second place: with all numbers, and without a -/
theorem second {z : Str} {m a k : Nat} (hm : m ≤ 12) (hk : k ≤ z.length) :
    (∀ w, oneR z (numsL 0 m) k = .inr w → oneR z (othersL m a) k = .inr w) ∧
    (∀ e, oneR z (numsL 0 m) k = .inl e → ∀ n : Nat, n ≤ 12 → subS z k e = numS (n : Int) → (n ≠ a → oneR z (othersL m a) k = .inl e) ∧
      (n = a → oneR z (othersL m a) k = .inr (extR z (othersL m a) k) ∨ (oneR z (othersL m a) k = .inl (extR z (othersL m a) k) ∧ restR z (extR z (othersL m a) k) = some (extR z (othersL m a) k)))) := by
  have hsub : ∀ t ∈ othersL m a, t ∈ numsL 0 m := fun t ht => by
    obtain ⟨i, hi, _, rfl⟩ := others_mem.mp ht
    exact nums_mem.mpr ⟨i, hi, rfl⟩
  have hgeA : k ≤ extR z (numsL 0 m) k := ext_ge _ _ _ _ _
  have hleA := extR_le (texts := numsL 0 m) hk
  have finA := extR_fin (T := numsL 0 m) hk
  refine ⟨fun w h => ?_, fun e h n hn hs => ?_⟩
  · have hw : extR z (numsL 0 m) k = w ∧ inV (.str (subS z k (extR z (numsL 0 m) k))) ((numsL 0 m).map V.str) = false := by
      cases c : inV (.str (subS z k (extR z (numsL 0 m) k))) ((numsL 0 m).map V.str) with
      | true =>
        rw [one_inl c] at h
        cases h
      | false =>
        rw [one_inr c] at h
        exact ⟨Sum.inr.inj h, rfl⟩
    obtain ⟨rfl, hv⟩ := hw
    have ek : extR z (numsL 0 m) k = k := by
      rcases Nat.lt_or_ge k (extR z (numsL 0 m) k) with c | c
      · have b := extR_all (T := numsL 0 m) (x := extR z (numsL 0 m) k - 1) hk (by omega) (by omega)
        rw [show extR z (numsL 0 m) k - 1 + 1 = extR z (numsL 0 m) k by omega] at b
        have q := num_closed hm (by rw [sub_len hgeA hleA]; omega) b
        rw [inV_mem.mpr q] at hv
        cases hv
      · omega
    have eB : extR z (othersL m a) k = k := by
      refine extR_eq (Nat.le_refl k) hk (fun x h1 h2 => by omega) ?_
      rcases finA with c | c
      · left
        omega
      · right
        rw [ek] at c
        exact bg_sub hsub c
    rw [ek]
    have r := one_inr (z := z) (T := othersL m a) (k := k) (by rw [eB, sub_nil]; exact in_nil hm)
    rw [r, eB]
  · have he : extR z (numsL 0 m) k = e := by
      cases c : inV (.str (subS z k (extR z (numsL 0 m) k))) ((numsL 0 m).map V.str) with
      | true =>
        rw [one_inl c] at h
        exact Sum.inl.inj h
      | false =>
        rw [one_inr c] at h
        cases h
    obtain ⟨_, hel, hin⟩ := one_le hk h
    subst he
    have hnm : n < m := by
      obtain ⟨i, hi, e⟩ := nums_mem.mp (inV_mem.mp hin)
      rw [hs] at e
      rw [num_inj hn (by omega) e]
      exact hi
    refine ⟨fun hna => ?_, fun hna => ?_⟩
    · have hB : subS z k (extR z (numsL 0 m) k) ∈ othersL m a := others_mem.mpr ⟨n, hnm, hna, hs⟩
      have full : bg (othersL m a) (subS z k (extR z (numsL 0 m) k)) = true := by
        refine List.any_eq_true.mpr ⟨_, hB, ?_⟩
        unfold bgn
        refine decide_eq_true ?_
        rw [List.take_of_length_le (by rw [len_cps]; exact Nat.le_refl _)]
      have eB : extR z (othersL m a) k = extR z (numsL 0 m) k := by
        refine extR_eq hgeA hleA (fun x h1 h2 => bg_pre (by omega) (by omega) hleA full) ?_
        rcases finA with c | c
        · exact .inl c
        · exact .inr (bg_sub hsub c)
      have r := one_inl (z := z) (T := othersL m a) (k := k) (by rw [eB]; exact inV_mem.mpr hB)
      rw [r, eB]
    · cases c : inV (.str (subS z k (extR z (othersL m a) k))) ((othersL m a).map V.str) with
      | false => exact .inl (one_inr c)
      | true =>
        refine .inr ⟨one_inl c, ?_⟩
        obtain ⟨i, hi, hia, e⟩ := others_mem.mp (inV_mem.mp c)
        have hgeB : k ≤ extR z (othersL m a) k := ext_ge _ _ _ _ _
        have hleB := extR_le (texts := othersL m a) hk
        have lt : extR z (othersL m a) k < extR z (numsL 0 m) k := by
          rcases Nat.lt_trichotomy (extR z (othersL m a) k) (extR z (numsL 0 m) k) with x | x | x
          · exact x
          · rw [x, hs, hna] at e
            exact absurd (num_inj (by omega) (by omega) e).symm hia
          · have b := extR_all hk hgeA x
            rcases finA with y | y
            · omega
            · rw [bg_sub hsub y] at b
              cases b
        have hc : ∃ ch, z.cps.toList[extR z (othersL m a) k]? = some ch ∧ ch ≠ 32 := by
          obtain ⟨ch, h1, _⟩ := drop_at (z := z) (k := extR z (othersL m a) k) (by omega)
          refine ⟨ch, h1, num_signs hn ch ?_⟩
          rw [← hs]
          unfold subS
          rw [List.toList_toArray]
          refine List.mem_of_getElem? (i := extR z (othersL m a) k - k) ?_
          rw [List.getElem?_take_of_lt (by omega), List.getElem?_drop, show k + (extR z (othersL m a) k - k) = extR z (othersL m a) k by omega]
          exact h1
        obtain ⟨ch, h1, h2⟩ := hc
        have hr : run z spaceS (extR z (othersL m a) k) = extR z (othersL m a) k := run_out h1 (by
          intro x
          have key : spaceS.cps.toList = [32] := by decide +kernel
          rw [key] at x
          exact h2 (List.mem_singleton.mp x))
        unfold restR
        rw [hr, if_neg (by omega)]
theorem tie_eq {z : Str} {m : Nat} (hm : m ≤ 12) : tieL2 z m = tieR z m := by
  have r0 := run_le (g := spaceS) (Nat.zero_le z.length)
  have first : ∀ r, lapL z m [] r = lapT z m [] r := fun r => by
    cases r with
    | inr w => rfl
    | inl k =>
      unfold lapL lapT
      rw [texts_nil] <;>
      (cases hg : gapR z k with
      | inr w => simp only [hg]
      | inl k2 =>
        cases h : oneR z (numsL 0 m) k2 with
        | inr w => simp only [hg, h]
        | inl e => simp only [hg, h])
  unfold tieL2 tieR
  rw [first]
  cases h1 : lapT z m [] (tie0 z) with
  | inr w => rfl
  | inl p =>
    obtain ⟨e1, a⟩ := p
    have hk1 : e1 ≤ z.length := by
      cases hw : tie0 z with
      | inr wr =>
        rw [hw] at h1
        cases h1
      | inl k =>
        rw [hw] at h1
        exact (lap_le hm (word_le _ _ _ r0 hw).2 h1).1
    simp only
    unfold lapL lapT
    cases hg : gapR z e1 with
    | inr w => simp only [hg]
    | inl k2 =>
      obtain ⟨_, l2⟩ := run_cases hk1 hg
      rw [texts_one]
      simp only [hg]
      obtain ⟨s1, s2⟩ := second (z := z) (m := m) (a := a) hm l2
      cases ho : oneR z (numsL 0 m) k2 with
      | inr w => simp only [ho, s1 w ho]
      | inl e =>
        obtain ⟨_, l5, hin⟩ := one_le l2 ho
        obtain ⟨n, _, hn2, hi, hs, _⟩ := num_text (inV_mem.mp hin) (by omega)
        have hnum : (numI (subS z k2 e)).toNat = n := by
          unfold numI
          rw [hi]
          simp
        obtain ⟨q1, q2⟩ := s2 e ho n (by omega) hs
        by_cases c : n = a
        · rcases q2 c with q | ⟨q, qr⟩
          · simp only [ho, q, hnum, c, if_true]
          · simp only [ho, q, hnum, c, if_true, qr]
        · simp only [ho, q1 c, hnum]
          rw [if_neg c]
          all_goals rfl
end K88
/-! The last line of a web. -/
namespace K88
open PySem L2

def endR (z : Str) : Option Nat := match wordR z endL (run z spaceS 0) with
  | .inr w => some w
  | .inl e => restR z e
def spReadEnd (C : Addr) : Sp := fun vs H Q E => ∃ (l : Int) (z : Str), vs = [.int l, .str z] ∧ z.length ≤ sizeLine ∧ (endR z = none → ∀ H', Same H H' → Q .non H') ∧ (∀ w, endR z = some w → flies C E H l ((w : Int) + 1))
section
variable {P : Program} {w : World} {K : PySem.W.Frag} {mg : Str → Option Value} {base : Heap} {f g C fI : Addr} {fd gd dI : FuncData}
abbrev sReadEnd : Stmt := top 32
theorem scReadEnd : FnScope ["number", "line", "end", "wrong"] ["number", "line"] (defScope sReadEnd) := ⟨rfl, rfl, rfl, by decide +kernel, rfl, by decide +kernel, by decide +kernel⟩
theorem ok_read_end {fp fw fr ff : Addr} {dp dw dr df : FuncData} (F : FnP K "read_end" sReadEnd f fd) (TP : Told P w K mg base "past_spaces" 2 ["line", "k"] (spRun1 spaceS) fp dp) (TW : Told P w K mg base "word_scan" 1 ["line", "k", "word"] spWord fw dw)
    (TR : Told P w K mg base "rest_scan" 3 ["line", "k"] spRest fr dr) (TF : ToldX P w K mg base "refuse" 3 ["number", "wrong"] (spRefuse C) ff df) : FnOk P w K mg base (L2.CX P w) 4 f fd ["number", "line"] (spReadEnd C) := by
  refine F.ok scReadEnd (fun vs H Q E h => ?_) (fun cdv A outer s H vs Q E hr h => ?_)
  · obtain ⟨l, z, rfl, _⟩ := h
    rfl
  · obtain ⟨l, z, rfl, hz, q, e⟩ := h
    have hr1 : Room 1 _ := hr.mono (by decide)
    have hr2 : Room 2 _ := hr.mono (by decide)
    refine ⟨_, pss_cons (ps_asg (pe_call TW.ok hr1 (by rfl) TW.m TW.kp TW.b .nil pass0 (pa_cons (pv 1) (pa_cons (pe_call TP.ok hr2 (by rfl) TP.m TP.kp TP.b .nil pass0 (pa_cons (pv 1) (pa_cons pe_int pa_nil))) (pa_cons pe_str pa_nil)))) (pg_tup (n := 2) rfl (pgs_cons (pg_name (i := 2) scReadEnd.nd rfl (Or.inl rfl)) (pgs_cons (pg_name (i := 3) scReadEnd.nd rfl (Or.inl rfl)) pgs_nil))))
      (pss_one (ps_expr (pe_call TF.ok hr (by rfl) TF.m TF.kp TF.b .nil (passes_call (takes_of rfl rfl rfl rfl) fun _ _ _ _ h => h) (pa_cons (pv 0) (pa_cons
        (pe_ifExp (pt_cmpR op_isN (pv 3) pe_non (nomark _)) (pe_call TR.ok hr (by rfl) TR.m TR.kp TR.b .nil pass0 (pa_cons (pv 1) (pa_cons (pv 2) pa_nil))) (pv 3)) pa_nil))))), ?_⟩
    have r0 := run_le (g := spaceS) (Nat.zero_le z.length)
    rw [show L2.start ["number", "line", "end", "wrong"] [V.int l, V.str z] = [some (V.int l), some (V.str z), none, none] from rfl]
    refine ⟨_, rfl, _, rfl, z, 0, rfl, hz, Nat.zero_le _, z, "end", _, rfl, hz, by decide, r0, fun t1 H1 s1 h1 => get_pair h1 ?_⟩
    simp only [List.set_cons_succ, List.set_cons_zero]
    unfold endR at q e
    cases hw : wordR z endL (run z spaceS 0) with
    | inr wr =>
      simp only [hw] at q e
      exact ⟨_, rfl, _, rfl, rfl, false, rfl, iteF ⟨_, rfl, l, some wr, rfl, (fun h => by cases h), fun w' hw' => by
        cases hw'
        exact flies_same (e wr rfl) s1⟩⟩
    | inl k =>
      simp only [hw] at q e
      have hk := (word_le _ _ _ r0 hw).2
      exact ⟨_, rfl, _, rfl, rfl, true, rfl, iteT ⟨_, rfl, _, rfl, z, k, rfl, hz, hk, l, restR z k, rfl, fun h => q h H1 s1, fun w' hw' => flies_same (e w' hw') s1⟩⟩
end
end K88
/-! sorted of a TUPLE of pairs. -/
namespace K88
open PySem PyProof.Rows SrtO Srt L2

section
variable {prog : Program} {w : World} {A : Around} {E : Value → Shared → Prop} {s : Shared}
theorem collect_tup {l : Addr} {vs : List Value} {Q : List Value → Shared → Prop} (hl : IsTup s.heap l vs.toArray) (hsz : vs.length ≤ sizeLine)
    (h : Q vs { s with heap := (s.heap.push (seqObj "list" #[] 0)).update s.heap.objs.size (Obj.mapSeq (· ++ vs.toArray)) }) : wpAny (model prog w) A (collect (.ref l)) Q E s := by
  obtain ⟨o, ho, hc, n, hd⟩ := id hl
  unfold collect
  refine wpAny_bind (wpAny_runValue (codeAny_builtin entry_proto_collect' ?_))
  show wpAny _ _ (do again (.builtin "list.__iadd__" ⟨[← newList [], .ref l], []⟩)) _ _ s
  refine wpAny_bind (wpAny_newList (wpAny_pure ⟨Code.quiet_builtin _ (by decide +kernel), codeAny_builtin entry_list_iadd' ?_⟩))
  show wpAny _ _ (Builtin.List.listExtendWith (.ref s.heap.objs.size) (.ref l) (.ref s.heap.objs.size)) _ _ { s with heap := s.heap.push (seqObj "list" #[] 0) }
  unfold Builtin.List.listExtendWith
  have ho' : (s.heap.push (seqObj "list" #[] 0)).get? l = some o := Heap.get?_push_of_some _ ho
  refine wpAny_bind (wpAny_typeOf (T := "tuple") ⟨o, ho', hc⟩ ?_)
  have ht : (Value.type "tuple" == Value.type "tuple") = true := by rfl
  rw [if_pos (by rw [ht]; simp)]
  refine wpAny_bind (listItems_at ho' hd ?_)
  refine wpAny_bind (listItems_at (xs := #[]) (n := 0) (Heap.get?_push_size _ rfl) rfl ?_)
  rw [if_neg (by simp)]
  refine wpAny_bind (listUpdate_at (xs := #[]) (n := 0) (Heap.get?_push_size _ rfl) rfl ?_ (Nat.zero_le _) (by show (#[] ++ vs.toArray).size ≤ sizeLine + 1; simp only [Array.size_append, List.size_toArray, List.length_nil]; omega))
  refine wpAny_pure ?_
  show wpAny (model prog w) A (do
      let o ← load s.heap.objs.size
      match o.data with
      | .seq xs _ => pure xs.toList
      | _ => unsupported "internal:collect") Q E { s with heap := (s.heap.push (seqObj "list" #[] 0)).update s.heap.objs.size (Obj.mapSeq (· ++ vs.toArray)) }
  refine wpAny_bind (wpAny_load (get?_update_seq (Heap.get?_push_size _ rfl) _) ?_)
  show wpAny _ _ (pure ((#[] : Array Value) ++ vs.toArray).toList) Q E _
  rw [show ((#[] : Array Value) ++ vs.toArray).toList = vs by simp]
  exact wpAny_pure h
theorem sorted_ordT {l : Addr} {vs : List Value} {ltv : Value → Value → Bool} {Q : Value → Shared → Prop} (O : Swo ltv) (hl : IsTup s.heap l vs.toArray) (hz : vs.length ≤ sizeLine)
    (hS : 2 ≤ vs.length → ∀ (h₁ : Heap) (a : Addr), h₁.get? a = some (seqObj "list" vs.toArray 0) → (∀ b o, s.heap.get? b = some o → b ≠ a ∧ h₁.get? b = some o) → SortableO prog w A.in1.in1 { s with heap := h₁ } a vs ltv)
    (h : ∀ out : List Value, Srtd ltv out → Stb ltv out vs → Q (.ref (s.heap.objs.size + 1)) { s with heap := sortedAll s.heap vs out.toArray }) :
    wpAny (model prog w) A (call (.builtin "sorted") [.ref l]) Q E s := by
  refine Calls.call_function_entry kind_sorted plain_sorted entry_sorted (args_sorted1 _) ?_
  unfold Builtin.«sorted»
  refine wpAny_bind (m := checkCount "sorted" 1 1 _) (wpAny_pure ?_)
  refine wpAny_bind (collect_tup hl hz ?_)
  refine wpAny_bind (wpAny_newList ?_ hz)
  have hsz : ((s.heap.push (seqObj "list" #[] 0)).update s.heap.objs.size (Obj.mapSeq (· ++ vs.toArray))).objs.size = s.heap.objs.size + 1 := by
    rw [Heap.size_update, size_push']
  have hoL : (((s.heap.push (seqObj "list" #[] 0)).update s.heap.objs.size (Obj.mapSeq (· ++ vs.toArray))).push (seqObj "list" vs.toArray 0)).get? (s.heap.objs.size + 1) = some (seqObj "list" vs.toArray 0) := by
    rw [← hsz]; exact Heap.get?_push_size _ rfl
  have keep : ∀ b o, s.heap.get? b = some o → b ≠ s.heap.objs.size + 1 ∧ (((s.heap.push (seqObj "list" #[] 0)).update s.heap.objs.size (Obj.mapSeq (· ++ vs.toArray))).push (seqObj "list" vs.toArray 0)).get? b = some o := fun b o q => by
    have hlt : b < s.heap.objs.size := Heap.lt_size q
    refine ⟨Nat.ne_of_lt (Nat.lt_succ_of_lt hlt), Heap.get?_push_of_some _ ?_⟩
    rw [Heap.get?_update_ne _ _ _ _ (Nat.ne_of_lt hlt)]
    exact Heap.get?_push_of_some _ q
  show wpAny _ _ _ _ _ { s with heap := ((s.heap.push (seqObj "list" #[] 0)).update s.heap.objs.size (Obj.mapSeq (· ++ vs.toArray))).push (seqObj "list" vs.toArray 0) }
  rw [hsz]
  refine wpAny_bind (wpAny_holding (wpAny_call_entry slot_list_sort ⟨_, hoL, rfl⟩ entry_list_sort (list_sort_ord O hoL hz (fun h2 => hS h2 _ _ hoL keep) fun out hs hb => ⟨_, rfl, ?_⟩) (args_list_sort _)))
  exact wpAny_pure ⟨_, rfl, h out hs hb⟩
theorem sorted_pairsT {l : Addr} {vs : List Value} {k : Value → Int × Int} {Q : Value → Shared → Prop} (hl : IsTup s.heap l vs.toArray) (hz : vs.length ≤ sizeLine) (hp : ∀ v ∈ vs, IsPair s.heap v (k v).1 (k v).2)
    (h : ∀ (h' : Heap) (d : Addr) (out : List Value), Srtd (fun v u => lexB (k v) (k u)) out → Stb (fun v u => lexB (k v) (k u)) out vs → (∀ b o, s.heap.get? b = some o → h'.get? b = some o) → s.heap.objs.size ≤ d → (∃ n, h'.get? d = some (seqObj "list" out.toArray n)) → Q (.ref d) { s with heap := h' }) :
    wpAny (model prog w) A (call (.builtin "sorted") [.ref l]) Q E s := by
  refine sorted_ordT (swo_lex k) hl hz (fun h2 h₁ a ha kk => ?_) fun out hs hb => ?_
  · refine pairs_sortableO (s := { s with heap := h₁ }) (by omega) (fun v hm => (hp v hm).keeps fun b o e _ => (kk b o e).2) fun o e => ?_
    have e' : some o = some (seqObj "list" vs.toArray 0) := e.symm.trans ha
    cases e'
    intro c
    exact absurd (Value.type.inj c) (by decide)
  · exact h _ _ out hs hb (fun b o e => sortedAll_old e) (Nat.le_succ _) (sortedAll_at s.heap vs out.toArray)
end
/-- the ints of a value -/
def intOf : Option Value → Int
  | some (.int i _) => i
  | _ => 0
/-- the two ints that stand at a tuple -/
def kH (h : Heap) : Value → Int × Int
  | .ref a => match h.get? a with
    | some ⟨_, _, .seq its _, _⟩ => (intOf its[0]?, intOf its[1]?)
    | _ => (0, 0)
  | _ => (0, 0)
/-- tuples of two ints each -/
def TwoAt (K : PySem.W.Frag) (H : Hp) (x : V) (q : Int × Int) : Prop := ∃ t, x = V.ref t ∧ SqT K H t [.int q.1, .int q.2]
/-- sorted(t), t a tuple of pairs of ints -/
def rSortedPT (K : PySem.W.Frag) : List V → Hp → VK → Prop := fun vs H Q => ∃ (a : Addr) (xs : List V) (prs : List (Int × Int)), vs = [V.ref a] ∧ SqT K H a xs ∧ Paired (TwoAt K H) xs prs ∧
  ∀ ys qs p, Paired (TwoAt K H) ys qs → SrtO.Srtd SrtO.lexB qs → qs.Perm prs → H p = none → Q (.ref p) (upd H p (.lst ys))
theorem paired_of {α β : Type} {γ : Type} {R : α → β → Prop} {f : γ → α} {g : γ → β} : ∀ {l : List γ}, (∀ x ∈ l, R (f x) (g x)) → Paired R (l.map f) (l.map g)
  | [], _ => .nil
  | x :: l, h => .cons (h x List.mem_cons_self) (paired_of fun y hy => h y (List.mem_cons_of_mem _ hy))
theorem cr_sortedPT {X : Cx} : CallR X (.builtin "sorted") (rSortedPT X.K) := by
  intro pins s σ H vs us Q I r h
  obtain ⟨a, xs, prs, rfl, hs, hx, q⟩ := h
  obtain ⟨its, rv, hl, hz⟩ := I.tuple hs
  obtain ⟨u, rfl, ru⟩ := vals1 r
  obtain rfl : u = Value.ref a := ru
  have each : ∀ {xs : List V} {its : List Value} {prs : List (Int × Int)}, Vals xs its → Paired (TwoAt X.K H) xs prs → (∀ v ∈ its, TwoAt X.K H (backV v) (kH s.heap v) ∧ IsPair s.heap v (kH s.heap v).1 (kH s.heap v).2 ∧ ∃ a, v = Value.ref a) ∧ prs = its.map (kH s.heap) := by
    intro xs its prs rv hx
    induction rv generalizing prs with
    | nil =>
      cases hx
      exact ⟨fun v hv => absurd hv List.not_mem_nil, rfl⟩
    | @cons x v xs' its' rx _ ih =>
      cases hx with
      | @cons _ q _ prs' h t =>
        obtain ⟨ih1, ih2⟩ := ih t
        obtain ⟨tt, rfl, hq⟩ := h
        obtain rfl : v = Value.ref tt := rx
        obtain ⟨its2, r2, ⟨o, ho, hc, n, hd⟩, _⟩ := I.tuple hq
        obtain ⟨u1, u2, rfl, ri, rj⟩ := vals2 r2
        obtain ⟨t1, rfl⟩ := ri
        obtain ⟨t2, rfl⟩ := rj
        have ek : kH s.heap (.ref tt) = q := by
          obtain ⟨oc, od, dt, osl⟩ := o
          cases (show dt = _ from hd)
          unfold kH
          dsimp only
          rw [ho]
          rfl
        refine ⟨fun v hv => ?_, ?_⟩
        · rcases List.mem_cons.mp hv with e | hv
          · rw [e, ek]
            exact ⟨⟨tt, rfl, hq⟩, ⟨tt, o, t1, t2, n, rfl, ho, hc, hd⟩, tt, rfl⟩
          · exact ih1 v hv
        · rw [List.map_cons, ek, ih2]
  obtain ⟨e1, e2⟩ := each rv hx
  refine sorted_pairsT (k := kH s.heap) hl (by rw [← rv.length]; exact hz) (fun v hv => (e1 v hv).2.1) fun h' d out h1 h2 kp hd hn => ?_
  have mem : ∀ u ∈ out, u ∈ its := fun u hu => h2.perm.mem_iff.mp hu
  obtain ⟨n, hn⟩ := hn
  refine ⟨.ref d, upd H d (.lst (out.map backV)), I.laid (t' := s.toks) kp hd ⟨?_, out, n, vals_back (fun u hu => (e1 u (mem u hu)).2.2), hn⟩, rfl,
    q _ (out.map (kH s.heap)) d (paired_of fun u hu => (e1 u (mem u hu)).1) ?_ ?_ (I.hok.fresh hd)⟩
  · rw [List.length_map, h2.perm.length_eq, ← rv.length]
    exact hz
  · exact List.pairwise_map.mpr h1
  · rw [e2]
    exact h2.perm.map _
end K88
/-! Looks at values; ties. -/
namespace K88
open PySem L2

/-- a < b < c < d, each asked once -/
def tChain3 (r r' r'' : R2) (ta tb tc td : TE) : TE := fun σ H Q => ta σ H fun x H1 => tb σ H1 fun y H2 => r x y H2 fun z H3 => ∃ k, z = .bl k ∧
  (if k = true then tc σ H3 fun u H4 => r' y u H4 fun z2 H5 => ∃ k2, z2 = .bl k2 ∧ (if k2 = true then td σ H5 fun v H6 => r'' u v H6 Q else Q (.bl false) H5) else Q (.bl false) H3)
theorem pe_chain3 {X : Cx} {a b c d : Expr} {ta tb tc td : TE} {pos : Pos} {op op' op'' : CmpOp} {r r' r'' : R2} (ho : OpR X (compareOp op) r) (ho' : OpR X (compareOp op') r') (ho'' : OpR X (compareOp op'') r'') (ha : PE X a ta) (hb : PE X b tb) (hc : PE X c tc) (hd : PE X d td)
    (hm : lastMarks [op, op', op''] [b, c, d] = false := by with_unfolding_all rfl) : PE X (.Compare a [op, op', op''] [b, c, d] pos) (tChain3 r r' r'' ta tb tc td) := by
  refine ⟨fun pins s σ H Q I h => ?_⟩
  refine PyProof.Rows.Compare_chain (thn (ha.run pins s σ H _ I h) fun v s1 ⟨x, H1, I1, r1, q1⟩ => PyProof.Rows.chain_link (thn (hb.run pins s1 σ H1 _ I1 q1) fun u s2 ⟨y, H2, I2, r2, q2⟩ =>
    thn (ho pins s2 σ H2 x y v u _ I2 r1 r2 q2) fun d0 s3 ⟨z, H3, I3, r3, k, e, q3⟩ => ?_)) hm
  subst e
  cases r3
  refine PySem.wpAny_truthy_bool ?_
  cases k with
  | false => exact PyProof.Rows.ite_ff ⟨.bl false, H3, I3, rfl, q3⟩
  | true =>
    refine PyProof.Rows.ite_tt (PyProof.Rows.chain_link (thn (hc.run pins s3 σ H3 _ I3 q3) fun w' s4 ⟨z', H4, I4, r4, q4⟩ => thn (ho' pins s4 σ H4 y z' u w' _ I4 r2 r4 q4) fun d1 s5 ⟨z2, H5, I5, r5, k2, e2, q5⟩ => ?_))
    subst e2
    cases r5
    refine PySem.wpAny_truthy_bool ?_
    cases k2 with
    | false => exact PyProof.Rows.ite_ff ⟨.bl false, H5, I5, rfl, q5⟩
    | true => exact PyProof.Rows.ite_tt (PyProof.Rows.chain_last (thn (hd.run pins s5 σ H5 _ I5 q5) fun w2 s6 ⟨z6, H6, I6, r6, q6⟩ => ho'' pins s6 σ H6 z' z6 w' w2 Q I6 r4 r6 q6))
theorem sqT_ty {K : PySem.W.Frag} {H : Hp} {a : Addr} {xs : List V} (h : SqT K H a xs) : ∃ t : Value, TyX K H (.ref a) t ∧ PySem.W.kitOne K t (.type "tuple") = some true := by
  rcases h with (h | ⟨o, h⟩) | ⟨o, its, n, hk, hc, _⟩
  · exact ⟨_, .base (.tup h), kit_ty (show kitB "tuple" "tuple" = some true by decide +kernel)⟩
  · exact ⟨_, .fTuple h, kit_ty (show kitB "tuple" "tuple" = some true by decide +kernel)⟩
  · exact ⟨_, .kTuple hk hc, kit_ty (show kitB "tuple" "tuple" = some true by decide +kernel)⟩
def spWhole : Sp := fun vs H Q _ => ∃ i : Int, vs = [.int i] ∧ Q (.bl true) H
def spTupleOf (K : PySem.W.Frag) : Sp := fun vs H Q _ => ∃ (t : Addr) (xs : List V) (n : Nat), vs = [.ref t, .int n] ∧ SqT K H t xs ∧ xs.length = n ∧ Q (.bl true) H
/-- a tie of two places below m -/
def spIsTie (K : PySem.W.Frag) : Sp := fun vs H Q _ => ∃ (t m a b : Nat) , vs = [.int m, .ref t] ∧ SqT K H t [.int a, .int b] ∧ a < b ∧ b < m ∧ Q (.bl true) H
section
variable {P : Program} {w : World} {K : PySem.W.Frag} {mg : Str → Option Value} {base : Heap} {f g : Addr} {fd gd : FuncData}
abbrev sWhole : Stmt := top 17
theorem scWhole : FnScope ["value"] ["value"] (defScope sWhole) := ⟨rfl, rfl, rfl, by decide +kernel, rfl, by decide +kernel, by decide +kernel⟩
theorem ok_whole (F : FnP K "is_whole" sWhole f fd) (mI : mg "isinstance" = none) (mInt : mg "int" = none) (mB : mg "bool" = none) : FnOk P w K mg base CX0 1 f fd ["value"] spWhole := by
  refine F.ok scWhole (fun vs H Q E h => ?_) (fun cdv A outer s H vs Q E hr h => ?_)
  · obtain ⟨i, rfl, _⟩ := h
    rfl
  · obtain ⟨i, rfl, q⟩ := h
    refine ⟨_, PSs.nox (pss_one (ps_ret (pe_and (pe_callB call_isi (by rfl) mI (by decide +kernel) (pa_cons (pv 0) (pa_cons (pe_bltn (v := .ty "int") (by rfl) mInt (by decide +kernel) rfl) pa_nil)))
      (pe_one (pe_not (pe_callB call_isi (by rfl) mI (by decide +kernel) (pa_cons (pv 0) (pa_cons (pe_bltn (v := .ty "bool") (by rfl) mB (by decide +kernel) rfl) pa_nil)))))))), ?_⟩
    exact ⟨_, rfl, _, .ty "int", _, .type "int", true, rfl, .ty _, .base (.int i), kit_ty (show kitB "int" "int" = some true by decide +kernel), true, rfl, iteT ⟨_, rfl, _, .ty "bool", _, .type "bool", false, rfl, .ty _, .base (.int i), kit_ty (show kitB "int" "bool" = some false by decide +kernel), false, rfl, q⟩⟩
abbrev sTupleOf : Stmt := top 19
theorem scTupleOf : FnScope ["value", "many"] ["value", "many"] (defScope sTupleOf) := ⟨rfl, rfl, rfl, by decide +kernel, rfl, by decide +kernel, by decide +kernel⟩
theorem ok_tuple_of (F : FnP K "is_tuple_of" sTupleOf f fd) (mI : mg "isinstance" = none) (mT : mg "tuple" = none) (mLen : mg "len" = none) : FnOk P w K mg base CX0 1 f fd ["value", "many"] (spTupleOf K) := by
  refine F.ok scTupleOf (fun vs H Q E h => ?_) (fun cdv A outer s H vs Q E hr h => ?_)
  · obtain ⟨t, xs, n, rfl, _⟩ := h
    rfl
  · obtain ⟨t, xs, n, rfl, ht, hn, q⟩ := h
    refine ⟨_, PSs.nox (pss_one (ps_ret (pe_and (pe_callB call_isi (by rfl) mI (by decide +kernel) (pa_cons (pv 0) (pa_cons (pe_bltn (v := .ty "tuple") (by rfl) mT (by decide +kernel) rfl) pa_nil)))
      (pe_one (pe_cmpR op_eq (pe_callB call_len (by rfl) mLen PySem.boot_len (pa_cons (pv 0) pa_nil)) (pv 1) (nomark _)))))), ?_⟩
    obtain ⟨ty, hty, kt⟩ := sqT_ty ht
    refine ⟨_, rfl, _, .ty "tuple", _, .type "tuple", true, rfl, .ty _, hty, kt, true, rfl, iteT ⟨_, rfl, _, xs.length, rfl, .inr ⟨xs, ht, rfl⟩, _, rfl, rfl, ?_⟩⟩
    show Q (.bl (decide (V.int ((xs.length : Nat) : Int) = V.int (n : Int)))) H
    rw [hn, decide_eq_true rfl]
    exact q
abbrev sIsTie : Stmt := top 24
theorem scIsTie : FnScope ["size", "value"] ["size", "value"] (defScope sIsTie) := ⟨rfl, rfl, rfl, by decide +kernel, rfl, by decide +kernel, by decide +kernel⟩
theorem ok_is_tie {fw ft : Addr} {dw dt : FuncData} (F : FnP K "is_tie" sIsTie f fd) (TW : Told P w K mg base "is_whole" 1 ["value"] spWhole fw dw) (TT_ : Told P w K mg base "is_tuple_of" 1 ["value", "many"] (spTupleOf K) ft dt) : FnOk P w K mg base CX0 2 f fd ["size", "value"] (spIsTie K) := by
  refine F.ok scIsTie (fun vs H Q E h => ?_) (fun cdv A outer s H vs Q E hr h => ?_)
  · obtain ⟨t, m, a, b, rfl, _⟩ := h
    rfl
  · obtain ⟨t, m, a, b, rfl, ht, hab, hbm, q⟩ := h
    refine ⟨_, PSs.nox (pss_one (ps_ret (pe_and (pe_call TT_.ok hr (by rfl) TT_.m TT_.kp TT_.b .nil pass0 (pa_cons (pv 1) (pa_cons pe_int pa_nil)))
      (pe_and (pe_call TW.ok hr (by rfl) TW.m TW.kp TW.b .nil pass0 (pa_cons (pe_ix ix_tup (pv 1) pe_int (fun _ _ => rfl)) pa_nil))
      (pe_and (pe_call TW.ok hr (by rfl) TW.m TW.kp TW.b .nil pass0 (pa_cons (pe_ix ix_tup (pv 1) pe_int (fun _ _ => rfl)) pa_nil))
      (pe_one (pe_chain3 op_le op_lt op_lt pe_int (pe_ix ix_tup (pv 1) pe_int (fun _ _ => rfl)) (pe_ix ix_tup (pv 1) pe_int (fun _ _ => rfl)) (pv 0)))))))), ?_⟩
    have s : SqT K H t [.int a, .int b] := ht
    refine ⟨_, rfl, t, _, 2, rfl, ht, rfl, true, rfl, iteT ?_⟩
    refine ⟨_, rfl, t, _, _, .int a, rfl, rfl, s, atI_nat (j := 0) rfl, _, rfl, true, rfl, iteT ?_⟩
    refine ⟨_, rfl, t, _, _, .int b, rfl, rfl, s, atI_nat (j := 1) rfl, _, rfl, true, rfl, iteT ?_⟩
    refine ⟨_, rfl, t, _, _, .int a, rfl, rfl, s, atI_nat (j := 0) rfl, _, _, rfl, rfl, true, congrArg V.bl (decide_eq_true (show (0 : Int) ≤ (a : Int) by omega)), iteT ?_⟩
    refine ⟨_, rfl, t, _, _, .int b, rfl, rfl, s, atI_nat (j := 1) rfl, _, _, rfl, rfl, true, congrArg V.bl (decide_eq_true (show (a : Int) < (b : Int) by omega)), iteT ?_⟩
    refine ⟨_, rfl, _, _, rfl, rfl, ?_⟩
    show Q (.bl (decide ((b : Int) < (m : Int)))) H
    rw [decide_eq_true (show (b : Int) < (m : Int) by omega)]
    exact q
end
end K88
/-! in_tuples, of tuples of ints at any depth. -/
namespace K88
open PySem L2

section
variable {K : PySem.W.Frag} {G H : Hp}
theorem sqT_same {a : Addr} {xs : List V} (e : Same G H) (h : SqT K G a xs) : SqT K H a xs := by
  rcases h with (h | ⟨o, h⟩) | h
  · exact .inl (.inl (e _ _ h))
  · exact .inl (.inr ⟨o, e _ _ h⟩)
  · exact .inr h
mutual
theorem dp_same (e : Same G H) : ∀ (d : PyData) (v : V), Dp K G v d → Dp K H v d
  | .none, _, h => by
    cases h
    exact .non
  | .bool _, _, h => by
    cases h
    exact .bl _
  | .int _, _, h => by
    cases h
    exact .int _
  | .str _, _, h => by
    cases h
    exact .str _
  | .list ds, _, h => by
    cases h with
    | lst hs ha => exact .lst (e.seq hs) (dpAll_same e ds _ ha)
  | .tuple ds, _, h => by
    cases h with
    | tup hs ha => exact .tup (sqT_same e hs) (dpAll_same e ds _ ha)
  | .dict _, _, h => by cases h
theorem dpAll_same (e : Same G H) : ∀ (ds : List PyData) (vs : List V), DpAll K G vs ds → DpAll K H vs ds
  | [], _, h => by
    cases h
    exact .nil
  | d :: ds, _, h => by
    cases h with
    | cons h1 h2 => exact .cons (dp_same e d _ h1) (dpAll_same e ds _ h2)
end
theorem dpAll_at : ∀ {xs : List V} {ds : List PyData} {i : Nat} {x : V}, DpAll K G xs ds → xs[i]? = some x → ∃ d, ds[i]? = some d ∧ Dp K G x d
  | _, _, i, _, .nil, e => by cases e
  | _, _, 0, _, .cons h _, e => by
    cases e
    exact ⟨_, rfl, h⟩
  | _, _, i + 1, _, .cons _ t, e => dpAll_at (i := i) t e
theorem dpAll_snoc {v : V} {d : PyData} : ∀ {xs : List V} {ds : List PyData}, DpAll K G xs ds → Dp K G v d → DpAll K G (xs ++ [v]) (ds ++ [d])
  | _, _, .nil, h => .cons h .nil
  | _, _, .cons h t, h2 => .cons h (dpAll_snoc t h2)
theorem dpAll_len : ∀ {xs : List V} {ds : List PyData}, DpAll K G xs ds → xs.length = ds.length
  | _, _, .nil => rfl
  | _, _, .cons _ t => congrArg Nat.succ (dpAll_len t)
end
/-- ints, or tuples of such, fewer than n deep -/
def InOk : Nat → PyData → Prop
  | 0, _ => False
  | _ + 1, .int _ => True
  | n + 1, .tuple ds => ds.length ≤ 1000 ∧ ∀ x ∈ ds, InOk n x
  | _ + 1, _ => False
theorem dpAll_put {K : PySem.W.Frag} {H : Hp} {D : Addr} {o : HO} {n : Nat} (h1 : ∀ d v, InOk n d → Dp K H v d → Dp K (upd H D o) v d) : ∀ {vs : List V} {ds : List PyData}, DpAll K H vs ds → (∀ x ∈ ds, InOk n x) → DpAll K (upd H D o) vs ds
  | _, _, .nil, _ => .nil
  | _, _, .cons h t, hd => .cons (h1 _ _ (hd _ List.mem_cons_self) h) (dpAll_put h1 t fun x hx => hd x (List.mem_cons_of_mem _ hx))
/-- tuples do not see what a list becomes -/
theorem dp_put {K : PySem.W.Frag} {H : Hp} {D : Addr} {o : HO} {ws : List V} (hD : H D = some (.lst ws)) : ∀ (n : Nat) (d : PyData) (v : V), InOk n d → Dp K H v d → Dp K (upd H D o) v d
  | 0, _, _, h, _ => h.elim
  | n + 1, d, v, h, hv => by
    cases d with
    | int i =>
      cases hv
      exact .int i
    | tuple ds =>
      obtain ⟨_, hds⟩ := h
      cases hv with
      | @tup a xs _ hs ha =>
        have ha' := dpAll_put (o := o) (fun d v => dp_put hD n d v) ha hds
        refine .tup ?_ ha'
        rcases hs with (hs | ⟨o', hs⟩) | hs
        · exact .inl (.inl (by rw [upd_ne (ne_of hs hD (by intro z; cases z))]; exact hs))
        · exact .inl (.inr ⟨o', by rw [upd_ne (ne_of hs hD (by intro z; cases z))]; exact hs⟩)
        · exact .inr hs
    | _ => exact h.elim
def spInT (K : PySem.W.Frag) (n : Nat) : Sp := fun vs H Q _ => ∃ (v : V) (d : PyData), vs = [v] ∧ InOk n d ∧ Dp K H v d ∧ ∀ v' H', Same H H' → Dp K H' v' d → Q v' H'
theorem any_no {K : PySem.W.Frag} {t a b : Value} (h1 : PySem.W.kitOne K t a = some false) (h2 : PySem.W.kitOne K t b = some false) : PySem.W.kitAny K t [a, b] = some false := by
  unfold PySem.W.kitAny
  rw [h1]
  show PySem.W.kitAny K t [b] = some false
  unfold PySem.W.kitAny
  rw [h2]
  rfl
theorem any_yes {K : PySem.W.Frag} {t a b : Value} (h1 : PySem.W.kitOne K t a = some true) : PySem.W.kitAny K t [a, b] = some true := by
  unfold PySem.W.kitAny
  rw [h1]
section
variable {P : Program} {w : World} {K : PySem.W.Frag} {mg : Str → Option Value} {base : Heap} {f : Addr} {fd : FuncData}
abbrev sIn : Stmt := top 18
abbrev inN : List Str := ["value", "item"]
theorem scIn : FnScope inN ["value"] (defScope sIn) := ⟨rfl, rfl, rfl, by decide +kernel, rfl, by decide +kernel, by decide +kernel⟩
theorem ok_in_tuples (F : FnP K "in_tuples" sIn f fd) (mI : mg "isinstance" = none) (mT : mg "tuple" = none) (mL : mg "list" = none) (hm : mg "in_tuples" = some (.ref f)) (b : Binds K fd ["value"] []) : ∀ n, FnOk P w K mg base CX0 n f fd ["value"] (spInT K n)
  | 0 => ⟨fun vs H Q E h => by
      obtain ⟨v, d, _, h, _⟩ := h
      exact h.elim, fun A outer s H args us vs Q E hr e0 hb r h => by
      obtain ⟨v, d, _, h, _⟩ := h
      exact h.elim⟩
  | n + 1 => by
    have G := ok_in_tuples F mI mT mL hm b n
    refine F.ok scIn (fun vs H Q E h => ?_) (fun cdv A outer s H vs Q E hr h => ?_)
    · obtain ⟨v, d, rfl, _⟩ := h
      rfl
    · obtain ⟨v, d, rfl, hd, hv, q⟩ := h
      refine ⟨_, PSs.nox (pss_cons (ps_if (pt_not (pt_val (pe_callB call_isiT (by rfl) mI (by decide +kernel) (pa_cons (pv 0) (pa_cons (pe_tup (pa_cons (pe_bltn (v := .ty "tuple") (by rfl) mT (by decide +kernel) rfl) (pa_cons (pe_bltn (v := .ty "list") (by rfl) mL (by decide +kernel) rfl) pa_nil))) pa_nil)))))
          (pss_one (ps_ret (pv 0))) pss_nil)
        (pss_one (ps_ret (pe_callTy call_tuple_of (by rfl) mT (by decide +kernel) (pa_cons
          (pe_lc (own := [("item", 1)]) (g := gName 1) (tt := tYes) (te := tCall (spInT K n) [] E0 (tCons (tVar 1) tNil)) rfl scIn.nd (pi_tup (pv 0)) (blkOk_by (own := [("item", 1)]) (N := inN) (sc := defScope sIn) (by decide +kernel))
            (fun _ _ _ _ _ => pg_name (i := 1) scIn.nd rfl (Or.inl rfl)) (fun _ _ _ _ _ => pts_nil) (fun _ _ _ _ _ => pe_call G hr (by rfl) hm F.kp b .nil pass0 (pa_cons (pv 1) pa_nil))) pa_nil))))), ?_⟩
      refine ⟨_, rfl, two_ok, fun tp ntp => ?_⟩
      have s1 : Same H (upd H tp (.tup [.ty "tuple", .ty "list"])) := same_new ntp
      have pr : Paired ClsV [V.ty "tuple", V.ty "list"] [Value.type "tuple", Value.type "list"] := .cons (.ty _) (.cons (.ty _) .nil)
      cases d with
      | int i =>
        cases hv
        exact ⟨_, tp, _, _, _, false, rfl, upd_same, pr, .base (.int i), any_no (kit_ty (show kitB "int" "tuple" = some false by decide +kernel)) (kit_ty (show kitB "int" "list" = some false by decide +kernel)), false, rfl, iteT (show tRet (tVar 0) _ _ _ from ⟨_, rfl, q _ _ s1 (.int i)⟩)⟩
      | tuple ds =>
        obtain ⟨hn, hds⟩ := hd
        cases hv with
        | @tup a xs _ hs ha =>
          have hs1 := sqT_same s1 hs
          have ha1 := dpAll_same s1 _ _ ha
          obtain ⟨t, ty, kt⟩ := sqT_ty hs1
          refine ⟨_, tp, _, t, _, true, rfl, upd_same, pr, ty, any_yes kt, true, rfl, iteF ?_⟩
          generalize upd H tp (.tup [.ty "tuple", .ty "list"]) = H1 at s1 hs1 ha1
          refine ⟨_, rfl, a, rfl, ⟨xs, hs1⟩, fun D nD => lc_tup (xs := xs) (fun i H2 => Same H1 H2 ∧ ∃ ws, H2 D = some (.lst ws) ∧ DpAll K H2 ws (ds.take i) ∧ ws.length = i) ⟨same_new nD, [], upd_same, .nil, rfl⟩ (fun i H2 _ ⟨sm, _⟩ => sqT_same sm hs1) ?_ ?_⟩
          · rintro i x H2 hx ⟨sm, ws, hD, hw, hl⟩
            obtain ⟨d, hdi, hxd⟩ := dpAll_at ha1 hx
            have hi : i < ds.length := by
              rcases Nat.lt_or_ge i ds.length with y | y
              · exact y
              · rw [List.getElem?_eq_none y] at hdi
                cases hdi
            refine ⟨rfl, ?_⟩
            refine yes_then ?_
            refine ⟨_, rfl, x, d, rfl, hds d (List.mem_of_getElem? hdi), dp_same sm _ _ hxd, fun v' H3 s3 hv' => ⟨ws, s3 _ _ hD, by rw [hl]; exact Nat.lt_of_lt_of_le hi (Nat.le_trans hn (by decide)), ?_, ws ++ [v'], upd_same, ?_, by simp [hl]⟩⟩
            · intro c o e
              rw [upd_ne (ne_of_none e nD)]
              exact s3 c o (sm c o e)
            · rw [take_more hdi]
              exact dpAll_put (fun d v => dp_put (s3 _ _ hD) n d v) (dpAll_snoc (dpAll_same s3 _ _ hw) hv') fun y hy => by
                rcases List.mem_append.mp hy with hy | hy
                · exact hds y (List.mem_of_mem_take hy)
                · rw [List.mem_singleton.mp hy]
                  exact hds d (List.mem_of_getElem? hdi)
          · rintro H2 ⟨sm, ws, hD, hw, hl⟩
            rw [dpAll_len ha, List.take_length] at hw
            refine ⟨D, ws, rfl, .inl ⟨.inl (.inl hD), fun t2 n2 => q _ _ ((s1.trans sm).trans (same_new n2)) (.tup (.inl (.inl upd_same)) (dpAll_same (same_new n2) _ _ hw))⟩⟩
      | _ => exact hd.elim
end
end K88
/-! A web is made. -/
namespace K88
open PySem L2

abbrev pairD (q : Int × Int) : PyData := .tuple [.int q.1, .int q.2]
theorem two_of {K : PySem.W.Frag} {H : Hp} : ∀ {xs : List V} {qs : List (Int × Int)}, DpAll K H xs (qs.map pairD) → Paired (TwoAt K H) xs qs
  | _, [], h => by
    cases h
    exact .nil
  | _, q :: qs, h => by
    cases h with
    | cons h t =>
      refine .cons ?_ (two_of t)
      cases h with
      | @tup a ys _ hs ha =>
        cases ha with
        | cons h1 ha =>
          cases h1
          cases ha with
          | cons h2 ha =>
            cases h2
            cases ha
            exact ⟨a, rfl, hs⟩
theorem of_two {K : PySem.W.Frag} {H : Hp} : ∀ {xs : List V} {qs : List (Int × Int)}, Paired (TwoAt K H) xs qs → DpAll K H xs (qs.map pairD)
  | _, _, .nil => .nil
  | _, _, .cons h t => by
    obtain ⟨a, rfl, hs⟩ := h
    exact .cons (.tup hs (.cons (.int _) (.cons (.int _) .nil))) (of_two t)
theorem pairs_in {qs : List (Int × Int)} (h : qs.length ≤ 1000) : InOk 3 (.tuple (qs.map pairD)) := by
  refine ⟨by rw [List.length_map]; exact h, fun x hx => ?_⟩
  obtain ⟨q, _, rfl⟩ := List.mem_map.mp hx
  refine ⟨by show 2 ≤ 1000; decide, fun y hy => ?_⟩
  simp only [List.mem_cons, List.not_mem_nil, or_false] at hy
  rcases hy with rfl | rfl <;> exact True.intro
/-- ties of a web of m places -/
def TiesOk (m : Nat) (qs : List (Int × Int)) : Prop := qs.length ≤ 40 ∧ ∀ q ∈ qs, ∃ a b : Nat, q = ((a : Int), (b : Int)) ∧ a < b ∧ b < m
abbrev webFs (m : Nat) (u : Addr) : List (Str × V) := [("size", .int m), ("ties", .ref u)]
def spWebI (K : PySem.W.Frag) (C : Addr) : Sp := fun vs H Q _ => ∃ (p dx t : Addr) (m : Nat) (qs : List (Int × Int)), vs = [.ref p, .int m, .ref t] ∧ H p = some (.ins C dx []) ∧ Dp K H (.ref t) (.tuple (qs.map pairD)) ∧ 1 ≤ m ∧ m ≤ 12 ∧ TiesOk m qs ∧
  ∀ H' u ys rs, (∀ b o, H b = some o → b ≠ p → H' b = some o) → H' p = some (.ins C dx (webFs m u)) → H' u = some (.tup ys) → DpAll K H' ys (rs.map pairD) → SrtO.Srtd SrtO.lexB rs → rs.Perm qs → Q .non H'
theorem all_true {α : Type} (l : List α) : ((l.map fun _ => true).all id) = true := by
  induction l with
  | nil => rfl
  | cons a l ih => exact ih
theorem sqT_put {K : PySem.W.Frag} {H : Hp} {a p C dx : Addr} {fs : List (Str × V)} {o : HO} {xs : List V} (hp : H p = some (.ins C dx fs)) (h : SqT K H a xs) : SqT K (upd H p o) a xs := by
  rcases h with (h | ⟨o', h⟩) | h
  · exact .inl (.inl (by rw [upd_ne (ne_of h hp (by intro z; cases z))]; exact h))
  · exact .inl (.inr ⟨o', by rw [upd_ne (ne_of h hp (by intro z; cases z))]; exact h⟩)
  · exact .inr h
theorem two_put {K : PySem.W.Frag} {H : Hp} {p C dx : Addr} {fs : List (Str × V)} {o : HO} (hp : H p = some (.ins C dx fs)) : ∀ {xs : List V} {qs : List (Int × Int)}, Paired (TwoAt K H) xs qs → Paired (TwoAt K (upd H p o)) xs qs
  | _, _, .nil => .nil
  | _, _, .cons ⟨a, e, h⟩ t => .cons ⟨a, e, sqT_put hp h⟩ (two_put hp t)
theorem two_same {K : PySem.W.Frag} {G H : Hp} (s : Same G H) : ∀ {xs : List V} {qs : List (Int × Int)}, Paired (TwoAt K G) xs qs → Paired (TwoAt K H) xs qs
  | _, _, .nil => .nil
  | _, _, .cons ⟨a, e, h⟩ t => .cons ⟨a, e, sqT_same s h⟩ (two_same s t)
theorem paired_at {α β : Type} {R : α → β → Prop} : ∀ {xs : List α} {qs : List β} {i : Nat} {x : α}, Paired R xs qs → xs[i]? = some x → ∃ q, q ∈ qs ∧ R x q
  | _, _, i, _, .nil, e => by cases e
  | _, _, 0, _, .cons h _, e => by
    cases e
    exact ⟨_, List.mem_cons_self, h⟩
  | _, _, i + 1, _, .cons _ t, e => by
    obtain ⟨q, hq, r⟩ := paired_at (i := i) t e
    exact ⟨q, List.mem_cons_of_mem _ hq, r⟩
theorem all_of {K : PySem.W.Frag} {te : TE} {σ : L2.St} {H : Hp} {Q : Bool → Hp → Prop} (h : te σ H fun x H1 => rAll K [x] H1 fun v H2 => ∃ c, v = .bl c ∧ Q c H2) : tB (tCB (rAll K) (tCons te tNil)) σ H Q := h
section
variable {P : Program} {w : World} {K : PySem.W.Frag} {mg : Str → Option Value} {base : Heap} {f C : Addr} {fd : FuncData}
abbrev sWebI : Stmt := inClass (top 23) 0
abbrev wiN : List Str := ["self", "size", "ties", "made", "tie"]
theorem scWebI : FnScope wiN ["self", "size", "ties"] (defScope sWebI) := ⟨rfl, rfl, rfl, by decide +kernel, rfl, by decide +kernel, by decide +kernel⟩
theorem ok_webi {fw fi ft : Addr} {dw di dt : FuncData} {t1 t2 : Tok} (F : FunD K "__init__" "Web.__init__" (defArgs sWebI) (defBody sWebI) (defScope sWebI) [] [] f fd) (cl : Cls K C) (n1 : NoAttr K C "size") (n2 : NoAttr K C "ties")
    (TW : Told P w K mg base "is_whole" 1 ["value"] spWhole fw dw) (TI : Told P w K mg base "in_tuples" 3 ["value"] (spInT K 3) fi di) (TT_ : Told P w K mg base "is_tie" 2 ["size", "value"] (spIsTie K) ft dt)
    (mM : mg "MOST_SIZE" = some (.int 12 t1)) (mO : mg "MOST_TIES" = some (.int 40 t2)) (mI : mg "isinstance" = none) (mT : mg "tuple" = none) (mLen : mg "len" = none) (mA : mg "all" = none) (mS : mg "sorted" = none) :
    FnOk P w K mg base CX0 4 f fd ["self", "size", "ties"] (spWebI K C) := by
  refine F.ok scWebI (fun vs H Q E h => ?_) (fun cdv A outer s H vs Q E hr h => ?_)
  · obtain ⟨p, dx, t, m, qs, rfl, _⟩ := h
    rfl
  · obtain ⟨p, dx, t, m, qs, rfl, hp, ht, h1, h12, ⟨hq40, hqs⟩, q⟩ := h
    have hr1 : Room 1 _ := hr.mono (by decide)
    have hr2 : Room 2 _ := hr.mono (by decide)
    refine ⟨_, PSs.nox (pss_cons (ps_if (PW.pt (pw_or (pt_not (pt_val (pe_call TW.ok hr1 (by rfl) TW.m TW.kp TW.b .nil pass0 (pa_cons (pv 1) pa_nil)))) (pw_or1 (pt_not (pt_chain op_le op_le pe_int (pv 1) (pe_glob (v := .int 12) (by rfl) mM ⟨_, rfl⟩)))))) (pss_one ps_never) pss_nil)
      (pss_cons (ps_set (i := 3) scWebI.nd rfl (Or.inl rfl) (pe_call TI.ok hr (by rfl) TI.m TI.kp TI.b .nil pass0 (pa_cons (pv 2) pa_nil)))
      (pss_cons (ps_if (PW.pt (pw_or (pt_not (pt_val (pe_callB call_isi (by rfl) mI (by decide +kernel) (pa_cons (pv 3) (pa_cons (pe_bltn (v := .ty "tuple") (by rfl) mT (by decide +kernel) rfl) pa_nil)))))
          (pw_or (pt_cmpR op_gt (pe_callB call_len (by rfl) mLen PySem.boot_len (pa_cons (pv 3) pa_nil)) (pe_glob (v := .int 40) (by rfl) mO ⟨_, rfl⟩) (nomark _))
          (pw_or1 (pt_not (pt_val (pe_callB (cr_all rfl) (by rfl) mA (by decide +kernel) (pa_cons
            (pe_lc (own := [("tie", 4)]) (g := gName 4) (tt := tYes) (te := tCall (spIsTie K) [] E0 (tCons (tVar 1) (tCons (tVar 4) tNil))) rfl scWebI.nd (pi_tup (pv 3)) (blkOk_by (own := [("tie", 4)]) (N := wiN) (sc := defScope sWebI) (by decide +kernel))
              (fun _ _ _ _ _ => pg_name (i := 4) scWebI.nd rfl (Or.inl rfl)) (fun _ _ _ _ _ => pts_nil) (fun _ _ _ _ _ => pe_call TT_.ok hr2 (by rfl) TT_.m TT_.kp TT_.b .nil pass0 (pa_cons (pv 1) (pa_cons (pv 4) pa_nil)))) pa_nil))))))))
          (pss_one ps_never) pss_nil)
      (pss_cons (ps_fld (pv 0) (pv 1) rfl)
      (pss_one (ps_fld (pv 0) (pe_callTy call_tuple_of (by rfl) mT (by decide +kernel) (pa_cons (pe_callB cr_sortedPT (by rfl) mS (by decide +kernel) (pa_cons (pv 3) pa_nil)) pa_nil)) rfl)))))), ?_⟩
    rw [show L2.start wiN [V.ref p, V.int m, V.ref t] = [some (V.ref p), some (V.int m), some (V.ref t), none, none] from rfl]
    refine ⟨_, rfl, _, rfl, true, rfl, iteF ?_⟩
    refine ⟨_, rfl, _, _, rfl, rfl, true, congrArg V.bl (decide_eq_true (show (1 : Int) ≤ (m : Int) by omega)), iteT ⟨_, _, rfl, rfl, true, congrArg V.bl (decide_eq_true (show (m : Int) ≤ 12 by omega)), iteF ?_⟩⟩
    refine ⟨_, rfl, _, _, rfl, pairs_in (Nat.le_trans hq40 (by decide)), ht, fun v' H1 s1 hv' => ?_⟩
    cases hv' with
    | @tup t2 xs _ hs ha =>
      show tSeq _ _ _ ([some (V.ref p), some (V.int m), some (V.ref t), some (V.ref t2), none] : L2.St) H1
      have two1 := two_of ha
      have hlen : xs.length = qs.length := by rw [dpAll_len ha, List.length_map]
      obtain ⟨ty, hty, kt⟩ := sqT_ty hs
      refine ⟨_, rfl, _, .ty "tuple", ty, .type "tuple", true, rfl, .ty _, hty, kt, true, rfl, iteF ?_⟩
      refine ⟨_, rfl, _, xs.length, rfl, .inr ⟨xs, hs, rfl⟩, _, _, rfl, rfl, false, congrArg V.bl (decide_eq_false (show ¬ ((xs.length : Nat) : Int) > 40 by omega)), iteF ?_⟩
      refine all_of ⟨_, rfl, t2, rfl, ⟨xs, hs⟩, fun D nD => lc_tup (xs := xs) (fun i H2 => Same H1 H2 ∧ H2 D = some (.lst (((xs.take i).map fun _ => true).map V.bl)) ∧ i ≤ xs.length) ⟨same_new nD, upd_same, Nat.zero_le _⟩ (fun i H2 _ ⟨sm, _⟩ => sqT_same sm hs) ?_ ?_⟩
      · rintro i x H2 hx ⟨sm, hD, hi⟩
        obtain ⟨q', hq', tt, rfl, htt⟩ := paired_at two1 hx
        obtain ⟨a, b, rfl, hab, hbm⟩ := hqs q' hq'
        have hil : i < xs.length := by
          rcases Nat.lt_or_ge i xs.length with y | y
          · exact y
          · rw [List.getElem?_eq_none y] at hx
            cases hx
        refine ⟨rfl, ?_⟩
        refine yes_then ?_
        refine ⟨_, rfl, _, rfl, tt, m, a, b, rfl, sqT_same sm htt, hab, hbm, _, hD, ?_, fun c o e => ?_, ?_, hil⟩
        · rw [List.length_map, List.length_map, List.length_take]
          exact Nat.lt_of_le_of_lt (Nat.min_le_right _ _) (Nat.lt_of_le_of_lt (show xs.length ≤ 40 by omega) (by decide))
        · rw [upd_ne (ne_of_none e nD)]
          exact sm c o e
        · rw [upd_same, take_more hx, List.map_append, List.map_append]
          rfl
      · rintro H2 ⟨sm, hD, _⟩
        rw [List.take_length] at hD
        refine ⟨D, _, rfl, .inl (.inl hD), ?_⟩
        rw [all_true]
        refine ⟨true, rfl, iteF ?_⟩
        have hp2 : H2 p = some (.ins C dx []) := sm _ _ (s1 _ _ hp)
        refine ⟨_, rfl, _, rfl, p, C, dx, [], rfl, hp2, cl, n1, by decide, ?_⟩
        have s02 := s1.trans sm
        have hp3 : upd H2 p (.ins C dx (putF "size" (.int m) [])) p = some (.ins C dx [("size", V.int m)]) := upd_same
        refine ⟨_, rfl, t2, xs, qs, rfl, sqT_put hp2 (sqT_same sm hs), two_put hp2 (two_same sm two1), fun ys rs d hys srt perm nd => ⟨d, ys, rfl, .inl ⟨.inl (.inl upd_same), fun u nu => ?_⟩⟩⟩
        generalize hH3 : upd H2 p (.ins C dx (putF "size" (.int m) [])) = H3 at hp3 hys nd nu ⊢
        have sd : Same H3 (upd H3 d (.lst ys)) := same_new nd
        have su : Same (upd H3 d (.lst ys)) (upd (upd H3 d (.lst ys)) u (.tup ys)) := same_new nu
        have sdu := sd.trans su
        refine ⟨_, rfl, p, C, dx, _, rfl, sdu _ _ hp3, cl, n2, by show 1 < 1000; decide, ?_⟩
        have hup : u ≠ p := fun z => by
          rw [z, sd _ _ hp3] at nu
          cases nu
        refine q _ u ys rs (fun b o e hb => ?_) upd_same ?_ (of_two (two_put (sdu _ _ hp3) (two_same sdu hys))) srt perm
        · rw [upd_ne hb]
          refine sdu b o ?_
          rw [← hH3, upd_ne hb]
          exact s02 b o e
        · rw [upd_ne hup, upd_same]
    
end
end K88
/-! The lines of one web. -/
namespace K88
open PySem L2

theorem lap_ne {z : Str} {m a k e n : Nat} (h : lapT z m [a] (.inl k) = .inl (e, n)) : n ≠ a := by
  unfold lapT at h
  cases hg : gapR z k with
  | inr w =>
    simp only [hg] at h
    cases h
  | inl k2 =>
    simp only [hg] at h
    cases ho : oneR z (numsL 0 m) k2 with
    | inr w =>
      simp only [ho] at h
      cases h
    | inl e2 =>
      simp only [ho] at h
      split at h
      · cases h
      · rename_i c
        cases h
        exact c
theorem tie_ok {z : Str} {m a b : Nat} (hm : m ≤ 12) (h : tieR z m = .inl (a, b)) : a < b ∧ b < m := by
  have r0 := run_le (g := spaceS) (Nat.zero_le z.length)
  unfold tieR at h
  cases h1 : lapT z m [] (wordR z tieL (run z spaceS 0)) with
  | inr w =>
    rw [h1] at h
    cases h
  | inl p =>
    obtain ⟨e1, x⟩ := p
    have hk1 : e1 ≤ z.length ∧ x < m := by
      cases hw : wordR z tieL (run z spaceS 0) with
      | inr wr =>
        rw [hw] at h1
        cases h1
      | inl k =>
        rw [hw] at h1
        exact lap_le hm (word_le _ _ _ r0 hw).2 h1
    simp only [h1] at h
    cases h2 : lapT z m [x] (.inl e1) with
    | inr w =>
      simp only [h2] at h
      cases h
    | inl p2 =>
      obtain ⟨e2, y⟩ := p2
      have hk2 := lap_le hm hk1.1 h2
      have ne := lap_ne h2
      simp only [h2] at h
      cases hr : restR z e2 with
      | some w =>
        simp only [hr] at h
        cases h
      | none =>
        simp only [hr] at h
        cases h
        omega
/-- the ties and what is left, or the line and the column that are wrong -/
def behindR (m : Nat) (most : Int) : List (Int × Str) → List (Int × Int) → (List (Int × Int) × List (Int × Str)) ⊕ (Int × Int)
  | [], _ => .inr (most + 1, 1)
  | (n, z) :: ls, acc =>
    if z.cps.toList[run z spaceS 0]? = some 101 then (match endR z with
      | some w => .inr (n, (w : Int) + 1)
      | none => .inl (acc, ls))
    else if z.cps.toList[run z spaceS 0]? ≠ some 116 ∨ acc.length = 40 ∨ m < 2 then .inr (n, (run z spaceS 0 : Nat) + 1)
    else match tieR z m with
      | .inr w => .inr (n, (w : Int) + 1)
      | .inl (a, b) => behindR m most ls (acc ++ [((a : Int), (b : Int))])
def LineAt (H : Hp) (x : V) (q : Int × Str) : Prop := ∃ t, x = V.ref t ∧ H t = some (.tup [.int q.1, .str q.2])
def LineOk (q : Int × Str) : Prop := q.2.length ≤ sizeLine ∧ run q.2 spaceS 0 < q.2.length
abbrev But (p : Addr) (H H' : Hp) : Prop := ∀ b o, H b = some o → b ≠ p → H' b = some o
theorem line_but {p : Addr} {H H' : Hp} {l : List V} (hp : H p = some (.lst l)) (k : But p H H') : ∀ {vs : List V} {ls : List (Int × Str)}, Paired (LineAt H) vs ls → Paired (LineAt H') vs ls
  | _, _, .nil => .nil
  | _, _, .cons ⟨t, e, h⟩ r => .cons ⟨t, e, k _ _ h (ne_of h hp (by intro z; cases z))⟩ (line_but hp k r)
theorem line_same {H H' : Hp} (k : Same H H') : ∀ {vs : List V} {ls : List (Int × Str)}, Paired (LineAt H) vs ls → Paired (LineAt H') vs ls
  | _, _, .nil => .nil
  | _, _, .cons ⟨t, e, h⟩ r => .cons ⟨t, e, k _ _ h⟩ (line_same k r)
def spBehind (K : PySem.W.Frag) (C CW : Addr) : Sp := fun vs H Q E => ∃ (m : Nat) (p : Addr) (most : Int) (xs : List V) (ls : List (Int × Str)), vs = [.int m, .ref p, .int most] ∧ 1 ≤ m ∧ m ≤ 12 ∧ H p = some (.lst xs) ∧ Paired (LineAt H) xs ls ∧ (∀ q ∈ ls, LineOk q) ∧ ls.length ≤ 100000 ∧
  (∀ acc rest, behindR m most ls [] = .inl (acc, rest) → ∀ wv H' xs2 dx u ys rs, But p H H' → H' p = some (.lst xs2) → Paired (LineAt H') xs2 rest → H' wv = some (.ins CW dx (webFs m u)) → H' u = some (.tup ys) → DpAll K H' ys (rs.map pairD) → SrtO.Srtd SrtO.lexB rs → rs.Perm acc → Q (.ref wv) H') ∧
  (∀ l c, behindR m most ls [] = .inr (l, c) → ∀ d H', But p H H' → H' d = some (.xd (fldsB l c)) → E (.ref C) (some d) H')
theorem seq_zero (n : Nat) : seqIndex? 0 (n + 1) = some 0 := by
  have h : ixN (n + 1) 0 = some 0 := by
    unfold ixN
    rw [if_pos (by decide), if_pos (by omega)]
    rfl
  exact (ixN_seq h).1
theorem sqT_putL {K : PySem.W.Frag} {H : Hp} {a p : Addr} {l : List V} {o : HO} {xs : List V} (hp : H p = some (.lst l)) (h : SqT K H a xs) : SqT K (upd H p o) a xs := by
  rcases h with (h | ⟨o', h⟩) | h
  · exact .inl (.inl (by rw [upd_ne (ne_of h hp (by intro z; cases z))]; exact h))
  · exact .inl (.inr ⟨o', by rw [upd_ne (ne_of h hp (by intro z; cases z))]; exact h⟩)
  · exact .inr h
theorem two_putL {K : PySem.W.Frag} {H : Hp} {p : Addr} {l : List V} {o : HO} (hp : H p = some (.lst l)) : ∀ {xs : List V} {qs : List (Int × Int)}, Paired (TwoAt K H) xs qs → Paired (TwoAt K (upd H p o)) xs qs
  | _, _, .nil => .nil
  | _, _, .cons ⟨a, e, h⟩ t => .cons ⟨a, e, sqT_putL hp h⟩ (two_putL hp t)
theorem sqT_but {K : PySem.W.Frag} {H H' : Hp} {a p : Addr} {l : List V} {xs : List V} (hp : H p = some (.lst l)) (k : But p H H') (h : SqT K H a xs) : SqT K H' a xs := by
  rcases h with (h | ⟨o', h⟩) | h
  · exact .inl (.inl (k _ _ h (ne_of h hp (by intro z; cases z))))
  · exact .inl (.inr ⟨o', k _ _ h (ne_of h hp (by intro z; cases z))⟩)
  · exact .inr h
theorem two_but {K : PySem.W.Frag} {H H' : Hp} {p : Addr} {l : List V} (hp : H p = some (.lst l)) (k : But p H H') : ∀ {xs : List V} {qs : List (Int × Int)}, Paired (TwoAt K H) xs qs → Paired (TwoAt K H') xs qs
  | _, _, .nil => .nil
  | _, _, .cons ⟨a, e, h⟩ t => .cons ⟨a, e, sqT_but hp k h⟩ (two_but hp k t)
theorem paired_len {α β : Type} {R : α → β → Prop} : ∀ {xs : List α} {qs : List β}, Paired R xs qs → xs.length = qs.length
  | _, _, .nil => rfl
  | _, _, .cons _ t => congrArg Nat.succ (paired_len t)
section
variable {P : Program} {w : World} {K : PySem.W.Frag} {mg : Str → Option Value} {base : Heap} {f g C CW fI fWI : Addr} {fd gd dI dWI : FuncData}
abbrev sBehind : Stmt := top 33
abbrev beN : List Str := ["size", "lines", "most", "ties", "number", "line", "start"]
theorem scBehind : FnScope beN ["size", "lines", "most"] (defScope sBehind) := ⟨rfl, rfl, rfl, by decide +kernel, rfl, by decide +kernel, by decide +kernel⟩
theorem ok_behind {fp fe ft : Addr} {dp de dt : FuncData} {t1 : Tok} (F : FnP K "web_behind" sBehind f fd) (T : BadT P w K mg base C fI dI) (TP : Told P w K mg base "past_spaces" 2 ["line", "k"] (spRun1 spaceS) fp dp) (TE_ : ToldX P w K mg base "read_end" 4 ["number", "line"] (spReadEnd C) fe de)
    (TT_ : ToldX P w K mg base "read_tie" 4 ["number", "line", "size", "ties"] (spReadTie C) ft dt) (MK : Mk K CW fWI) (mW : mg "Web" = some (.ref CW)) (WI : FnOk P w K mg base CX0 4 fWI dWI ["self", "size", "ties"] (spWebI K CW)) (bW : Binds K dWI ["self", "size", "ties"] [])
    (mO : mg "MOST_TIES" = some (.int 40 t1)) (mT : mg "tuple" = none) (mLen : mg "len" = none) : FnOk P w K mg base (L2.CX P w) 6 f fd ["size", "lines", "most"] (spBehind K C CW) := by
  refine F.ok scBehind (fun vs H Q E h => ?_) (fun cdv A outer s H vs Q E hr h => ?_)
  · obtain ⟨m, p, most, xs, ls, rfl, _⟩ := h
    rfl
  · obtain ⟨m, p, most, xs, ls, rfl, h1, h12, hp, hls, hok, hlen, q, e⟩ := h
    have hr2 : Room 2 _ := hr.mono (by decide)
    have hr4 : Room 4 _ := hr.mono (by decide)
    refine ⟨_, pss_cons (ps_set (i := 3) scBehind.nd rfl (Or.inl rfl) (pe_lst pa_nil))
      (C8.pss_cut (ps_while (passes_of rfl) (pt_cmpR op_gt (pe_callB call_len (by rfl) mLen PySem.boot_len (pa_cons (pv 1) pa_nil)) pe_int (nomark _))
        (pss_cons (ps_asg (pe_bm PySem.F.plainAttrs_list PySem.F.slot_list_pop PySem.F.type_list_pop mt_popAt (pv 1) (pa_cons pe_int pa_nil)) (pg_tup (n := 2) rfl (pgs_cons (pg_name (i := 4) scBehind.nd rfl (Or.inl rfl)) (pgs_cons (pg_name (i := 5) scBehind.nd rfl (Or.inl rfl)) pgs_nil))))
        (pss_cons (ps_set (i := 6) scBehind.nd rfl (Or.inl rfl) (pe_call TP.ok hr2 (by rfl) TP.m TP.kp TP.b .nil pass0 (pa_cons (pv 5) (pa_cons pe_int pa_nil))))
        (pss_cons (ps_if (pt_cmpR op_eq (pe_ix ix_str (pv 5) (pv 6) (fun _ _ => rfl)) pe_str (nomark _))
            (pss_cons (ps_expr (pe_call TE_.ok hr4 (by rfl) TE_.m TE_.kp TE_.b .nil (passes_call (takes_of rfl rfl rfl rfl) fun _ _ _ _ h => h) (pa_cons (pv 4) (pa_cons (pv 5) pa_nil))))
            (pss_one (ps_ret (pe_make MK WI hr (by rfl) mW bW .nil pass0 (pa_cons (pv 0) (pa_cons (pe_callTy call_tuple_of (by rfl) mT (by decide +kernel) (pa_cons (pv 3) pa_nil)) pa_nil)))))) pss_nil)
        (pss_cons (ps_if (PW.pt (pw_or (pt_cmpR op_ne (pe_ix ix_str (pv 5) (pv 6) (fun _ _ => rfl)) pe_str (nomark _)) (pw_or (pt_cmpR op_eq (pe_callB call_len (by rfl) mLen PySem.boot_len (pa_cons (pv 3) pa_nil)) (pe_glob (v := .int 40) (by rfl) mO ⟨_, rfl⟩) (nomark _)) (pw_or1 (pt_cmpR op_lt (pv 0) pe_int (nomark _))))))
            (pss_one (ps_bad rfl T.t T.ok hr2 T.b (takes_of rfl rfl rfl rfl) (by rfl) (pa_cons (pv 4) (pa_cons (pe_op op_add (pv 6) pe_int) pa_nil)))) pss_nil)
        (pss_one (ps_expr (pe_call TT_.ok hr4 (by rfl) TT_.m TT_.kp TT_.b .nil (passes_call (takes_of rfl rfl rfl rfl) fun _ _ _ _ h => h) (pa_cons (pv 4) (pa_cons (pv 5) (pa_cons (pv 0) (pa_cons (pv 3) pa_nil))))))))))))
      (pss_one (ps_bad rfl T.t T.ok hr2 T.b (takes_of rfl rfl rfl rfl) (by rfl) (pa_cons (pe_op op_add (pv 2) pe_int) (pa_cons pe_int pa_nil))))), ?_⟩
    rw [show L2.start beN [V.int m, V.ref p, V.int most] = [some (V.int m), some (V.ref p), some (V.int most), none, none, none, none] from rfl]
    refine ⟨Nat.zero_le _, fun o no => ?_⟩
    have hop : p ≠ o := ne_of_none hp no
    have hO0 : Same H (upd H o (.lst [])) := same_new no
    refine ⟨fun σ' H' => But p H H' ∧ behindR m most ls [] = .inr (most + 1, 1) ∧ ∃ a b c, σ' = [some (.int m), some (.ref p), some (.int most), some (.ref o), a, b, c], ?_, ?_⟩
    · refine ⟨fun n σ' H' => ∃ (xs' : List V) (ls' : List (Int × Str)) (tv : List V) (acc : List (Int × Int)) (a b c : Option V), σ' = [some (.int m), some (.ref p), some (.int most), some (.ref o), a, b, c] ∧ But p H H' ∧ H' p = some (.lst xs') ∧ Paired (LineAt H') xs' ls' ∧ (∀ q ∈ ls', LineOk q) ∧
        H' o = some (.lst tv) ∧ Paired (TwoAt K H') tv acc ∧ TiesOk m acc ∧ behindR m most ls [] = behindR m most ls' acc ∧ n = ls'.length, ⟨_, xs, ls, [], [], none, none, none, rfl, fun b o' eb _ => hO0 b o' eb, hO0 _ _ hp, line_same hO0 hls, hok, upd_same, .nil, ⟨Nat.zero_le _, fun q hq => absurd hq List.not_mem_nil⟩, rfl, rfl⟩, ?_⟩
      rintro n0 σ' H' ⟨xs', ls', tv, acc, a, b, c, rfl, hb, hp', hl', hok', hO, htv, htk, heq, rfl⟩
      refine ⟨_, rfl, _, xs'.length, rfl, .inl ⟨xs', .inl (.inl hp'), rfl⟩, _, _, rfl, rfl, ?_⟩
      cases hl' with
      | nil => exact ⟨false, congrArg V.bl (decide_eq_false (show ¬ ((0 : Nat) : Int) > 0 by decide)), iteF ⟨hb, heq, a, b, c, rfl⟩⟩
      | @cons x qz vr r hx hr =>
        obtain ⟨n, z⟩ := qz
        obtain ⟨t, rfl, ht⟩ := hx
        obtain ⟨hz, hlt⟩ := hok' (n, z) List.mem_cons_self
        have hokr : ∀ q ∈ r, LineOk q := fun q hq => hok' q (List.mem_cons_of_mem _ hq)
        refine ⟨true, congrArg V.bl (decide_eq_true (show (((V.ref t :: vr).length : Nat) : Int) > 0 by rw [List.length_cons]; omega)), iteT ⟨fun σ2 H2 => ∃ (xs' : List V) (tv : List V) (acc : List (Int × Int)) (a b c : Option V), σ2 = [some (.int m), some (.ref p), some (.int most), some (.ref o), a, b, c] ∧ But p H H2 ∧ H2 p = some (.lst xs') ∧ Paired (LineAt H2) xs' r ∧
          H2 o = some (.lst tv) ∧ Paired (TwoAt K H2) tv acc ∧ TiesOk m acc ∧ behindR m most ls [] = behindR m most r acc, ?_, ?_⟩⟩
        · rintro σ2 H2 ⟨xs', tv, acc, a, b, c, rfl, k1, k2, k3, k4, k5, k6, k7⟩
          exact ⟨r.length, Nat.lt_succ_self _, xs', r, tv, acc, a, b, c, rfl, k1, k2, k3, hokr, k4, k5, k6, k7, rfl⟩
        · have htp : t ≠ p := ne_of ht hp' (by intro z; cases z)
          refine ⟨_, rfl, .inl ⟨rfl, _, .inl (.inl hp')⟩, p, _, 0, 0, .ref t, rfl, rfl, hp', by decide, by decide, seq_zero _, rfl, ?_⟩
          refine ⟨t, _, rfl, .inl (.inl (by rw [upd_ne htp]; exact ht)), rfl, _, _, rfl, _, _, rfl, rfl, ?_⟩
          simp only [List.set_cons_succ, List.set_cons_zero]
          have kn : But p H' (upd H' p (.lst ((V.ref t :: vr).eraseIdx 0))) := fun b' o' eb hb' => by
            rw [upd_ne hb']
            exact eb
          have hpn : upd H' p (.lst ((V.ref t :: vr).eraseIdx 0)) p = some (.lst vr) := upd_same
          have hrn := line_but hp' kn hr
          have hOn := kn _ _ hO (Ne.symm hop)
          have htvn := two_but hp' kn htv
          have hbn : But p H (upd H' p (.lst ((V.ref t :: vr).eraseIdx 0))) := fun b' o' eb hb' => kn b' o' (hb b' o' eb hb') hb'
          generalize upd H' p (.lst ((V.ref t :: vr).eraseIdx 0)) = Hn at kn hpn hrn hOn htvn hbn ⊢
          have fl : ∀ {Hx : Hp} {l' c' : Int}, Same Hn Hx → behindR m most ((n, z) :: r) acc = .inr (l', c') → flies C E Hx l' c' := fun sx hx d H3 s3 hd => e _ _ (heq.trans hx) d H3 (fun b' o' eb hb' => s3 b' o' (sx b' o' (hbn b' o' eb hb'))) hd
          refine ⟨_, rfl, z, 0, rfl, hz, Nat.zero_le _, ?_⟩
          obtain ⟨ch, hch, _⟩ := drop_at hlt
          have bun : behindR m most ((n, z) :: r) acc = if z.cps.toList[run z spaceS 0]? = some 101 then (match endR z with
              | some w => .inr (n, (w : Int) + 1)
              | none => .inl (acc, r))
            else if z.cps.toList[run z spaceS 0]? ≠ some 116 ∨ acc.length = 40 ∨ m < 2 then .inr (n, (run z spaceS 0 : Nat) + 1)
            else match tieR z m with
              | .inr w => .inr (n, (w : Int) + 1)
              | .inl (a, b) => behindR m most r (acc ++ [((a : Int), (b : Int))]) := rfl
          rw [hch] at bun
          refine ⟨_, rfl, _, rfl, z, _, ch, rfl, rfl, hz, atI_nat hch, rfl, ?_⟩
          have e101 : ("e" : Str) = ⟨#[101]⟩ := by decide +kernel
          have e116 : ("t" : Str) = ⟨#[116]⟩ := by decide +kernel
          by_cases c1 : ch = 101
          · rw [if_pos (by rw [c1])] at bun
            refine ⟨true, congrArg V.bl (decide_eq_true (by rw [c1, e101])), iteT ?_⟩
            refine ⟨_, rfl, _, rfl, n, z, rfl, hz, fun hn H2 s2 => ?_, fun w' hw' => fl (Same.refl Hn) (by rw [bun, hw'])⟩
            rw [hn] at bun
            have hO2 := s2 _ _ hOn
            refine ⟨_, rfl, _, rfl, o, tv, rfl, .inl ⟨.inl (.inl hO2), fun t2 nt2 => ?_⟩⟩
            intro x dx nx ndx ne
            have sT : Same H2 (upd H2 t2 (.tup tv)) := same_new nt2
            have nx2 := sT.free nx
            have sX : Same (upd H2 t2 (.tup tv)) (upd (upd (upd H2 t2 (.tup tv)) dx (.own x)) x (.ins CW dx [])) := fun b' o' eb => by
              rw [upd_ne (ne_of_none eb nx), upd_ne (ne_of_none eb ndx)]
              exact eb
            refine ⟨x, dx, t2, m, acc, rfl, upd_same, .tup (.inl (.inl (sX _ _ upd_same))) (of_two (two_same (s2.trans (sT.trans sX)) htvn)), h1, h12, htk, fun H4 u ys rs keep hx4 hu hys srt perm => ⟨rfl, ?_⟩⟩
            have back : ∀ b' o', Hn b' = some o' → H4 b' = some o' := fun b' o' eb => by
              have q1 := sT b' o' (s2 b' o' eb)
              exact keep b' o' (sX b' o' q1) (ne_of_none q1 nx)
            exact q acc r (heq.trans bun) x H4 vr dx u ys rs (fun b' o' eb hb' => back b' o' (hbn b' o' eb hb')) (back _ _ hpn) (line_same back hrn) hx4 hu hys srt perm
          · rw [if_neg (fun h => c1 (Option.some.inj h))] at bun
            refine ⟨false, congrArg V.bl (decide_eq_false (fun h => c1 (sign_inj.mp ((V.str.inj h).trans e101)))), iteF ?_⟩
            have raise : behindR m most ((n, z) :: r) acc = .inr (n, (run z spaceS 0 : Nat) + 1) → ∀ {σx : L2.St}, σx[4]? = some (some (.int n)) → σx[6]? = some (some (.int (run z spaceS 0 : Nat))) → tMkO C (spBL C) [] (tCons (tVar 4) (tCons (tOp addI (tVar 6) (tC (.int 1))) tNil)) σx Hn E := fun hbad σx h4 h6 =>
              bad_read (l := n) (c := (run z spaceS 0 : Nat) + 1) (fun R h => ⟨_, h4, h⟩) (fun R h => ⟨_, h6, _, _, rfl, rfl, h⟩) (fl (Same.refl Hn) hbad)
            refine ⟨_, rfl, _, rfl, z, _, ch, rfl, rfl, hz, atI_nat hch, rfl, ?_⟩
            by_cases c2 : ch = 116
            · refine ⟨false, congrArg V.bl (by rw [decide_eq_true (by rw [c2, e116])]; rfl), iteF ?_⟩
              refine ⟨_, rfl, _, tv.length, rfl, .inl ⟨tv, .inl (.inl hOn), rfl⟩, rfl, ?_⟩
              have hta := paired_len htvn
              by_cases c3 : acc.length = 40
              · rw [if_pos (.inr (.inl c3))] at bun
                exact ⟨true, congrArg V.bl (decide_eq_true (congrArg V.int (show ((tv.length : Nat) : Int) = 40 by omega))), iteT (iteT (raise bun rfl rfl))⟩
              · refine ⟨false, congrArg V.bl (decide_eq_false (fun h => by injection h with h; omega)), iteF ?_⟩
                by_cases c4 : m < 2
                · rw [if_pos (.inr (.inr c4))] at bun
                  exact ⟨_, rfl, _, _, rfl, rfl, true, congrArg V.bl (decide_eq_true (show (m : Int) < 2 by omega)), iteT (raise bun rfl rfl)⟩
                · rw [if_neg (fun h => by
                    rcases h with h | h | h
                    · exact h (by rw [c2])
                    · exact c3 h
                    · exact c4 h)] at bun
                  refine ⟨_, rfl, _, _, rfl, rfl, false, congrArg V.bl (decide_eq_false (show ¬ (m : Int) < 2 by omega)), iteF ?_⟩
                  refine ⟨_, rfl, _, rfl, _, rfl, _, rfl, n, z, m, o, tv, rfl, hz, h12, hOn, by have := htk.1; omega, fun a' b' hab t' H4 keep nt' ht' ho' => ?_, fun w' hw' => fl (Same.refl Hn) (by rw [bun, hw'])⟩
                  rw [hab] at bun
                  refine ⟨vr, tv ++ [.ref t'], acc ++ [((a' : Int), (b' : Int))], _, _, _, rfl, fun b2 o2 eb hb2 => keep b2 o2 (hbn b2 o2 eb hb2) (ne_of_none eb no), keep _ _ hpn hop, line_but hOn keep hrn, ho', Paired.snoc (two_but hOn keep htvn) ⟨t', rfl, .inl (.inl ht')⟩, ⟨?_, fun q' hq' => ?_⟩, heq.trans bun⟩
                  · have := htk.1
                    rw [List.length_append, List.length_singleton]
                    omega
                  · rcases List.mem_append.mp hq' with hq' | hq'
                    · exact htk.2 q' hq'
                    · rw [List.mem_singleton.mp hq']
                      have hab2 := tie_ok h12 hab
                      exact ⟨a', b', rfl, hab2.1, hab2.2⟩
            · rw [if_pos (.inl (fun h => c2 (Option.some.inj h)))] at bun
              exact ⟨true, congrArg V.bl (by rw [decide_eq_false (fun h => c2 (sign_inj.mp ((V.str.inj h).trans e116)))]; rfl), iteT (iteT (raise bun rfl rfl))⟩
    · rintro σ' H' ⟨hb, heq, a, b, c, rfl⟩
      exact bad_read (l := most + 1) (c := 1) (fun R h => ⟨_, rfl, _, _, rfl, rfl, h⟩) (fun R h => h) fun d H2 s2 hd => e _ _ heq d H2 (fun b' o' eb hb' => s2 b' o' (hb b' o' eb hb')) hd
end
end K88
/-! The lines of a text. -/
namespace K88
open PySem L2

abbrev nlS : Str := "\n"
/-- the lines, numbered, that are not only spaces -/
def outL (ls : List Str) : Nat → List (Int × Str)
  | 0 => []
  | i + 1 => outL ls i ++ (match ls[i]? with
    | some z => if run z spaceS 0 < z.length then [((i : Int) + 1, z)] else []
    | none => [])
theorem outL_len (ls : List Str) : ∀ i, (outL ls i).length ≤ i
  | 0 => Nat.le_refl 0
  | i + 1 => by
    have := outL_len ls i
    unfold outL
    rw [List.length_append]
    split
    · split
      · rw [List.length_singleton]
        omega
      · rw [List.length_nil]
        omega
    · rw [List.length_nil]
      omega
/-- the lines of a text, an empty last one left out -/
def linesR (z : Str) : List Str := match (Txt.split z nlS).getLast? with
  | some l => if l = ⟨#[]⟩ then (Txt.split z nlS).dropLast else Txt.split z nlS
  | none => []
def spLines (K : PySem.W.Frag) (C : Addr) : Sp := fun vs H Q E => ∃ x : V, vs = [x] ∧
  ((∃ z : Str, x = .str z ∧ z.length + 2 ≤ sizeLine ∧ Txt.split z nlS ≠ [] ∧ (Txt.split z nlS).length ≤ 100000 ∧ (∀ l ∈ Txt.split z nlS, l.length ≤ sizeLine) ∧
    ∀ t a xs H', Same H H' → H t = none → H a = none → H' t = some (.tup [.ref a, .int (linesR z).length]) → H' a = some (.lst xs) → Paired (LineAt H') xs (outL (linesR z) (linesR z).length) → Q (.ref t) H') ∨
   (∃ t : Value, TyX K H x t ∧ PySem.W.kitOne K t (.type "str") = some false ∧ flies C E H 0 0))
section
variable {P : Program} {w : World} {K : PySem.W.Frag} {mg : Str → Option Value} {base : Heap} {f g C fI : Addr} {fd gd dI : FuncData}
abbrev sLines : Stmt := top 34
abbrev liN : List Str := ["text", "lines", "out", "k"]
theorem scLines : FnScope liN ["text"] (defScope sLines) := ⟨rfl, rfl, rfl, by decide +kernel, rfl, by decide +kernel, by decide +kernel⟩
abbrev tLine : TE := tOp (rIxL K) (tVar 1) (tVar 3)
theorem ok_lines {fp : Addr} {dp : FuncData} (F : FnP K "lines_of" sLines f fd) (T : BadT P w K mg base C fI dI) (TP : Told P w K mg base "past_spaces" 2 ["line", "k"] (spRun1 spaceS) fp dp) (mI : mg "isinstance" = none) (mStr : mg "str" = none) (mLen : mg "len" = none) (mR : mg "range" = none) :
    FnOk P w K mg base (L2.CX P w) 3 f fd ["text"] (spLines K C) := by
  refine F.ok scLines (fun vs H Q E h => ?_) (fun cdv A outer s H vs Q E hr h => ?_)
  · obtain ⟨x, rfl, _⟩ := h
    rfl
  · obtain ⟨x, rfl, h⟩ := h
    refine ⟨_, pss_cons (ps_if (pt_not (pt_val (pe_callB call_isi (by rfl) mI (by decide +kernel) (pa_cons (pv 0) (pa_cons (pe_bltn (v := .ty "str") (by rfl) mStr (by decide +kernel) rfl) pa_nil)))))
          (pss_one (ps_bad rfl T.t T.ok hr T.b (takes_of rfl rfl rfl rfl) (by rfl) (pa_cons pe_int (pa_cons pe_int pa_nil)))) pss_nil)
      (pss_cons (ps_set (i := 1) scLines.nd rfl (Or.inr rfl) (pe_split (pv 0) pe_str))
      (C8.pss_cut (ps_if (pt_cmpR op_eq (pe_ix ix_list (pv 1) (pe_un un_neg pe_int) (fun _ _ => rfl)) pe_str (nomark _))
          (pss_one (ps_expr (pe_bm0 PySem.F.plainAttrs_list PySem.F.slot_list_pop PySem.F.type_list_pop mt_pop (pv 1)))) pss_nil)
      (C8.pss_cut (ps_setLc (i := 2) (own := [("k", 3)]) (g := gName 3) (tt := tTest (tOp (rI0 fun i j => .bl (decide (i < j))) (tCall (spRun1 spaceS) [] E0 (tCons (tOp (rIxL K) (tVar 1) (tVar 3)) (tCons (tC (.int 0)) tNil))) (tCB (rLn K) (tCons (tOp (rIxL K) (tVar 1) (tVar 3)) tNil))))
            (te := tTup (tCons (tOp addI (tVar 3) (tC (.int 1))) (tCons (tOp (rIxL K) (tVar 1) (tVar 3)) tNil))) rfl scLines.nd rfl rfl (by rfl) (pi_range1 (by rfl) mR (pa_cons (pe_callB call_len (by rfl) mLen PySem.boot_len (pa_cons (pv 1) pa_nil)) pa_nil)) (blkOk_by (own := [("k", 3)]) (N := liN) (sc := defScope sLines) (by decide +kernel))
          (fun _ _ _ _ _ => pg_name (i := 3) scLines.nd rfl (Or.inl rfl)) (fun _ _ _ _ _ => pts_one (pt_cmpR op_lt (pe_call TP.ok hr (by rfl) TP.m TP.kp TP.b .nil pass0 (pa_cons (pe_ix ix_list (pv 1) (pv 3) (fun _ _ => rfl)) (pa_cons pe_int pa_nil))) (pe_callB (id := "len") call_len (by rfl) mLen PySem.boot_len (pa_cons (pe_ix ix_list (pv 1) (pv 3) (fun _ _ => rfl)) pa_nil)) (nomark _)))
          (fun _ _ _ _ _ => pe_tup (pa_cons (pe_op op_add (pv 3) pe_int) (pa_cons (pe_ix ix_list (pv 1) (pv 3) (fun _ _ => rfl)) pa_nil))))
      (pss_one (ps_ret (pe_tup (pa_cons (pv 2) (pa_cons (pe_callB call_len (by rfl) mLen PySem.boot_len (pa_cons (pv 1) pa_nil)) pa_nil)))))))), ?_⟩
    rcases h with ⟨z, rfl, hz2, hne, hlen, hall, q⟩ | ⟨t, ty, kt, e⟩
    · rw [show L2.start liN [V.str z] = [some (V.str z), none, none, none] from rfl]
      refine ⟨_, rfl, _, .ty "str", _, .type "str", true, rfl, .ty _, .base (.str z), kit_ty (show kitB "str" "str" = some true by decide +kernel), true, rfl, iteF ?_⟩
      refine ⟨_, rfl, ⟨_, rfl⟩, _, _, rfl, rfl, by decide +kernel, hz2, fun o no => ?_⟩
      have hsz : sizeLine = 16777216 := sizeLine_eq
      obtain ⟨init, last, hsp⟩ : ∃ init last, Txt.split z nlS = init ++ [last] := ⟨_, _, (List.dropLast_concat_getLast hne).symm⟩
      have hlin : linesR z = if last = ⟨#[]⟩ then init else init ++ [last] := by
        unfold linesR
        rw [hsp, List.getLast?_concat, List.dropLast_concat]
      have hlall : ∀ l ∈ linesR z, l.length ≤ sizeLine := fun l hl => by
        refine hall l ?_
        rw [hsp]
        rw [hlin] at hl
        split at hl
        · exact List.mem_append_left _ hl
        · exact hl
      have hllen : (linesR z).length ≤ 100000 := by
        rw [hsp, List.length_append] at hlen
        rw [hlin]
        split
        · omega
        · rw [List.length_append]
          omega
      have so : Same H (upd H o (.lst ((Txt.split z nlS).map V.str))) := same_new no
      refine ⟨fun σ' H' => σ' = [some (.str z), some (.ref o), none, none] ∧ Same H H' ∧ H' o = some (.lst ((linesR z).map V.str)), ?_, ?_⟩
      · have hat : atI ((Txt.split z nlS).map V.str) (-1) = some (.str last) := by
          rw [hsp, List.map_append]
          exact atI_last _ _
        refine ⟨_, rfl, _, rfl, o, _, _, _, rfl, rfl, .inl (.inl upd_same), hat, rfl, ?_⟩
        have e0 : ("" : Str) = ⟨#[]⟩ := by decide +kernel
        by_cases c : last = ⟨#[]⟩
        · refine ⟨true, congrArg V.bl (decide_eq_true (by rw [c, e0])), iteT ?_⟩
          refine ⟨_, rfl, .inl ⟨rfl, _, .inl (.inl upd_same)⟩, o, _, .str last, rfl, rfl, upd_same, ?_, rfl, fun b x eb => ?_, ?_⟩
          · rw [hsp, List.map_append, List.length_append, List.map_singleton, List.length_singleton, Nat.add_sub_cancel, List.getElem?_append_right (Nat.le_refl _), Nat.sub_self]
            rfl
          · rw [upd_ne (ne_of_none eb no)]
            exact so b x eb
          · rw [upd_same, hlin, if_pos c, hsp, List.map_append, List.map_singleton, List.dropLast_concat]
        · refine ⟨false, congrArg V.bl (decide_eq_false (fun h => c ((V.str.inj h).trans e0))), iteF ⟨rfl, so, ?_⟩⟩
          rw [upd_same, hlin, if_neg c, hsp]
      · rintro σ1 H1 ⟨rfl, s1, hO⟩
        have lineAt : ∀ {i : Nat} {l : Str}, (linesR z)[i]? = some l → ((linesR z).map V.str)[i]? = some (.str l) := fun h => by
          rw [List.getElem?_map, h]
          rfl
        refine ⟨fun σ' H' => ∃ D xs, σ' = [some (.str z), some (.ref o), some (.ref D), none] ∧ Same H H' ∧ H D = none ∧ H' o = some (.lst ((linesR z).map V.str)) ∧ H' D = some (.lst xs) ∧ Paired (LineAt H') xs (outL (linesR z) (linesR z).length), ?_, ?_⟩
        · refine ⟨_, rfl, _, (linesR z).length, rfl, .inl ⟨_, .inl (.inl hO), by rw [List.length_map]⟩, _, rfl, by omega, by omega, fun D nD => lc_range (lo := 0) (n := (((linesR z).length : Nat) : Int).toNat) (fun i H2 => Same H1 H2 ∧ ∃ xs, H2 D = some (.lst xs) ∧ Paired (LineAt H2) xs (outL (linesR z) i) ∧ i ≤ (linesR z).length) ⟨same_new nD, [], upd_same, .nil, Nat.zero_le _⟩ ?_ ?_⟩
          · rintro i H2 hi ⟨sm, xs, hD, hp, _⟩
            have hi' : i < (linesR z).length := by omega
            have eI : (0 : Int) + (i : Int) = (i : Int) := by omega
            rw [eI]
            obtain ⟨l, hl⟩ : ∃ l, (linesR z)[i]? = some l := ⟨_, List.getElem?_eq_getElem hi'⟩
            have hll := hlall l (List.mem_of_getElem? hl)
            have hO2 : SqL K H2 o ((linesR z).map V.str) := .inl (.inl (sm _ _ hO))
            have sq := atI_nat (lineAt hl)
            refine ⟨rfl, _, rfl, _, rfl, o, _, _, _, rfl, rfl, hO2, sq, l, 0, rfl, hll, Nat.zero_le _, _, rfl, _, rfl, o, _, _, _, rfl, rfl, hO2, sq, _, l.length, rfl, ⟨hll, rfl⟩, _, _, rfl, rfl, ?_⟩
            have hout : outL (linesR z) (i + 1) = outL (linesR z) i ++ (if run l spaceS 0 < l.length then [((i : Int) + 1, l)] else []) := by
              conv => lhs; unfold outL
              rw [hl]
            by_cases c : run l spaceS 0 < l.length
            · rw [if_pos c] at hout
              refine ⟨true, congrArg V.bl (decide_eq_true (Int.ofNat_lt.mpr c)), iteT ?_⟩
              refine ⟨_, rfl, _, _, rfl, rfl, _, rfl, _, rfl, o, _, _, _, rfl, rfl, hO2, sq, two_ok, fun t nt => ?_⟩
              have st : Same H2 (upd H2 t (.tup [.int ((i : Int) + 1), .str l])) := same_new nt
              have hD' := st _ _ hD
              have hDt : t ≠ D := fun x => by
                rw [x, hD] at nt
                cases nt
              refine ⟨xs, hD', ?_, fun c' o' e' => ?_, _, upd_same, ?_, hi'⟩
              · have := paired_len hp
                have := outL_len (linesR z) i
                omega
              · rw [upd_ne (ne_of_none e' nD)]
                exact st c' o' (sm c' o' e')
              · rw [hout]
                have kb : But D (upd H2 t (.tup [.int ((i : Int) + 1), .str l])) (upd (upd H2 t (.tup [.int ((i : Int) + 1), .str l])) D (.lst (xs ++ [.ref t]))) := fun b' o' eb hb' => by
                  rw [upd_ne hb']
                  exact eb
                refine Paired.snoc (line_but hD' kb (line_same st hp)) ⟨t, rfl, ?_⟩
                rw [upd_ne hDt, upd_same]
            · rw [if_neg c, List.append_nil] at hout
              refine ⟨false, congrArg V.bl (decide_eq_false (fun h => c (Int.ofNat_lt.mp h))), iteF ⟨sm, xs, hD, ?_, hi'⟩⟩
              rw [hout]
              exact hp
          · rintro H2 ⟨sm, xs, hD, hp, _⟩
            exact ⟨D, xs, rfl, s1.trans sm, s1.free nD, sm _ _ hO, hD, hp⟩
        · rintro σ2 H2 ⟨D, xs, rfl, s2, nD, hO2, hD, hp⟩
          refine ⟨_, rfl, _, rfl, _, (linesR z).length, rfl, .inl ⟨_, .inl (.inl hO2), by rw [List.length_map]⟩, two_ok, fun t nt => ?_⟩
          have st : Same H2 (upd H2 t (.tup [.ref D, .int (((linesR z).length : Nat) : Int)])) := same_new nt
          exact q t D xs _ (s2.trans st) (s2.free nt) nD upd_same (st _ _ hD) (line_same st hp)
    · exact ⟨_, rfl, _, .ty "str", t, .type "str", false, rfl, .ty _, ty, kt, false, rfl, iteT (bad_read (l := 0) (c := 0) (fun R h => h) (fun R h => h) e)⟩
end
end K88
/-! The items of a text. -/
namespace K88
open PySem L2

/-- an item: name, size, ties (as they were told) -/
abbrev Item : Type := Str × Nat × List (Int × Int)
theorem behind_less {m : Nat} {most : Int} : ∀ {ls : List (Int × Str)} {acc : List (Int × Int)} {a : List (Int × Int)} {r : List (Int × Str)}, behindR m most ls acc = .inl (a, r) → r.length < ls.length
  | [], _, _, _, h => by cases h
  | (n, z) :: ls, acc, a, r, h => by
    unfold behindR at h
    split at h
    · split at h
      · cases h
      · cases h
        exact Nat.lt_succ_self _
    · split at h
      · cases h
      · split at h
        · cases h
        · have := behind_less h
          rw [List.length_cons]
          omega
/-- the items, or the line and the column that are wrong; fuel: more than there are lines -/
def itemsR (most : Int) : Nat → List (Int × Str) → List Str → List Item → List Item ⊕ (Int × Int)
  | _, [], _, acc => .inl acc
  | 0, _ :: _, _, acc => .inl acc
  | k + 1, (n, z) :: ls, told, acc => match titleR z (fun s => told.contains s) with
    | .inr w => .inr (n, (w : Int) + 1)
    | .inl (name, sz) => match behindR sz.toNat most ls [] with
      | .inr p => .inr p
      | .inl (ties, rest) => itemsR most k rest (told ++ [name]) (acc ++ [(name, sz.toNat, ties)])
theorem behind_sub {m : Nat} {most : Int} : ∀ {ls : List (Int × Str)} {acc : List (Int × Int)} {a : List (Int × Int)} {r : List (Int × Str)}, behindR m most ls acc = .inl (a, r) → ∀ q ∈ r, q ∈ ls
  | [], _, _, _, h => by cases h
  | (n, z) :: ls, acc, a, r, h => by
    unfold behindR at h
    split at h
    · split at h
      · cases h
      · cases h
        exact fun q hq => List.mem_cons_of_mem _ hq
    · split at h
      · cases h
      · split at h
        · cases h
        · exact fun q hq => List.mem_cons_of_mem _ (behind_sub h q hq)
theorem outL_ok {ls : List Str} : ∀ {i : Nat}, ∀ q ∈ outL ls i, q.2 ∈ ls ∧ run q.2 spaceS 0 < q.2.length
  | 0, q, h => absurd h List.not_mem_nil
  | i + 1, q, h => by
    unfold outL at h
    rcases List.mem_append.mp h with h | h
    · exact outL_ok q h
    · split at h
      · rename_i z hz
        split at h
        · rename_i hr
          rw [List.mem_singleton.mp h]
          exact ⟨List.mem_of_getElem? hz, hr⟩
        · exact absurd h List.not_mem_nil
      · exact absurd h List.not_mem_nil
theorem title_size {z : Str} {told : Str → Bool} {n : Str} {s : Int} (h : titleR z told = .inl (n, s)) : 1 ≤ s ∧ s ≤ 12 := by
  cases tscan z with
  | bad w hv r =>
    rw [r told] at h
    cases h
  | late x name k w hv le r =>
    rw [r told] at h
    split at h <;> cases h
  | good name k n' hv r hn =>
    rw [r told] at h
    split at h
    · cases h
    · cases h
      exact hn
theorem lines_sub {z : Str} : ∀ l ∈ linesR z, l ∈ Txt.split z nlS := fun l hl => by
  unfold linesR at hl
  split at hl
  · split at hl
    · exact (List.dropLast_sublist _).mem hl
    · exact hl
  · exact absurd hl List.not_mem_nil
theorem putK_len {κ : Type} [DecidableEq κ] (kvs : List (κ × V)) (k : κ) (y : V) : (putK kvs k y).length ≤ kvs.length + 1 := by
  unfold putK
  split
  · rw [List.length_map]
    exact Nat.le_succ _
  · rw [List.length_append, List.length_singleton]
    exact Nat.le_refl _
structure ItemAt (K : PySem.W.Frag) (CW : Addr) (H : Hp) (x : V) (q : Item) : Prop where
  ex : ∃ (t w' dx u : Addr) (ys : List V) (rs : List (Int × Int)), x = .ref t ∧ H t = some (.tup [.str q.1, .ref w']) ∧ H w' = some (.ins CW dx (webFs q.2.1 u)) ∧ H u = some (.tup ys) ∧ DpAll K H ys (rs.map pairD) ∧ SrtO.Srtd SrtO.lexB rs ∧ rs.Perm q.2.2
theorem ItemAt.same {K : PySem.W.Frag} {CW : Addr} {H H' : Hp} {x : V} {q : Item} (s : Same H H') (h : ItemAt K CW H x q) : ItemAt K CW H' x q := by
  obtain ⟨⟨t, w', dx, u, ys, rs, h1, h2, h3, h4, h5, h6, h7⟩⟩ := h
  exact ⟨⟨t, w', dx, u, ys, rs, h1, s _ _ h2, s _ _ h3, s _ _ h4, dpAll_same s _ _ h5, h6, h7⟩⟩
theorem dp_but {K : PySem.W.Frag} {H H' : Hp} {p : Addr} {l : List V} (hp : H p = some (.lst l)) (k : But p H H') {ys : List V} {rs : List (Int × Int)} (h : DpAll K H ys (rs.map pairD)) : DpAll K H' ys (rs.map pairD) := of_two (two_but hp k (two_of h))
theorem ItemAt.but {K : PySem.W.Frag} {CW : Addr} {H H' : Hp} {x : V} {q : Item} {p : Addr} {l : List V} (hp : H p = some (.lst l)) (k : But p H H') (h : ItemAt K CW H x q) : ItemAt K CW H' x q := by
  obtain ⟨⟨t, w', dx, u, ys, rs, h1, h2, h3, h4, h5, h6, h7⟩⟩ := h
  exact ⟨⟨t, w', dx, u, ys, rs, h1, k _ _ h2 (ne_of h2 hp (by intro z; cases z)), k _ _ h3 (ne_of h3 hp (by intro z; cases z)), k _ _ h4 (ne_of h4 hp (by intro z; cases z)), dp_but hp k h5, h6, h7⟩⟩
theorem pair_same {K : PySem.W.Frag} {CW : Addr} {H H' : Hp} (s : Same H H') : ∀ {vs : List V} {qs : List Item}, Paired (ItemAt K CW H) vs qs → Paired (ItemAt K CW H') vs qs
  | _, _, .nil => .nil
  | _, _, .cons h t => .cons (h.same s) (pair_same s t)
theorem pair_but {K : PySem.W.Frag} {CW : Addr} {H H' : Hp} {p : Addr} {l : List V} (hp : H p = some (.lst l)) (k : But p H H') : ∀ {vs : List V} {qs : List Item}, Paired (ItemAt K CW H) vs qs → Paired (ItemAt K CW H') vs qs
  | _, _, .nil => .nil
  | _, _, .cons h t => .cons (h.but hp k) (pair_but hp k t)
theorem sqT_butD {K : PySem.W.Frag} {H H' : Hp} {a p : Addr} {l : List (Key × V)} {xs : List V} (hp : H p = some (.dK l)) (k : But p H H') (h : SqT K H a xs) : SqT K H' a xs := by
  rcases h with (h | ⟨o', h⟩) | h
  · exact .inl (.inl (k _ _ h (ne_of h hp (by intro z; cases z))))
  · exact .inl (.inr ⟨o', k _ _ h (ne_of h hp (by intro z; cases z))⟩)
  · exact .inr h
theorem two_butD {K : PySem.W.Frag} {H H' : Hp} {p : Addr} {l : List (Key × V)} (hp : H p = some (.dK l)) (k : But p H H') : ∀ {xs : List V} {qs : List (Int × Int)}, Paired (TwoAt K H) xs qs → Paired (TwoAt K H') xs qs
  | _, _, .nil => .nil
  | _, _, .cons ⟨a, e, h⟩ t => .cons ⟨a, e, sqT_butD hp k h⟩ (two_butD hp k t)
theorem pair_butD {K : PySem.W.Frag} {CW : Addr} {H H' : Hp} {p : Addr} {l : List (Key × V)} (hp : H p = some (.dK l)) (k : But p H H') : ∀ {vs : List V} {qs : List Item}, Paired (ItemAt K CW H) vs qs → Paired (ItemAt K CW H') vs qs
  | _, _, .nil => .nil
  | _, _, .cons h t => by
    obtain ⟨⟨t0, w', dx, u, ys, rs, h1, h2, h3, h4, h5, h6, h7⟩⟩ := h
    exact .cons ⟨⟨t0, w', dx, u, ys, rs, h1, k _ _ h2 (ne_of h2 hp (by intro z; cases z)), k _ _ h3 (ne_of h3 hp (by intro z; cases z)), k _ _ h4 (ne_of h4 hp (by intro z; cases z)), of_two (two_butD hp k (two_of h5)), h6, h7⟩⟩ (pair_butD hp k t)
theorem line_butD {H H' : Hp} {p : Addr} {l : List (Key × V)} (hp : H p = some (.dK l)) (k : But p H H') : ∀ {vs : List V} {ls : List (Int × Str)}, Paired (LineAt H) vs ls → Paired (LineAt H') vs ls
  | _, _, .nil => .nil
  | _, _, .cons ⟨t, e, h⟩ r => .cons ⟨t, e, k _ _ h (ne_of h hp (by intro z; cases z))⟩ (line_butD hp k r)
theorem but_upd {p : Addr} {H : Hp} {o : HO} : But p H (upd H p o) := fun b' o' eb hb' => by
  rw [upd_ne hb']
  exact eb
def spItems (K : PySem.W.Frag) (C CW : Addr) : Sp := fun vs H Q E => ∃ x : V, vs = [x] ∧
  ((∃ z : Str, x = .str z ∧ z.length + 2 ≤ sizeLine ∧ Txt.split z nlS ≠ [] ∧ (Txt.split z nlS).length ≤ 100000 ∧ (∀ l ∈ Txt.split z nlS, l.length ≤ sizeLine) ∧
    (∀ its, itemsR (linesR z).length (linesR z).length (outL (linesR z) (linesR z).length) [] [] = .inl its → ∀ t xs H', Same H H' → H' t = some (.tup xs) → Paired (ItemAt K CW H') xs its → Q (.ref t) H') ∧
    (∀ l c, itemsR (linesR z).length (linesR z).length (outL (linesR z) (linesR z).length) [] [] = .inr (l, c) → flies C E H l c)) ∨
   (∃ t : Value, TyX K H x t ∧ PySem.W.kitOne K t (.type "str") = some false ∧ flies C E H 0 0))
section
variable {P : Program} {w : World} {K : PySem.W.Frag} {mg : Str → Option Value} {base : Heap} {f g C CW fI : Addr} {fd gd dI : FuncData}
abbrev sItems : Stmt := top 35
abbrev itN : List Str := ["text", "lines", "most", "out", "names", "number", "line", "name", "size"]
theorem scItems : FnScope itN ["text"] (defScope sItems) := ⟨rfl, rfl, rfl, by decide +kernel, rfl, by decide +kernel, by decide +kernel⟩
theorem ok_items {fl ft fb : Addr} {dl dt db : FuncData} (F : FnP K "items_of" sItems f fd) (TL : ToldX P w K mg base "lines_of" 3 ["text"] (spLines K C) fl dl) (TT_ : ToldX P w K mg base "title_of" 5 ["number", "line", "names"] (spTitleOf C) ft dt) (TB : ToldX P w K mg base "web_behind" 6 ["size", "lines", "most"] (spBehind K C CW) fb db)
    (mT : mg "tuple" = none) (mLen : mg "len" = none) : FnOk P w K mg base (L2.CX P w) 7 f fd ["text"] (spItems K C CW) := by
  refine F.ok scItems (fun vs H Q E h => ?_) (fun cdv A outer s H vs Q E hr h => ?_)
  · obtain ⟨x, rfl, _⟩ := h
    rfl
  · obtain ⟨x, rfl, h⟩ := h
    have hu := hu_of hr
    have hr3 : Room 3 _ := hr.mono (by decide)
    have hr5 : Room 5 _ := hr.mono (by decide)
    refine ⟨_, pss_cons (ps_asg (pe_call TL.ok hr3 (by rfl) TL.m TL.kp TL.b .nil (passes_call (takes_of rfl rfl rfl rfl) fun _ _ _ _ h => h) (pa_cons (pv 0) pa_nil)) (pg_tup (n := 2) rfl (pgs_cons (pg_name (i := 1) scItems.nd rfl (Or.inl rfl)) (pgs_cons (pg_name (i := 2) scItems.nd rfl (Or.inl rfl)) pgs_nil))))
      (pss_cons (ps_par (i := 3) (j := 4) rfl scItems.nd rfl rfl (by decide) rfl rfl (pa_cons (pe_lst pa_nil) (pa_cons pe_dnewK pa_nil)) (by rfl))
      (C8.pss_cut (ps_while (passes_of rfl) (pt_cmpR op_gt (pe_callB call_len (by rfl) mLen PySem.boot_len (pa_cons (pv 1) pa_nil)) pe_int (nomark _))
        (pss_cons (ps_asg (pe_bm PySem.F.plainAttrs_list PySem.F.slot_list_pop PySem.F.type_list_pop mt_popAt (pv 1) (pa_cons pe_int pa_nil)) (pg_tup (n := 2) rfl (pgs_cons (pg_name (i := 5) scItems.nd rfl (Or.inl rfl)) (pgs_cons (pg_name (i := 6) scItems.nd rfl (Or.inl rfl)) pgs_nil))))
        (pss_cons (ps_asg (pe_call TT_.ok hr5 (by rfl) TT_.m TT_.kp TT_.b .nil (passes_call (takes_of rfl rfl rfl rfl) fun _ _ _ _ h => h) (pa_cons (pv 5) (pa_cons (pv 6) (pa_cons (pv 4) pa_nil)))) (pg_tup (n := 2) rfl (pgs_cons (pg_name (i := 7) scItems.nd rfl (Or.inl rfl)) (pgs_cons (pg_name (i := 8) scItems.nd rfl (Or.inl rfl)) pgs_nil))))
        (pss_cons (ps_dput hu (pv 4) (pv 7) pe_bl rfl)
        (pss_one (ps_expr (pe_bm PySem.F.plainAttrs_list PySem.F.slot_list_append PySem.F.type_list_append mt_append (pv 3) (pa_cons (pe_tup (pa_cons (pv 7) (pa_cons (pe_call TB.ok hr (by rfl) TB.m TB.kp TB.b .nil (passes_call (takes_of rfl rfl rfl rfl) fun _ _ _ _ h => h) (pa_cons (pv 8) (pa_cons (pv 1) (pa_cons (pv 2) pa_nil)))) pa_nil))) pa_nil))))))))
      (pss_one (ps_ret (pe_callTy call_tuple_of (by rfl) mT (by decide +kernel) (pa_cons (pv 3) pa_nil)))))), ?_⟩
    rcases h with ⟨z, rfl, hz2, hne, hlen, hall, q, e⟩ | ⟨t, ty, kt, e⟩
    · rw [show L2.start itN [V.str z] = [some (V.str z), none, none, none, none, none, none, none, none] from rfl]
      have hsz : sizeLine = 16777216 := sizeLine_eq
      refine ⟨_, rfl, _, rfl, .inl ⟨z, rfl, hz2, hne, hlen, hall, fun t a xs H1 s1 nt na ht ha hp => ?_⟩⟩
      refine ⟨t, _, rfl, .inl (.inl ht), rfl, _, _, rfl, _, _, rfl, rfl, ?_⟩
      simp only [List.set_cons_succ, List.set_cons_zero]
      refine ⟨Nat.zero_le _, fun o no => fun d nd => ⟨_, _, rfl, ?_⟩⟩
      simp only [List.set_cons_succ, List.set_cons_zero]
      have so : Same H1 (upd H1 o (.lst [])) := same_new no
      have sd : Same (upd H1 o (.lst [])) (upd (upd H1 o (.lst [])) d (.dK [])) := same_new nd
      have noH : H o = none := s1.free no
      have ndH : H d = none := s1.free (so.free nd)
      have hao : a ≠ o := ne_of_none ha no
      have had : a ≠ d := ne_of_none (so _ _ ha) nd
      have hod : o ≠ d := ne_of_none upd_same nd
      generalize hall' : outL (linesR z) (linesR z).length = all at *
      have hallok : ∀ q ∈ all, LineOk q := fun q hq => by
        rw [← hall'] at hq
        obtain ⟨h1, h2⟩ := outL_ok q hq
        exact ⟨hall _ (lines_sub _ h1), h2⟩
      have hall1 : all.length ≤ (linesR z).length := by
        rw [← hall']
        exact outL_len _ _
      have hll : (linesR z).length ≤ 100000 := by
        refine Nat.le_trans ?_ hlen
        unfold linesR
        split
        · split
          · rw [List.length_dropLast]
            exact Nat.sub_le _ _
          · exact Nat.le_refl _
        · exact Nat.zero_le _
      generalize (linesR z).length = n0 at *
      refine ⟨fun σ' H' => ∃ (tv : List V) (its : List Item) (a5 a6 a7 a8 : Option V), σ' = [some (.str z), some (.ref a), some (.int n0), some (.ref o), some (.ref d), a5, a6, a7, a8] ∧ Same H H' ∧ H' o = some (.lst tv) ∧ Paired (ItemAt K CW H') tv its ∧ itemsR n0 n0 all [] [] = .inl its, ?_, ?_⟩
      · refine ⟨fun n σ' H' => ∃ (k : Nat) (ls : List (Int × Str)) (xs' tv : List V) (its : List Item) (told : List Str) (kvs : List (Key × V)) (a5 a6 a7 a8 : Option V), σ' = [some (.str z), some (.ref a), some (.int n0), some (.ref o), some (.ref d), a5, a6, a7, a8] ∧ Same H H' ∧ H' a = some (.lst xs') ∧
          Paired (LineAt H') xs' ls ∧ (∀ q ∈ ls, LineOk q) ∧ H' o = some (.lst tv) ∧ Paired (ItemAt K CW H') tv its ∧ H' d = some (.dK kvs) ∧ (∀ s, isKey kvs s = told.contains s) ∧ itemsR n0 n0 all [] [] = itemsR n0 k ls told its ∧ ls.length ≤ k ∧ tv.length + ls.length ≤ 100000 ∧ kvs.length + ls.length ≤ 100000 ∧ n = ls.length,
          ⟨_, n0, all, xs, [], [], [], [], none, none, none, none, rfl, s1.trans (so.trans sd), sd _ _ (so _ _ ha), line_same (so.trans sd) hp, hallok, sd _ _ upd_same, .nil, upd_same, fun s => rfl, rfl, hall1, by simp; omega, by simp; omega, rfl⟩, ?_⟩
        rintro nn σ' H' ⟨k, ls, xs', tv, its, told, kvs, a5, a6, a7, a8, rfl, sm, hA, hls, hok, hO, hit, hD, hkey, heq, hk, htl, hkl, rfl⟩
        refine ⟨_, rfl, _, xs'.length, rfl, .inl ⟨xs', .inl (.inl hA), rfl⟩, _, _, rfl, rfl, ?_⟩
        cases hls with
        | nil => exact ⟨false, congrArg V.bl (decide_eq_false (show ¬ ((0 : Nat) : Int) > 0 by decide)), iteF ⟨tv, its, _, _, _, _, rfl, sm, hO, hit, heq.trans (by cases k <;> rfl)⟩⟩
        | @cons x qz vr r hx hr =>
          obtain ⟨n, zl⟩ := qz
          obtain ⟨t1, rfl, ht1⟩ := hx
          obtain ⟨hzl, hlt⟩ := hok (n, zl) List.mem_cons_self
          have hokr : ∀ q ∈ r, LineOk q := fun q hq => hok q (List.mem_cons_of_mem _ hq)
          rw [List.length_cons] at hk htl hkl
          obtain ⟨k', rfl⟩ : ∃ k', k = k' + 1 := ⟨k - 1, by omega⟩
          have bun : itemsR n0 (k' + 1) ((n, zl) :: r) told its = match titleR zl (fun s => told.contains s) with
            | .inr w => .inr (n, (w : Int) + 1)
            | .inl (name, sz) => match behindR sz.toNat n0 r [] with
              | .inr p => .inr p
              | .inl (ties, rest) => itemsR n0 k' rest (told ++ [name]) (its ++ [(name, sz.toNat, ties)]) := rfl
          have hkf : isKey kvs = fun s => told.contains s := funext hkey
          rw [← hkf] at bun
          refine ⟨true, congrArg V.bl (decide_eq_true (show (((V.ref t1 :: vr).length : Nat) : Int) > 0 by rw [List.length_cons]; omega)), iteT ⟨fun σ2 H2 => ∃ (k : Nat) (ls : List (Int × Str)) (xs' tv : List V) (its : List Item) (told : List Str) (kvs : List (Key × V)) (a5 a6 a7 a8 : Option V), σ2 = [some (.str z), some (.ref a), some (.int n0), some (.ref o), some (.ref d), a5, a6, a7, a8] ∧ Same H H2 ∧ H2 a = some (.lst xs') ∧
            Paired (LineAt H2) xs' ls ∧ (∀ q ∈ ls, LineOk q) ∧ H2 o = some (.lst tv) ∧ Paired (ItemAt K CW H2) tv its ∧ H2 d = some (.dK kvs) ∧ (∀ s, isKey kvs s = told.contains s) ∧ itemsR n0 n0 all [] [] = itemsR n0 k ls told its ∧ ls.length ≤ k ∧ tv.length + ls.length ≤ 100000 ∧ kvs.length + ls.length ≤ 100000 ∧ ls.length < r.length + 1, ?_, ?_⟩⟩
          · rintro σ2 H2 ⟨k, ls, xs', tv, its, told, kvs, a5, a6, a7, a8, e1, e2, e3, e4, e5, e6, e7, e8, e9, e10, e11, e12, e13, e14⟩
            exact ⟨ls.length, by rw [List.length_cons]; exact e14, k, ls, xs', tv, its, told, kvs, a5, a6, a7, a8, e1, e2, e3, e4, e5, e6, e7, e8, e9, e10, e11, e12, e13, rfl⟩
          · have htp : t1 ≠ a := ne_of ht1 hA (by intro z; cases z)
            refine ⟨_, rfl, .inl ⟨rfl, _, .inl (.inl hA)⟩, a, _, 0, 0, .ref t1, rfl, rfl, hA, by decide, by decide, seq_zero _, rfl, ?_⟩
            refine ⟨t1, _, rfl, .inl (.inl (by rw [upd_ne htp]; exact ht1)), rfl, _, _, rfl, _, _, rfl, rfl, ?_⟩
            simp only [List.set_cons_succ, List.set_cons_zero]
            have kn : But a H' (upd H' a (.lst ((V.ref t1 :: vr).eraseIdx 0))) := but_upd
            have hAn : upd H' a (.lst ((V.ref t1 :: vr).eraseIdx 0)) a = some (.lst vr) := upd_same
            have hrn := line_but hA kn hr
            have hOn := kn _ _ hO (Ne.symm hao)
            have hDn := kn _ _ hD (Ne.symm had)
            have hitn := pair_but hA kn hit
            have smn : Same H (upd H' a (.lst ((V.ref t1 :: vr).eraseIdx 0))) := fun b' o' eb => kn b' o' (sm b' o' eb) (ne_of_none eb na)
            generalize upd H' a (.lst ((V.ref t1 :: vr).eraseIdx 0)) = Hn at kn hAn hrn hOn hDn hitn smn ⊢
            refine ⟨_, rfl, _, rfl, _, rfl, n, zl, d, kvs, rfl, hzl, hDn, fun nm sz hti t3 H3 s3 ht3 => ?_, fun w' hw' => flies_same (e _ _ (heq.trans (by rw [bun, hw']))) smn⟩
            rw [hti] at bun
            obtain ⟨hs1, hs12⟩ := title_size hti
            refine ⟨t3, _, rfl, .inl (.inl ht3), rfl, _, _, rfl, _, _, rfl, rfl, ?_⟩
            simp only [List.set_cons_succ, List.set_cons_zero]
            have hD3 := s3 _ _ hDn
            refine ⟨_, rfl, _, rfl, d, _, rfl, DPut.k (k := .inr nm) hD3 (by omega), ?_⟩
            have k4 : But d H3 (upd H3 d (.dK (putK kvs (.inr nm) (.bl true)))) := but_upd
            have hD4 : upd H3 d (.dK (putK kvs (.inr nm) (.bl true))) d = some (.dK (putK kvs (.inr nm) (.bl true))) := upd_same
            have hA4 := k4 _ _ (s3 _ _ hAn) had
            have hO4 := k4 _ _ (s3 _ _ hOn) hod
            have hr4' := line_butD hD3 k4 (line_same s3 hrn)
            have hit4 := pair_butD hD3 k4 (pair_same s3 hitn)
            have sm4 : Same H (upd H3 d (.dK (putK kvs (.inr nm) (.bl true)))) := fun b' o' eb => k4 b' o' (s3 b' o' (smn b' o' eb)) (ne_of_none eb ndH)
            have hpl := putK_len kvs (.inr nm) (.bl true)
            generalize upd H3 d (.dK (putK kvs (.inr nm) (.bl true))) = H4 at k4 hD4 hA4 hO4 hr4' hit4 sm4 ⊢
            have hkey4 : ∀ s, isKey (putK kvs (.inr nm) (.bl true)) s = (told ++ [nm]).contains s := fun s => by
              unfold isKey
              rw [valV_put]
              by_cases c : s = nm
              · rw [c, if_pos rfl]
                simp
              · rw [if_neg (fun h => c (Sum.inr.inj h))]
                have q1 := hkey s
                unfold isKey at q1
                rw [q1]
                simp [c]
            refine ⟨_, rfl, .inl ⟨rfl, _, .inl (.inl hO4)⟩, _, rfl, _, rfl, _, rfl, _, rfl, sz.toNat, a, n0, vr, r, (by rw [Int.toNat_of_nonneg (by omega)]; rfl), by omega, by omega, hA4, hr4', hokr, by omega, fun acc rest hbeh wv H5 xs2 dx u ys rs kb ha5 hl5 hw5 hu5 hys hsrt hperm => ⟨two_ok, fun t6 nt6 => ?_⟩, fun l c hb d' H5 kb hd' => ?_⟩
            · simp only [hbeh] at bun
              have s6 : Same H5 (upd H5 t6 (.tup [.str nm, .ref wv])) := same_new nt6
              have hO5 := kb _ _ hO4 (Ne.symm hao)
              have hO6 := s6 _ _ hO5
              have k7 : But o (upd H5 t6 (.tup [.str nm, .ref wv])) (upd (upd H5 t6 (.tup [.str nm, .ref wv])) o (.lst (tv ++ [.ref t6]))) := but_upd
              have ht6 : upd H5 t6 (.tup [.str nm, .ref wv]) t6 = some (.tup [.str nm, .ref wv]) := upd_same
              have it6 : ItemAt K CW (upd H5 t6 (.tup [.str nm, .ref wv])) (.ref t6) (nm, sz.toNat, acc) := ⟨⟨t6, wv, dx, u, ys, rs, rfl, ht6, s6 _ _ hw5, s6 _ _ hu5, dpAll_same s6 _ _ hys, hsrt, hperm⟩⟩
              have hless := behind_less hbeh
              refine ⟨o, tv, .ref t6, rfl, rfl, hO6, by omega, k', rest, xs2, tv ++ [.ref t6], its ++ [(nm, sz.toNat, acc)], told ++ [nm], _, _, _, _, _, rfl, fun b' o' eb => k7 b' o' (s6 b' o' (kb b' o' (sm4 b' o' eb) (ne_of_none eb na))) (ne_of_none eb noH), k7 _ _ (s6 _ _ ha5) hao, line_but hO6 k7 (line_same s6 hl5), fun q hq => hokr q (behind_sub hbeh q hq), upd_same,
                Paired.snoc (pair_but hO6 k7 (pair_same s6 (pair_but hA4 kb hit4))) (it6.but hO6 k7), k7 _ _ (s6 _ _ (kb _ _ hD4 (Ne.symm had))) (Ne.symm hod), hkey4, heq.trans bun, by omega, by rw [List.length_append, List.length_singleton]; omega, by omega, by omega⟩
            · simp only [hb] at bun
              exact e l c (heq.trans bun) d' H5 (fun b' o' eb => kb b' o' (sm4 b' o' eb) (ne_of_none eb na)) hd'
      · rintro σ' H' ⟨tv, its, a5, a6, a7, a8, rfl, sm, hO, hit, heq⟩
        exact ⟨_, rfl, o, tv, rfl, .inl ⟨.inl (.inl hO), fun t2 nt2 => q its heq t2 tv _ (sm.trans (same_new nt2)) upd_same (pair_same (same_new nt2) hit)⟩⟩
    · exact ⟨_, rfl, x, rfl, .inr ⟨t, ty, kt, e⟩⟩
end
end K88
/-! The draws: what a pen is, and what its three defs promise. -/
namespace K88
open PySem L2

abbrev sPen : Stmt := top 39
abbrev sDraw : Stmt := top 40
abbrev sPick : Stmt := top 41

/-- all that stood stands, but what is at p -/
def KeepBut (p : Addr) (H H' : Hp) : Prop := ∀ b o, H b = some o → b ≠ p → H' b = some o

/-! ### a pen's dict -/
def penD (l : Addr) (a d c f : Int) : List (Key × V) :=
  [(.inr "cells", .ref l), (.inr "at", .int a), (.inr "digits", .int d), (.inr "count", .int c), (.inr "fold", .int f)]
section
variable (l : Addr) (a d c f z : Int)
theorem pen_cells : valV (penD l a d c f) (.inr "cells") = some (.ref l) := by rfl
theorem pen_at : valV (penD l a d c f) (.inr "at") = some (.int a) := by rfl
theorem pen_digits : valV (penD l a d c f) (.inr "digits") = some (.int d) := by rfl
theorem pen_count : valV (penD l a d c f) (.inr "count") = some (.int c) := by rfl
theorem pen_fold : valV (penD l a d c f) (.inr "fold") = some (.int f) := by rfl
theorem put_at : putK (penD l a d c f) (.inr "at") (.int z) = penD l z d c f := by rfl
theorem put_digits : putK (penD l a d c f) (.inr "digits") (.int z) = penD l a z c f := by rfl
theorem put_count : putK (penD l a d c f) (.inr "count") (.int z) = penD l a d z f := by rfl
theorem put_fold : putK (penD l a d c f) (.inr "fold") (.int z) = penD l a d c z := by rfl
end
/-- at p stands a pen of which at most n draws were made; z: where its cells stand, and what they are -/
structure PenAt (K : PySem.W.Frag) (H : Hp) (p : Addr) (z : Addr × List Int) (n : Nat) : Prop where
  ex : ∃ (a : Nat) (d c f : Int), H p = some (.dK (penD z.1 a d c f)) ∧ SqL K H z.1 (z.2.map V.int) ∧ z.2.length ≤ 63 ∧ 0 ≤ d ∧ 0 ≤ c ∧ c ≤ n ∧ 0 ≤ f ∧ f < 2147483269
/-- what a pen's drawing promises: any number below many -/
def spDraw (K : PySem.W.Frag) : Sp := fun vs H Q _ => ∃ (p : Addr) (z : Addr × List Int) (n : Nat) (m : Int), vs = [.ref p, .int m] ∧ PenAt K H p z n ∧ n ≤ 100000 ∧ 1 ≤ m ∧ m ≤ 1000000 ∧
  ∀ (r : Int) (H' : Hp), 0 ≤ r → r < m → PenAt K H' p z (n + 1) → KeepBut p H H' → Q (.int r) H'
/-- the pen's making -/
def spPen (K : PySem.W.Frag) : Sp := fun vs H Q _ => ∃ (a : Addr) (ns : List Int), vs = [.ref a] ∧ SqL K H a (ns.map V.int) ∧ ns.length ≤ 63 ∧
  ∀ (p : Addr) (z : Addr × List Int) (H' : Hp), H p = none → PenAt K H' p z 0 → Same H H' → Q (.ref p) H'

theorem sq_keep {K : PySem.W.Frag} {H H' : Hp} {p a : Addr} {xs : List V} {kvs : List (Key × V)} (hp : H p = some (.dK kvs)) (k : KeepBut p H H') (h : SqL K H a xs) : SqL K H' a xs := by
  rcases h with (h | ⟨o, h⟩) | h
  · exact .inl (.inl (k _ _ h (ne_of h hp (by intro z; cases z))))
  · exact .inl (.inr ⟨o, k _ _ h (ne_of h hp (by intro z; cases z))⟩)
  · exact .inr h

/-! ### readings -/
section
variable {σ : L2.St} {H : Hp} {Q : VK} {p : Addr} {kvs : List (Key × V)} {k : Str} {x v : V} {i : Nat} {D : Ends}
theorem r_dg (hs : σ[i]? = some (some (.ref p))) (h : H p = some (.dK kvs)) (e : valV kvs (.inr k) = some x) (q : Q x H) : tDGet (tVar i) (tC (.str k)) σ H Q :=
  ⟨_, hs, p, x, rfl, .inl ⟨kvs, .inr k, Rd.of h, rfl, e.symm⟩, q⟩
theorem r_dp (hs : σ[i]? = some (some (.ref p))) (h : H p = some (.dK kvs)) (hl : kvs.length < 100) (q : D.nx σ (upd H p (.dK (putK kvs (.inr k) v)))) :
    tVar i σ H fun x H2 => tC (.str k) σ H2 fun y H3 => ∃ a H4, x = .ref a ∧ DPut H3 a y v H4 ∧ D.nx σ H4 :=
  ⟨_, hs, p, _, rfl, DPut.k (k := Sum.inr k) h (Nat.lt_of_lt_of_le hl (by decide)), q⟩
end

section
variable {P : Program} {w : World} {K : PySem.W.Frag} {mg : Str → Option Value} {base : Heap} {f : Addr} {fd : FuncData}

theorem scDraw : FnScope ["pen", "many", "cell", "digit", "blend"] ["pen", "many"] (defScope sDraw) := ⟨rfl, rfl, rfl, by decide +kernel, rfl, by decide +kernel, by decide +kernel⟩


theorem keepBut_upd {p : Addr} {H : Hp} {o : HO} : KeepBut p H (upd H p o) := fun b u e n => by
  rw [upd_ne n]
  exact e
theorem KeepBut.trans {p : Addr} {H H1 H2 : Hp} (a : KeepBut p H H1) (b : KeepBut p H1 H2) : KeepBut p H H2 := fun c o e n => b c o (a c o e n) n
theorem KeepBut.refl (p : Addr) (H : Hp) : KeepBut p H H := fun _ _ e _ => e

theorem ok_draw (F : FnP K "_law_draw" sDraw f fd) (mLen : mg "len" = none) (mInt : mg "int" = none) : FnOk P w K mg base CX0 1 f fd ["pen", "many"] (spDraw K) := by
  refine F.ok scDraw (fun vs H Q E h => ?_) (fun cdv A outer s H vs Q E hr h => ?_)
  · obtain ⟨p, z, n, m, rfl, _⟩ := h
    rfl
  · obtain ⟨p, ⟨l, ns⟩, n, m, rfl, S, hn, hm1, hm2, k⟩ := h
    have hu := hu_of hr
    obtain ⟨⟨a, d, c, fo, hp, hl, hlen, hd, hc, hcn, hf0, hf1⟩⟩ := S
    replace hp : H p = some (.dK (penD l a d c fo)) := hp
    replace hl : SqL K H l (ns.map V.int) := hl
    replace hlen : ns.length ≤ 63 := hlen
    refine ⟨_, PSs.nox (pss_cons (ps_dput hu (pv 0) pe_str (pe_op op_add (pe_dget hu (pv 0) pe_str (fun _ _ => rfl)) pe_int) rfl)
      (C8.pss_cut (ps_if (PW.pt (pw_and (pt_cmpR op_eq (pe_dget hu (pv 0) pe_str (fun _ _ => rfl)) pe_int (nomark _))
            (pw_and1 (pt_cmpR op_lt (pe_dget hu (pv 0) pe_str (fun _ _ => rfl)) (pe_callB call_len (by rfl) mLen PySem.boot_len (pa_cons (pe_dget hu (pv 0) pe_str (fun _ _ => rfl)) pa_nil)) (nomark _)))))
          (pss_cons (ps_set (i := 2) scDraw.nd rfl (Or.inl rfl) (pe_ix ix_list (pe_dget hu (pv 0) pe_str (fun _ _ => rfl)) (pe_dget hu (pv 0) pe_str (fun _ _ => rfl)) (fun _ _ => rfl)))
          (pss_cons (ps_dput hu (pv 0) pe_str (pe_op op_add (pe_dget hu (pv 0) pe_str (fun _ _ => rfl)) pe_int) rfl)
          (pss_one (ps_if (pt_cmpR op_ge (pv 2) (pe_op op_pow pe_int pe_int) (nomark _))
            (pss_one (ps_dput hu (pv 0) pe_str (pe_op op_sub (pv 2) (pe_op op_pow pe_int pe_int)) rfl))
            (pss_one (ps_dput hu (pv 0) pe_str (pe_op op_mod (pe_callTy call_int1 (by rfl) mInt (by decide +kernel) (pa_cons (pe_op op_add (pe_op op_mul (pe_dget hu (pv 0) pe_str (fun _ _ => rfl)) pe_int) (pv 2)) pa_nil)) pe_int) rfl))))))
          pss_nil)
      (pss_cons (ps_if (pt_cmpR op_gt (pe_dget hu (pv 0) pe_str (fun _ _ => rfl)) pe_int (nomark _))
          (pss_cons (ps_set (i := 3) scDraw.nd rfl (Or.inl rfl) (pe_op op_mod (pe_callTy call_int1 (by rfl) mInt (by decide +kernel) (pa_cons (pe_dget hu (pv 0) pe_str (fun _ _ => rfl)) pa_nil)) (pv 1)))
          (pss_cons (ps_dput hu (pv 0) pe_str (pe_op op_fdiv (pe_dget hu (pv 0) pe_str (fun _ _ => rfl)) (pv 1)) rfl)
          (pss_one (ps_ret (pv 3)))))
          pss_nil)
      (pss_cons (ps_set (i := 4) scDraw.nd rfl (Or.inl rfl) (pe_op op_add (pe_op op_add (pe_dget hu (pv 0) pe_str (fun _ _ => rfl)) (pe_op op_mul (pe_dget hu (pv 0) pe_str (fun _ _ => rfl)) pe_int)) pe_int))
      (pss_one (ps_ret (pe_op op_mod (pe_op op_fdiv (pe_callTy call_int1 (by rfl) mInt (by decide +kernel) (pa_cons (pe_op op_mod (pe_op op_pow (pv 4) pe_int) pe_int) pa_nil)) pe_int) (pv 1)))))))), ?_⟩
    have npl : ∀ {x : Addr} {xs : List V}, SqL K H x xs → ∀ kvs, SqL K (upd H p (.dK kvs)) x xs := fun h kvs => sq_keep hp keepBut_upd h
    -- pen["count"] = pen["count"] + 1
    refine r_dg rfl hp (pen_count _ _ _ _ _) ⟨_, _, rfl, rfl, ?_⟩
    refine r_dp rfl hp (by show 5 < 100; decide) ?_
    rw [put_count]
    generalize h1 : upd H p (.dK (penD l a d (c + 1) fo)) = H1
    have hp1 : H1 p = some (.dK (penD l a d (c + 1) fo)) := by
      rw [← h1]
      exact upd_same
    have k1 : KeepBut p H H1 := by
      rw [← h1]
      exact keepBut_upd
    have hl1 : SqL K H1 l (ns.map V.int) := sq_keep hp k1 hl
    -- behind the reading of a cell: any digits, any fold below its bound
    refine ⟨fun σ2 H2 => ∃ (v2 : Option V) (a2 : Nat) (d2 f2 : Int), σ2 = [some (.ref p), some (.int m), v2, none, none] ∧ H2 p = some (.dK (penD l a2 d2 (c + 1) f2)) ∧ KeepBut p H1 H2 ∧ 0 ≤ d2 ∧ 0 ≤ f2 ∧ f2 < 2147483269, ?_, ?_⟩
    · refine r_dg rfl hp1 (pen_digits _ _ _ _ _) ⟨rfl, _, rfl, ?_⟩
      have same : ∃ (v2 : Option V) (a2 : Nat) (d2 f2 : Int), ([some (.ref p), some (.int m), none, none, none] : L2.St) = [some (.ref p), some (.int m), v2, none, none] ∧ H1 p = some (.dK (penD l a2 d2 (c + 1) f2)) ∧ KeepBut p H1 H1 ∧ 0 ≤ d2 ∧ 0 ≤ f2 ∧ f2 < 2147483269 :=
        ⟨none, a, d, fo, rfl, hp1, KeepBut.refl _ _, hd, hf0, hf1⟩
      cases e0 : decide (V.int d = V.int 0) with
      | false => exact iteF (iteF same)
      | true =>
        refine iteT ?_
        refine r_dg rfl hp1 (pen_at _ _ _ _ _) ?_
        refine r_dg rfl hp1 (pen_cells _ _ _ _ _) ⟨_, (ns.map V.int).length, rfl, .inl ⟨_, hl1, rfl⟩, _, _, rfl, rfl, _, rfl, ?_⟩
        rw [List.length_map]
        by_cases ha : (a : Int) < (ns.length : Int)
        · rw [decide_eq_true ha]
          refine iteT ?_
          have ha2 : a < ns.length := by omega
          refine r_dg rfl hp1 (pen_cells _ _ _ _ _) ?_
          refine r_dg rfl hp1 (pen_at _ _ _ _ _) ⟨l, ns.map V.int, (a : Int), .int ns[a], rfl, rfl, hl1, ?_, ?_⟩
          · exact atI_nat (by rw [List.getElem?_map, List.getElem?_eq_getElem ha2]; rfl)
          refine r_dg rfl hp1 (pen_at _ _ _ _ _) ⟨_, _, rfl, rfl, ?_⟩
          refine r_dp rfl hp1 (by show 5 < 100; decide) ?_
          rw [put_at]
          generalize h2 : upd H1 p (.dK (penD l ((a : Int) + 1) d (c + 1) fo)) = H2
          have hp2 : H2 p = some (.dK (penD l ((a : Int) + 1) d (c + 1) fo)) := by
            rw [← h2]
            exact upd_same
          have k2 : KeepBut p H1 H2 := by
            rw [← h2]
            exact keepBut_upd
          have ea : ((a : Int) + 1) = ((a + 1 : Nat) : Int) := by omega
          refine ⟨_, rfl, _, _, rfl, rfl, ⟨by decide, by decide, by decide⟩, _, _, rfl, rfl, _, rfl, ?_⟩
          refine ite2 (fun hge => ?_) (fun _ => ?_)
          · refine ⟨_, rfl, _, _, rfl, rfl, ⟨by decide, by decide, by decide⟩, _, _, rfl, rfl, ?_⟩
            refine r_dp rfl hp2 (by show 5 < 100; decide) ?_
            rw [put_digits, ea]
            have hg := of_decide_eq_true hge
            exact ⟨_, a + 1, _, fo, rfl, upd_same, k2.trans keepBut_upd, by omega, hf0, hf1⟩
          · refine r_dg rfl hp2 (pen_fold _ _ _ _ _) ⟨_, _, rfl, rfl, .inl ⟨by omega, by omega⟩, _, rfl, _, _, rfl, rfl, .inl ⟨_, rfl, _, _, rfl, rfl, (by show (0 : Int) < 2147483269; decide), ?_⟩⟩
            refine r_dp rfl hp2 (by show 5 < 100; decide) ?_
            rw [put_fold, ea]
            exact ⟨_, a + 1, d, _, rfl, upd_same, k2.trans keepBut_upd, hd, Int.emod_nonneg _ (by decide), Int.emod_lt_of_pos _ (by decide)⟩
        · rw [decide_eq_false ha]
          exact iteF same
    · rintro σ2 H2 ⟨v2, a2, d2, f2, rfl, hp2, k2, hd2, hf2, hg2⟩
      have K2 : KeepBut p H H2 := k1.trans k2
      have hl2 : SqL K H2 l (ns.map V.int) := sq_keep hp K2 hl
      have pen2 : ∀ (H3 : Hp) (d3 : Int), H3 p = some (.dK (penD l a2 d3 (c + 1) f2)) → KeepBut p H2 H3 → 0 ≤ d3 → PenAt K H3 p (l, ns) (n + 1) := fun H3 d3 e k3 h3 =>
        ⟨⟨a2, d3, c + 1, f2, e, sq_keep hp2 k3 hl2, hlen, h3, by omega, by omega, hf2, hg2⟩⟩
      have hm0 : (0 : Int) < m := by omega
      refine r_dg rfl hp2 (pen_digits _ _ _ _ _) ⟨_, _, rfl, rfl, _, rfl, ?_⟩
      refine ite2 (fun _ => ?_) (fun _ => ?_)
      · refine r_dg rfl hp2 (pen_digits _ _ _ _ _) (.inl ⟨_, rfl, _, rfl, _, _, rfl, rfl, hm0, ?_⟩)
        refine r_dg rfl hp2 (pen_digits _ _ _ _ _) ⟨_, rfl, _, _, rfl, rfl, ⟨hm0, by omega⟩, ?_⟩
        refine r_dp rfl hp2 (by show 5 < 100; decide) ?_
        rw [put_digits]
        refine ⟨_, rfl, ?_⟩
        exact k _ _ (Int.emod_nonneg _ (by omega)) (Int.emod_lt_of_pos _ hm0) (pen2 _ _ upd_same keepBut_upd (Int.ediv_nonneg hd2 (by omega))) (K2.trans keepBut_upd)
      · refine r_dg rfl hp2 (pen_fold _ _ _ _ _) ?_
        refine r_dg rfl hp2 (pen_count _ _ _ _ _) ⟨_, _, rfl, rfl, .inl ⟨by omega, by omega⟩, _, _, rfl, rfl, _, _, rfl, rfl, ?_⟩
        refine ⟨_, rfl, _, _, rfl, rfl, ⟨by decide, by decide, ?_⟩, _, _, rfl, rfl, (by show (0 : Int) < 2305843009213693951; decide), .inl ⟨_, rfl, _, _, rfl, rfl, ⟨by decide, by decide⟩, _, rfl, _, _, rfl, rfl, hm0, ?_⟩⟩
        · show (f2 + (c + 1) * 7351 + 97).natAbs < 2 ^ 64
          omega
        exact k _ _ (Int.emod_nonneg _ (by omega)) (Int.emod_lt_of_pos _ hm0) (pen2 _ _ hp2 (KeepBut.refl _ _) hd2) K2

/-! ### picking -/
def spPick (K : PySem.W.Frag) : Sp := fun vs H Q _ => ∃ (p l : Addr) (z : Addr × List Int) (n : Nat) (xs : List V), vs = [.ref p, .ref l] ∧ PenAt K H p z n ∧ n ≤ 100000 ∧ SqL K H l xs ∧ 1 ≤ xs.length ∧ xs.length ≤ 1000000 ∧
  ∀ (v : V) (H' : Hp), v ∈ xs → PenAt K H' p z (n + 1) → KeepBut p H H' → Q v H'
theorem PenAt.dict {K : PySem.W.Frag} {H : Hp} {p : Addr} {z : Addr × List Int} {n : Nat} (h : PenAt K H p z n) : ∃ kvs, H p = some (.dK kvs) := by
  obtain ⟨⟨a, d, c, fo, hp, _⟩⟩ := h
  exact ⟨_, hp⟩
theorem sq_pen {K : PySem.W.Frag} {H H' : Hp} {p a : Addr} {z : Addr × List Int} {n : Nat} {xs : List V} (h : PenAt K H p z n) (k : KeepBut p H H') (q : SqL K H a xs) : SqL K H' a xs := by
  obtain ⟨kvs, e⟩ := h.dict
  exact sq_keep e k q
theorem scPick : FnScope ["pen", "some"] ["pen", "some"] (defScope sPick) := ⟨rfl, rfl, rfl, by decide +kernel, rfl, by decide +kernel, by decide +kernel⟩
theorem ok_pick {fD : Addr} {fdD : FuncData} (F : FnP K "_law_pick" sPick f fd) (FD : FnP K "_law_draw" sDraw fD fdD) (mLen : mg "len" = none) (mInt : mg "int" = none) (mD : mg "_law_draw" = some (.ref fD)) :
    FnOk P w K mg base CX0 2 f fd ["pen", "some"] (spPick K) := by
  have GD : FnOk P w K mg base CX0 1 fD fdD ["pen", "many"] (spDraw K) := ok_draw FD mLen mInt
  have bD : Binds K fdD ["pen", "many"] [] := FD.bindsN fun _ _ _ _ _ _ us hl => match us, hl with | [_, _], _ => rfl
  refine F.ok scPick (fun vs H Q E h => ?_) (fun cdv A outer s H vs Q E hr h => ?_)
  · obtain ⟨p, l, z, n, xs, rfl, _⟩ := h
    rfl
  · obtain ⟨p, l, z, n, xs, rfl, S, hn, hl, h1, h2, k⟩ := h
    refine ⟨_, PSs.nox (pss_one (ps_ret (pe_ix ix_list (pv 1) (pe_call GD hr (by rfl) mD FD.kp bD .nil pass0 (pa_cons (pv 0) (pa_cons (pe_callB call_len (by rfl) mLen PySem.boot_len (pa_cons (pv 1) pa_nil)) pa_nil))) (fun _ _ => rfl)))), ?_⟩
    refine ⟨_, rfl, _, rfl, _, rfl, _, xs.length, rfl, .inl ⟨_, hl, rfl⟩, ?_⟩
    refine ⟨p, z, n, _, rfl, S, hn, by omega, by omega, fun r H' hr0 hr1 S' k' => ?_⟩
    obtain ⟨j, rfl⟩ : ∃ j : Nat, r = (j : Int) := ⟨r.toNat, by omega⟩
    have hj : j < xs.length := by omega
    refine ⟨l, xs, (j : Int), xs[j], rfl, rfl, sq_pen S k' hl, atI_nat (List.getElem?_eq_getElem hj), ?_⟩
    exact k _ _ (List.getElem_mem hj) S' k'
/-! ### the pen's making -/
theorem scPen : FnScope ["script", "fold", "cell"] ["script"] (defScope sPen) := ⟨rfl, rfl, rfl, by decide +kernel, rfl, by decide +kernel, by decide +kernel⟩
theorem ok_pen (F : FnP K "_law_pen" sPen f fd) (mInt : mg "int" = none) (mList : mg "list" = none) : FnOk P w K mg base CX0 1 f fd ["script"] (spPen K) := by
  refine F.ok scPen (fun vs H Q E h => ?_) (fun cdv A outer s H vs Q E hr h => ?_)
  · obtain ⟨a, ns, rfl, _⟩ := h
    rfl
  · obtain ⟨a, ns, rfl, hS, hlen, k⟩ := h
    refine ⟨_, PSs.nox (pss_cons (ps_set (i := 1) scPen.nd rfl (Or.inl rfl) pe_int)
      (pss_cons (ps_for PassesOwn.never rfl (pi_list (pv 0)) (pg_name (i := 2) scPen.nd rfl (Or.inl rfl))
        (pss_one (ps_set (i := 1) scPen.nd rfl (Or.inl rfl) (pe_op op_mod (pe_callTy call_int1 (by rfl) mInt (by decide +kernel) (pa_cons (pe_op op_add (pe_op op_mul (pv 1) pe_int) (pv 2)) pa_nil)) pe_int))))
      (pss_one (ps_ret (pe_disp (pps_cons pe_str (pe_callTy call_list_of (by rfl) mList (by decide +kernel) (pa_cons (pv 0) pa_nil)) (pps_cons pe_str pe_int (pps_cons pe_str pe_int (pps_cons pe_str pe_int (pps_cons pe_str (pv 1) pps_nil))))) (by rfl) (by rfl) (fun z => by cases z) (by decide)))))), ?_⟩
    refine ⟨_, rfl, a, rfl, ⟨_, hS⟩, for_list (K := K) (a := a) (xs := ns.map V.int) (fun i σ H2 => ∃ (v : Int) (c : Option V), σ = [some (.ref a), some (.int v), c] ∧ H2 = H ∧ 0 ≤ v ∧ v < 999999587)
      ⟨0, none, rfl, rfl, by decide, by decide⟩ (fun i σ H2 _ h => ?_) ?_ ?_⟩
    · obtain ⟨_, _, _, rfl, _⟩ := h
      exact hS
    · rintro i y σ H2 hi ⟨v, c, rfl, rfl, h0, h1⟩
      obtain ⟨z, rfl⟩ : ∃ z, y = V.int z := by
        rw [List.getElem?_map] at hi
        cases e : ns[i]? with
        | none =>
          rw [e] at hi
          cases hi
        | some z =>
          rw [e] at hi
          exact ⟨z, (Option.some.inj hi).symm⟩
      refine ⟨_, rfl, _, _, rfl, rfl, .inl ⟨by omega, by omega⟩, _, rfl, _, _, rfl, rfl, .inl ⟨_, rfl, _, _, rfl, rfl, (by show (0 : Int) < 999999587; decide), ?_⟩⟩
      exact ⟨_, _, rfl, rfl, Int.emod_nonneg _ (by decide), Int.emod_lt_of_pos _ (by decide)⟩
    · rintro σ H2 ⟨v, c, rfl, rfl, h0, h1⟩
      refine fun p np => ?_
      have sU : Same H2 (upd H2 p (.dK [])) := fun b o e => by
        rw [upd_ne (ne_of_none e np)]
        exact e
      refine ⟨_, rfl, a, ns.map V.int, rfl, .inl (sU.seq hS), fun l nl => ?_⟩
      have npl : p ≠ l := ne_of_none upd_same nl
      refine ⟨_, rfl, ⟨by rw [upd_ne npl]; exact upd_same, [(.inr "cells", .ref l), (.inr "at", .int 0), (.inr "digits", .int 0), (.inr "count", .int 0), (.inr "fold", .int v)], rfl, (by show 5 ≤ 15; decide), ?_⟩⟩
      have hl0 : H2 l = none := sU.free nl
      refine k p (l, ns) _ np ⟨⟨0, 0, 0, v, upd_same, .inl (.inl ?_), hlen, by decide, by decide, by decide, h0, by omega⟩⟩ fun b o e => ?_
      · rw [upd_ne npl.symm]
        exact upd_same
      · rw [upd_ne (ne_of_none e np), upd_ne (ne_of_none e hl0), upd_ne (ne_of_none e np)]
        exact e
end
theorem PenAt.same {K : PySem.W.Frag} {H H' : Hp} {p : Addr} {z : Addr × List Int} {n : Nat} (h : PenAt K H p z n) (e : Same H H') : PenAt K H' p z n := by
  obtain ⟨⟨a, d, c, fo, hp, hl, r⟩⟩ := h
  exact ⟨⟨a, d, c, fo, e _ _ hp, e.seq hl, r⟩⟩
/-- a thing that is newer than the pen is stored -/
theorem PenAt.other {K : PySem.W.Frag} {H H' : Hp} {p q : Addr} {z : Addr × List Int} {n m : Nat} {o : HO} (h0 : PenAt K H p z n) (nq : H q = none) (h : PenAt K H' p z m) : PenAt K (upd H' q o) p z m := by
  obtain ⟨⟨_, _, _, _, hp0, hl0, _⟩⟩ := h0
  obtain ⟨⟨a, d, c, fo, hp, hl, r⟩⟩ := h
  refine ⟨⟨a, d, c, fo, by rw [upd_ne (ne_of_none hp0 nq)]; exact hp, ?_, r⟩⟩
  have far : ∀ {u : HO}, H z.1 = some u → SqL K (upd H' q o) z.1 (z.2.map V.int) := fun e => by
    have ne := ne_of_none e nq
    rcases hl with (hl | ⟨o, hl⟩) | hl
    · exact .inl (.inl (by rw [upd_ne ne]; exact hl))
    · exact .inl (.inr ⟨o, by rw [upd_ne ne]; exact hl⟩)
    · exact .inr hl
  rcases hl0 with (h | ⟨_, h⟩) | h
  · exact far h
  · exact far h
  · exact .inr h
end K88
/-! web_key. -/
namespace K88
open PySem L2
def spKey (C : Addr) : Sp := fun vs H Q _ => ∃ (a dx u : Addr) (m : Nat), vs = [.ref a] ∧ H a = some (.ins C dx (webFs m u)) ∧ ∀ t, H t = none → Q (.ref t) (upd H t (.tup [.int m, .ref u]))
section
variable {P : Program} {w : World} {K : PySem.W.Frag} {mg : Str → Option Value} {base : Heap} {f C : Addr} {fd : FuncData}
abbrev sKey : Stmt := top 25
theorem scKey : FnScope ["web"] ["web"] (defScope sKey) := ⟨rfl, rfl, rfl, by decide +kernel, rfl, by decide +kernel, by decide +kernel⟩
theorem ok_key (F : FnP K "web_key" sKey f fd) (cl : Cls K C) (n1 : NoAttr K C "size") (n2 : NoAttr K C "ties") : FnOk P w K mg base CX0 1 f fd ["web"] (spKey C) := by
  refine F.ok scKey (fun vs H Q E h => ?_) (fun cdv A outer s H vs Q E hr h => ?_)
  · obtain ⟨a, dx, u, m, rfl, _⟩ := h
    rfl
  · obtain ⟨a, dx, u, m, rfl, ha, q⟩ := h
    exact ⟨_, PSs.nox (pss_one (ps_ret (pe_tup (pa_cons (pe_fld (pv 0) rfl) (pa_cons (pe_fld (pv 0) rfl) pa_nil))))), _, rfl, a, C, dx, _, _, rfl, ha, cl, n1, rfl, _, rfl, a, C, dx, _, _, rfl, ha, cl, n2, rfl, two_ok, q⟩
end
end K88
/-! Web.__eq__ of two webs of the same size and ties. -/
namespace K88
open PySem L2
abbrev webD (m : Nat) (rs : List (Int × Int)) : PyData := .tuple [.int m, .tuple (rs.map pairD)]
theorem pairs_shaped : ∀ rs : List (Int × Int), PyData.canLayAll0 (rs.map pairD) = true ∧ PyData.depthAll (rs.map pairD) ≤ 2
  | [] => ⟨rfl, by decide⟩
  | q :: rs => by
    obtain ⟨h1, h2⟩ := pairs_shaped rs
    refine ⟨?_, ?_⟩
    · simp only [List.map_cons, PyData.canLayAll0, PyData.canLay0, h1, Bool.and_self]
    · simp only [List.map_cons, PyData.depthAll, PyData.depth]
      omega
theorem web_shaped (m : Nat) (rs : List (Int × Int)) : SeqAt.shaped (webD m rs) = true := by
  obtain ⟨h1, h2⟩ := pairs_shaped rs
  unfold SeqAt.shaped
  refine Bool.and_eq_true_iff.mpr ⟨?_, decide_eq_true ?_⟩
  · simp only [PyData.canLay0, PyData.canLayAll0, h1, Bool.and_self]
  · simp only [PyData.depth, PyData.depthAll]
    omega
/-- two webs of one size, of the same ties -/
def SameWeb (K : PySem.W.Frag) (C : Addr) (a b : Addr) (H : Hp) : Prop := ∃ (dx dy u u2 : Addr) (m : Nat) (rs : List (Int × Int)), H a = some (.ins C dx (webFs m u)) ∧ H b = some (.ins C dy (webFs m u2)) ∧ Dp K H (.ref u) (.tuple (rs.map pairD)) ∧ Dp K H (.ref u2) (.tuple (rs.map pairD))
section
variable {P : Program} {w : World} {K : PySem.W.Frag} {mg : Str → Option Value} {base : Heap} {f g C : Addr} {fd gd : FuncData}
abbrev sWebEq : Stmt := inClass (top 23) 1
theorem scWebEq : FnScope ["self", "other"] ["self", "other"] (defScope sWebEq) := ⟨rfl, rfl, rfl, by decide +kernel, rfl, by decide +kernel, by decide +kernel⟩
theorem ok_web_eq (F : FunD K "__eq__" "Web.__eq__" (defArgs sWebEq) (defBody sWebEq) (defScope sWebEq) [] [] f fd) (T : Told P w K mg base "web_key" 1 ["web"] (spKey C) g gd) (cI : C8.InsC K C) (mI : mg "isinstance" = none) (mW : mg "Web" = some (.ref C)) : FnOk P w K mg base CX0 2 f fd ["self", "other"] (spEq (SameWeb K C)) := by
  refine F.ok scWebEq (fun vs H Q E h => ?_) (fun cdv A outer s H vs Q E hr h => ?_)
  · obtain ⟨a, b, rfl, _⟩ := h
    rfl
  · obtain ⟨a, b, rfl, ⟨dx, dy, u, u2, m, rs, ha, hb, hu1, hu2⟩, q⟩ := h
    refine ⟨_, PSs.nox (pss_one (ps_ret (pe_and (pe_callB (C8.call_isC cI) (by rfl) mI (by decide +kernel) (pa_cons (pv 1) (pa_cons (pe_glob (v := .ref C) (by rfl) mW rfl) pa_nil)))
      (pe_one (pe_cmpR (op_eqD hr.units) (pe_call T.ok hr (by rfl) T.m T.kp T.b .nil pass0 (pa_cons (pv 0) pa_nil)) (pe_call T.ok hr (by rfl) T.m T.kp T.b .nil pass0 (pa_cons (pv 1) pa_nil)) (nomark _)))))), ?_⟩
    refine ⟨_, rfl, b, dy, _, rfl, hb, true, rfl, iteT ⟨_, rfl, a, dx, u, m, rfl, ha, fun t1 n1 => ?_⟩⟩
    have s1 : Same H (upd H t1 (.tup [.int m, .ref u])) := same_new n1
    refine ⟨_, rfl, b, dy, u2, m, rfl, s1 _ _ hb, fun t2 n2 => ?_⟩
    have s2 : Same (upd H t1 (.tup [.int m, .ref u])) (upd (upd H t1 (.tup [.int m, .ref u])) t2 (.tup [.int m, .ref u2])) := same_new n2
    have s12 := s1.trans s2
    refine ⟨webD m rs, webD m rs, .tup (.inl (.inl (s2 _ _ upd_same))) (.cons (.int _) (.cons (dp_same s12 _ _ hu1) .nil)), .tup (.inl (.inl upd_same)) (.cons (.int _) (.cons (dp_same s12 _ _ hu2) .nil)), web_shaped m rs, web_shaped m rs, ?_⟩
    rw [SeqAt.eqv_refl (webD m rs) (SeqAt.canLay_of_shaped (web_shaped m rs))]
    exact q _ s12
end
end K88
/-! Line by line, as the law reads: the same as the program's. -/
namespace K88
open PySem L2

/-- what is found, and what is being made -/
abbrev LSt : Type := List Item × Option Item
def stepN (n : Int) (z : Str) (found : List Item) : LSt ⊕ (Int × Int) := match titleR z (fun s => (found.map (·.1)).contains s) with
  | .inr w => .inr (n, (w : Int) + 1)
  | .inl (name, sz) => .inl (found, some (name, sz.toNat, []))
def stepS (n : Int) (z : Str) (found : List Item) (nm : Str) (m : Nat) (ts : List (Int × Int)) : LSt ⊕ (Int × Int) :=
    if z.cps.toList[run z spaceS 0]? = some 101 then (match endR z with
      | some w => .inr (n, (w : Int) + 1)
      | none => .inl (found ++ [(nm, m, ts)], none))
    else if z.cps.toList[run z spaceS 0]? = some 116 ∧ 1 < m ∧ ts.length < 40 then (match tieR z m with
      | .inr w => .inr (n, (w : Int) + 1)
      | .inl (a, b) => .inl (found, some (nm, m, ts ++ [((a : Int), (b : Int))])))
    else .inr (n, (run z spaceS 0 : Nat) + 1)
def stepL (n : Int) (z : Str) : LSt → LSt ⊕ (Int × Int)
  | (found, none) => stepN n z found
  | (found, some (nm, m, ts)) => stepS n z found nm m ts
def lapsL : List (Int × Str) → LSt → LSt ⊕ (Int × Int)
  | [], s => .inl s
  | (n, z) :: ls, s => match stepL n z s with
    | .inr p => .inr p
    | .inl s' => lapsL ls s'
def finL (most : Int) : LSt ⊕ (Int × Int) → List Item ⊕ (Int × Int)
  | .inr p => .inr p
  | .inl (found, none) => .inl found
  | .inl (_, some _) => .inr (most + 1, 1)
theorem laps_snoc (n : Int) (z : Str) : ∀ (ls : List (Int × Str)) (s : LSt), lapsL (ls ++ [(n, z)]) s = match lapsL ls s with
    | .inr p => .inr p
    | .inl s' => stepL n z s'
  | [], s => by
    show (match stepL n z s with | .inr p => Sum.inr p | .inl s' => lapsL [] s') = stepL n z s
    cases stepL n z s <;> rfl
  | (n', z') :: ls, s => by
    show (match stepL n' z' s with | .inr p => Sum.inr p | .inl s' => lapsL (ls ++ [(n, z)]) s') = _
    rw [show lapsL ((n', z') :: ls) s = (match stepL n' z' s with | .inr p => Sum.inr p | .inl s' => lapsL ls s') from rfl]
    cases stepL n' z' s with
    | inr p => rfl
    | inl s' => exact laps_snoc n z ls s'
theorem behind_laps {most : Int} {found : List Item} {nm : Str} {m : Nat} : ∀ {ls : List (Int × Str)} {acc : List (Int × Int)}, acc.length ≤ 40 →
    finL most (lapsL ls (found, some (nm, m, acc))) = match behindR m most ls acc with
    | .inr p => .inr p
    | .inl (ties, rest) => finL most (lapsL rest (found ++ [(nm, m, ties)], none))
  | [], acc, h => rfl
  | (n, z) :: ls, acc, h => by
    rw [show lapsL ((n, z) :: ls) (found, some (nm, m, acc)) = (match stepS n z found nm m acc with | .inr p => Sum.inr p | .inl s' => lapsL ls s') from rfl]
    unfold behindR stepS
    by_cases c1 : z.cps.toList[run z spaceS 0]? = some 101
    · simp only [if_pos c1]
      cases endR z <;> rfl
    · simp only [if_neg c1]
      by_cases c2 : z.cps.toList[run z spaceS 0]? = some 116 ∧ 1 < m ∧ acc.length < 40
      · rw [if_pos c2, if_neg (show ¬ (z.cps.toList[run z spaceS 0]? ≠ some 116 ∨ acc.length = 40 ∨ m < 2) by
          rintro (h1 | h1 | h1)
          · exact h1 c2.1
          · omega
          · omega)]
        cases tieR z m with
        | inr w => rfl
        | inl p =>
          obtain ⟨a, b⟩ := p
          exact behind_laps (by rw [List.length_append, List.length_singleton]; omega)
      · rw [if_neg c2, if_pos (show z.cps.toList[run z spaceS 0]? ≠ some 116 ∨ acc.length = 40 ∨ m < 2 by
          by_cases h1 : z.cps.toList[run z spaceS 0]? = some 116
          · by_cases h2 : 1 < m
            · by_cases h3 : acc.length < 40
              · exact absurd ⟨h1, h2, h3⟩ c2
              · exact .inr (.inl (by omega))
            · exact .inr (.inr (by omega))
          · exact .inl h1)]
        rfl
theorem items_laps {most : Int} : ∀ {k : Nat} {ls : List (Int × Str)} {found : List Item}, ls.length ≤ k → finL most (lapsL ls (found, none)) = itemsR most k ls (found.map (·.1)) found
  | k, [], found, _ => by cases k <;> rfl
  | 0, _ :: _, _, h => absurd h (Nat.not_succ_le_zero _)
  | k + 1, (n, z) :: ls, found, h => by
    rw [show lapsL ((n, z) :: ls) (found, none) = (match stepN n z found with | .inr p => Sum.inr p | .inl s' => lapsL ls s') from rfl]
    unfold itemsR stepN
    cases titleR z (fun s => (found.map (·.1)).contains s) with
    | inr w => rfl
    | inl p =>
      obtain ⟨name, sz⟩ := p
      show finL most (lapsL ls (found, some (name, sz.toNat, []))) = _
      rw [behind_laps (Nat.zero_le _)]
      show _ = (match behindR sz.toNat most ls [] with | .inr p => Sum.inr p | .inl (ties, rest) => itemsR most k rest (found.map (fun (x : Item) => x.1) ++ [name]) (found ++ [(name, sz.toNat, ties)]))
      cases hb : behindR sz.toNat most ls [] with
      | inr p => rfl
      | inl q =>
        obtain ⟨ties, rest⟩ := q
        have hl := behind_less hb
        rw [List.length_cons] at h
        show finL most (lapsL rest (found ++ [(name, sz.toNat, ties)], none)) = _
        rw [items_laps (k := k) (by omega), List.map_append]
        rfl
/-- the law's own reading of a text -/
def readL (ls : List Str) : List Item ⊕ (Int × Int) := finL ls.length (lapsL (outL ls ls.length) ([], none))
theorem read_items (z : Str) : readL (linesR z) = itemsR (linesR z).length (linesR z).length (outL (linesR z) (linesR z).length) [] [] := items_laps (outL_len _ _)
/-! ### what is read is right -/
def ItemOk (q : Item) : Prop := 1 ≤ q.2.1 ∧ q.2.1 ≤ 12 ∧ TiesOk q.2.1 q.2.2
def StOk (s : LSt) : Prop := (∀ q ∈ s.1, ItemOk q) ∧ ∀ q, s.2 = some q → ItemOk q
theorem step_ok {n : Int} {z : Str} {s s' : LSt} (h : stepL n z s = .inl s') (ok : StOk s) : StOk s' ∧ s'.1.length ≤ s.1.length + 1 := by
  obtain ⟨found, o⟩ := s
  cases o with
  | none =>
    rw [show stepL n z (found, none) = stepN n z found from rfl] at h
    unfold stepN at h
    cases ht : titleR z (fun s => (found.map (·.1)).contains s) with
    | inr w =>
      simp only [ht] at h
      cases h
    | inl p =>
      obtain ⟨name, sz⟩ := p
      simp only [ht] at h
      cases h
      have hs := title_size ht
      refine ⟨⟨ok.1, fun q hq => ?_⟩, Nat.le_succ _⟩
      cases hq
      exact ⟨by show 1 ≤ sz.toNat; omega, by show sz.toNat ≤ 12; omega, Nat.zero_le _, fun q hq => absurd hq List.not_mem_nil⟩
  | some it =>
    obtain ⟨nm, m, ts⟩ := it
    have hi := ok.2 _ rfl
    obtain ⟨h1, h12, hl, ht⟩ := hi
    rw [show stepL n z (found, some (nm, m, ts)) = stepS n z found nm m ts from rfl] at h
    unfold stepS at h
    split at h
    · split at h
      · cases h
      · cases h
        refine ⟨⟨fun q hq => ?_, fun q hq => by cases hq⟩, by simp⟩
        rcases List.mem_append.mp hq with hq | hq
        · exact ok.1 q hq
        · rw [List.mem_singleton.mp hq]
          exact ⟨h1, h12, hl, ht⟩
    · split at h
      · rename_i c
        split at h
        · cases h
        · rename_i a b hab
          cases h
          refine ⟨⟨ok.1, fun q hq => ?_⟩, Nat.le_succ _⟩
          cases hq
          refine ⟨h1, h12, by show (ts ++ [_]).length ≤ 40; rw [List.length_append, List.length_singleton]; omega, fun q hq => ?_⟩
          rcases List.mem_append.mp hq with hq | hq
          · exact ht q hq
          · have := tie_ok h12 hab
            exact ⟨a, b, List.mem_singleton.mp hq, this.1, this.2⟩
      · cases h
end K88
/-! What a well made line reads as. -/
namespace K88
open PySem L2

abbrev tl (z : Str) : List Nat := z.cps.toList
/-- n spaces -/
abbrev sps (n : Nat) : List Nat := List.replicate n 32
/-- what stands behind is not among g -/
def Ends (g : List Nat) (C : List Nat) : Prop := ∀ c, C.head? = some c → c ∉ g
theorem take_all {g : List Nat} : ∀ {B C : List Nat}, (∀ c ∈ B, c ∈ g) → Ends g C → ((B ++ C).takeWhile fun c => decide (c ∈ g)).length = B.length
  | [], [], _, _ => rfl
  | [], c :: C, _, h => by
    rw [List.nil_append, List.takeWhile_cons_of_neg (by simpa using h c rfl)]
  | b :: B, C, hb, h => by
    rw [List.cons_append, List.takeWhile_cons_of_pos (by simpa using hb b List.mem_cons_self), List.length_cons, List.length_cons, take_all (fun c hc => hb c (List.mem_cons_of_mem _ hc)) h]
theorem run_mid {z g : Str} {A B C : List Nat} (h : tl z = A ++ (B ++ C)) (hb : ∀ c ∈ B, c ∈ tl g) (hc : Ends (tl g) C) {k : Nat} (hk : k = A.length) : run z g k = k + B.length := by
  subst hk
  unfold run
  have e : (z.cps.toList.drop A.length) = B ++ C := by
    rw [show z.cps.toList = A ++ (B ++ C) from h, List.drop_left]
  rw [e, take_all hb hc]
theorem run0 {z g : Str} {B C : List Nat} (h : tl z = B ++ C) (hb : ∀ c ∈ B, c ∈ tl g) (hc : Ends (tl g) C) : run z g 0 = B.length := (run_mid (A := []) h hb hc rfl).trans (Nat.zero_add _)
theorem tl_space : tl spaceS = [32] := by decide +kernel
theorem sps_in {n : Nat} : ∀ c ∈ sps n, c ∈ tl spaceS := fun c hc => by
  rw [tl_space, List.eq_of_mem_replicate hc]
  exact List.mem_singleton_self _
theorem at_mid {z : Str} {A C : List Nat} (h : tl z = A ++ C) {k : Nat} (hk : k = A.length) : z.cps.toList[k]? = C.head? := by
  subst hk
  rw [show z.cps.toList = A ++ C from h, List.getElem?_append_right (Nat.le_refl _), Nat.sub_self]
  cases C <;> rfl
theorem word_mid {z : Str} : ∀ {W A C : List Nat} {k : Nat}, tl z = A ++ (W ++ C) → (∀ c, C.head? = some c → c = 32) → k = A.length → wordR z W k = .inl (k + W.length)
  | [], A, C, k, h, hc, hk => by
    have e := at_mid (C := C) h hk
    unfold wordR
    rw [e]
    cases hh : C.head? with
    | none => rfl
    | some c => exact if_pos (hc c hh)
  | c :: W, A, C, k, h, hc, hk => by
    have e := at_mid (C := c :: W ++ C) h hk
    rw [word_hit e, word_mid (W := W) (A := A ++ [c]) (C := C) (by rw [h]; simp) hc (by rw [List.length_append, hk]; rfl), List.length_cons]
    congr 1
    omega
theorem gap_mid {z : Str} {A C : List Nat} {g k : Nat} (h : tl z = A ++ (sps (g + 1) ++ C)) (hc : Ends [32] C) (hk : k = A.length) : gapR z k = .inl (k + (g + 1)) := by
  have e := run_mid (g := spaceS) h sps_in (by rw [tl_space]; exact hc) hk
  rw [List.length_replicate] at e
  unfold gapR
  rw [e, if_pos (by omega)]
theorem rest_mid {z : Str} {A : List Nat} {b k : Nat} (h : tl z = A ++ sps b) (hk : k = A.length) : restR z k = none := by
  have e := run_mid (g := spaceS) (C := []) (h.trans (by rw [List.append_nil])) sps_in (fun c hc => by cases hc) hk
  rw [List.length_replicate] at e
  unfold restR
  rw [e, if_pos]
  rw [← len_cps, show z.cps.toList = A ++ sps b from h, List.length_append, List.length_replicate, hk]
theorem sub_mid {z : Str} {A D C : List Nat} {k e : Nat} (h : tl z = A ++ (D ++ C)) (hk : k = A.length) (he : e = k + D.length) : tl (subS z k e) = D := by
  subst hk he
  show ((z.cps.toList.drop A.length).take (A.length + D.length - A.length)).toArray.toList = D
  rw [show z.cps.toList = A ++ (D ++ C) from h, List.drop_left, Nat.add_sub_cancel_left, List.take_left]
/-- a name as it may be -/
structure NameOk (s : Str) : Prop where
  len : (tl s).length ≤ 8
  hd : ∃ c r, tl s = c :: r ∧ c ∈ tl smallS
  all : ∀ c ∈ tl s, c ∈ tl bothS
  no : s ∉ wordsL
theorem name_mid {z s : Str} {A C : List Nat} {k : Nat} (ok : NameOk s) (h : tl z = A ++ (tl s ++ C)) (hc : Ends (tl bothS) C) (hk : k = A.length) : nameR z k = .inl (k + (tl s).length) := by
  obtain ⟨c, r, hs, hcs⟩ := ok.hd
  have e := run_mid (g := bothS) h ok.all hc hk
  have e1 : z.cps.toList[k]? = some c := by
    rw [at_mid (C := tl s ++ C) h hk, hs]
    rfl
  have l8 := ok.len
  rw [name_is e1 hcs, e, if_neg (by omega)]
  have e2 : subS z k (k + (tl s).length) = s := str_ext (sub_mid h hk rfl)
  rw [e2, if_neg]
  rw [inV_mem]
  exact ok.no
/-- one of some texts stands there -/
theorem one_mid {z : Str} {T : List Str} {A C : List Nat} {d : Str} {k : Nat} (hd : d ∈ T) (hT : ∀ t ∈ T, 32 ∉ tl t) (h : tl z = A ++ (tl d ++ C)) (hc : ∀ c, C.head? = some c → c = 32) (hk : k = A.length) : oneR z T k = .inl (k + (tl d).length) := by
  have hlen : z.length = A.length + ((tl d).length + C.length) := by
    rw [← len_cps, show z.cps.toList = A ++ (tl d ++ C) from h, List.length_append, List.length_append]
  have he : extR z T k = k + (tl d).length := by
    refine extR_eq (by omega) (by omega) (fun x h1 h2 => ?_) ?_
    · refine List.any_eq_true.mpr ⟨d, hd, decide_eq_true ?_⟩
      have q : tl (subS z k (x + 1)) = (tl d).take (x + 1 - k) := by
        show ((z.cps.toList.drop k).take (x + 1 - k)).toArray.toList = _
        rw [show z.cps.toList = A ++ (tl d ++ C) from h, hk, List.drop_left, ← hk, List.take_append_of_le_length (by omega)]
      rw [← len_cps, show (subS z k (x + 1)).cps.toList = (tl d).take (x + 1 - k) from q, List.length_take, Nat.min_eq_left (by omega)]
    · cases C with
      | nil =>
        left
        rw [hlen, hk]
        simp
      | cons c C =>
        right
        have hcc := hc c rfl
        refine Bool.eq_false_iff.mpr fun hb => ?_
        obtain ⟨t, ht, h1⟩ := List.any_eq_true.mp hb
        have h1 := of_decide_eq_true h1
        have q : tl (subS z k (k + (tl d).length + 1)) = tl d ++ [32] := by
          show ((z.cps.toList.drop k).take (k + (tl d).length + 1 - k)).toArray.toList = _
          rw [show z.cps.toList = A ++ (tl d ++ c :: C) from h, hk, List.drop_left, ← hk, show k + (tl d).length + 1 - k = (tl d).length + 1 by omega, hcc]
          rw [List.take_append, List.take_of_length_le (Nat.le_succ _), Nat.add_sub_cancel_left]
          rfl
        refine hT t ht (List.mem_of_mem_take (i := (subS z k (k + (tl d).length + 1)).length) ?_)
        rw [h1, show (subS z k (k + (tl d).length + 1)).cps.toList = tl d ++ [32] from q]
        simp
  have e2 : subS z k (k + (tl d).length) = d := str_ext (sub_mid h hk rfl)
  rw [one_inl (by rw [he, e2]; exact inV_mem.mpr hd), he]
theorem num_all : ∀ j : _root_.Fin 13, numI (numS (j.val : Int)) = (j.val : Int) ∧ (∀ c ∈ tl (numS (j.val : Int)), c ≠ 32) ∧ (∀ c ∈ tl (numS (j.val : Int)), c ≠ 10) ∧ tl (numS (j.val : Int)) ≠ [] ∧ (tl (numS (j.val : Int))).length ≤ 2 := by decide +kernel
theorem num_in {low m i : Nat} (h1 : low ≤ i) (h2 : i < low + m) : numS (i : Int) ∈ numsL low m := by
  unfold numsL
  refine List.mem_map.mpr ⟨i - low, List.mem_range.mpr (by omega), ?_⟩
  rw [show ((low : Int) + ((i - low : Nat) : Int)) = (i : Int) by omega]
theorem nums_free {low m : Nat} (h : low + m ≤ 13) : ∀ t ∈ numsL low m, 32 ∉ tl t := fun t ht hc => by
  obtain ⟨i, hi, rfl⟩ := List.mem_map.mp ht
  have hi := List.mem_range.mp hi
  have q := (num_all ⟨low + i, by omega⟩).2.1 32 (by simpa using hc)
  exact q rfl
theorem num_mid {z : Str} {A C : List Nat} {low m i k : Nat} (hl : low + m ≤ 13) (h1 : low ≤ i) (h2 : i < low + m) (h : tl z = A ++ (tl (numS (i : Int)) ++ C)) (hc : ∀ c, C.head? = some c → c = 32) (hk : k = A.length) :
    oneR z (numsL low m) k = .inl (k + (tl (numS (i : Int))).length) ∧ numI (subS z k (k + (tl (numS (i : Int))).length)) = (i : Int) := by
  refine ⟨one_mid (num_in h1 h2) (nums_free hl) h hc hk, ?_⟩
  rw [show subS z k (k + (tl (numS (i : Int))).length) = numS (i : Int) from str_ext (sub_mid h hk rfl)]
  exact (num_all ⟨i, by omega⟩).1
theorem num_head {i : Nat} (h : i ≤ 12) (C : List Nat) : Ends [32] (tl (numS (i : Int)) ++ C) := fun c hc hm => by
  have q := num_all ⟨i, by omega⟩
  cases e : tl (numS (i : Int)) with
  | nil => exact q.2.2.2.1 e
  | cons x r =>
    rw [e] at hc
    cases hc
    exact q.2.1 c (by show c ∈ tl (numS (i : Int)); rw [e]; exact List.mem_cons_self) (List.mem_singleton.mp hm)
theorem sps_head {n : Nat} : ∀ c, (sps n).head? = some c → c = 32 := fun c hc => by
  cases n with
  | zero => cases hc
  | succ n =>
    cases hc
    rfl
theorem sps_head2 {n : Nat} {C : List Nat} : ∀ c, (sps (n + 1) ++ C).head? = some c → c = 32 := fun c hc => by
  cases hc
  rfl
theorem name_head {s : Str} (ok : NameOk s) (C : List Nat) : Ends [32] (tl s ++ C) := fun c hc hm => by
  obtain ⟨x, r, hs, hx⟩ := ok.hd
  rw [hs] at hc
  cases hc
  rw [List.mem_singleton.mp hm] at hx
  exact absurd hx (by decide +kernel)
theorem both_space : (32 : Nat) ∉ tl bothS := by decide +kernel
theorem words_head {W : List Nat} {x : Nat} {r : List Nat} (hw : W = x :: r) (hx : x ≠ 32) (C : List Nat) : Ends [32] (W ++ C) := fun c hc hm => by
  rw [hw] at hc
  cases hc
  exact hx (List.mem_singleton.mp hm)
theorem web_is : webL = [119, 101, 98] := by decide +kernel
theorem tie_is : tieL = [116, 105, 101] := by decide +kernel
theorem end_is : endL = [101, 110, 100] := by decide +kernel
theorem title_mid {z name : Str} {a g1 g2 b s : Nat} {told : Str → Bool} (ok : NameOk name) (h1 : 1 ≤ s) (h12 : s ≤ 12) (nt : told name = false)
    (h : tl z = sps a ++ (webL ++ (sps (g1 + 1) ++ (tl name ++ (sps (g2 + 1) ++ (tl (numS (s : Int)) ++ sps b)))))) : titleR z told = .inl (name, (s : Int)) := by
  have hs : run z spaceS 0 = a := by
    rw [run0 (g := spaceS) h sps_in (by rw [tl_space]; exact words_head web_is (by decide) _), List.length_replicate]
  have hw := word_mid (z := z) (W := webL) (A := sps a) h sps_head2 (by simp only [List.length_replicate] : a = (sps a).length)
  have hg := gap_mid (z := z) (A := sps a ++ webL) (C := tl name ++ (sps (g2 + 1) ++ (tl (numS (s : Int)) ++ sps b))) (k := a + webL.length) (g := g1) (h.trans (by simp [List.append_assoc])) (name_head ok _) (by simp only [List.length_append, List.length_replicate])
  have hn := name_mid (z := z) (A := sps a ++ webL ++ sps (g1 + 1)) (C := sps (g2 + 1) ++ (tl (numS (s : Int)) ++ sps b)) (k := a + webL.length + (g1 + 1)) ok (h.trans (by simp [List.append_assoc])) (fun c hc hm => by rw [sps_head2 c hc] at hm; exact both_space hm) (by simp only [List.length_append, List.length_replicate])
  have hsub : subS z (a + webL.length + (g1 + 1)) (a + webL.length + (g1 + 1) + (tl name).length) = name := str_ext (sub_mid (A := sps a ++ webL ++ sps (g1 + 1)) (D := tl name) (C := sps (g2 + 1) ++ (tl (numS (s : Int)) ++ sps b)) (h.trans (by simp [List.append_assoc])) (by simp only [List.length_append, List.length_replicate]) rfl)
  have hg2 := gap_mid (z := z) (A := sps a ++ webL ++ sps (g1 + 1) ++ tl name) (C := tl (numS (s : Int)) ++ sps b) (k := a + webL.length + (g1 + 1) + (tl name).length) (g := g2) (h.trans (by simp [List.append_assoc])) (num_head h12 _) (by simp only [List.length_append, List.length_replicate])
  have ho := num_mid (z := z) (A := sps a ++ webL ++ sps (g1 + 1) ++ tl name ++ sps (g2 + 1)) (C := sps b) (low := 1) (m := 12) (i := s) (k := a + webL.length + (g1 + 1) + (tl name).length + (g2 + 1)) (by decide) h1 (by omega) (h.trans (by simp [List.append_assoc])) sps_head (by simp only [List.length_append, List.length_replicate])
  have hr := rest_mid (z := z) (A := sps a ++ webL ++ sps (g1 + 1) ++ tl name ++ sps (g2 + 1) ++ tl (numS (s : Int))) (b := b) (k := a + webL.length + (g1 + 1) + (tl name).length + (g2 + 1) + (tl (numS (s : Int))).length) (h.trans (by simp [List.append_assoc])) (by simp only [List.length_append, List.length_replicate])
  unfold titleR
  rw [hs, hw]
  simp only [hg, hn, hsub, nt, Bool.false_eq_true, if_false, hg2, ho.1, hr, ho.2]
theorem lap_mid {z : Str} {A C : List Nat} {m i g k : Nat} {ns : List Nat} (hm : m ≤ 12) (hi : i < m) (hn : ∀ a ∈ ns, i ≠ a) (h : tl z = A ++ (sps (g + 1) ++ (tl (numS (i : Int)) ++ C))) (hc : ∀ c, C.head? = some c → c = 32) (hk : k = A.length) :
    lapT z m ns (.inl k) = .inl (k + (g + 1) + (tl (numS (i : Int))).length, i) := by
  have hg := gap_mid (z := z) (A := A) (k := k) (g := g) h (num_head (by omega) _) hk
  have ho := num_mid (z := z) (A := A ++ sps (g + 1)) (C := C) (low := 0) (m := m) (i := i) (k := k + (g + 1)) (by omega) (Nat.zero_le _) (by omega) (h.trans (by simp [List.append_assoc])) hc (by simp only [List.length_append, List.length_replicate, hk])
  unfold lapT
  simp only [hg, ho.1, ho.2, Int.toNat_natCast]
  cases ns with
  | nil => rfl
  | cons a r => exact if_neg (hn a List.mem_cons_self)
theorem tie_mid {z : Str} {a g1 g2 b m i j : Nat} (hm : m ≤ 12) (hi : i < m) (hj : j < m) (ne : j ≠ i)
    (h : tl z = sps a ++ (tieL ++ (sps (g1 + 1) ++ (tl (numS (i : Int)) ++ (sps (g2 + 1) ++ (tl (numS (j : Int)) ++ sps b)))))) : tieR z m = .inl (min i j, max i j) := by
  have hs : run z spaceS 0 = a := by
    rw [run0 (g := spaceS) h sps_in (by rw [tl_space]; exact words_head tie_is (by decide) _), List.length_replicate]
  have hw := word_mid (z := z) (W := tieL) (A := sps a) h sps_head2 (by simp only [List.length_replicate] : a = (sps a).length)
  have h1 := lap_mid (z := z) (A := sps a ++ tieL) (C := sps (g2 + 1) ++ (tl (numS (j : Int)) ++ sps b)) (m := m) (i := i) (g := g1) (k := a + tieL.length) (ns := []) hm hi (fun _ h => absurd h List.not_mem_nil) (h.trans (by simp [List.append_assoc])) sps_head2 (by simp only [List.length_append, List.length_replicate])
  have h2 := lap_mid (z := z) (A := sps a ++ tieL ++ sps (g1 + 1) ++ tl (numS (i : Int))) (C := sps b) (m := m) (i := j) (g := g2) (k := a + tieL.length + (g1 + 1) + (tl (numS (i : Int))).length) (ns := [i]) hm hj (fun x hx => by rw [List.mem_singleton.mp hx]; exact ne) (h.trans (by simp [List.append_assoc])) sps_head (by simp only [List.length_append, List.length_replicate])
  have hr := rest_mid (z := z) (A := sps a ++ tieL ++ sps (g1 + 1) ++ tl (numS (i : Int)) ++ sps (g2 + 1) ++ tl (numS (j : Int))) (b := b) (k := a + tieL.length + (g1 + 1) + (tl (numS (i : Int))).length + (g2 + 1) + (tl (numS (j : Int))).length) (h.trans (by simp [List.append_assoc])) (by simp only [List.length_append, List.length_replicate])
  unfold tieR
  rw [hs, hw, h1]
  simp only [h2, hr]
theorem end_mid {z : Str} {a b : Nat} (h : tl z = sps a ++ (endL ++ sps b)) : endR z = none := by
  have hs : run z spaceS 0 = a := by
    rw [run0 (g := spaceS) h sps_in (by rw [tl_space]; exact words_head end_is (by decide) _), List.length_replicate]
  have hw := word_mid (z := z) (W := endL) (A := sps a) h sps_head (by simp only [List.length_replicate] : a = (sps a).length)
  have hr := rest_mid (z := z) (A := sps a ++ endL) (b := b) (k := a + endL.length) (h.trans (by simp [List.append_assoc])) (by simp only [List.length_append, List.length_replicate])
  unfold endR
  rw [hs, hw]
  exact hr
theorem start_mid {z : Str} {a x : Nat} {W r C : List Nat} (hw : W = x :: r) (hx : x ≠ 32) (h : tl z = sps a ++ (W ++ C)) : run z spaceS 0 = a ∧ z.cps.toList[run z spaceS 0]? = some x ∧ run z spaceS 0 < z.length := by
  have hs : run z spaceS 0 = a := by
    rw [run0 (g := spaceS) h sps_in (by rw [tl_space]; exact words_head hw hx _), List.length_replicate]
  have e := at_mid (C := W ++ C) h (by simp only [List.length_replicate] : a = (sps a).length)
  refine ⟨hs, by rw [hs, e, hw]; rfl, ?_⟩
  rw [hs, ← len_cps, show z.cps.toList = sps a ++ (W ++ C) from h, hw]
  simp
theorem blank_mid {z : Str} {a : Nat} (h : tl z = sps a) : ¬ run z spaceS 0 < z.length := by
  rw [run0 (B := sps a) (C := []) (g := spaceS) (by simpa using h) sps_in (fun c hc => by cases hc), ← len_cps, show z.cps.toList = sps a from h]
  simp
end K88
/-! Texts of lines, and what they read as. -/
namespace K88
open PySem L2

theorem tl_nl : tl nlS = [10] := by decide +kernel
theorem tl_app (x y : Str) : tl (x ++ y) = tl x ++ tl y := TL.tl_append x y
theorem kind_nl (z : Str) : ¬ Builtin.Str.strKind z < Builtin.Str.strKind nlS := TL.kind_ok (by decide +kernel)
theorem split_nl (z : Str) : (Txt.split z nlS).map tl = TL.spl [10] 0 [] (tl z) := by
  have e := TL.split_spl z nlS (by show tl nlS ≠ []; rw [tl_nl]; decide) (kind_nl z)
  rw [show TL.tl nlS = [10] from tl_nl] at e
  exact e
/-- each line with its end -/
def closed (ls : List Str) : List Nat := (ls.map fun l => tl l ++ [10]).flatten
theorem closed_app (a b : List Str) : closed (a ++ b) = closed a ++ closed b := by
  unfold closed
  rw [List.map_append, List.flatten_append]
theorem closed_one (l : Str) : closed [l] = tl l ++ [10] := by simp [closed]
def Lined (z : Str) (ls : List Str) : Prop := tl z = closed ls ∧ ∀ l ∈ ls, 10 ∉ tl l
theorem spl_closed : ∀ {ls : List Str}, (∀ l ∈ ls, 10 ∉ tl l) → TL.spl [10] 0 [] (closed ls) = ls.map tl ++ [[]]
  | [], _ => rfl
  | l :: ls, h => by
    have e : closed (l :: ls) = tl l ++ ([10] ++ closed ls) := by simp [closed]
    rw [e, TL.spl_part1 (h l List.mem_cons_self), spl_closed fun x hx => h x (List.mem_cons_of_mem _ hx)]
    rfl
theorem lined_split {z : Str} {ls : List Str} (h : Lined z ls) : Txt.split z nlS = ls ++ [⟨#[]⟩] := by
  refine TL.map_tl_inj ?_
  rw [show (Txt.split z nlS).map TL.tl = _ from split_nl z, h.1, spl_closed h.2, List.map_append]
  rfl
theorem lined_lines {z : Str} {ls : List Str} (h : Lined z ls) : linesR z = ls := by
  unfold linesR
  rw [lined_split h, List.getLast?_append]
  show (if (⟨#[]⟩ : Str) = ⟨#[]⟩ then (ls ++ [(⟨#[]⟩ : Str)]).dropLast else ls ++ [(⟨#[]⟩ : Str)]) = ls
  rw [if_pos rfl, List.dropLast_concat]
theorem outL_app {ls r : List Str} : ∀ {i : Nat}, i ≤ ls.length → outL (ls ++ r) i = outL ls i
  | 0, _ => rfl
  | i + 1, h => by
    unfold outL
    rw [outL_app (Nat.le_of_succ_le h), List.getElem?_append_left h]
theorem outL_snoc (ls : List Str) (l : Str) : outL (ls ++ [l]) (ls ++ [l]).length = outL ls ls.length ++ if run l spaceS 0 < l.length then [((ls.length : Int) + 1, l)] else [] := by
  rw [List.length_append, List.length_singleton]
  show outL (ls ++ [l]) ls.length ++ _ = _
  rw [outL_app (Nat.le_refl _), List.getElem?_append_right (Nat.le_refl _), Nat.sub_self]
  rfl
/-- the text's lines read so far as s -/
def Reads (z : Str) (s : LSt) : Prop := ∃ ls, Lined z ls ∧ lapsL (outL ls ls.length) ([], none) = .inl s
theorem Reads.nil : Reads ⟨#[]⟩ ([], none) := ⟨[], ⟨rfl, fun l h => absurd h List.not_mem_nil⟩, rfl⟩
theorem Lined.snoc {z l y : Str} {ls : List Str} (h : Lined z ls) (nl : 10 ∉ tl l) (hy : tl y = tl z ++ (tl l ++ [10])) : Lined y (ls ++ [l]) := by
  refine ⟨by rw [hy, h.1, closed_app, closed_one], fun x hx => ?_⟩
  rcases List.mem_append.mp hx with hx | hx
  · exact h.2 x hx
  · rw [List.mem_singleton.mp hx]
    exact nl
theorem Reads.line {z l y : Str} {s s' : LSt} (h : Reads z s) (nl : 10 ∉ tl l) (lt : run l spaceS 0 < l.length) (st : ∀ n, stepL n l s = .inl s') (hy : tl y = tl z ++ (tl l ++ [10])) : Reads y s' := by
  obtain ⟨ls, h1, h2⟩ := h
  refine ⟨ls ++ [l], h1.snoc nl hy, ?_⟩
  rw [outL_snoc, if_pos lt, laps_snoc, h2]
  exact st _
theorem sps_free {n : Nat} : 10 ∉ sps n := fun h => by
  have := List.eq_of_mem_replicate h
  omega
theorem Reads.blank {z l y : Str} {s : LSt} {a : Nat} (h : Reads z s) (hl : tl l = sps a) (hy : tl y = tl z ++ (tl l ++ [10])) : Reads y s := by
  obtain ⟨ls, h1, h2⟩ := h
  refine ⟨ls ++ [l], h1.snoc (by rw [hl]; exact sps_free) hy, ?_⟩
  rw [outL_snoc, if_neg (blank_mid hl), List.append_nil]
  exact h2
/-- a text that was read to its end -/
theorem Reads.items {z : Str} {found : List Item} (h : Reads z (found, none)) : itemsR (linesR z).length (linesR z).length (outL (linesR z) (linesR z).length) [] [] = .inl found := by
  obtain ⟨ls, h1, h2⟩ := h
  rw [← read_items, lined_lines h1]
  unfold readL
  rw [h2]
  rfl
/-! ### the lines of a web -/
def nrm (q : Int × Int) : Int × Int := (min q.1 q.2, max q.1 q.2)
def PairOk (m : Nat) (q : Int × Int) : Prop := ∃ i j : Nat, q = ((i : Int), (j : Int)) ∧ i < m ∧ j < m ∧ j ≠ i
abbrev webS : Str := "web"
abbrev tieS : Str := "tie"
abbrev endS : Str := "end"
def piecesL (name : Str) (m : Nat) (ts : List (Int × Int)) : List (List Str) := [webS, name, numS (m : Int)] :: (ts.map (fun q => [tieS, numS q.1, numS q.2]) ++ [[endS]])
abbrev lineOf (ps : List Str) : Str := Txt.join spaceS ps
def linesW (name : Str) (m : Nat) (ts : List (Int × Int)) : List Str := (piecesL name m ts).map lineOf
def webText (name : Str) (m : Nat) (ts : List (Int × Int)) : Str := Txt.join nlS (linesW name m ts) ++ nlS
/-- the line l says these pieces, with spaces -/
inductive Spaced : List Str → Str → Prop where
  | one (a b : Nat) (ha : a ≤ 2) (hb : b ≤ 3) {w l : Str} (h : tl l = sps a ++ (tl w ++ sps b)) : Spaced [w] l
  | three (a g1 g2 b : Nat) (ha : a ≤ 2) (hg1 : g1 ≤ 2) (hg2 : g2 ≤ 2) (hb : b ≤ 3) {w x y l : Str} (h : tl l = sps a ++ (tl w ++ (sps (g1 + 1) ++ (tl x ++ (sps (g2 + 1) ++ (tl y ++ sps b)))))) : Spaced [w, x, y] l
/-- where the reading stands ahead of line k -/
def stAt (found : List Item) (name : Str) (m : Nat) (ts : List (Int × Int)) (k : Nat) : LSt :=
  if k = 0 then (found, none) else if k ≤ ts.length + 1 then (found, some (name, m, (ts.take (k - 1)).map nrm)) else (found ++ [(name, m, ts.map nrm)], none)
theorem num_free {i : Nat} (h : i ≤ 12) : 10 ∉ tl (numS (i : Int)) := fun c => (num_all ⟨i, by omega⟩).2.2.1 10 c rfl
theorem num_len {i : Nat} (h : i ≤ 12) : (tl (numS (i : Int))).length ≤ 2 := (num_all ⟨i, by omega⟩).2.2.2.2
theorem name_free {s : Str} (ok : NameOk s) : 10 ∉ tl s := fun h => absurd (ok.all _ h) (by decide +kernel)
theorem nrm_nat (i j : Nat) : nrm ((i : Int), (j : Int)) = (((min i j : Nat) : Int), ((max i j : Nat) : Int)) := by
  unfold nrm
  refine Prod.ext ?_ ?_
  · show min (i : Int) (j : Int) = _
    omega
  · show max (i : Int) (j : Int) = _
    omega
theorem step_at {found : List Item} {name : Str} {m : Nat} {ts : List (Int × Int)} {k : Nat} {ps : List Str} {l : Str} (ok : NameOk name) (nt : (found.map (·.1)).contains name = false) (h1 : 1 ≤ m) (h12 : m ≤ 12) (ht : ∀ q ∈ ts, PairOk m q) (h40 : ts.length ≤ 40)
    (hk : (piecesL name m ts)[k]? = some ps) (sp : Spaced ps l) : 10 ∉ tl l ∧ run l spaceS 0 < l.length ∧ (∀ n, stepL n l (stAt found name m ts k) = .inl (stAt found name m ts (k + 1))) ∧ l.length ≤ 40 := by
  unfold piecesL at hk
  cases k with
  | zero =>
    cases hk
    cases sp with
    | three a g1 g2 b ha hg1 hg2 hb h =>
      have h : tl l = sps a ++ (webL ++ (sps (g1 + 1) ++ (tl name ++ (sps (g2 + 1) ++ (tl (numS (m : Int)) ++ sps b))))) := h
      have nl := num_len h12
      have l8 := ok.len
      refine ⟨?_, (start_mid web_is (by decide) h).2.2, fun n => ?_, ?_⟩
      · rw [h]
        simp only [List.mem_append, not_or]
        exact ⟨sps_free, by rw [web_is]; decide, sps_free, name_free ok, sps_free, num_free h12, sps_free⟩
      · show stepN n l found = .inl (stAt found name m ts 1)
        unfold stepN
        rw [title_mid (told := fun s => (found.map (·.1)).contains s) ok h1 h12 nt h]
        rfl
      · rw [← len_cps, show l.cps.toList = _ from h, web_is]
        simp only [List.length_append, List.length_replicate, List.length_cons, List.length_nil]
        omega
  | succ k =>
    rw [List.getElem?_cons_succ] at hk
    rcases Nat.lt_or_ge k ts.length with lt | ge
    · rw [List.getElem?_append_left (by rw [List.length_map]; exact lt), List.getElem?_map, List.getElem?_eq_getElem lt] at hk
      cases hk
      obtain ⟨i, j, e, hi, hj, ne⟩ := ht ts[k] (List.getElem_mem lt)
      have e1 : ts[k].1 = (i : Int) := by rw [e]
      have e2 : ts[k].2 = (j : Int) := by rw [e]
      have sp : Spaced [tieS, numS ts[k].1, numS ts[k].2] l := sp
      rw [e1, e2] at sp
      cases sp with
      | three a g1 g2 b ha hg1 hg2 hb h =>
        have h : tl l = sps a ++ (tieL ++ (sps (g1 + 1) ++ (tl (numS (i : Int)) ++ (sps (g2 + 1) ++ (tl (numS (j : Int)) ++ sps b))))) := h
        have nl1 := num_len (i := i) (by omega)
        have nl2 := num_len (i := j) (by omega)
        have sm := start_mid tie_is (by decide) h
        refine ⟨?_, sm.2.2, fun n => ?_, ?_⟩
        · rw [h]
          simp only [List.mem_append, not_or]
          exact ⟨sps_free, by rw [tie_is]; decide, sps_free, num_free (by omega), sps_free, num_free (by omega), sps_free⟩
        · have s1 : stAt found name m ts (k + 1) = (found, some (name, m, (ts.take k).map nrm)) := by
            unfold stAt
            rw [if_neg (Nat.succ_ne_zero _), if_pos (by omega)]
            rfl
          have s2 : stAt found name m ts (k + 1 + 1) = (found, some (name, m, (ts.take (k + 1)).map nrm)) := by
            unfold stAt
            rw [if_neg (Nat.succ_ne_zero _), if_pos (by omega)]
            rfl
          rw [s1, s2]
          show stepS n l found name m ((ts.take k).map nrm) = _
          unfold stepS
          rw [sm.2.1, if_neg (by decide), if_pos ⟨rfl, by omega, by rw [List.length_map, List.length_take]; omega⟩, tie_mid h12 hi hj ne h]
          show Sum.inl (found, some (name, m, (ts.take k).map nrm ++ [(((min i j : Nat) : Int), ((max i j : Nat) : Int))])) = _
          rw [List.take_add_one, List.getElem?_eq_getElem lt, e, List.map_append, ← nrm_nat]
          rfl
        · rw [← len_cps, show l.cps.toList = _ from h, tie_is]
          simp only [List.length_append, List.length_replicate, List.length_cons, List.length_nil]
          omega
    · rw [List.getElem?_append_right (by rw [List.length_map]; exact ge), List.length_map] at hk
      obtain ⟨d, hd⟩ : ∃ d, k = ts.length + d := ⟨k - ts.length, by omega⟩
      subst hd
      rw [Nat.add_sub_cancel_left] at hk
      cases d with
      | succ d => cases hk
      | zero =>
        cases hk
        cases sp with
        | one a b ha hb h =>
          have h : tl l = sps a ++ (endL ++ sps b) := h
          have sm := start_mid end_is (by decide) h
          refine ⟨?_, sm.2.2, fun n => ?_, ?_⟩
          · rw [h]
            simp only [List.mem_append, not_or]
            exact ⟨sps_free, by rw [end_is]; decide, sps_free⟩
          · have s1 : stAt found name m ts (ts.length + 0 + 1) = (found, some (name, m, ts.map nrm)) := by
              unfold stAt
              rw [if_neg (Nat.succ_ne_zero _), if_pos (by omega)]
              rw [Nat.add_zero, Nat.add_sub_cancel, List.take_length]
            have s2 : stAt found name m ts (ts.length + 0 + 1 + 1) = (found ++ [(name, m, ts.map nrm)], none) := by
              unfold stAt
              rw [if_neg (Nat.succ_ne_zero _), if_neg (by omega)]
            rw [s1, s2]
            show stepS n l found name m (ts.map nrm) = _
            unfold stepS
            rw [sm.2.1, if_pos rfl, end_mid h]
          · rw [← len_cps, show l.cps.toList = _ from h, end_is]
            simp only [List.length_append, List.length_replicate, List.length_cons, List.length_nil]
            omega
theorem tl_join (y : Str) (ps : List Str) : tl (Txt.join y ps) = TL.joinL (tl y) (ps.map tl) := by
  rw [TL.join_eq]
  exact TL.tl_join y ps
theorem plain_spaced {name : Str} {m : Nat} {ts : List (Int × Int)} {ps : List Str} {k : Nat} (hk : (piecesL name m ts)[k]? = some ps) : Spaced ps (lineOf ps) := by
  have three : ∀ w x y : Str, Spaced [w, x, y] (lineOf [w, x, y]) := fun w x y => .three 0 0 0 0 (by decide) (by decide) (by decide) (by decide) (by
    rw [tl_join, tl_space]
    simp [TL.joinL])
  have one : ∀ w : Str, Spaced [w] (lineOf [w]) := fun w => .one 0 0 (by decide) (by decide) (by
    rw [tl_join, tl_space]
    simp [TL.joinL])
  unfold piecesL at hk
  rcases List.mem_cons.mp (List.mem_of_getElem? hk) with e | e
  · rw [e]
    exact three _ _ _
  · rcases List.mem_append.mp e with e | e
    · obtain ⟨q, _, rfl⟩ := List.mem_map.mp e
      exact three _ _ _
    · rw [List.mem_singleton.mp e]
      exact one _
theorem pieces_len (name : Str) (m : Nat) (ts : List (Int × Int)) : (piecesL name m ts).length = ts.length + 2 := by
  unfold piecesL
  rw [List.length_cons, List.length_append, List.length_map, List.length_singleton]
theorem joinL_closed : ∀ {ls : List Str}, ls ≠ [] → TL.joinL [10] (ls.map tl) ++ [10] = closed ls
  | [], h => absurd rfl h
  | [l], _ => by simp [TL.joinL, closed]
  | l :: l2 :: ls, _ => by
    have e := joinL_closed (ls := l2 :: ls) (by simp)
    have e2 : closed (l :: l2 :: ls) = tl l ++ ([10] ++ closed (l2 :: ls)) := by simp [closed]
    rw [e2, ← e]
    simp [TL.joinL]
theorem text_closed (name : Str) (m : Nat) (ts : List (Int × Int)) : tl (webText name m ts) = closed (linesW name m ts) := by
  unfold webText
  rw [tl_app, tl_join, tl_nl, joinL_closed]
  intro h
  have e := congrArg List.length h
  unfold linesW at e
  rw [List.length_map, pieces_len] at e
  simp at e
/-- a web's plain text is read -/
theorem Reads.web {z y name : Str} {m : Nat} {ts : List (Int × Int)} {found : List Item} (h : Reads z (found, none)) (ok : NameOk name) (nt : (found.map (·.1)).contains name = false) (h1 : 1 ≤ m) (h12 : m ≤ 12) (ht : ∀ q ∈ ts, PairOk m q) (h40 : ts.length ≤ 40)
    (hy : tl y = tl z ++ tl (webText name m ts)) : Reads y (found ++ [(name, m, ts.map nrm)], none) := by
  have key : ∀ k, k ≤ ts.length + 2 → ∀ y, tl y = tl z ++ closed ((linesW name m ts).take k) → Reads y (stAt found name m ts k) := by
    intro k
    induction k with
    | zero =>
      intro _ y hy
      have e : y = z := str_ext (hy.trans (by simp [closed]))
      rw [e]
      exact h
    | succ k ih =>
      intro hk y hy
      have hlt : k < (piecesL name m ts).length := by rw [pieces_len]; omega
      have hp := List.getElem?_eq_getElem hlt
      obtain ⟨s1, s2, s3, _⟩ := step_at (found := found) ok nt h1 h12 ht h40 hp (plain_spaced hp)
      have ez : tl (⟨(tl z ++ closed ((linesW name m ts).take k)).toArray⟩ : Str) = tl z ++ closed ((linesW name m ts).take k) := rfl
      refine (ih (by omega) _ ez).line s1 s2 s3 ?_
      rw [hy, ez, List.take_add_one]
      unfold linesW
      rw [List.getElem?_map, hp]
      show _ ++ closed (_ ++ [lineOf (piecesL name m ts)[k]]) = _
      rw [closed_app, closed_one, List.append_assoc]
  have e := key (ts.length + 2) (Nat.le_refl _) y (by
    rw [hy, text_closed, List.take_of_length_le]
    unfold linesW
    rw [List.length_map, pieces_len]
    exact Nat.le_refl _)
  unfold stAt at e
  rw [if_neg (by omega), if_neg (by omega)] at e
  exact e
/-- the pieces of a plain line -/
theorem split_line {name : Str} {m : Nat} {ts : List (Int × Int)} {ps : List Str} (ok : NameOk name) (h12 : m ≤ 12) (ht : ∀ q ∈ ts, PairOk m q) (hp : ps ∈ piecesL name m ts) : Txt.split (lineOf ps) spaceS = ps := by
  have nnum : ∀ i : Nat, i ≤ 12 → 32 ∉ tl (numS (i : Int)) := fun i hi hc => (num_all ⟨i, by omega⟩).2.1 32 hc rfl
  have nname : 32 ∉ tl name := fun h => both_space (ok.all _ h)
  refine TL.split_join (s := 32) (S := []) tl_space (by decide +kernel) ?_ ?_
  · unfold piecesL at hp
    rcases List.mem_cons.mp hp with e | e
    · rw [e]
      simp
    · rcases List.mem_append.mp e with e | e
      · obtain ⟨q, _, rfl⟩ := List.mem_map.mp e
        simp
      · rw [List.mem_singleton.mp e]
        simp
  · unfold piecesL at hp
    rcases List.mem_cons.mp hp with e | e
    · rw [e]
      intro p hp
      rcases List.mem_cons.mp hp with e | hp
      · rw [e]
        decide +kernel
      · rcases List.mem_cons.mp hp with e | hp
        · rw [e]
          exact nname
        · rw [List.mem_singleton.mp hp]
          exact nnum m h12
    · rcases List.mem_append.mp e with e | e
      · obtain ⟨q, hq, rfl⟩ := List.mem_map.mp e
        obtain ⟨i, j, rfl, hi, hj, _⟩ := ht q hq
        intro p hp
        rcases List.mem_cons.mp hp with e | hp
        · rw [e]
          decide +kernel
        · rcases List.mem_cons.mp hp with e | hp
          · rw [e]
            exact nnum i (by omega)
          · rw [List.mem_singleton.mp hp]
            exact nnum j (by omega)
      · rw [List.mem_singleton.mp e]
        intro p hp
        rw [List.mem_singleton.mp hp]
        decide +kernel
theorem lined_web {name : Str} {m : Nat} {ts : List (Int × Int)} (ok : NameOk name) (h1 : 1 ≤ m) (h12 : m ≤ 12) (ht : ∀ q ∈ ts, PairOk m q) (h40 : ts.length ≤ 40) : Txt.split (webText name m ts) nlS = linesW name m ts ++ [⟨#[]⟩] := by
  refine lined_split ⟨text_closed name m ts, fun l hl => ?_⟩
  unfold linesW at hl
  obtain ⟨ps, hps, rfl⟩ := List.mem_map.mp hl
  obtain ⟨k, hk⟩ := List.getElem?_of_mem hps
  exact (step_at (found := []) ok rfl h1 h12 ht h40 hk (plain_spaced hk)).1
theorem web_len {name : Str} {m : Nat} {ts : List (Int × Int)} (ok : NameOk name) (h1 : 1 ≤ m) (h12 : m ≤ 12) (ht : ∀ q ∈ ts, PairOk m q) (h40 : ts.length ≤ 40) : (webText name m ts).length ≤ 41 * (ts.length + 2) := by
  have key : ∀ ls : List Str, (∀ l ∈ ls, l.length ≤ 40) → (closed ls).length ≤ 41 * ls.length := by
    intro ls
    induction ls with
    | nil => intro _; exact Nat.le_refl 0
    | cons l ls ih =>
      intro h
      have e : closed (l :: ls) = tl l ++ ([10] ++ closed ls) := by simp [closed]
      have i := ih fun x hx => h x (List.mem_cons_of_mem _ hx)
      have j := h l List.mem_cons_self
      rw [← len_cps] at j
      rw [e, List.length_append, List.length_append, List.length_singleton, List.length_cons]
      have j : (tl l).length ≤ 40 := j
      omega
  have e := key (linesW name m ts) fun l hl => by
    unfold linesW at hl
    obtain ⟨ps, hps, rfl⟩ := List.mem_map.mp hl
    obtain ⟨k, hk⟩ := List.getElem?_of_mem hps
    exact (step_at (found := []) ok rfl h1 h12 ht h40 hk (plain_spaced hk)).2.2.2
  rw [← len_cps, show (webText name m ts).cps.toList = _ from text_closed name m ts]
  unfold linesW at e
  rw [List.length_map, pieces_len] at e
  exact e
end K88
/-! How long lines are. -/
namespace K88
open PySem L2

theorem spl_total : ∀ (l acc : List Nat), ((TL.spl [10] 0 acc l).map List.length).sum + (TL.spl [10] 0 acc l).length = acc.length + l.length + 1
  | [], acc => by
    rw [TL.spl_nil]
    simp
  | c :: r, acc => by
    cases h : TL.pre [10] (c :: r) with
    | true =>
      have e := spl_total r []
      rw [TL.spl_hit h]
      simp only [List.map_cons, List.sum_cons, List.length_cons, List.length_nil, Nat.zero_add, Nat.sub_self] at e ⊢
      omega
    | false =>
      have e := spl_total r (acc ++ [c])
      rw [TL.spl_miss h]
      rw [List.length_append, List.length_singleton] at e
      rw [List.length_cons]
      omega
theorem map_tl_len (ls : List Str) : (ls.map tl).map List.length = ls.map (·.length) := by
  rw [List.map_map]
  refine List.map_congr_left fun l _ => ?_
  exact len_cps l
theorem split_total (z : Str) : ((Txt.split z nlS).map (·.length)).sum + (Txt.split z nlS).length = z.length + 1 := by
  have e := spl_total (tl z) []
  rw [← split_nl, map_tl_len, List.length_map, List.length_nil, Nat.zero_add, show (tl z).length = z.length from len_cps z] at e
  exact e
theorem split_ne (z : Str) : Txt.split z nlS ≠ [] := fun h => by
  have e := split_total z
  rw [h] at e
  simp at e
theorem mem_sum {ls : List Str} {l : Str} (h : l ∈ ls) : l.length ≤ (ls.map (·.length)).sum := by
  induction ls with
  | nil => exact absurd h List.not_mem_nil
  | cons x r ih =>
    rw [List.map_cons, List.sum_cons]
    rcases List.mem_cons.mp h with e | h
    · rw [e]
      exact Nat.le_add_right _ _
    · exact Nat.le_trans (ih h) (Nat.le_add_left _ _)
theorem split_count (z : Str) : (Txt.split z nlS).length ≤ z.length + 1 := by
  have := split_total z
  omega
theorem split_each {z l : Str} (h : l ∈ Txt.split z nlS) : l.length ≤ z.length := by
  have e := split_total z
  have m := mem_sum h
  have p : 0 < (Txt.split z nlS).length := List.length_pos_iff.mpr (split_ne z)
  omega
theorem joinL_len : ∀ ls : List (List Nat), (TL.joinL [10] ls).length ≤ (ls.map List.length).sum + ls.length
  | [] => Nat.le_refl 0
  | [p] => by simp [TL.joinL]
  | p :: q :: r => by
    have e := joinL_len (q :: r)
    show (p ++ ([10] ++ TL.joinL [10] (q :: r))).length ≤ _
    rw [List.length_append, List.length_append, List.map_cons, List.sum_cons, List.length_cons (as := q :: r)]
    have h1 : ([10] : List Nat).length = 1 := rfl
    omega
theorem join_len (ls : List Str) : (Txt.join nlS ls).length ≤ (ls.map (·.length)).sum + ls.length := by
  have e := joinL_len (ls.map tl)
  rw [map_tl_len, List.length_map, ← tl_nl, ← tl_join, show (tl (Txt.join nlS ls)).length = _ from len_cps _] at e
  exact e
theorem sum_app (a b : List Str) : ((a ++ b).map (·.length)).sum = (a.map (·.length)).sum + (b.map (·.length)).sum := by
  rw [List.map_append, List.sum_append]
theorem sum_split (ls : List Str) (n : Nat) : ((ls.take n).map (·.length)).sum + ((ls.drop n).map (·.length)).sum = (ls.map (·.length)).sum := by
  rw [← sum_app, List.take_append_drop]
/-- lines taken from the front and from behind -/
theorem cut_join {z : Str} (i j : Nat) : (Txt.join nlS ((Txt.split z nlS).take i ++ (Txt.split z nlS).drop j)).length ≤ 2 * (z.length + 1) := by
  have e := join_len ((Txt.split z nlS).take i ++ (Txt.split z nlS).drop j)
  have t := split_total z
  have a := sum_split (Txt.split z nlS) i
  have b := sum_split (Txt.split z nlS) j
  have c : ((Txt.split z nlS).take i).length ≤ (Txt.split z nlS).length := by rw [List.length_take]; omega
  have d : ((Txt.split z nlS).drop j).length ≤ (Txt.split z nlS).length := by rw [List.length_drop]; omega
  rw [sum_app, List.length_append] at e
  omega
end K88
/-! Rules that the hand layer lacks: a text times a number, the list of a text's signs. -/
namespace K88
open PySem L2

/-- n spaces as a text -/
def spsS (n : Nat) : Str := ⟨(sps n).toArray⟩
theorem tl_spsS (n : Nat) : tl (spsS n) = sps n := rfl
theorem mul_space {n : Int} (h : 0 ≤ n) : Txt.mul spaceS n = spsS n.toNat := by
  have fold : ∀ (k : Nat) (acc : Array Nat), ((List.replicate k spaceS.cps).foldl (· ++ ·) acc).toList = acc.toList ++ sps k := by
    intro k
    induction k with
    | zero =>
      intro acc
      simp
    | succ k ih =>
      intro acc
      rw [List.replicate_succ, List.foldl_cons, ih, Array.toList_append, show spaceS.cps.toList = [32] from tl_space, List.append_assoc]
      rfl
  refine str_ext ?_
  unfold Txt.mul
  by_cases h1 : n < 1
  · rw [if_pos h1, show n = 0 by omega]
    rfl
  · rw [if_neg h1]
    by_cases h2 : n = 1
    · rw [h2]
      decide +kernel
    · have e : (n == 1 || spaceS.length == 0) = false := by
        rw [beq_eq_false_iff_ne.mpr h2]
        decide +kernel
      rw [e]
      show ((List.replicate n.toNat spaceS.cps).foldl (· ++ ·) #[]).toList = sps n.toNat
      rw [fold]
      rfl
section
variable {X : Cx}
/-- " " * n -/
theorem op_mul_sp : OpR X (binaryOp .Mult) (fun x y H Q => ∃ n : Nat, x = .str spaceS ∧ y = .int n ∧ n ≤ 1000 ∧ Q (.str (spsS n)) H) := by
  intro pins s σ H x y v u Q I rx ry h
  obtain ⟨n, rfl, rfl, hn, q⟩ := h
  obtain ⟨t, rfl⟩ := rx
  obtain ⟨t', rfl⟩ := ry
  have hl : spaceS.length ≤ 1 := by decide +kernel
  refine SB.mul (PyProof.Rows.mulOk_of 1 1000 hl (by omega) (by omega) (by decide) (by decide)) fun t' k => ?_
  rw [mul_space (by omega), Int.toNat_natCast]
  exact ⟨.str (spsS n), H, I.tok _, ⟨_, rfl⟩, q⟩
/-- list(text) -/
theorem call_listS (hc : X.calm = true) : CallR X (.type "list") (fun xs H Q => ∃ z : Str, xs = [.str z] ∧ z.length ≤ sizeLine ∧ ∀ l, H l = none → Q (.ref l) (upd H l (.lst (z.cps.toList.map fun c => V.str ⟨#[c]⟩)))) := by
  intro pins s σ H xs us Q I r h
  obtain ⟨z, rfl, hz, q⟩ := h
  obtain ⟨u, rfl, rx⟩ := vals1 r
  obtain ⟨t, rfl⟩ := rx
  refine call_list_str (I.ok.hd hc) z t (fun h' tk acc' c' kp e hi => ?_) (by exact hz)
  refine ⟨.ref s.heap.objs.size, upd H s.heap.objs.size (.lst (z.cps.toList.map fun c => V.str ⟨#[c]⟩)), I.laid (t' := tk) kp (Nat.le_refl _)
    (show ObjOk X.prog X.w _ h' _ (.lst (z.cps.toList.map fun c => V.str ⟨#[c]⟩)) from ⟨by rw [List.length_map, len_cps]; exact hz, acc'.toList, c', vals_of_idx _ _ ?_ fun j u hu => ?_, by rw [Array.toArray_toList]; exact e⟩), rfl, q _ (I.hok.fresh (Nat.le_refl _))⟩
  · rw [Array.length_toList, hi.1, List.length_map, Array.length_toList]
  · obtain ⟨c, t2, hc2, rfl⟩ := hi.2 j u (by rw [← Array.getElem?_toList]; exact hu)
    refine ⟨V.str ⟨#[c]⟩, ?_, ⟨t2, rfl⟩⟩
    rw [List.getElem?_map, Array.getElem?_toList, hc2]
    rfl
end
end K88
/-! Draws: a list shuffled, a web. -/
namespace K88
open PySem L2

theorem seq_nat {j n : Nat} (h : j < n) : seqIndex? (j : Int) n = some j := by
  have e : ixN n (j : Int) = some j := by
    unfold ixN
    rw [if_pos (by omega), if_pos (by omega)]
    rfl
  exact (ixN_seq e).1
theorem erase_perm {α : Type} : ∀ {xs : List α} {k : Nat} {y : α}, xs[k]? = some y → (y :: xs.eraseIdx k).Perm xs
  | [], _, _, h => by cases h
  | x :: xs, 0, y, h => by
    cases h
    exact List.Perm.refl _
  | x :: xs, k + 1, y, h => (List.Perm.swap x y _).trans ((erase_perm (xs := xs) (k := k) h).cons x)
theorem erase_len {α : Type} {xs : List α} {k : Nat} {y : α} (h : xs[k]? = some y) : (xs.eraseIdx k).length + 1 = xs.length := (erase_perm h).length_eq
theorem PenAt.mono {K : PySem.W.Frag} {H : Hp} {p : Addr} {z : Addr × List Int} {n m : Nat} (h : PenAt K H p z n) (hm : n ≤ m) : PenAt K H p z m := by
  obtain ⟨⟨a, d, c, fo, h1, h2, h3, h4, h5, h6, h7⟩⟩ := h
  exact ⟨⟨a, d, c, fo, h1, h2, h3, h4, h5, by omega, h7⟩⟩
theorem KeepBut.free {p b : Addr} {H H' : Hp} (k : KeepBut p H H') (n : H' b = none) (ne : b ≠ p) : H b = none := by
  cases e : H b with
  | none => rfl
  | some o =>
    rw [k b o e ne] at n
    cases n
theorem KeepBut.of {p : Addr} {H H' : Hp} (s : Same H H') : KeepBut p H H' := fun b o e _ => s b o e
theorem PenAt.ne {K : PySem.W.Frag} {H : Hp} {p q : Addr} {z : Addr × List Int} {n : Nat} (h : PenAt K H p z n) (e : H q = none) : p ≠ q := by
  obtain ⟨kvs, hp⟩ := h.dict
  exact ne_of_none hp e
/-- a thing that is newer than what stood at first is written -/
theorem KeepBut.put {p D : Addr} {H H' : Hp} {o : HO} (k : KeepBut p H H') (n : H D = none) : KeepBut p H (upd H' D o) := fun b u e hb => by
  rw [upd_ne (ne_of_none e n)]
  exact k b u e hb
def PairAt (H : Hp) (x : V) (q : Int × Int) : Prop := ∃ t, x = V.ref t ∧ H t = some (.tup [.int q.1, .int q.2])
theorem pairAt_of {H : Hp} {t : Addr} {i j : Int} (h : H t = some (.tup [.int i, .int j])) : PairAt H (.ref t) (i, j) := ⟨t, rfl, h⟩
theorem pairs_map {H H' : Hp} (f : ∀ t i j, H t = some (.tup [.int i, .int j]) → H' t = some (.tup [.int i, .int j])) : ∀ {xs : List V} {qs : List (Int × Int)}, Paired (PairAt H) xs qs → Paired (PairAt H') xs qs
  | _, _, .nil => .nil
  | _, _, .cons ⟨t, e, h⟩ r => .cons ⟨t, e, f t _ _ h⟩ (pairs_map f r)
theorem pairs_two {K : PySem.W.Frag} {H : Hp} : ∀ {xs : List V} {qs : List (Int × Int)}, Paired (PairAt H) xs qs → Paired (TwoAt K H) xs qs
  | _, _, .nil => .nil
  | _, _, .cons ⟨t, e, h⟩ r => .cons ⟨t, e, .inl (.inl h)⟩ (pairs_two r)
def kvH (H : Hp) : V → Int × Int
  | .ref t => match H t with
    | some (.tup [.int i, .int j]) => (i, j)
    | _ => (0, 0)
  | _ => (0, 0)
theorem pairs_key {H : Hp} : ∀ {xs : List V} {qs : List (Int × Int)}, Paired (PairAt H) xs qs → qs = xs.map (kvH H) ∧ ∀ x ∈ xs, PairAt H x (kvH H x)
  | _, _, .nil => ⟨rfl, fun x h => absurd h List.not_mem_nil⟩
  | _, _, .cons (b := q) ⟨t, e, h⟩ r => by
    obtain ⟨e1, e2⟩ := pairs_key r
    have k : kvH H (.ref t) = q := by
      unfold kvH
      dsimp only
      rw [h]
    subst e
    refine ⟨by rw [List.map_cons, k, ← e1], fun x hx => ?_⟩
    rcases List.mem_cons.mp hx with rfl | hx
    · rw [k]
      exact ⟨t, rfl, h⟩
    · exact e2 x hx
theorem pairs_back {H : Hp} : ∀ {xs : List V}, (∀ x ∈ xs, PairAt H x (kvH H x)) → Paired (PairAt H) xs (xs.map (kvH H))
  | [], _ => .nil
  | x :: xs, h => .cons (h x List.mem_cons_self) (pairs_back fun y hy => h y (List.mem_cons_of_mem _ hy))
/-- sorted(l), l a list of pairs -/
def rSortedPL (K : PySem.W.Frag) : List V → Hp → VK → Prop := fun vs H Q => ∃ (a : Addr) (xs : List V) (prs : List (Int × Int)), vs = [V.ref a] ∧ SqL K H a xs ∧ Paired (PairAt H) xs prs ∧
  ∀ ys qs p, Paired (PairAt H) ys qs → SrtO.Srtd SrtO.lexB qs → qs.Perm prs → H p = none → Q (.ref p) (upd H p (.lst ys))
theorem cr_sortedPL {X : Cx} : CallR X (.builtin "sorted") (rSortedPL X.K) := by
  intro pins s σ H vs us Q I r h
  obtain ⟨a, xs, prs, rfl, hs, hx, q⟩ := h
  obtain ⟨e1, e2⟩ := pairs_key hx
  refine cr_sortedPO pins s σ H _ us Q I r ⟨a, xs, kvH H, rfl, hs, fun x hx => ?_, fun ys p h1 h2 np => ?_⟩
  · exact e2 x hx
  · refine q ys (ys.map (kvH H)) p (pairs_back fun x hx => e2 x (h2.perm.mem_iff.mp hx)) (SrtO.srtd_map h1) ?_ np
    rw [e1]
    exact h2.perm.map _
def spShuf (K : PySem.W.Frag) : Sp := fun vs H Q _ => ∃ (p l : Addr) (z : Addr × List Int) (n : Nat) (xs : List V), vs = [.ref p, .ref l] ∧ PenAt K H p z n ∧ n ≤ 50000 ∧ SqL K H l xs ∧ xs.length ≤ 1000 ∧
  ∀ (t : Addr) (ys : List V) (H' : Hp), ys.Perm xs → H t = none → H' t = some (.lst ys) → PenAt K H' p z (n + xs.length) → KeepBut p H H' → Q (.ref t) H'
section
variable {P : Program} {w : World} {K : PySem.W.Frag} {mg : Str → Option Value} {base : Heap} {f g : Addr} {fd gd : FuncData}
abbrev sShuf : Stmt := top 42
abbrev shN : List Str := ["pen", "some", "left", "found", "lap"]
theorem scShuf : FnScope shN ["pen", "some"] (defScope sShuf) := ⟨rfl, rfl, rfl, by decide +kernel, rfl, by decide +kernel, by decide +kernel⟩
theorem ok_shuf (F : FnP K "_law_shuffled" sShuf f fd) (TD : Told P w K mg base "_law_draw" 1 ["pen", "many"] (spDraw K) g gd) (mLen : mg "len" = none) (mR : mg "range" = none) (mL : mg "list" = none) : FnOk P w K mg base CX0 2 f fd ["pen", "some"] (spShuf K) := by
  refine F.ok scShuf (fun vs H Q E h => ?_) (fun cdv A outer s H vs Q E hr h => ?_)
  · obtain ⟨p, l, z, n, xs, rfl, _⟩ := h
    rfl
  · obtain ⟨p, l, z, n, xs, rfl, S, hn, hl, hx, q⟩ := h
    refine ⟨_, PSs.nox (pss_cons (ps_par (i := 2) (j := 3) rfl scShuf.nd rfl rfl (by decide) rfl rfl (pa_cons (pe_callTy call_list_of (by rfl) mL (by decide +kernel) (pa_cons (pv 1) pa_nil)) (pa_cons (pe_lst pa_nil) pa_nil)) (by rfl))
      (C8.pss_cut (ps_for PassesOwn.never rfl (pi_range1 (by rfl) mR (pa_cons (pe_callB call_len (by rfl) mLen PySem.boot_len (pa_cons (pv 1) pa_nil)) pa_nil)) (pg_name (i := 4) scShuf.nd rfl (Or.inl rfl))
          (pss_one (ps_expr (pe_bm PySem.F.plainAttrs_list PySem.F.slot_list_append PySem.F.type_list_append mt_append (pv 3) (pa_cons
            (pe_bm PySem.F.plainAttrs_list PySem.F.slot_list_pop PySem.F.type_list_pop mt_popAt (pv 2) (pa_cons (pe_call TD.ok hr (by rfl) TD.m TD.kp TD.b .nil pass0 (pa_cons (pv 0) (pa_cons (pe_callB call_len (by rfl) mLen PySem.boot_len (pa_cons (pv 2) pa_nil)) pa_nil))) pa_nil)) pa_nil)))))
      (pss_one (ps_ret (pv 3))))), ?_⟩
    rw [show L2.start shN [V.ref p, V.ref l] = [some (V.ref p), some (V.ref l), none, none, none] from rfl]
    refine ⟨_, rfl, l, xs, rfl, .inl hl, fun a na => ?_⟩
    have s1 : Same H (upd H a (.lst xs)) := same_new na
    refine ⟨Nat.zero_le _, fun b nb => ⟨_, _, rfl, ?_⟩⟩
    have s2 : Same (upd H a (.lst xs)) (upd (upd H a (.lst xs)) b (.lst [])) := same_new nb
    simp only [List.set_cons_succ, List.set_cons_zero]
    have nbH : H b = none := s1.free nb
    have nab : a ≠ b := ne_of_none upd_same nb
    have npa := S.ne na
    have npb := S.ne nbH
    have s12 := s1.trans s2
    refine ⟨fun σ' H' => ∃ (ys : List V) (o : Option V), σ' = [some (.ref p), some (.ref l), some (.ref a), some (.ref b), o] ∧ ys.Perm xs ∧ H' b = some (.lst ys) ∧ PenAt K H' p z (n + xs.length) ∧ KeepBut p H H', ?_, ?_⟩
    · refine ⟨_, rfl, _, xs.length, rfl, .inl ⟨xs, s12.seq hl, rfl⟩, _, rfl, by omega, by omega, for_range (lo := 0) (n := ((xs.length : Nat) : Int).toNat)
        (fun i σ' H' => ∃ (ls fs : List V) (o : Option V), σ' = [some (.ref p), some (.ref l), some (.ref a), some (.ref b), o] ∧ (fs ++ ls).Perm xs ∧ fs.length = i ∧ H' a = some (.lst ls) ∧ H' b = some (.lst fs) ∧ PenAt K H' p z (n + i) ∧ KeepBut p H H')
        ⟨xs, [], none, rfl, List.Perm.refl _, rfl, s2 _ _ upd_same, upd_same, S.same s12, KeepBut.of s12⟩ ?_ ?_⟩
      · rintro i σ' H' hi ⟨ls, fs, o, rfl, pm, hfl, hA, hB, S', k'⟩
        have hll : ls.length + i = xs.length := by
          have := pm.length_eq
          rw [List.length_append] at this
          omega
        have hi : i < xs.length := by omega
        refine ⟨_, rfl, .inl ⟨rfl, _, .inl (.inl hB)⟩, _, rfl, .inl ⟨rfl, _, .inl (.inl hA)⟩, _, rfl, _, rfl, _, ls.length, rfl, .inl ⟨ls, .inl (.inl hA), rfl⟩, p, z, n + i, _, rfl, S', by omega, by omega, by omega, fun r H2 hr0 hr1 S2 k2 => ?_⟩
        obtain ⟨j, rfl⟩ : ∃ j : Nat, r = (j : Int) := ⟨r.toNat, by omega⟩
        have hj : j < ls.length := by omega
        have hA2 := k2 _ _ hA (Ne.symm npa)
        have hB2 := k2 _ _ hB (Ne.symm npb)
        have hy := List.getElem?_eq_getElem hj
        refine ⟨a, ls, (j : Int), j, ls[j], rfl, rfl, hA2, by omega, by omega, seq_nat hj, hy, ?_⟩
        have hB3 : upd H2 a (.lst (ls.eraseIdx j)) b = some (.lst fs) := by rw [upd_ne (Ne.symm nab)]; exact hB2
        refine ⟨b, fs, ls[j], rfl, rfl, hB3, Nat.lt_of_le_of_lt (show fs.length ≤ 1000 by omega) (by decide), ls.eraseIdx j, fs ++ [ls[j]], _, rfl, ?_, by simp [hfl], ?_, upd_same, ?_, ?_⟩
        · have e := erase_perm hy
          rw [List.append_assoc]
          exact (List.Perm.append_left fs e).trans pm
        · rw [upd_ne nab]
          exact upd_same
        · exact S.other nbH (S.other na S2)
        · exact ((k'.trans k2).put na).put nbH
      · rintro σ' H' ⟨ls, fs, o, rfl, pm, hfl, hA, hB, S', k'⟩
        have hll : ls.length + fs.length = xs.length := by
          have := pm.length_eq
          rw [List.length_append] at this
          omega
        have e : ls = [] := List.length_eq_zero_iff.mp (by omega)
        rw [e, List.append_nil] at pm
        exact ⟨fs, o, rfl, pm, hB, S'.mono (by omega), k'⟩
    · rintro σ' H' ⟨ys, o, rfl, pm, hB, S', k'⟩
      exact ⟨_, rfl, q b ys H' pm nbH hB S' k'⟩
end
end K88
/-! A drawn web. -/
namespace K88
open PySem L2

def spLWeb (K : PySem.W.Frag) : Sp := fun vs H Q _ => ∃ (p : Addr) (most many : Nat) (z : Addr × List Int) (n : Nat), vs = [.ref p, .int most, .int many] ∧ PenAt K H p z n ∧ n ≤ 50000 ∧ 2 ≤ most ∧ most ≤ 12 ∧ many ≤ 8 ∧
  ∀ (t u : Addr) (m : Nat) (rs : List (Int × Int)) (ys : List V) (H' : Hp), 1 ≤ m → m ≤ 12 → rs.length ≤ 8 → TiesOk m rs → SrtO.Srtd SrtO.lexB rs → H t = none → H u = none → H' t = some (.tup [.int m, .ref u]) → H' u = some (.tup ys) → Paired (PairAt H') ys rs → PenAt K H' p z (n + 20) → KeepBut p H H' → Q (.ref t) H'
section
variable {K : PySem.W.Frag} {H : Hp} {p : Addr} {z : Addr × List Int} {n : Nat}
theorem many_read {Q : VK} {most many m : Nat} {a4 a5 a6 a7 : Option V} (S : PenAt K H p z n) (hn : n ≤ 60000) (hm : many ≤ 8)
    (k : ∀ (r : Nat) (H' : Hp), r ≤ many → (1 < m ∨ r = 0) → PenAt K H' p z (n + 1) → KeepBut p H H' → Q (.int r) H') :
    tIf (tTest (tOp (rI0 fun i j => .bl (decide (j < i))) (tVar 3) (tC (.int 1)))) (tCall (spDraw K) [] E0 (tCons (tVar 0) (tCons (tOp (rI0 fun i j => .int (i + j)) (tVar 2) (tC (.int 1))) tNil))) (tC (.int 0))
      [some (.ref p), some (.int most), some (.int many), some (.int m), a4, a5, a6, a7] H Q := by
  refine ⟨_, rfl, _, _, rfl, rfl, ?_⟩
  by_cases h : 1 < m
  · refine ⟨true, congrArg V.bl (decide_eq_true (show (1 : Int) < (m : Int) by omega)), iteT ⟨_, rfl, _, rfl, _, _, rfl, rfl, p, z, n, _, rfl, S, by omega, by omega, by omega, fun r H' hr0 hr1 S' k' => ?_⟩⟩
    obtain ⟨j, rfl⟩ : ∃ j : Nat, r = (j : Int) := ⟨r.toNat, by omega⟩
    exact k j H' (by omega) (.inl h) S' k'
  · refine ⟨false, congrArg V.bl (decide_eq_false (show ¬ (1 : Int) < (m : Int) by omega)), iteF ?_⟩
    exact k 0 H (Nat.zero_le _) (.inr rfl) (S.mono (Nat.le_succ _)) (KeepBut.refl _ _)
end
section
variable {P : Program} {w : World} {K : PySem.W.Frag} {mg : Str → Option Value} {base : Heap} {f g : Addr} {fd gd : FuncData}
abbrev sLWeb : Stmt := top 43
abbrev lwN : List Str := ["pen", "most", "many", "size", "ties", "lap", "i", "j"]
theorem scLWeb : FnScope lwN ["pen", "most", "many"] (defScope sLWeb) := ⟨rfl, rfl, rfl, by decide +kernel, rfl, by decide +kernel, by decide +kernel⟩
theorem ok_lweb (F : FnP K "_law_web" sLWeb f fd) (TD : Told P w K mg base "_law_draw" 1 ["pen", "many"] (spDraw K) g gd) (mR : mg "range" = none) (mInt : mg "int" = none) (mMin : mg "min" = none) (mMax : mg "max" = none) (mS : mg "sorted" = none) (mT : mg "tuple" = none) :
    FnOk P w K mg base CX0 2 f fd ["pen", "most", "many"] (spLWeb K) := by
  refine F.ok scLWeb (fun vs H Q E h => ?_) (fun cdv A outer s H vs Q E hr h => ?_)
  · obtain ⟨p, most, many, z, n, rfl, _⟩ := h
    rfl
  · obtain ⟨p, most, many, z, n, rfl, S, hn, h2, h12, hmany, q⟩ := h
    refine ⟨_, PSs.nox (pss_cons (ps_set (i := 3) scLWeb.nd rfl (Or.inl rfl) (pe_op op_add pe_int (pe_call TD.ok hr (by rfl) TD.m TD.kp TD.b .nil pass0 (pa_cons (pv 0) (pa_cons (pv 1) pa_nil)))))
      (pss_cons (ps_set (i := 4) scLWeb.nd rfl (Or.inl rfl) (pe_lst pa_nil))
      (C8.pss_cut (ps_for PassesOwn.never rfl (pi_range1 (by rfl) mR (pa_cons (pe_ifExp (pt_cmpR op_gt (pv 3) pe_int (nomark _)) (pe_call TD.ok hr (by rfl) TD.m TD.kp TD.b .nil pass0 (pa_cons (pv 0) (pa_cons (pe_op op_add (pv 2) pe_int) pa_nil))) pe_int) pa_nil)) (pg_name (i := 5) scLWeb.nd rfl (Or.inl rfl))
          (pss_cons (ps_set (i := 6) scLWeb.nd rfl (Or.inl rfl) (pe_call TD.ok hr (by rfl) TD.m TD.kp TD.b .nil pass0 (pa_cons (pv 0) (pa_cons (pv 3) pa_nil))))
          (pss_cons (ps_set (i := 7) scLWeb.nd rfl (Or.inl rfl) (pe_op op_mod (pe_callTy call_int1 (by rfl) mInt (by decide +kernel) (pa_cons (pe_op op_add (pe_op op_add (pv 6) pe_int) (pe_call TD.ok hr (by rfl) TD.m TD.kp TD.b .nil pass0 (pa_cons (pv 0) (pa_cons (pe_op op_sub (pv 3) pe_int) pa_nil)))) pa_nil)) (pv 3)))
          (pss_one (ps_expr (pe_bm PySem.F.plainAttrs_list PySem.F.slot_list_append PySem.F.type_list_append mt_append (pv 4) (pa_cons
            (pe_tup (pa_cons (pe_callB (call_min2 rfl) (by rfl) mMin (by decide +kernel) (pa_cons (pv 6) (pa_cons (pv 7) pa_nil))) (pa_cons (pe_callB (call_max2 rfl) (by rfl) mMax (by decide +kernel) (pa_cons (pv 6) (pa_cons (pv 7) pa_nil))) pa_nil))) pa_nil)))))))
      (pss_one (ps_ret (pe_tup (pa_cons (pv 3) (pa_cons (pe_callTy call_tuple_of (by rfl) mT (by decide +kernel) (pa_cons (pe_callB cr_sortedPL (by rfl) mS (by decide +kernel) (pa_cons (pv 4) pa_nil)) pa_nil)) pa_nil)))))))), ?_⟩
    rw [show L2.start lwN [V.ref p, V.int most, V.int many] = [some (V.ref p), some (V.int most), some (V.int many), none, none, none, none, none] from rfl]
    refine ⟨_, rfl, _, rfl, p, z, n, _, rfl, S, by omega, by omega, by omega, fun r1 H1 hr0 hr1 S1 k1 => ⟨_, _, rfl, rfl, ?_⟩⟩
    obtain ⟨m0, rfl⟩ : ∃ m0 : Nat, r1 = (m0 : Int) := ⟨r1.toNat, by omega⟩
    rw [show ((fun (i j : Int) => V.int (i + j)) 1 (m0 : Int)) = V.int ((m0 + 1 : Nat) : Int) from congrArg V.int (show (1 : Int) + (m0 : Int) = ((m0 + 1 : Nat) : Int) by omega)]
    obtain ⟨m, hm⟩ : ∃ m, m = m0 + 1 := ⟨_, rfl⟩
    rw [← hm]
    simp only [List.set_cons_succ, List.set_cons_zero]
    refine ⟨Nat.zero_le _, fun D nD => ?_⟩
    simp only [List.set_cons_succ, List.set_cons_zero]
    have npD : p ≠ D := S1.ne nD
    have nDH : H D = none := k1.free nD (Ne.symm npD)
    refine ⟨fun σ' H' => ∃ (xs : List V) (qs : List (Int × Int)) (a5 a6 a7 : Option V), σ' = [some (.ref p), some (.int most), some (.int many), some (.int m), some (.ref D), a5, a6, a7] ∧ H' D = some (.lst xs) ∧ Paired (PairAt H') xs qs ∧ qs.length ≤ 8 ∧ TiesOk m qs ∧ PenAt K H' p z (n + 20) ∧ KeepBut p H H', ?_, ?_⟩
    · refine many_read (n := n + 1) (S1.same (same_new nD)) (by omega) hmany fun c H2 hc hcm S2 k2 => ?_
      refine ⟨_, rfl, by omega, by omega, for_range (lo := 0) (n := ((c : Nat) : Int).toNat)
        (fun i σ' H' => ∃ (xs : List V) (qs : List (Int × Int)) (a5 a6 a7 : Option V), σ' = [some (.ref p), some (.int most), some (.int many), some (.int m), some (.ref D), a5, a6, a7] ∧ H' D = some (.lst xs) ∧ Paired (PairAt H') xs qs ∧ qs.length = i ∧ TiesOk m qs ∧ PenAt K H' p z (n + 2 + 2 * i) ∧ KeepBut p H H')
        ⟨[], [], none, none, none, rfl, k2 _ _ upd_same (Ne.symm npD), .nil, rfl, ⟨Nat.zero_le _, fun q hq => absurd hq List.not_mem_nil⟩, S2, (k1.trans (KeepBut.of (same_new nD))).trans k2⟩ ?_ ?_⟩
      · rintro i σ' H' hi ⟨xs, qs, a5, a6, a7, rfl, hD, hps, hql, hok, S', k'⟩
        have hi8 : i < 8 := by omega
        have hm1 : 1 < m := by omega
        refine ⟨_, rfl, _, rfl, p, z, n + 2 + 2 * i, _, rfl, S', by omega, by omega, by omega, fun x H3 hx0 hx1 S3 k3 => ?_⟩
        obtain ⟨a, rfl⟩ : ∃ a : Nat, x = (a : Int) := ⟨x.toNat, by omega⟩
        simp only [List.set_cons_succ, List.set_cons_zero]
        refine ⟨_, rfl, _, _, rfl, rfl, _, rfl, _, rfl, _, _, rfl, rfl, p, z, n + 2 + 2 * i + 1, _, rfl, S3, by omega, by omega, by omega, fun y H4 hy0 hy1 S4 k4 => ?_⟩
        obtain ⟨b, rfl⟩ : ∃ b : Nat, y = (b : Int) := ⟨y.toNat, by omega⟩
        refine ⟨_, _, rfl, rfl, .inl ⟨_, rfl, _, rfl, _, _, rfl, rfl, (by show (0 : Int) < (m : Int); omega), ?_⟩⟩
        obtain ⟨c2, hc2⟩ : ∃ c2 : Nat, ((a : Int) + 1 + (b : Int)) % (m : Int) = (c2 : Int) ∧ c2 < m ∧ c2 ≠ a := by
          have ha : a < m := by omega
          have hb : b + 1 < m := by omega
          refine ⟨(a + 1 + b) % m, by norm_cast, Nat.mod_lt _ (by omega), ?_⟩
          rcases Nat.lt_or_ge (a + 1 + b) m with lt | ge
          · rw [Nat.mod_eq_of_lt lt]
            omega
          · rw [Nat.mod_eq_sub_mod ge, Nat.mod_eq_of_lt (by omega)]
            omega
        obtain ⟨hc2, hcm2, hne⟩ := hc2
        rw [show ((fun (i j : Int) => V.int (i % j)) ((fun (i j : Int) => i + j) ((fun (i j : Int) => i + j) (a : Int) 1) (b : Int)) (m : Int)) = V.int (c2 : Int) from congrArg V.int hc2]
        simp only [List.set_cons_succ, List.set_cons_zero]
        have ha : a < m := by omega
        have hD4 := k4 _ _ (k3 _ _ hD (Ne.symm npD)) (Ne.symm npD)
        refine ⟨_, rfl, .inl ⟨rfl, _, .inl (.inl hD4)⟩, _, rfl, _, rfl, _, _, rfl, _, rfl, _, rfl, _, _, rfl, two_ok, fun t nt => ?_⟩
        have ntD : t ≠ D := Ne.symm (ne_of_none hD4 nt)
        have hq : ∃ u v : Nat, ((if (c2 : Int) < (a : Int) then (c2 : Int) else (a : Int)), (if (a : Int) < (c2 : Int) then (c2 : Int) else (a : Int))) = ((u : Int), (v : Int)) ∧ u < v ∧ v < m := by
          by_cases l : (c2 : Int) < (a : Int)
          · exact ⟨c2, a, by rw [if_pos l, if_neg (by omega)], by omega, ha⟩
          · exact ⟨a, c2, by rw [if_neg l, if_pos (by omega)], by omega, hcm2⟩
        generalize (if (c2 : Int) < (a : Int) then (c2 : Int) else (a : Int)) = e1 at hq ⊢
        generalize (if (a : Int) < (c2 : Int) then (c2 : Int) else (a : Int)) = e2 at hq ⊢
        have ntH : H t = none := ((k'.trans k3).trans k4).free nt (S4.ne nt).symm
        have st : Same H4 (upd H4 t (.tup [.int e1, .int e2])) := same_new nt
        refine ⟨D, xs, .ref t, rfl, rfl, st _ _ hD4, Nat.lt_of_le_of_lt (show xs.length ≤ 8 by rw [paired_len hps]; omega) (by decide), xs ++ [.ref t], qs ++ [(e1, e2)], _, _, _, rfl, upd_same, ?_, by rw [List.length_append, List.length_singleton]; omega, ⟨?_, fun x hx => ?_⟩, ?_, ?_⟩
        · refine Paired.snoc (pairs_map (fun t' i' j' h' => ?_) hps) ⟨t, rfl, ?_⟩
          · have h4 := k4 _ _ (k3 _ _ h' (by obtain ⟨kvs, hpd⟩ := S'.dict; exact ne_of h' hpd (by intro z; cases z))) (by obtain ⟨kvs, hpd⟩ := S'.dict; exact ne_of h' hpd (by intro z; cases z))
            rw [upd_ne (ne_of h4 hD4 (by intro z; cases z))]
            exact st _ _ h4
          · rw [upd_ne ntD]
            exact upd_same
        · rw [List.length_append, List.length_singleton]
          omega
        · rcases List.mem_append.mp hx with hx | hx
          · exact hok.2 x hx
          · obtain ⟨u, v, h1, h2, h3⟩ := hq
            exact ⟨u, v, (List.mem_singleton.mp hx).trans h1, h2, h3⟩
        · exact S.other nDH (S.other ntH S4)
        · exact (((k'.trans k3).trans k4).put ntH).put nDH
      · rintro σ' H' ⟨xs, qs, a5, a6, a7, rfl, hD, hps, hql, hok, S', k'⟩
        exact ⟨xs, qs, _, _, _, rfl, hD, hps, by omega, hok, S'.mono (by omega), k'⟩
    · rintro σ' H' ⟨xs, qs, a5, a6, a7, rfl, hD, hps, hql, hok, S', k'⟩
      refine ⟨_, rfl, _, rfl, D, xs, qs, rfl, .inl (.inl hD), hps, fun ys rs d hys srt perm nd => ⟨d, ys, rfl, .inl ⟨.inl (.inl upd_same), fun u nu => ⟨two_ok, fun t nt => ?_⟩⟩⟩⟩
      have sd : Same H' (upd H' d (.lst ys)) := same_new nd
      have su : Same (upd H' d (.lst ys)) (upd (upd H' d (.lst ys)) u (.tup ys)) := same_new nu
      have st : Same (upd (upd H' d (.lst ys)) u (.tup ys)) (upd (upd (upd H' d (.lst ys)) u (.tup ys)) t (.tup [.int m, .ref u])) := same_new nt
      have sall := sd.trans (su.trans st)
      have nuH' := sd.free nu
      have ntH' := sd.free (su.free nt)
      refine q t u m rs ys _ (by omega) (by omega) (by rw [perm.length_eq]; exact hql) ⟨by rw [perm.length_eq]; omega, fun x hx => hok.2 x (perm.mem_iff.mp hx)⟩ srt (k'.free ntH' (S'.ne ntH').symm) (k'.free nuH' (S'.ne nuH').symm) upd_same (st _ _ upd_same) (pairs_map (fun _ _ _ h => sall _ _ h) hys) (S'.same sall) (k'.trans (KeepBut.of sall))
end
end K88
/-! The plain text of a web, told by the program and by the law. -/
namespace K88
open PySem L2

/-- a walk over a list or a tuple -/
def iLT (K : PySem.W.Frag) (tl : TE) : TI := fun σ H R => tl σ H fun x H1 => ∃ a, x = .ref a ∧ (((∃ xs, SqL K H1 a xs) ∧ R (Itl K a) H1) ∨ ((∃ xs, SqT K H1 a xs) ∧ R (Itt K a) H1))
theorem pi_lt {X : Cx} {tg : Expr} {l : Expr} {tl : TE} (hl : PE X l tl) : PI X tg l (iLT X.K tl) := by
  refine ⟨fun pins s σ H R I h => ?_⟩
  refine thn (hl.run pins s σ H _ I h) fun v s1 ⟨x, H1, I1, r1, q1⟩ => ?_
  obtain ⟨a, e, q1⟩ := q1
  subst e
  cases r1
  rcases q1 with ⟨⟨xs, hq⟩, q⟩ | ⟨⟨xs, hq⟩, q⟩
  · obtain ⟨its, rv, p, hz⟩ := I1.list hq
    refine wpAny_pyIter_list p.isList ?_
    refine ⟨s1.heap.objs.size, [s1.heap.objs.size], _, _, H1, rfl, I1.kept (t' := s1.toks) fun b o e => Heap.get?_push_of_some _ e, turn_list a _, ⟨_, Heap.get?_push_size _ rfl, rfl, rfl⟩, fun b hb => ?_, q⟩
    have e : b = s1.heap.objs.size := by simpa using hb
    subst e
    exact I1.fpOk (Nat.le_refl _) (I1.hok.fresh (Nat.le_refl _))
  · obtain ⟨its, rv, p, hz⟩ := I1.tuple hq
    refine wpAny_pyIter_tuple (show s1.heap.IsTuple a its.toArray from p) ?_
    refine ⟨s1.heap.objs.size, [s1.heap.objs.size], _, _, H1, rfl, I1.kept (t' := s1.toks) fun b o e => Heap.get?_push_of_some _ e, turn_tuple a _, ⟨_, Heap.get?_push_size _ rfl, rfl, rfl⟩, fun b hb => ?_, q⟩
    have e : b = s1.heap.objs.size := by simpa using hb
    subst e
    exact I1.fpOk (Nat.le_refl _) (I1.hok.fresh (Nat.le_refl _))
/-- a list or a tuple with these items -/
def SqA (K : PySem.W.Frag) (H : Hp) (a : Addr) (xs : List V) : Prop := SqL K H a xs ∨ SqT K H a xs
theorem SqA.same {K : PySem.W.Frag} {G H : Hp} {a : Addr} {xs : List V} (s : Same G H) (h : SqA K G a xs) : SqA K H a xs := h.imp (fun h => s.seq h) fun h => sqT_same s h
theorem line_web (name s : Str) : ((("web " : Str) ++ name) ++ (" " : Str)) ++ s = lineOf [webS, name, s] := by
  refine str_ext ?_
  show tl _ = tl _
  rw [tl_join, tl_space, tl_app, tl_app, tl_app, show tl ("web " : Str) = tl webS ++ [32] by decide +kernel, show tl (" " : Str) = [32] from tl_space]
  simp [TL.joinL]
theorem line_tie (i s : Str) : ((("tie " : Str) ++ i) ++ (" " : Str)) ++ s = lineOf [tieS, i, s] := by
  refine str_ext ?_
  show tl _ = tl _
  rw [tl_join, tl_space, tl_app, tl_app, tl_app, show tl ("tie " : Str) = tl tieS ++ [32] by decide +kernel, show tl (" " : Str) = [32] from tl_space]
  simp [TL.joinL]
theorem empty_app (x : Str) : Str.empty ++ x = x := by
  refine str_ext ?_
  show tl _ = tl _
  rw [tl_app]
  rfl
theorem web4 : ("web " : Str).length = 4 ∧ ("tie " : Str).length = 4 ∧ (" " : Str).length = 1 := by decide +kernel
theorem app_len (x y : Str) : (x ++ y).length = x.length + y.length := by
  rw [← len_cps, ← len_cps, ← len_cps]
  show (tl (x ++ y)).length = _
  rw [tl_app, List.length_append]
theorem num_len' {i : Nat} (h : i ≤ 12) : (numS (i : Int)).length ≤ 2 := by
  rw [← len_cps]
  exact num_len h
theorem paired_get {α β : Type} {R : α → β → Prop} : ∀ {xs : List α} {qs : List β} {i : Nat} {x : α}, Paired R xs qs → xs[i]? = some x → ∃ q, qs[i]? = some q ∧ R x q
  | _, _, _, _, .nil, h => by cases h
  | _, _, 0, _, .cons h t, e => by
    cases e
    exact ⟨_, rfl, h⟩
  | _, _, i + 1, _, .cons h t, e => paired_get (i := i) t e
theorem two_lt {K : PySem.W.Frag} {G H : Hp} (s : Same G H) {xs : List V} {qs : List (Int × Int)} (h : Paired (TwoAt K G) xs qs) : Paired (TwoAt K H) xs qs := two_same s h
section
variable {K : PySem.W.Frag} {H : Hp}
/-- the lines of the ties, whatever makes them -/
theorem ties_core {J : It} {a : Addr} {xs : List V} {ts : List (Int × Int)} {iA iB m : Nat} {te : TE} {σ : L2.St} {Q : VK} (hJ : (J = Itl K a ∧ SqL K H a xs) ∨ (J = Itt K a ∧ SqT K H a xs)) (two : Paired (TwoAt K H) xs ts) (hok : ∀ q ∈ ts, PairOk m q) (hm : m ≤ 12) (hl : ts.length ≤ 40)
    (hw : ∀ u v : V, wipe (((wipe σ [iA, iB]).set iA (some u)).set iB (some v)) [iA, iB] = wipe σ [iA, iB])
    (ht : ∀ (i j : Nat) (H' : Hp) (Q' : VK), i ≤ 12 → j ≤ 12 → Q' (.str (lineOf [tieS, numS (i : Int), numS (j : Int)])) H' → te (((wipe σ [iA, iB]).set iA (some (.int i))).set iB (some (.int j))) H' Q')
    (k : ∀ D H', Same H H' → H D = none → H' D = some (.lst ((ts.map fun q => lineOf [tieS, numS q.1, numS q.2]).map V.str)) → Q (.ref D) H') :
    ∀ D, H D = none → ∃ W : Nat → Nat → Hp → Prop, (∃ m, W 0 m (upd H D (.lst []))) ∧ ∀ i m H, W i m H →
      (J.stop i H ∧ Q (.ref D) H) ∨ (J.go i H ∧ ∃ Nx : Hp → Prop, (∀ H', Nx H' → ∃ m', m' < m ∧ W (i + 1) m' H') ∧ ∀ x H', J.yld i H x H' → gTup K 2 (gCons (gName iA) (gCons (gName iB) gNil)) x (wipe σ [iA, iB]) H' fun σ2 H2 => wipe σ2 [iA, iB] = wipe σ [iA, iB] ∧ tYes σ2 H2 fun b H3 =>
        if b = true then te σ2 H3 fun y H4 => ∃ acc, H4 D = some (.lst acc) ∧ acc.length < sizeLine ∧ Nx (upd H4 D (.lst (acc ++ [y]))) else Nx H3) := by
  intro D nD
  have hlen := paired_len two
  have turn : ∀ (i : Nat) (x : V) (H2 : Hp), xs[i]? = some x → (Same H H2 ∧ H2 D = some (.lst (((ts.take i).map fun q => lineOf [tieS, numS q.1, numS q.2]).map V.str)) ∧ i ≤ xs.length) →
      gTup K 2 (gCons (gName iA) (gCons (gName iB) gNil)) x (wipe σ [iA, iB]) H2 fun σ2 H2 => wipe σ2 [iA, iB] = wipe σ [iA, iB] ∧ tYes σ2 H2 fun b H3 =>
        if b = true then te σ2 H3 fun y H4 => ∃ acc, H4 D = some (.lst acc) ∧ acc.length < sizeLine ∧ (fun (H2 : Hp) => Same H H2 ∧ H2 D = some (.lst (((ts.take (i + 1)).map fun q => lineOf [tieS, numS q.1, numS q.2]).map V.str)) ∧ i + 1 ≤ xs.length) (upd H4 D (.lst (acc ++ [y]))) else (fun (H2 : Hp) => Same H H2 ∧ H2 D = some (.lst (((ts.take (i + 1)).map fun q => lineOf [tieS, numS q.1, numS q.2]).map V.str)) ∧ i + 1 ≤ xs.length) H3 := by
    rintro i x H2 hx ⟨sm, hD, hi⟩
    obtain ⟨q, hq, t, rfl, ht'⟩ := paired_get two hx
    obtain ⟨u, v, rfl, hu, hv, _⟩ := hok q (List.mem_of_getElem? hq)
    have hil : i < xs.length := by
      rcases Nat.lt_or_ge i xs.length with y | y
      · exact y
      · rw [List.getElem?_eq_none y] at hx
        cases hx
    refine ⟨t, _, rfl, sqT_same sm ht', rfl, _, _, rfl, _, _, rfl, rfl, hw _ _, ?_⟩
    refine yes_then ?_
    refine ht u v H2 _ (by omega) (by omega) ⟨_, hD, ?_, fun c o e => ?_, ?_, hil⟩
    · rw [List.length_map, List.length_map, List.length_take]
      exact Nat.lt_of_le_of_lt (show min i ts.length ≤ 40 by omega) (by decide)
    · rw [upd_ne (ne_of_none e nD)]
      exact sm c o e
    · rw [upd_same, take_more hq, List.map_append, List.map_append]
      rfl
  have fin : ∀ H2 : Hp, (Same H H2 ∧ H2 D = some (.lst (((ts.take xs.length).map fun q => lineOf [tieS, numS q.1, numS q.2]).map V.str)) ∧ xs.length ≤ xs.length) → Q (.ref D) H2 := by
    rintro H2 ⟨sm, hD, _⟩
    rw [hlen, List.take_length] at hD
    exact k D H2 sm nD hD
  rcases hJ with ⟨rfl, hs⟩ | ⟨rfl, hs⟩
  · exact lc_list (K := K) (a := a) (xs := xs) (Qd := fun H => Q (.ref D) H) (fun i H2 => Same H H2 ∧ H2 D = some (.lst (((ts.take i).map fun q => lineOf [tieS, numS q.1, numS q.2]).map V.str)) ∧ i ≤ xs.length) ⟨same_new nD, upd_same, Nat.zero_le _⟩ (fun i H2 _ h => h.1.seq hs) turn fin
  · exact lc_tup (K := K) (a := a) (xs := xs) (Qd := fun H => Q (.ref D) H) (fun i H2 => Same H H2 ∧ H2 D = some (.lst (((ts.take i).map fun q => lineOf [tieS, numS q.1, numS q.2]).map V.str)) ∧ i ≤ xs.length) ⟨same_new nD, upd_same, Nat.zero_le _⟩ (fun i H2 _ h => sqT_same h.1 hs) turn fin
end
section
variable {K : PySem.W.Frag} {H : Hp}
theorem ties_lt {tl : TE} {a : Addr} {xs : List V} {ts : List (Int × Int)} {iA iB m : Nat} {te : TE} {σ : L2.St} {Q : VK} (h0 : ∀ R : VK, R (.ref a) H → tl σ H R) (hs : SqA K H a xs) (two : Paired (TwoAt K H) xs ts) (hok : ∀ q ∈ ts, PairOk m q) (hm : m ≤ 12) (hl : ts.length ≤ 40)
    (hw : ∀ u v : V, wipe (((wipe σ [iA, iB]).set iA (some u)).set iB (some v)) [iA, iB] = wipe σ [iA, iB])
    (ht : ∀ (i j : Nat) (H' : Hp) (Q' : VK), i ≤ 12 → j ≤ 12 → Q' (.str (lineOf [tieS, numS (i : Int), numS (j : Int)])) H' → te (((wipe σ [iA, iB]).set iA (some (.int i))).set iB (some (.int j))) H' Q')
    (k : ∀ D H', Same H H' → H D = none → H' D = some (.lst ((ts.map fun q => lineOf [tieS, numS q.1, numS q.2]).map V.str)) → Q (.ref D) H') : tLc (iLT K tl) (gTup K 2 (gCons (gName iA) (gCons (gName iB) gNil))) tYes te [iA, iB] σ H Q :=
  h0 _ ⟨a, rfl, hs.imp (fun h => ⟨⟨_, h⟩, ties_core (Q := Q) (.inl ⟨rfl, h⟩) two hok hm hl hw ht k⟩) fun h => ⟨⟨_, h⟩, ties_core (Q := Q) (.inr ⟨rfl, h⟩) two hok hm hl hw ht k⟩⟩
theorem ties_tup {tl : TE} {a : Addr} {xs : List V} {ts : List (Int × Int)} {iA iB m : Nat} {te : TE} {σ : L2.St} {Q : VK} (h0 : ∀ R : VK, R (.ref a) H → tl σ H R) (hs : SqT K H a xs) (two : Paired (TwoAt K H) xs ts) (hok : ∀ q ∈ ts, PairOk m q) (hm : m ≤ 12) (hl : ts.length ≤ 40)
    (hw : ∀ u v : V, wipe (((wipe σ [iA, iB]).set iA (some u)).set iB (some v)) [iA, iB] = wipe σ [iA, iB])
    (ht : ∀ (i j : Nat) (H' : Hp) (Q' : VK), i ≤ 12 → j ≤ 12 → Q' (.str (lineOf [tieS, numS (i : Int), numS (j : Int)])) H' → te (((wipe σ [iA, iB]).set iA (some (.int i))).set iB (some (.int j))) H' Q')
    (k : ∀ D H', Same H H' → H D = none → H' D = some (.lst ((ts.map fun q => lineOf [tieS, numS q.1, numS q.2]).map V.str)) → Q (.ref D) H') : tLc (iTup K tl) (gTup K 2 (gCons (gName iA) (gCons (gName iB) gNil))) tYes te [iA, iB] σ H Q :=
  h0 _ ⟨a, rfl, ⟨_, hs⟩, ties_core (Q := Q) (.inr ⟨rfl, hs⟩) two hok hm hl hw ht k⟩
end
theorem lines_is (name : Str) (m : Nat) (ts : List (Int × Int)) : linesW name m ts = [lineOf [webS, name, numS (m : Int)]] ++ (ts.map fun q => lineOf [tieS, numS q.1, numS q.2]) ++ [endS] := by
  unfold linesW piecesL
  rw [List.map_cons, List.map_append, List.map_map]
  have e : lineOf [endS] = endS := by
    refine str_ext ?_
    show tl _ = tl _
    rw [tl_join]
    rfl
  rw [List.map_cons, List.map_nil, e]
  rfl
/-- the lines' lengths -/
theorem lines_short {name : Str} {m : Nat} {ts : List (Int × Int)} (ok : NameOk name) (h1 : 1 ≤ m) (h12 : m ≤ 12) (ht : ∀ q ∈ ts, PairOk m q) (h40 : ts.length ≤ 40) : ((linesW name m ts).map (·.length)).sum ≤ 40 * (ts.length + 2) := by
  have key : ∀ ls : List Str, (∀ l ∈ ls, l.length ≤ 40) → (ls.map (·.length)).sum ≤ 40 * ls.length := by
    intro ls
    induction ls with
    | nil => intro _; exact Nat.le_refl 0
    | cons l ls ih =>
      intro h
      have i := ih fun x hx => h x (List.mem_cons_of_mem _ hx)
      have j := h l List.mem_cons_self
      rw [List.map_cons, List.sum_cons, List.length_cons]
      omega
  have e := key (linesW name m ts) fun l hl => by
    unfold linesW at hl
    obtain ⟨ps, hps, rfl⟩ := List.mem_map.mp hl
    obtain ⟨k, hk⟩ := List.getElem?_of_mem hps
    exact (step_at (found := []) ok rfl h1 h12 ht h40 hk (plain_spaced hk)).2.2.2
  unfold linesW at e
  rw [List.length_map, pieces_len] at e
  exact e
def spWText (K : PySem.W.Frag) : Sp := fun vs H Q _ => ∃ (name : Str) (m : Nat) (a : Addr) (xs : List V) (ts : List (Int × Int)), vs = [.str name, .int m, .ref a] ∧ NameOk name ∧ 1 ≤ m ∧ m ≤ 12 ∧ SqA K H a xs ∧ Paired (TwoAt K H) xs ts ∧ (∀ q ∈ ts, PairOk m q) ∧ ts.length ≤ 40 ∧
  ∀ H', Same H H' → Q (.str (webText name m ts)) H'
def spIText (K : PySem.W.Frag) (CW : Addr) : Sp := fun vs H Q _ => ∃ (name : Str) (m : Nat) (b dx a : Addr) (xs : List V) (ts : List (Int × Int)), vs = [.str name, .ref b] ∧ H b = some (.ins CW dx (webFs m a)) ∧ NameOk name ∧ 1 ≤ m ∧ m ≤ 12 ∧ SqT K H a xs ∧ Paired (TwoAt K H) xs ts ∧ (∀ q ∈ ts, PairOk m q) ∧ ts.length ≤ 40 ∧
  ∀ H', Same H H' → Q (.str (webText name m ts)) H'
theorem join_len_ok {name : Str} {m : Nat} {ts : List (Int × Int)} (ok : NameOk name) (h1 : 1 ≤ m) (h12 : m ≤ 12) (ht : ∀ q ∈ ts, PairOk m q) (h40 : ts.length ≤ 40) :
    ((linesW name m ts).map (·.length)).sum + (linesW name m ts).length * nlS.length ≤ 16777216 ∧ (Txt.join nlS (linesW name m ts)).length + nlS.length ≤ sizeLine := by
  have a := lines_short ok h1 h12 ht h40
  have b : (linesW name m ts).length = ts.length + 2 := by
    unfold linesW
    rw [List.length_map, pieces_len]
  have c := join_len (linesW name m ts)
  have d : nlS.length = 1 := by decide +kernel
  have e : sizeLine = 16777216 := sizeLine_eq
  rw [d, b]
  omega
theorem set_of {te : TE} {g : TG} {ts : TS} {D : L2.Ends} {σ : L2.St} {H : Hp} (h : te σ H fun x H1 => g x σ H1 (ts D)) : tSeq (tAsg te g) ts D σ H := h
theorem op_of {r : R2} {ta tb : TE} {σ : L2.St} {H : Hp} {Q : VK} (h : ta σ H fun x H1 => tb σ H1 fun y H2 => r x y H2 Q) : tOp r ta tb σ H Q := h
theorem lst1_of {te : TE} {σ : L2.St} {H : Hp} {Q : VK} (h : te σ H fun x H1 => 1 ≤ sizeLine ∧ ∀ l, H1 l = none → Q (.ref l) (upd H1 l (.lst [x]))) : tLst (tCons te tNil) σ H Q := h
abbrev rAdd : R2 := fun x y H Q => ∃ i j, x = .str i ∧ y = .str j ∧ i.length + j.length ≤ sizeLine ∧ Q (.str (i ++ j)) H
theorem web_read {σ : L2.St} {H : Hp} {Q : VK} {i1 i2 m : Nat} {name : Str} (h1 : σ[i1]? = some (some (.str name))) (h2 : σ[i2]? = some (some (.int m))) (hn : name.length ≤ 8) (hm : m ≤ 12) (q : Q (.str (lineOf [webS, name, numS (m : Int)])) H) :
    tOp rAdd (tOp rAdd (tOp rAdd (tC (.str "web ")) (tVar i1)) (tC (.str " "))) (tCB rStrI (tCons (tVar i2) tNil)) σ H Q := by
  have hsz : sizeLine = 16777216 := sizeLine_eq
  have lm := num_len' hm
  obtain ⟨w1, w2, w3⟩ := web4
  refine ⟨_, h1, _, _, rfl, rfl, by omega, _, _, rfl, rfl, by rw [app_len]; omega, _, h2, _, rfl, log_small (by omega), _, _, rfl, rfl, ?_, ?_⟩
  · show _ + (numS (m : Int)).length ≤ sizeLine
    rw [app_len, app_len]
    omega
  · rw [← line_web] at q
    exact q
theorem tie_read {σ : L2.St} {H : Hp} {Q : VK} {i1 i2 i j : Nat} (h1 : σ[i1]? = some (some (.int i))) (h2 : σ[i2]? = some (some (.int j))) (hi : i ≤ 12) (hj : j ≤ 12) (q : Q (.str (lineOf [tieS, numS (i : Int), numS (j : Int)])) H) :
    tOp rAdd (tOp rAdd (tOp rAdd (tC (.str "tie ")) (tCB rStrI (tCons (tVar i1) tNil))) (tC (.str " "))) (tCB rStrI (tCons (tVar i2) tNil)) σ H Q := by
  have hsz : sizeLine = 16777216 := sizeLine_eq
  have li := num_len' hi
  have lj := num_len' hj
  obtain ⟨w1, w2, w3⟩ := web4
  refine ⟨_, h1, _, rfl, log_small (by omega), _, _, rfl, rfl, ?_, _, _, rfl, rfl, ?_, _, h2, _, rfl, log_small (by omega), _, _, rfl, rfl, ?_, ?_⟩
  · show _ + (numS (i : Int)).length ≤ sizeLine
    omega
  · show (("tie " : Str) ++ numS (i : Int)).length + _ ≤ sizeLine
    rw [app_len]
    omega
  · show ((("tie " : Str) ++ numS (i : Int)) ++ (" " : Str)).length + (numS (j : Int)).length ≤ sizeLine
    rw [app_len, app_len]
    omega
  · rw [← line_tie] at q
    exact q
section
variable {P : Program} {w : World} {K : PySem.W.Frag} {mg : Str → Option Value} {base : Heap} {f g C : Addr} {fd gd : FuncData}
abbrev sWText : Stmt := top 51
abbrev wtN : List Str := ["name", "size", "ties", "lines", "i", "j"]
theorem scWText : FnScope wtN ["name", "size", "ties"] (defScope sWText) := ⟨rfl, rfl, rfl, by decide +kernel, rfl, by decide +kernel, by decide +kernel⟩
/-- the lines, closed -/
theorem close_read {σ : L2.St} {H : Hp} {Q : VK} {K : PySem.W.Frag} {i L : Nat} {name : Str} {m : Nat} {ts : List (Int × Int)} (ok : NameOk name) (h1 : 1 ≤ m) (h12 : m ≤ 12) (ht : ∀ q ∈ ts, PairOk m q) (h40 : ts.length ≤ 40)
    (hi : σ[i]? = some (some (.ref L))) (hL : H L = some (.lst (([lineOf [webS, name, numS (m : Int)]] ++ (ts.map fun q => lineOf [tieS, numS q.1, numS q.2])).map V.str))) (q : ∀ H', Same H H' → Q (.str (webText name m ts)) H') :
    tOp rAdd (tM1 (fun x xs H Q => ∃ a p, ∃ ys : List Str, x = .str a ∧ xs = [.ref p] ∧ (SqL K H p (ys.map V.str) ∨ SqT K H p (ys.map V.str)) ∧ (ys.map (·.length)).sum + ys.length * a.length ≤ 16777216 ∧ Q (.str (Txt.join a ys)) H)
      (tC (.str "\n")) (tOp rCat (tVar i) (tLst (tCons (tC (.str "end")) tNil)))) (tC (.str "\n")) σ H Q := by
  obtain ⟨b1, b2⟩ := join_len_ok ok h1 h12 ht h40
  refine ⟨⟨_, rfl⟩, _, hi, by decide, fun e ne => ?_⟩
  have se : Same H (upd H e (.lst [.str "end"])) := same_new ne
  refine ⟨L, e, _, _, rfl, rfl, se _ _ hL, upd_same, ?_, fun d nd => ?_⟩
  · rw [List.length_map, List.length_append, List.length_map]
    exact Nat.le_trans (show 1 + ts.length + 1 ≤ 42 by omega) (by decide)
  · refine ⟨nlS, d, linesW name m ts, rfl, rfl, .inl (.inl (.inl ?_)), b1, _, _, rfl, rfl, b2, ?_⟩
    · rw [upd_same, lines_is, List.map_append (l₂ := [endS])]
      rfl
    · exact q _ (se.trans (same_new nd))
theorem ok_wtext (F : FnP K "_law_web_text" sWText f fd) (mStr : mg "str" = none) : FnOk P w K mg base CX0 1 f fd ["name", "size", "ties"] (spWText K) := by
  refine F.ok scWText (fun vs H Q E h => ?_) (fun cdv A outer s H vs Q E hr h => ?_)
  · obtain ⟨name, m, a, xs, ts, rfl, _⟩ := h
    rfl
  · obtain ⟨name, m, a, xs, ts, rfl, ok, h1, h12, hs, two, hok, h40, q⟩ := h
    have hsz : sizeLine = 16777216 := sizeLine_eq
    have l8 : name.length ≤ 8 := by rw [← len_cps]; exact ok.len
    refine ⟨_, PSs.nox (pss_cons (ps_set (i := 3) scWText.nd rfl (Or.inl rfl) (pe_op op_cat
        (pe_lst (pa_cons (pe_op op_add_str (pe_op op_add_str (pe_op op_add_str pe_str (pv 0)) pe_str) (pe_callTy call_str_int (by rfl) mStr (by decide +kernel) (pa_cons (pv 1) pa_nil))) pa_nil))
        (pe_lc (own := [("i", 4), ("j", 5)]) (g := gTup K 2 (gCons (gName 4) (gCons (gName 5) gNil))) (tt := tYes) (te := tOp rAdd (tOp rAdd (tOp rAdd (tC (.str "tie ")) (tCB rStrI (tCons (tVar 4) tNil))) (tC (.str " "))) (tCB rStrI (tCons (tVar 5) tNil))) (wi := iLT K (tVar 2)) rfl scWText.nd (pi_lt (pv 2)) (blkOk_by (own := [("i", 4), ("j", 5)]) (N := wtN) (sc := defScope sWText) (by decide +kernel))
          (fun _ _ _ _ _ => pg_tup (n := 2) rfl (pgs_cons (pg_name (i := 4) scWText.nd rfl (Or.inl rfl)) (pgs_cons (pg_name (i := 5) scWText.nd rfl (Or.inl rfl)) pgs_nil))) (fun _ _ _ _ _ => pts_nil)
          (fun _ _ _ _ _ => pe_op op_add_str (pe_op op_add_str (pe_op op_add_str pe_str (pe_callTy call_str_int (by rfl) mStr (by decide +kernel) (pa_cons (pv 4) pa_nil))) pe_str) (pe_callTy call_str_int (by rfl) mStr (by decide +kernel) (pa_cons (pv 5) pa_nil))))))
      (pss_one (ps_ret (pe_op op_add_str (pe_join pe_str (pe_op op_cat (pv 3) (pe_lst (pa_cons pe_str pa_nil)))) pe_str)))), ?_⟩
    rw [show L2.start wtN [V.str name, V.int m, V.ref a] = [some (V.str name), some (V.int m), some (V.ref a), none, none, none] from rfl]
    refine set_of (op_of (lst1_of (web_read (i1 := 0) (i2 := 1) (name := name) (m := m) rfl rfl l8 h12 ?_)))
    refine ⟨by omega, fun L nL => ?_⟩
    have sL : Same H (upd H L (.lst [.str (lineOf [webS, name, numS (m : Int)])])) := same_new nL
    have tr : ∀ (i j : Nat) (H' : Hp) (Q' : VK), i ≤ 12 → j ≤ 12 → Q' (.str (lineOf [tieS, numS (i : Int), numS (j : Int)])) H' → tOp rAdd (tOp rAdd (tOp rAdd (tC (.str "tie ")) (tCB rStrI (tCons (tVar 4) tNil))) (tC (.str " "))) (tCB rStrI (tCons (tVar 5) tNil)) (((wipe [some (V.str name), some (V.int m), some (V.ref a), none, none, none] [4, 5]).set 4 (some (.int i))).set 5 (some (.int j))) H' Q' :=
      fun i j H' Q' hi hj q' => tie_read (i1 := 4) (i2 := 5) rfl rfl hi hj q'
    refine ties_lt (fun R r => ⟨_, rfl, r⟩) (hs.same sL) (two_same sL two) hok h12 h40 (fun u v => rfl) tr fun D H2 s2 nD hD => ?_
    refine ⟨L, D, _, _, rfl, rfl, s2 _ _ upd_same, hD, ?_, fun d nd => ?_⟩
    · rw [List.length_map]
      exact Nat.le_trans (show 1 + (ts.map fun q => lineOf [tieS, numS q.1, numS q.2]).length ≤ 41 by rw [List.length_map]; omega) (by decide)
    · simp only [List.set_cons_succ, List.set_cons_zero]
      exact close_read (i := 3) ok h1 h12 hok h40 rfl upd_same fun H' s' => q H' (sL.trans (s2.trans ((same_new nd).trans s')))
/-! ### the program's own -/
def tJ (ts : List TE) : TE := fun σ H Q => tJs ts Str.empty σ H fun out H1 => Q (.str out) H1
theorem pe_joinedJ {X : Cx} {v1 v2 : Expr} {rest : List Expr} {ts : List TE} {pos : Pos} (h : PJ X (v1 :: v2 :: rest) ts) : PE X (.JoinedStr (v1 :: v2 :: rest) pos) (tJ ts) := pe_joined h
abbrev sIText : Stmt := top 36
abbrev itxN : List Str := ["name", "web", "lines", "i", "j"]
theorem scIText : FnScope itxN ["name", "web"] (defScope sIText) := ⟨rfl, rfl, rfl, by decide +kernel, rfl, by decide +kernel, by decide +kernel⟩
theorem fmt_line {x : Str} {a b : Str} : (((Str.empty ++ x) ++ a) ++ (" " : Str)) ++ b = ((x ++ a) ++ (" " : Str)) ++ b := by rw [empty_app]
theorem ok_itext (F : FnP K "item_text" sIText f fd) (cl : Cls K C) (n1 : NoAttr K C "size") (n2 : NoAttr K C "ties") : FnOk P w K mg base CX0 1 f fd ["name", "web"] (spIText K C) := by
  refine F.ok scIText (fun vs H Q E h => ?_) (fun cdv A outer s H vs Q E hr h => ?_)
  · obtain ⟨name, m, b, dx, a, xs, ts, rfl, _⟩ := h
    rfl
  · obtain ⟨name, m, b, dx, a, xs, ts, rfl, hb, ok, h1, h12, hs, two, hok, h40, q⟩ := h
    have hsz : sizeLine = 16777216 := sizeLine_eq
    have l8 : name.length ≤ 8 := by rw [← len_cps]; exact ok.len
    obtain ⟨w1, w2, w3⟩ := web4
    have lm := num_len' h12
    refine ⟨_, PSs.nox (pss_cons (ps_set (i := 2) scIText.nd rfl (Or.inl rfl) (pe_op op_cat
        (pe_lst (pa_cons (pe_joinedJ (.cons pe_str (.cons (pe_fmt (pv 0)) (.cons pe_str (.cons (pe_fmt (te := tFld K (tVar 1) "size") (pe_fld (pv 1) rfl)) .nil))))) pa_nil))
        (pe_lc (own := [("i", 3), ("j", 4)]) (g := gTup K 2 (gCons (gName 3) (gCons (gName 4) gNil))) (tt := tYes) (te := tJ [tC (.str "tie "), tFmt (tVar 3), tC (.str " "), tFmt (tVar 4)]) (wi := iTup K (tFld K (tVar 1) "ties")) rfl scIText.nd (pi_tup (pe_fld (pv 1) rfl)) (blkOk_by (own := [("i", 3), ("j", 4)]) (N := itxN) (sc := defScope sIText) (by decide +kernel))
          (fun _ _ _ _ _ => pg_tup (n := 2) rfl (pgs_cons (pg_name (i := 3) scIText.nd rfl (Or.inl rfl)) (pgs_cons (pg_name (i := 4) scIText.nd rfl (Or.inl rfl)) pgs_nil))) (fun _ _ _ _ _ => pts_nil)
          (fun _ _ _ _ _ => pe_joinedJ (.cons pe_str (.cons (pe_fmt (pv 3)) (.cons pe_str (.cons (pe_fmt (pv 4)) .nil))))))))
      (pss_one (ps_ret (pe_op op_add_str (pe_join pe_str (pe_op op_cat (pv 2) (pe_lst (pa_cons pe_str pa_nil)))) pe_str)))), ?_⟩
    rw [show L2.start itxN [V.str name, V.ref b] = [some (V.str name), some (V.ref b), none, none, none] from rfl]
    have wr : ∀ (Q' : VK), Q' (.str (lineOf [webS, name, numS (m : Int)])) H → tJ [tC (.str "web "), tFmt (tVar 0), tC (.str " "), tFmt (tFld K (tVar 1) "size")] [some (V.str name), some (V.ref b), none, none, none] H Q' := fun Q' q' => by
      refine ⟨_, rfl, by rw [empty_app]; omega, _, rfl, .inl ⟨name, rfl, by omega, name, rfl, by rw [empty_app, app_len]; omega, _, rfl, by rw [empty_app, app_len, app_len]; omega, _, rfl, b, C, dx, _, _, rfl, hb, cl, n1, rfl, .inr ⟨_, rfl, log_small (by omega), _, rfl, ?_, ?_⟩⟩⟩
      · show ((((Str.empty ++ ("web " : Str)) ++ name) ++ (" " : Str)) ++ numS (m : Int)).length ≤ sizeLine
        rw [fmt_line, app_len, app_len, app_len]
        omega
      · rw [← line_web, ← fmt_line] at q'
        exact q'
    have tr : ∀ (i j : Nat) (H' : Hp) (Q' : VK), i ≤ 12 → j ≤ 12 → Q' (.str (lineOf [tieS, numS (i : Int), numS (j : Int)])) H' → tJ [tC (.str "tie "), tFmt (tVar 3), tC (.str " "), tFmt (tVar 4)] (((wipe [some (V.str name), some (V.ref b), none, none, none] [3, 4]).set 3 (some (.int i))).set 4 (some (.int j))) H' Q' :=
      fun i j H' Q' hi hj q' => by
        have li := num_len' hi
        have lj := num_len' hj
        refine ⟨_, rfl, by rw [empty_app]; omega, _, rfl, .inr ⟨_, rfl, log_small (by omega), _, rfl, ?_, _, rfl, ?_, _, rfl, .inr ⟨_, rfl, log_small (by omega), _, rfl, ?_, ?_⟩⟩⟩
        · show ((Str.empty ++ ("tie " : Str)) ++ numS (i : Int)).length ≤ sizeLine
          rw [empty_app, app_len]
          omega
        · show (((Str.empty ++ ("tie " : Str)) ++ numS (i : Int)) ++ (" " : Str)).length ≤ sizeLine
          rw [empty_app, app_len, app_len]
          omega
        · show ((((Str.empty ++ ("tie " : Str)) ++ numS (i : Int)) ++ (" " : Str)) ++ numS (j : Int)).length ≤ sizeLine
          rw [fmt_line, app_len, app_len, app_len]
          omega
        · rw [← line_tie, ← fmt_line] at q'
          exact q'
    refine set_of (op_of (lst1_of (wr _ ?_)))
    refine ⟨by omega, fun L nL => ?_⟩
    have sL : Same H (upd H L (.lst [.str (lineOf [webS, name, numS (m : Int)])])) := same_new nL
    refine ties_tup (fun R r => ⟨_, rfl, b, C, dx, _, _, rfl, sL _ _ hb, cl, n2, rfl, r⟩) (sqT_same sL hs) (two_same sL two) hok h12 h40 (fun u v => rfl) tr fun D H2 s2 nD hD => ?_
    refine ⟨L, D, _, _, rfl, rfl, s2 _ _ upd_same, hD, ?_, fun d nd => ?_⟩
    · rw [List.length_map]
      exact Nat.le_trans (show 1 + (ts.map fun q => lineOf [tieS, numS q.1, numS q.2]).length ≤ 41 by rw [List.length_map]; omega) (by decide)
    · simp only [List.set_cons_succ, List.set_cons_zero]
      exact close_read (i := 2) ok h1 h12 hok h40 rfl upd_same fun H' s' => q H' (sL.trans (s2.trans ((same_new nd).trans s')))
end
end K88
/-! A drawn name. -/
namespace K88
open PySem L2

theorem cut_to {t : Str} {n : Nat} : tl (cutS t none (some (n : Int))) = (tl t).take n := by
  show (cutS t none (some (n : Int))).cps.toList = t.cps.toList.take n
  unfold cutS
  rw [HT.sIx_none, HT.sIx_nat, List.drop_zero, Nat.sub_zero]
  rcases Nat.le_total n t.length with h | h
  · rw [Nat.min_eq_left h]
  · rw [Nat.min_eq_right h, List.take_of_length_le (by rw [len_cps]; omega), List.take_of_length_le (by rw [len_cps]; omega)]
theorem cut_from {t : Str} {n : Nat} : tl (cutS t (some (n : Int)) none) = (tl t).drop n := by
  show (cutS t (some (n : Int)) none).cps.toList = t.cps.toList.drop n
  unfold cutS
  rw [HT.sIx_none, HT.sIx_nat]
  rcases Nat.le_total n t.length with h | h
  · rw [Nat.min_eq_left h, List.take_of_length_le (by rw [List.length_drop, len_cps]; exact Nat.le_refl _)]
  · rw [Nat.min_eq_right h, Nat.sub_self, List.take_zero]
    exact (List.drop_eq_nil_of_le (by rw [len_cps]; exact h)).symm
/-- a beginning of a name -/
structure PreOk (s : Str) : Prop where
  hd : ∃ c r, tl s = c :: r ∧ c ∈ tl smallS
  all : ∀ c ∈ tl s, c ∈ tl bothS
theorem pre_len {s : Str} (h : PreOk s) : 1 ≤ s.length := by
  obtain ⟨c, r, e, _⟩ := h.hd
  rw [← len_cps, show s.cps.toList = c :: r from e]
  exact Nat.succ_le_succ (Nat.zero_le _)
theorem pre_words : ∀ w ∈ wordsL, (∃ c r, (tl w).take 7 = c :: r ∧ c ∈ tl smallS) ∧ (∀ c ∈ (tl w).take 7, c ∈ tl bothS) := by
  have key : (wordsL.all fun w => (match (tl w).take 7 with | [] => false | c :: _ => decide (c ∈ tl smallS)) && ((tl w).take 7).all fun c => decide (c ∈ tl bothS)) = true := by decide +kernel
  intro w hw
  have k := List.all_eq_true.mp key w hw
  rw [Bool.and_eq_true] at k
  refine ⟨?_, fun c hc => of_decide_eq_true (List.all_eq_true.mp k.2 c hc)⟩
  have k1 := k.1
  cases e : (tl w).take 7 with
  | nil =>
    rw [e] at k1
    cases k1
  | cons c r =>
    rw [e] at k1
    exact ⟨c, r, rfl, of_decide_eq_true k1⟩
theorem pre_word {w : Str} (h : w ∈ wordsL) : PreOk (cutS w none (some ((7 : Nat) : Int))) ∧ (cutS w none (some ((7 : Nat) : Int))).length ≤ 7 := by
  obtain ⟨h1, h2⟩ := pre_words w h
  refine ⟨⟨by rw [cut_to]; exact h1, by rw [cut_to]; exact h2⟩, ?_⟩
  rw [← len_cps]
  show (tl (cutS w none (some ((7 : Nat) : Int)))).length ≤ 7
  rw [cut_to, List.length_take]
  omega
theorem small_len : smallS.length = 26 ∧ digitS.length = 10 ∧ smallS.length ≤ sizeLine := by decide +kernel
theorem pre_small {c : Nat} (h : c ∈ smallS.cps.toList) : PreOk ⟨#[c]⟩ := ⟨⟨c, [], rfl, h⟩, fun d hd => by
  rw [List.mem_singleton.mp hd]
  exact small_both h⟩
theorem pre_to : PreOk ("to" : Str) ∧ PreOk ("end" : Str) ∧ ("to" : Str).length ≤ 7 ∧ ("end" : Str).length ≤ 7 := by
  have key : ∀ s ∈ [("to" : Str), ("end" : Str)], ((match tl s with | [] => false | c :: _ => decide (c ∈ tl smallS)) && ((tl s).all fun c => decide (c ∈ tl bothS)) && decide (s.length ≤ 7)) = true := by decide +kernel
  have mk : ∀ s : Str, ((match tl s with | [] => false | c :: _ => decide (c ∈ tl smallS)) && ((tl s).all fun c => decide (c ∈ tl bothS)) && decide (s.length ≤ 7)) = true → PreOk s ∧ s.length ≤ 7 := by
    intro s k
    rw [Bool.and_eq_true, Bool.and_eq_true] at k
    obtain ⟨⟨k1, k2⟩, k3⟩ := k
    refine ⟨⟨?_, fun c hc => of_decide_eq_true (List.all_eq_true.mp k2 c hc)⟩, of_decide_eq_true k3⟩
    cases e : tl s with
    | nil =>
      rw [e] at k1
      cases k1
    | cons c r =>
      rw [e] at k1
      exact ⟨c, r, rfl, of_decide_eq_true k1⟩
  have a := mk _ (key _ List.mem_cons_self)
  have b := mk _ (key _ (List.mem_cons_of_mem _ List.mem_cons_self))
  exact ⟨a.1, b.1, a.2, b.2⟩
theorem pre_app {s : Str} {c : Nat} (h : PreOk s) (hc : c ∈ bothS.cps.toList) : PreOk (s ++ ⟨#[c]⟩) := by
  obtain ⟨⟨d, r, e, hd⟩, ha⟩ := h
  refine ⟨⟨d, r ++ [c], by rw [tl_app, e]; rfl, hd⟩, fun x hx => ?_⟩
  rw [tl_app] at hx
  rcases List.mem_append.mp hx with hx | hx
  · exact ha x hx
  · rw [List.mem_singleton.mp hx]
    exact hc
theorem name_of {s : Str} (h : PreOk s) (l : s.length ≤ 8) (n : s ∉ wordsL) : NameOk s := ⟨by rw [show (tl s).length = s.length from len_cps s]; exact l, h.hd, h.all, n⟩
theorem words_no0 : ∀ w ∈ wordsL, 48 ∉ tl w := by
  have key : (wordsL.all fun w => !decide (48 ∈ tl w)) = true := by decide +kernel
  intro w hw h
  have k := List.all_eq_true.mp key w hw
  rw [decide_eq_true h] at k
  cases k
theorem name_cut {s : Str} (h : PreOk s) : NameOk (cutS s none (some ((7 : Nat) : Int)) ++ ("0" : Str)) := by
  obtain ⟨⟨c, r, e, hc⟩, ha⟩ := h
  have e0 : tl ("0" : Str) = [48] := by decide +kernel
  have et : tl (cutS s none (some ((7 : Nat) : Int)) ++ ("0" : Str)) = (tl s).take 7 ++ [48] := by rw [tl_app, cut_to, e0]
  refine ⟨?_, ⟨c, r.take 6 ++ [48], ?_, hc⟩, fun x hx => ?_, fun hw => words_no0 _ hw (by rw [et]; simp)⟩
  · rw [et, List.length_append, List.length_take]
    show min 7 (tl s).length + 1 ≤ 8
    omega
  · rw [et, e]
    rfl
  · rw [et] at hx
    rcases List.mem_append.mp hx with hx | hx
    · exact ha x (List.mem_of_mem_take hx)
    · rw [List.mem_singleton.mp hx]
      decide +kernel
def spLName (K : PySem.W.Frag) : Sp := fun vs H Q _ => ∃ (p : Addr) (z : Addr × List Int) (n : Nat), vs = [.ref p] ∧ PenAt K H p z n ∧ n ≤ 50000 ∧ ∀ (name : Str) (H' : Hp), NameOk name → PenAt K H' p z (n + 20) → KeepBut p H H' → Q (.str name) H'
theorem sign_of {z : Str} {r m : Int} (h0 : 0 ≤ r) (h1 : r < m) (hm : m ≤ (z.length : Int)) : ∃ c, c ∈ z.cps.toList ∧ atI z.cps.toList r = some c := by
  obtain ⟨j, rfl⟩ : ∃ j : Nat, r = (j : Int) := ⟨r.toNat, by omega⟩
  have hj : j < z.cps.toList.length := by rw [len_cps]; omega
  exact ⟨_, List.getElem_mem hj, atI_nat (List.getElem?_eq_getElem hj)⟩
section
variable {P : Program} {w : World} {K : PySem.W.Frag} {mg : Str → Option Value} {base : Heap} {f g : Addr} {fd gd : FuncData}
abbrev sLName : Stmt := top 52
abbrev lnN : List Str := ["pen", "name", "turn"]
theorem scLName : FnScope lnN ["pen"] (defScope sLName) := ⟨rfl, rfl, rfl, by decide +kernel, rfl, by decide +kernel, by decide +kernel⟩
theorem ok_lname {fp fs fw : Addr} {dp ds dw : FuncData} (F : FnP K "_law_name" sLName f fd) (TD : Told P w K mg base "_law_draw" 1 ["pen", "many"] (spDraw K) g gd) (TP : Told P w K mg base "_law_pick" 2 ["pen", "some"] (spPick K) fp dp)
    (TS_ : Told P w K mg base "_law_small" 1 [] spSmall fs ds) (TW : Told P w K mg base "_law_words" 1 [] spWords fw dw) (mR : mg "range" = none) (mLen : mg "len" = none) : FnOk P w K mg base CX0 3 f fd ["pen"] (spLName K) := by
  refine F.ok scLName (fun vs H Q E h => ?_) (fun cdv A outer s H vs Q E hr h => ?_)
  · obtain ⟨p, z, n, rfl, _⟩ := h
    rfl
  · obtain ⟨p, z, n, rfl, S, hn, q⟩ := h
    have hr1 : Room 1 _ := hr.mono (by decide)
    obtain ⟨s26, d10, sle⟩ := small_len
    have hsz : sizeLine = 16777216 := sizeLine_eq
    refine ⟨_, PSs.nox (pss_cons (ps_set (i := 1) scLName.nd rfl (Or.inl rfl) (pe_call TP.ok hr (by rfl) TP.m TP.kp TP.b .nil pass0 (pa_cons (pv 0) (pa_cons (pe_lst
          (pa_cons (pe_slice sl_str (pe_call TP.ok hr (by rfl) TP.m TP.kp TP.b .nil pass0 (pa_cons (pv 0) (pa_cons (pe_call0 TW.ok hr1 (by rfl) TW.m TW.kp TW.b .nil pass0) pa_nil))) po_none (po_some pe_int))
          (pa_cons (pe_ix ix_str (pe_call0 TS_.ok hr1 (by rfl) TS_.m TS_.kp TS_.b .nil pass0) (pe_call TD.ok hr1 (by rfl) TD.m TD.kp TD.b .nil pass0 (pa_cons (pv 0) (pa_cons pe_int pa_nil))) (fun _ _ => rfl))
          (pa_cons pe_str (pa_cons pe_str (pa_cons pe_str pa_nil)))))) pa_nil))))
      (C8.pss_cut (ps_if (pt_cmpR op_eq (pv 1) pe_str (nomark _)) (pss_one (ps_set (i := 1) scLName.nd rfl (Or.inl rfl) (pe_ix ix_str (pe_call0 TS_.ok hr1 (by rfl) TS_.m TS_.kp TS_.b .nil pass0) (pe_call TD.ok hr1 (by rfl) TD.m TD.kp TD.b .nil pass0 (pa_cons (pv 0) (pa_cons pe_int pa_nil))) (fun _ _ => rfl)))) pss_nil)
      (C8.pss_cut (ps_for PassesOwn.never rfl (pi_range1 (by rfl) mR (pa_cons (pe_call TD.ok hr1 (by rfl) TD.m TD.kp TD.b .nil pass0 (pa_cons (pv 0) (pa_cons (pe_op op_sub pe_int (pe_callB call_len (by rfl) mLen PySem.boot_len (pa_cons (pv 1) pa_nil))) pa_nil))) pa_nil)) (pg_name (i := 2) scLName.nd rfl (Or.inl rfl))
          (pss_one (ps_set (i := 1) scLName.nd rfl (Or.inl rfl) (pe_op op_add_str (pv 1) (pe_ix ix_str (pe_op op_add_str (pe_call0 TS_.ok hr1 (by rfl) TS_.m TS_.kp TS_.b .nil pass0) pe_str) (pe_call TD.ok hr1 (by rfl) TD.m TD.kp TD.b .nil pass0 (pa_cons (pv 0) (pa_cons pe_int pa_nil))) (fun _ _ => rfl))))))
      (pss_one (ps_ret (pe_ifExp (pt_cmpR op_notIn_seq (pv 1) (pe_call0 TW.ok hr1 (by rfl) TW.m TW.kp TW.b .nil pass0) rfl) (pv 1) (pe_op op_add_str (pe_slice sl_str (pv 1) po_none (po_some pe_int)) pe_str))))))), ?_⟩
    rw [show L2.start lnN [V.ref p] = [some (V.ref p), none, none] from rfl]
    refine ⟨_, rfl, _, rfl, rfl, fun L nL => ?_⟩
    have sL : Same H (upd H L (.lst (wordsL.map V.str))) := same_new nL
    refine ⟨p, L, z, n, _, rfl, S.same sL, by omega, .inl (.inl upd_same), by decide, by decide, fun v H1 hv S1 k1 => ?_⟩
    obtain ⟨wd, hwd, rfl⟩ := List.mem_map.mp hv
    obtain ⟨pw, pl⟩ := pre_word hwd
    have wl : wd.length ≤ sizeLine := by
      have key : ∀ w ∈ wordsL, w.length ≤ 8 := by decide +kernel
      have := key wd hwd
      omega
    refine ⟨7, rfl, wd, rfl, wl, ?_⟩
    refine ⟨rfl, _, rfl, p, z, n + 1, _, rfl, S1, by omega, by decide, by decide, fun r H2 hr0 hr1' S2 k2 => ?_⟩
    obtain ⟨c, hc, hat⟩ := sign_of (z := smallS) hr0 hr1' (by rw [s26]; decide)
    refine ⟨_, _, c, rfl, rfl, sle, hat, ?_⟩
    refine ⟨by show 5 ≤ sizeLine; omega, fun L2' nL2 => ?_⟩
    have sL2 := same_new (o := .lst [.str (cutS wd none (some ((7 : Nat) : Int))), .str ⟨#[c]⟩, .str "", .str "to", .str "end"]) nL2
    refine ⟨p, L2', z, n + 2, _, rfl, S2.same sL2, by omega, .inl (.inl upd_same), by show 1 ≤ 5; decide, by show 5 ≤ 1000000; decide, fun v2 H3 hv2 S3 k3 => ?_⟩
    have KB : KeepBut p H H3 := ((KeepBut.of sL).trans k1).trans (k2.trans ((KeepBut.of sL2).trans k3))
    have pick : ∃ nm : Str, v2 = .str nm ∧ (nm = "" ∨ (PreOk nm ∧ nm.length ≤ 7)) := by
      obtain ⟨p1, p2, p3, p4⟩ := pre_to
      rcases List.mem_cons.mp hv2 with e | hv2
      · exact ⟨_, e, .inr ⟨pw, pl⟩⟩
      · rcases List.mem_cons.mp hv2 with e | hv2
        · exact ⟨_, e, .inr ⟨pre_small hc, by show (1 : Nat) ≤ 7; decide⟩⟩
        · rcases List.mem_cons.mp hv2 with e | hv2
          · exact ⟨_, e, .inl rfl⟩
          · rcases List.mem_cons.mp hv2 with e | hv2
            · exact ⟨_, e, .inr ⟨p1, p3⟩⟩
            · exact ⟨_, List.mem_singleton.mp hv2, .inr ⟨p2, p4⟩⟩
    obtain ⟨nm, rfl, hnm⟩ := pick
    simp only [List.set_cons_succ, List.set_cons_zero]
    refine ⟨fun σ' H' => ∃ nm2 : Str, σ' = [some (.ref p), some (.str nm2), none] ∧ PreOk nm2 ∧ nm2.length ≤ 7 ∧ PenAt K H' p z (n + 4) ∧ KeepBut p H H', ?_, ?_⟩
    · refine ⟨_, rfl, rfl, ?_⟩
      rcases hnm with rfl | ⟨h1, h2⟩
      · refine ⟨true, congrArg V.bl (decide_eq_true rfl), iteT ⟨rfl, _, rfl, p, z, n + 3, _, rfl, S3, by omega, by decide, by decide, fun r H4 hr0 hr1' S4 k4 => ?_⟩⟩
        obtain ⟨c2, hc2, hat2⟩ := sign_of (z := smallS) hr0 hr1' (by rw [s26]; decide)
        refine ⟨_, _, c2, rfl, rfl, sle, hat2, ?_⟩
        exact ⟨⟨#[c2]⟩, rfl, pre_small hc2, by show (1 : Nat) ≤ 7; decide, S4, KB.trans k4⟩
      · refine ⟨false, congrArg V.bl (decide_eq_false fun e => ?_), iteF ⟨nm, rfl, h1, h2, S3.mono (by omega), KB⟩⟩
        injection e with e
        have := pre_len h1
        rw [e] at this
        exact absurd this (by decide +kernel)
    · rintro σ' H4 ⟨nm2, rfl, hp2, hl2, S4, KB4⟩
      have hl1 := pre_len hp2
      refine ⟨fun σ' H' => ∃ (nm3 : Str) (o : Option V), σ' = [some (.ref p), some (.str nm3), o] ∧ PreOk nm3 ∧ nm3.length ≤ 8 ∧ PenAt K H' p z (n + 20) ∧ KeepBut p H H', ?_, ?_⟩
      · refine ⟨_, rfl, ?_⟩
        refine ⟨_, rfl, _, nm2.length, rfl, ⟨by omega, rfl⟩, _, _, rfl, rfl, p, z, n + 4, _, rfl, S4, by omega, by omega, by omega, fun r H5 hr0 hr1' S5 k5 => ?_⟩
        obtain ⟨cnt, rfl⟩ : ∃ c : Nat, r = (c : Int) := ⟨r.toNat, by omega⟩
        refine ⟨_, rfl, by omega, by omega, for_range (lo := 0) (n := ((cnt : Nat) : Int).toNat) (fun i σ' H' => ∃ (nm3 : Str) (o : Option V), σ' = [some (.ref p), some (.str nm3), o] ∧ PreOk nm3 ∧ nm3.length = nm2.length + i ∧ PenAt K H' p z (n + 5 + i) ∧ KeepBut p H H')
          ⟨nm2, none, rfl, hp2, rfl, S5, KB4.trans k5⟩ ?_ ?_⟩
        · rintro i σ' H6 hi ⟨nm3, o, rfl, hp3, hl3, S6, KB6⟩
          refine ⟨_, rfl, rfl, _, _, rfl, rfl, both_len, _, rfl, p, z, n + 5 + i, _, rfl, S6, by omega, by decide, by decide, fun r2 H7 hr0 hr1' S7 k7 => ?_⟩
          have hb : (bothS.length : Int) = 36 := by decide +kernel
          obtain ⟨c2, hc2, hat2⟩ := sign_of (z := bothS) hr0 hr1' (by rw [hb]; decide)
          refine ⟨_, _, c2, rfl, rfl, by decide +kernel, hat2, _, _, rfl, rfl, ?_, ?_⟩
          · show nm3.length + 1 ≤ sizeLine
            omega
          · exact ⟨nm3 ++ ⟨#[c2]⟩, _, rfl, pre_app hp3 hc2, by rw [app_len, hl3]; rfl, S7, KB6.trans k7⟩
        · rintro σ' H6 ⟨nm3, o, rfl, hp3, hl3, S6, KB6⟩
          exact ⟨nm3, o, rfl, hp3, by omega, S6.mono (by omega), KB6⟩
      · rintro σ' H5 ⟨nm3, o, rfl, hp3, hl3, S5, KB5⟩
        refine ⟨_, rfl, rfl, fun L5 nL5 => ?_⟩
        refine ⟨L5, _, rfl, .inl (.inl (.inl upd_same)), rfl, flat_strs wordsL, ?_⟩
        have s5 := same_new (o := .lst (wordsL.map V.str)) nL5
        by_cases hin : nm3 ∈ wordsL
        · refine ⟨false, congrArg V.bl (by rw [inV_mem.mpr hin]; rfl), iteF ⟨_, rfl, 7, rfl, nm3, rfl, by omega, _, _, rfl, rfl, ?_, ?_⟩⟩
          · have h0 : ("0" : Str).length = 1 := by decide +kernel
            have h7 := cutS_length nm3 none (some 7)
            rw [h0]
            omega
          · exact q _ _ (name_cut hp3) (S5.same s5) (KB5.trans (KeepBut.of s5))
        · refine ⟨true, congrArg V.bl (by rw [Bool.eq_false_iff.mpr (fun h => hin (inV_mem.mp h))]; rfl), iteT ⟨_, rfl, q nm3 _ (name_of hp3 hl3 hin) (S5.same s5) (KB5.trans (KeepBut.of s5))⟩⟩
end
end K88
/-! Drawn webs, with the ties by which they are told. -/
namespace K88
open PySem L2

/-- a drawn web: its name, size, ties, ties as they are told -/
structure DItem : Type where
  name : Str
  m : Nat
  ts : List (Int × Int)
  told : List (Int × Int)
structure DOk (d : DItem) : Prop where
  nm : NameOk d.name
  lo : 1 ≤ d.m
  hi : d.m ≤ 12
  ties : TiesOk d.m d.ts
  few : d.ts.length ≤ 8
  srt : SrtO.Srtd SrtO.lexB d.ts
  perm : (d.told.map nrm).Perm d.ts
  each : ∀ q ∈ d.told, PairOk d.m q
/-- it stands at x; D: where it is not -/
structure DAt (D : Addr) (H : Hp) (x : V) (d : DItem) : Prop where
  ex : ∃ (t u w : Addr) (ys zs : List V), x = .ref t ∧ H t = some (.tup [.str d.name, .int d.m, .ref u, .ref w]) ∧ H u = some (.tup ys) ∧ Paired (PairAt H) ys d.ts ∧ H w = some (.lst zs) ∧ Paired (PairAt H) zs d.told ∧ w ≠ D
theorem DAt.keep {D : Addr} {H H' : Hp} {x : V} {d : DItem} (h : DAt D H x d) (kt : ∀ b l, H b = some (.tup l) → H' b = some (.tup l)) (kl : ∀ b l, H b = some (.lst l) → b ≠ D → H' b = some (.lst l)) : DAt D H' x d := by
  obtain ⟨⟨t, u, w, ys, zs, rfl, h1, h2, h3, h4, h5, h6⟩⟩ := h
  exact ⟨⟨t, u, w, ys, zs, rfl, kt _ _ h1, kt _ _ h2, pairs_map (fun _ _ _ e => kt _ _ e) h3, kl _ _ h4 h6, pairs_map (fun _ _ _ e => kt _ _ e) h5, h6⟩⟩
theorem dats_keep {D : Addr} {H H' : Hp} (kt : ∀ b l, H b = some (.tup l) → H' b = some (.tup l)) (kl : ∀ b l, H b = some (.lst l) → b ≠ D → H' b = some (.lst l)) : ∀ {xs : List V} {ds : List DItem}, Paired (DAt D H) xs ds → Paired (DAt D H') xs ds
  | _, _, .nil => .nil
  | _, _, .cons h t => .cons (h.keep kt kl) (dats_keep kt kl t)
theorem keep_tup {p : Addr} {H H' : Hp} {kvs : List (Key × V)} (hp : H p = some (.dK kvs)) (k : KeepBut p H H') : ∀ b l, H b = some (.tup l) → H' b = some (.tup l) := fun b l e => k _ _ e (ne_of e hp (by intro z; cases z))
theorem keep_lst {p : Addr} {H H' : Hp} {kvs : List (Key × V)} (hp : H p = some (.dK kvs)) (k : KeepBut p H H') : ∀ b l, H b = some (.lst l) → H' b = some (.lst l) := fun b l e => k _ _ e (ne_of e hp (by intro z; cases z))
theorem paired_perm {α β : Type} {R : α → β → Prop} {xs ys : List α} (pm : ys.Perm xs) : ∀ {qs : List β}, Paired R xs qs → ∃ qs', qs'.Perm qs ∧ Paired R ys qs' := by
  induction pm with
  | nil =>
    intro qs h
    exact ⟨qs, List.Perm.refl _, h⟩
  | cons x _ ih =>
    intro qs h
    cases h with
    | cons h t =>
      obtain ⟨qs', p1, p2⟩ := ih t
      exact ⟨_ :: qs', p1.cons _, .cons h p2⟩
  | swap x y l =>
    intro qs h
    cases h with
    | cons h t =>
      cases t with
      | cons h2 t =>
        exact ⟨_, List.Perm.swap _ _ _, .cons h2 (.cons h t)⟩
  | trans _ _ ih1 ih2 =>
    intro qs h
    obtain ⟨q1, p1, r1⟩ := ih2 h
    obtain ⟨q2, p2, r2⟩ := ih1 r1
    exact ⟨q2, p2.trans p1, r2⟩
def spLItems (K : PySem.W.Frag) : Sp := fun vs H Q _ => ∃ (p : Addr) (z : Addr × List Int) (n : Nat), vs = [.ref p] ∧ PenAt K H p z n ∧ n ≤ 10000 ∧
  ∀ (t : Addr) (xs : List V) (ds : List DItem) (H' : Hp), H t = none → H' t = some (.lst xs) → Paired (DAt t H') xs ds → (∀ d ∈ ds, DOk d) → (ds.map (·.name)).Nodup → 1 ≤ ds.length → ds.length ≤ 3 → PenAt K H' p z (n + 200) → KeepBut p H H' → Q (.ref t) H'
section
variable {K : PySem.W.Frag} {H : Hp} {p : Addr} {z : Addr × List Int} {n : Nat}
theorem names_read {σ : L2.St} {Q : VK} {D : Addr} {xs : List V} {ds : List DItem} {i j : Nat} (hj : σ[j]? = some (some (.ref D))) (hD : H D = some (.lst xs)) (hp : Paired (DAt D H) xs ds) (hn : ds.length ≤ 3)
    (hw : ∀ v : V, wipe ((wipe σ [i]).set i (some v)) [i] = wipe σ [i]) (ht : ∀ v : V, ((wipe σ [i]).set i (some v))[i]? = some (some v))
    (k : ∀ L H', Same H H' → H' L = some (.lst ((ds.map (·.name)).map V.str)) → Q (.ref L) H') : tLc (iList K (tVar j)) (gName i) tYes (tOp (rIxT K) (tVar i) (tC (.int 0))) [i] σ H Q := by
  have hlen := paired_len hp
  refine ⟨_, hj, D, rfl, ⟨xs, .inl (.inl hD)⟩, fun L nL => lc_list (xs := xs) (fun i H2 => Same H H2 ∧ H2 L = some (.lst (((ds.take i).map (·.name)).map V.str)) ∧ i ≤ xs.length) ⟨same_new nL, upd_same, Nat.zero_le _⟩ (fun i H2 _ h => .inl (.inl (h.1 _ _ hD))) ?_ ?_⟩
  · rintro i x H2 hx ⟨sm, hL, hi⟩
    obtain ⟨d, hd, ⟨⟨t, u, w, ys, zs, rfl, h1, h2, h3, h4, h5, h6⟩⟩⟩ := paired_get hp hx
    have hil : i < xs.length := by
      rcases Nat.lt_or_ge i xs.length with y | y
      · exact y
      · rw [List.getElem?_eq_none y] at hx
        cases hx
    refine ⟨hw _, ?_⟩
    refine yes_then ?_
    refine ⟨_, ht _, t, _, _, _, rfl, rfl, .inl (.inl (sm _ _ h1)), rfl, _, hL, ?_, fun c o e => ?_, ?_, hil⟩
    · rw [List.length_map, List.length_map, List.length_take]
      exact Nat.lt_of_le_of_lt (show min i ds.length ≤ 3 by omega) (by decide)
    · rw [upd_ne (ne_of_none e nL)]
      exact sm c o e
    · rw [upd_same, take_more hd, List.map_append, List.map_append]
      rfl
  · rintro H2 ⟨sm, hL, _⟩
    rw [hlen, List.take_length] at hL
    exact k L H2 sm hL
theorem nrm_lt {a b : Nat} (h : a < b) : nrm ((a : Int), (b : Int)) = ((a : Int), (b : Int)) ∧ nrm ((b : Int), (a : Int)) = ((a : Int), (b : Int)) := by
  rw [nrm_nat, nrm_nat, Nat.min_eq_left (Nat.le_of_lt h), Nat.max_eq_right (Nat.le_of_lt h), Nat.min_eq_right (Nat.le_of_lt h), Nat.max_eq_left (Nat.le_of_lt h)]
  exact ⟨rfl, rfl⟩
abbrev tPickIJ (K : PySem.W.Frag) (i j : Nat) : TE := tCall (spPick K) [] E0 (tCons (tVar 0) (tCons (tLst (tCons (tTup (tCons (tVar i) (tCons (tVar j) tNil))) (tCons (tTup (tCons (tVar j) (tCons (tVar i) tNil))) tNil))) tNil))
theorem told_core {σ : L2.St} {Q : VK} {a : Addr} {xs : List V} {ts : List (Int × Int)} {iA iB m : Nat} (hs : H a = some (.lst xs)) (two : Paired (PairAt H) xs ts) (hok : TiesOk m ts) (h8 : ts.length ≤ 8)
    (S : PenAt K H p z n) (hn : n ≤ 60000) (hp : ∀ u v : V, (((wipe σ [iA, iB]).set iA (some u)).set iB (some v))[0]? = some (some (.ref p))) (hA : ∀ u v : V, (((wipe σ [iA, iB]).set iA (some u)).set iB (some v))[iA]? = some (some u)) (hB : ∀ u v : V, (((wipe σ [iA, iB]).set iA (some u)).set iB (some v))[iB]? = some (some v))
    (hw : ∀ u v : V, wipe (((wipe σ [iA, iB]).set iA (some u)).set iB (some v)) [iA, iB] = wipe σ [iA, iB])
    (k : ∀ D H' zs qs, H D = none → H' D = some (.lst zs) → Paired (PairAt H') zs qs → (qs.map nrm) = ts → (∀ q ∈ qs, PairOk m q) → PenAt K H' p z (n + 8) → KeepBut p H H' → Q (.ref D) H') :
    tLc (iList K (tC (.ref a))) (gTup K 2 (gCons (gName iA) (gCons (gName iB) gNil))) tYes (tPickIJ K iA iB) [iA, iB] σ H Q := by
  have hlen := paired_len two
  refine ⟨a, rfl, ⟨xs, .inl (.inl hs)⟩, fun D nD => lc_list (xs := xs) (fun i H2 => ∃ zs qs, H2 D = some (.lst zs) ∧ Paired (PairAt H2) zs qs ∧ qs.map nrm = ts.take i ∧ (∀ q ∈ qs, PairOk m q) ∧ PenAt K H2 p z (n + i) ∧ KeepBut p H H2 ∧ i ≤ xs.length)
    ⟨[], [], upd_same, .nil, rfl, fun q h => absurd h List.not_mem_nil, S.same (same_new nD), KeepBut.of (same_new nD), Nat.zero_le _⟩ (fun i H2 _ h => ?_) ?_ ?_⟩
  · obtain ⟨zs, qs, h1, h2, h3, h4, h5, h6, h7⟩ := h
    obtain ⟨kvs, hpd⟩ := S.dict
    exact .inl (.inl (keep_lst hpd h6 _ _ hs))
  · rintro i x H2 hx ⟨zs, qs, hD, hz, hq, hqs, S2, k2, hi⟩
    obtain ⟨q, hq', t, rfl, ht⟩ := paired_get two hx
    obtain ⟨u, v, rfl, huv, hv⟩ := hok.2 q (List.mem_of_getElem? hq')
    obtain ⟨kvs, hpd⟩ := S.dict
    have hil : i < xs.length := by
      rcases Nat.lt_or_ge i xs.length with y | y
      · exact y
      · rw [List.getElem?_eq_none y] at hx
        cases hx
    have hql : qs.length = i := by
      have e := congrArg List.length hq
      rw [List.length_map, List.length_take] at e
      omega
    refine ⟨t, _, rfl, .inl (.inl (keep_tup hpd k2 _ _ ht)), rfl, _, _, rfl, _, _, rfl, rfl, hw _ _, ?_⟩
    refine yes_then ?_
    refine ⟨_, hp _ _, _, hA _ _, _, hB _ _, two_ok, fun t1 n1 => ⟨_, hB _ _, _, hA _ _, two_ok, fun t2 n2 => ⟨two_ok, fun l nl => ?_⟩⟩⟩
    have s1 : Same H2 (upd H2 t1 (.tup [.int (u : Int), .int (v : Int)])) := same_new n1
    have s2 := same_new (o := .tup [.int (v : Int), .int (u : Int)]) n2
    have s3 := same_new (o := .lst [.ref t1, .ref t2]) nl
    have s23 := s2.trans s3
    have sall := s1.trans s23
    refine ⟨p, l, z, n + i, _, rfl, S2.same sall, by omega, .inl (.inl upd_same), by show 1 ≤ 2; decide, by show 2 ≤ 1000000; decide, fun y H3 hy S3 k3 => ?_⟩
    obtain ⟨kv2, hpd2⟩ := (S2.same sall).dict
    have KB := k2.trans ((KeepBut.of sall).trans k3)
    have py : ∃ q, PairAt H3 y q ∧ nrm q = ((u : Int), (v : Int)) ∧ PairOk m q := by
      obtain ⟨e1, e2⟩ := nrm_lt huv
      rcases List.mem_cons.mp hy with rfl | hy
      · exact ⟨_, ⟨t1, rfl, keep_tup hpd2 k3 _ _ (s23 _ _ upd_same)⟩, e1, u, v, rfl, by omega, hv, by omega⟩
      · rw [List.mem_singleton.mp hy]
        exact ⟨_, ⟨t2, rfl, keep_tup hpd2 k3 _ _ (s3 _ _ upd_same)⟩, e2, v, u, rfl, hv, by omega, by omega⟩
    obtain ⟨q, py, eq, okq⟩ := py
    have hD3 : H3 D = some (.lst zs) := keep_lst hpd2 k3 _ _ (sall _ _ hD)
    refine ⟨zs, hD3, Nat.lt_of_le_of_lt (show zs.length ≤ 8 by rw [paired_len hz]; omega) (by decide), zs ++ [y], qs ++ [q], upd_same, ?_, ?_, fun x hx => ?_, S.other nD S3, KB.put nD, hil⟩
    · have up : ∀ t i j, H3 t = some (.tup [.int i, .int j]) → upd H3 D (.lst (zs ++ [y])) t = some (.tup [.int i, .int j]) := fun t i j e => by
        rw [upd_ne (ne_of e hD3 (by intro z; cases z))]
        exact e
      refine Paired.snoc (pairs_map (fun t' i' j' e => up _ _ _ (keep_tup hpd2 k3 _ _ (sall _ _ e))) hz) ?_
      obtain ⟨ty, rfl, hy'⟩ := py
      exact ⟨ty, rfl, up _ _ _ hy'⟩
    · rw [List.map_append, hq, take_more hq', List.map_singleton, eq]
    · rcases List.mem_append.mp hx with hx | hx
      · exact hqs x hx
      · rw [List.mem_singleton.mp hx]
        exact okq
  · rintro H2 ⟨zs, qs, hD, hz, hq, hqs, S2, k2, hi⟩
    rw [hlen, List.take_length] at hq
    exact k D H2 zs qs nD hD hz hq hqs (S2.mono (by omega)) k2
end
abbrev rLO (K : PySem.W.Frag) : List V → Hp → VK → Prop := fun xs H Q => ∃ p ys, xs = [.ref p] ∧ (SqL K H p ys ∨ SqT K H p ys) ∧ ∀ l, H l = none → Q (.ref l) (upd H l (.lst ys))
theorem told_full {K : PySem.W.Frag} {H0 : Hp} {p : Addr} {z : Addr × List Int} {σ : L2.St} {Q : VK} {iA iB m : Nat} {tl : TE} (mono : ∀ A B : VK, (∀ x H, A x H → B x H) → tl σ H0 A → tl σ H0 B)
    (hp : ∀ u v : V, (((wipe σ [iA, iB]).set iA (some u)).set iB (some v))[0]? = some (some (.ref p))) (hA : ∀ u v : V, (((wipe σ [iA, iB]).set iA (some u)).set iB (some v))[iA]? = some (some u)) (hB : ∀ u v : V, (((wipe σ [iA, iB]).set iA (some u)).set iB (some v))[iB]? = some (some v))
    (hw : ∀ u v : V, wipe (((wipe σ [iA, iB]).set iA (some u)).set iB (some v)) [iA, iB] = wipe σ [iA, iB])
    (h : tl σ H0 fun x H => ∃ (a : Addr) (xs : List V) (ts : List (Int × Int)) (n : Nat), x = .ref a ∧ H a = some (.lst xs) ∧ Paired (PairAt H) xs ts ∧ TiesOk m ts ∧ ts.length ≤ 8 ∧ PenAt K H p z n ∧ n ≤ 60000 ∧
      ∀ D H' zs qs, H D = none → H' D = some (.lst zs) → Paired (PairAt H') zs qs → (qs.map nrm) = ts → (∀ q ∈ qs, PairOk m q) → PenAt K H' p z (n + 8) → KeepBut p H H' → Q (.ref D) H') :
    tLc (iList K tl) (gTup K 2 (gCons (gName iA) (gCons (gName iB) gNil))) tYes (tPickIJ K iA iB) [iA, iB] σ H0 Q := by
  refine mono _ _ (fun x H hx => ?_) h
  obtain ⟨a, xs, ts, n, rfl, hs, two, hok, h8, S, hn, k⟩ := hx
  exact told_core (Q := Q) hs two hok h8 S hn hp hA hB hw k
theorem shuf_mono {K : PySem.W.Frag} {H0 : Hp} {σ : L2.St} {i j : Nat} (A B : VK) (h : ∀ x H, A x H → B x H) (q : tCall (spShuf K) [] E0 (tCons (tVar i) (tCons (tCB (rLO K) (tCons (tVar j) tNil)) tNil)) σ H0 A) : tCall (spShuf K) [] E0 (tCons (tVar i) (tCons (tCB (rLO K) (tCons (tVar j) tNil)) tNil)) σ H0 B := by
  obtain ⟨v, h1, v2, h2, p', ys, e, hs, k⟩ := q
  refine ⟨v, h1, v2, h2, p', ys, e, hs, fun l hl => ?_⟩
  obtain ⟨p, l', z, n, xs, e1, e2, e3, e4, e5, e6⟩ := k l hl
  exact ⟨p, l', z, n, xs, e1, e2, e3, e4, e5, fun t ys H' a1 a2 a3 a4 a5 => h _ _ (e6 t ys H' a1 a2 a3 a4 a5)⟩
theorem iteF' {b : Bool} {A B : Prop} (hb : b = false) (h : B) : if b = true then A else B := by
  rw [hb]
  exact iteF h
theorem iteT' {b : Bool} {A B : Prop} (hb : b = true) (h : A) : if b = true then A else B := by
  rw [hb]
  exact iteT h
section
variable {P : Program} {w : World} {K : PySem.W.Frag} {mg : Str → Option Value} {base : Heap} {f g : Addr} {fd gd : FuncData}
abbrev sLItems : Stmt := top 53
abbrev liN2 : List Str := ["pen", "found", "lap", "name", "size", "ties", "told", "item", "i", "j"]
theorem scLItems : FnScope liN2 ["pen"] (defScope sLItems) := ⟨rfl, rfl, rfl, by decide +kernel, rfl, by decide +kernel, by decide +kernel⟩
theorem ok_litems {fp fs fw fn : Addr} {dp ds dw dn : FuncData} (F : FnP K "_law_items" sLItems f fd) (TD : Told P w K mg base "_law_draw" 1 ["pen", "many"] (spDraw K) g gd) (TP : Told P w K mg base "_law_pick" 2 ["pen", "some"] (spPick K) fp dp)
    (TS_ : Told P w K mg base "_law_shuffled" 2 ["pen", "some"] (spShuf K) fs ds) (TW : Told P w K mg base "_law_web" 2 ["pen", "most", "many"] (spLWeb K) fw dw) (TN : Told P w K mg base "_law_name" 3 ["pen"] (spLName K) fn dn) (mR : mg "range" = none) (mL : mg "list" = none) : FnOk P w K mg base CX0 4 f fd ["pen"] (spLItems K) := by
  refine F.ok scLItems (fun vs H Q E h => ?_) (fun cdv A outer s H vs Q E hr h => ?_)
  · obtain ⟨p, z, n, rfl, _⟩ := h
    rfl
  · obtain ⟨p, z, n, rfl, S, hn, q⟩ := h
    have hr1 : Room 1 _ := hr.mono (by decide)
    have hr2 : Room 2 _ := hr.mono (by decide)
    refine ⟨_, PSs.nox (pss_cons (ps_set (i := 1) scLItems.nd rfl (Or.inl rfl) (pe_lst pa_nil))
      (C8.pss_cut (ps_for PassesOwn.never rfl (pi_range1 (by rfl) mR (pa_cons (pe_op op_add pe_int (pe_call TD.ok hr1 (by rfl) TD.m TD.kp TD.b .nil pass0 (pa_cons (pv 0) (pa_cons pe_int pa_nil)))) pa_nil)) (pg_name (i := 2) scLItems.nd rfl (Or.inl rfl))
          (pss_cons (ps_set (i := 3) scLItems.nd rfl (Or.inl rfl) (pe_call TN.ok hr (by rfl) TN.m TN.kp TN.b .nil pass0 (pa_cons (pv 0) pa_nil)))
          (pss_one (ps_if (pt_cmpR op_notIn_seq (pv 3) (pe_lc (own := [("item", 7)]) (g := gName 7) (tt := tYes) (te := tOp (rIxT K) (tVar 7) (tC (.int 0))) (wi := iList K (tVar 1)) rfl scLItems.nd (pi_list (pv 1)) (blkOk_by (own := [("item", 7)]) (N := liN2) (sc := defScope sLItems) (by decide +kernel))
                (fun _ _ _ _ _ => pg_name (i := 7) scLItems.nd rfl (Or.inl rfl)) (fun _ _ _ _ _ => pts_nil) (fun _ _ _ _ _ => pe_ix ix_tup (pv 7) pe_int (fun _ _ => rfl))) rfl)
            (pss_cons (ps_asg (pe_call TW.ok hr2 (by rfl) TW.m TW.kp TW.b .nil pass0 (pa_cons (pv 0) (pa_cons (pe_call TP.ok hr2 (by rfl) TP.m TP.kp TP.b .nil pass0 (pa_cons (pv 0) (pa_cons (pe_lst (pa_cons pe_int (pa_cons pe_int pa_nil))) pa_nil))) (pa_cons pe_int pa_nil)))) (pg_tup (n := 2) rfl (pgs_cons (pg_name (i := 4) scLItems.nd rfl (Or.inl rfl)) (pgs_cons (pg_name (i := 5) scLItems.nd rfl (Or.inl rfl)) pgs_nil))))
            (pss_cons (ps_setLc (i := 6) (own := [("i", 8), ("j", 9)]) (g := gTup K 2 (gCons (gName 8) (gCons (gName 9) gNil))) (tt := tYes) (te := tPickIJ K 8 9) (wi := iList K (tCall (spShuf K) [] E0 (tCons (tVar 0) (tCons (tCB (rLO K) (tCons (tVar 5) tNil)) tNil)))) rfl scLItems.nd rfl rfl (sw_true rfl rfl rfl (by decide +kernel))
                (pi_list (pe_call TS_.ok hr2 (by rfl) TS_.m TS_.kp TS_.b .nil pass0 (pa_cons (pv 0) (pa_cons (pe_callTy call_list_of (by rfl) mL (by decide +kernel) (pa_cons (pv 5) pa_nil)) pa_nil)))) (blkOk_by (own := [("i", 8), ("j", 9)]) (N := liN2) (sc := defScope sLItems) (by decide +kernel))
                (fun _ _ _ _ _ => pg_tup (n := 2) rfl (pgs_cons (pg_name (i := 8) scLItems.nd rfl (Or.inl rfl)) (pgs_cons (pg_name (i := 9) scLItems.nd rfl (Or.inl rfl)) pgs_nil))) (fun _ _ _ _ _ => pts_nil)
                (fun _ _ _ _ _ => pe_call TP.ok hr2 (by rfl) TP.m TP.kp TP.b .nil pass0 (pa_cons (pv 0) (pa_cons (pe_lst (pa_cons (pe_tup (pa_cons (pv 8) (pa_cons (pv 9) pa_nil))) (pa_cons (pe_tup (pa_cons (pv 9) (pa_cons (pv 8) pa_nil))) pa_nil))) pa_nil))))
            (pss_one (ps_expr (pe_bm PySem.F.plainAttrs_list PySem.F.slot_list_append PySem.F.type_list_append mt_append (pv 1) (pa_cons (pe_tup (pa_cons (pv 3) (pa_cons (pv 4) (pa_cons (pv 5) (pa_cons (pv 6) pa_nil))))) pa_nil))))))
            pss_nil))))
      (pss_one (ps_ret (pv 1))))), ?_⟩
    rw [show L2.start liN2 [V.ref p] = [some (V.ref p), none, none, none, none, none, none, none, none, none] from rfl]
    refine ⟨Nat.zero_le _, fun D nD => ?_⟩
    simp only [List.set_cons_succ, List.set_cons_zero]
    have npD := S.ne nD
    have sD : Same H (upd H D (.lst [])) := same_new nD
    refine ⟨fun σ' H' => ∃ (xs : List V) (ds : List DItem) (a2 a3 a4 a5 a6 a7 a8 a9 : Option V), σ' = [some (.ref p), some (.ref D), a2, a3, a4, a5, a6, a7, a8, a9] ∧ H' D = some (.lst xs) ∧ Paired (DAt D H') xs ds ∧ (∀ d ∈ ds, DOk d) ∧ (ds.map (·.name)).Nodup ∧ 1 ≤ ds.length ∧ ds.length ≤ 3 ∧ PenAt K H' p z (n + 200) ∧ KeepBut p H H', ?_, ?_⟩
    · refine ⟨_, rfl, p, z, n, _, rfl, S.same sD, by omega, by decide, by decide, fun r H1 hr0 hr1' S1 k1 => ⟨_, _, rfl, rfl, ?_⟩⟩
      obtain ⟨c, rfl⟩ : ∃ c : Nat, r = (c : Int) := ⟨r.toNat, by omega⟩
      have hc : c ≤ 2 := by omega
      obtain ⟨kv0, hpd0⟩ := (S.same sD).dict
      refine ⟨((1 : Int) + (c : Int)), rfl, by omega, by omega, for_range (lo := 0) (n := ((1 : Int) + (c : Int)).toNat)
        (fun i σ' H' => ∃ (xs : List V) (ds : List DItem) (a2 a3 a4 a5 a6 a7 a8 a9 : Option V), σ' = [some (.ref p), some (.ref D), a2, a3, a4, a5, a6, a7, a8, a9] ∧ H' D = some (.lst xs) ∧ Paired (DAt D H') xs ds ∧ (∀ d ∈ ds, DOk d) ∧ (ds.map (·.name)).Nodup ∧ (1 ≤ i → 1 ≤ ds.length) ∧ ds.length ≤ i ∧ PenAt K H' p z (n + 1 + 60 * i) ∧ KeepBut p H H')
        ⟨[], [], none, none, none, none, none, none, none, none, rfl, keep_lst hpd0 k1 _ _ upd_same, .nil, fun d h => absurd h List.not_mem_nil, List.nodup_nil, fun h => absurd h (by decide), Nat.le_refl _, S1, (KeepBut.of sD).trans k1⟩ ?_ ?_⟩
      · rintro i σ' H2 hi ⟨xs, ds, a2, a3, a4, a5, a6, a7, a8, a9, rfl, hD, hds, hok, hnd, h1, hli, S2, k2⟩
        have hi3 : i < 3 := by omega
        refine ⟨_, rfl, p, z, n + 1 + 60 * i, rfl, S2, by omega, fun nm H3 hnm S3 k3 => ?_⟩
        simp only [List.set_cons_succ, List.set_cons_zero]
        obtain ⟨kv2, hpd2⟩ := S2.dict
        have hD3 := keep_lst hpd2 k3 _ _ hD
        have hds3 := dats_keep (keep_tup hpd2 k3) (fun b l e _ => keep_lst hpd2 k3 b l e) hds
        refine ⟨_, rfl, ?_⟩
        refine names_read (D := D) (xs := xs) (ds := ds) rfl hD3 hds3 (by omega) (fun v => rfl) (fun v => rfl) fun L H4 s4 hL => ?_
        refine ⟨L, _, rfl, .inl (.inl (.inl hL)), rfl, flat_strs _, _, rfl, ?_⟩
        have S4 := S3.same s4
        have hD4 := s4 _ _ hD3
        have hds4 := dats_keep (fun b l e => s4 _ _ e) (fun b l e _ => s4 _ _ e) hds3
        have k4 := (k2.trans k3).trans (KeepBut.of s4)
        by_cases hin : nm ∈ ds.map (·.name)
        · refine iteF' (by rw [inV_mem.mpr hin]; rfl) ?_
          refine ⟨xs, ds, _, _, _, _, _, _, _, _, rfl, hD4, hds4, hok, hnd, fun _ => ?_, by omega, S4.mono (by omega), k4⟩
          cases ds with
          | nil => cases hin
          | cons d ds => exact Nat.succ_le_succ (Nat.zero_le _)
        · refine iteT' (by rw [Bool.eq_false_iff.mpr (fun h => hin (inV_mem.mp h))]; rfl) ?_
          refine ⟨_, rfl, _, rfl, two_ok, fun L2' nL2 => ?_⟩
          have s5 := same_new (o := .lst [.int 4, .int 12]) nL2
          refine ⟨p, L2', z, _, _, rfl, S4.same s5, by omega, .inl (.inl upd_same), by show 1 ≤ 2; decide, by show 2 ≤ 1000000; decide, fun v H5 hv S5 k5 => ?_⟩
          have hv' : ∃ most : Nat, v = .int most ∧ 2 ≤ most ∧ most ≤ 12 := by
            rcases List.mem_cons.mp hv with rfl | hv
            · exact ⟨4, rfl, by decide, by decide⟩
            · rw [List.mem_singleton.mp hv]
              exact ⟨12, rfl, by decide, by decide⟩
          obtain ⟨most, rfl, hm2, hm12⟩ := hv'
          refine ⟨p, most, 8, z, _, rfl, S5, by omega, hm2, hm12, by decide, fun t u m rs ys H6 h1' h12 hr8 hties hsrt nt nu ht hu hys S6 k6 => ?_⟩
          refine ⟨t, _, rfl, .inl (.inl ht), rfl, _, _, rfl, _, _, rfl, rfl, ?_⟩
          simp only [List.set_cons_succ, List.set_cons_zero]
          obtain ⟨kv5, hpd5⟩ := (S4.same s5).dict
          obtain ⟨kv6, hpd6⟩ := S5.dict
          have t46 : ∀ b l, H4 b = some (.tup l) → H6 b = some (.tup l) := fun b l e => keep_tup hpd6 k6 _ _ (keep_tup hpd5 k5 _ _ (s5 _ _ e))
          have l46 : ∀ b l, H4 b = some (.lst l) → H6 b = some (.lst l) := fun b l e => keep_lst hpd6 k6 _ _ (keep_lst hpd5 k5 _ _ (s5 _ _ e))
          have hds6 := dats_keep t46 (fun b l e _ => l46 b l e) hds4
          have hD6 := l46 _ _ hD4
          have kk6 := k4.trans ((KeepBut.of s5).trans (k5.trans k6))
          refine set_of (told_full (p := p) (z := z) (m := m) (shuf_mono (i := 0) (j := 5)) (fun u v => rfl) (fun u v => rfl) (fun u v => rfl) (fun u v => rfl) ?_)
          refine ⟨_, rfl, _, rfl, u, ys, rfl, .inr (.inl (.inl hu)), fun l nl => ?_⟩
          have s7 := same_new (o := .lst ys) nl
          have hyl := paired_len hys
          refine ⟨p, l, z, _, ys, rfl, S6.same s7, by omega, .inl (.inl upd_same), by omega, fun tS ys2 H8 pm ntS htS S8 k8 => ?_⟩
          obtain ⟨kv7, hpd7⟩ := (S6.same s7).dict
          obtain ⟨rs2, pm2, hys2⟩ := paired_perm pm (pairs_map (fun _ _ _ e => keep_tup hpd7 k8 _ _ (s7 _ _ e)) hys)
          have hrl := pm2.length_eq
          refine ⟨tS, ys2, rs2, _, rfl, htS, hys2, ⟨by rw [hrl]; exact hties.1, fun q hq => hties.2 q (pm2.mem_iff.mp hq)⟩, by omega, S8, by omega, fun W H9 zs qs nW hW hzs hq hqs S9 k9 => ?_⟩
          obtain ⟨kv8, hpd8⟩ := S8.dict
          have t69 : ∀ b l, H6 b = some (.tup l) → H9 b = some (.tup l) := fun b l e => keep_tup hpd8 k9 _ _ (keep_tup hpd7 k8 _ _ (s7 _ _ e))
          have l69 : ∀ b l, H6 b = some (.lst l) → H9 b = some (.lst l) := fun b l e => keep_lst hpd8 k9 _ _ (keep_lst hpd7 k8 _ _ (s7 _ _ e))
          have kk9 := kk6.trans ((KeepBut.of s7).trans (k8.trans k9))
          have hds9 := dats_keep t69 (fun b l e _ => l69 b l e) hds6
          have hD9 := l69 _ _ hD6
          simp only [gName, List.set_cons_succ, List.set_cons_zero]
          have nWD : W ≠ D := fun e => by
            have := keep_lst hpd7 k8 _ _ (s7 _ _ hD6)
            rw [← e, nW] at this
            cases this
          refine ⟨_, rfl, .inl ⟨rfl, _, .inl (.inl hD9)⟩, _, rfl, _, rfl, _, rfl, _, rfl, four_ok, fun t2 nt2 => ?_⟩
          have nDt2 : D ≠ t2 := ne_of_none hD9 nt2
          have n2H : H t2 = none := kk9.free nt2 (S9.ne nt2).symm
          have s10 := same_new (o := .tup [.str nm, .int m, .ref u, .ref W]) nt2
          have up : ∀ b l, H9 b = some (.tup l) → upd (upd H9 t2 (.tup [.str nm, .int m, .ref u, .ref W])) D (.lst (xs ++ [.ref t2])) b = some (.tup l) := fun b l e => by
            rw [upd_ne (ne_of e hD9 (by intro z; cases z))]
            exact s10 _ _ e
          have ul : ∀ b l, H9 b = some (.lst l) → b ≠ D → upd (upd H9 t2 (.tup [.str nm, .int m, .ref u, .ref W])) D (.lst (xs ++ [.ref t2])) b = some (.lst l) := fun b l e hb => by
            rw [upd_ne hb]
            exact s10 _ _ e
          refine ⟨D, xs, .ref t2, rfl, rfl, s10 _ _ hD9, Nat.lt_of_le_of_lt (show xs.length ≤ 3 by rw [paired_len hds]; omega) (by decide), xs ++ [.ref t2], ds ++ [⟨nm, m, rs, qs⟩], _, _, _, _, _, _, _, _, rfl, upd_same, ?_, fun d hd => ?_, ?_, fun _ => ?_, ?_, ?_, ?_⟩
          · refine Paired.snoc (dats_keep up ul hds9) ⟨⟨t2, u, W, ys, zs, rfl, ?_, up _ _ (t69 _ _ hu), pairs_map (fun _ _ _ e => up _ _ (t69 _ _ e)) hys, ul _ _ hW nWD, pairs_map (fun _ _ _ e => up _ _ e) hzs, nWD⟩⟩
            rw [upd_ne (Ne.symm nDt2)]
            exact upd_same
          · rcases List.mem_append.mp hd with hd | hd
            · exact hok d hd
            · rw [List.mem_singleton.mp hd]
              exact ⟨hnm, h1', h12, hties, hr8, hsrt, by show (qs.map nrm).Perm rs; rw [hq]; exact pm2, hqs⟩
          · rw [List.map_append, List.map_singleton]
            refine List.nodup_append.mpr ⟨hnd, List.nodup_cons.mpr ⟨List.not_mem_nil, List.nodup_nil⟩, fun a ha b hb e => ?_⟩
            rw [List.mem_singleton.mp hb] at e
            have e2 : a = nm := e
            rw [e2] at ha
            exact hin ha
          · rw [List.length_append, List.length_singleton]
            omega
          · rw [List.length_append, List.length_singleton]
            omega
          · exact (S.other nD (S.other n2H S9)).mono (by omega)
          · exact (kk9.put n2H).put nD
      · rintro σ' H2 ⟨xs, ds, a2, a3, a4, a5, a6, a7, a8, a9, rfl, hD, hds, hok, hnd, h1, hli, S2, k2⟩
        exact ⟨xs, ds, _, _, _, _, _, _, _, _, rfl, hD, hds, hok, hnd, h1 (by omega), by omega, S2.mono (by omega), k2⟩
    · rintro σ' H2 ⟨xs, ds, a2, a3, a4, a5, a6, a7, a8, a9, rfl, hD, hds, hok, hnd, h1, h3, S2, k2⟩
      exact ⟨_, rfl, q D xs ds H2 nD hD hds hok hnd h1 h3 S2 k2⟩
end
end K88
/-! The text of drawn webs, with spaces and empty lines. -/
namespace K88
open PySem L2

/-- a beginning of a line: the first piece, then gaps and pieces -/
def glue (w : Str) (gs : List (Nat × Str)) : List Nat := tl w ++ (gs.map fun g => sps (g.1 + 1) ++ tl g.2).flatten
theorem glue_snoc (w : Str) (gs : List (Nat × Str)) (g : Nat) (s : Str) : glue w (gs ++ [(g, s)]) = glue w gs ++ (sps (g + 1) ++ tl s) := by
  unfold glue
  rw [List.map_append, List.flatten_append, List.append_assoc]
  simp
def shapeL (ps : List Str) : Prop := (∃ w, ps = [w]) ∨ ∃ w x y, ps = [w, x, y]
theorem pieces_shape {name : Str} {m : Nat} {ts : List (Int × Int)} {ps : List Str} (h : ps ∈ piecesL name m ts) : shapeL ps := by
  unfold piecesL at h
  rcases List.mem_cons.mp h with e | e
  · exact .inr ⟨_, _, _, e⟩
  · rcases List.mem_append.mp e with e | e
    · obtain ⟨q, _, rfl⟩ := List.mem_map.mp e
      exact .inr ⟨_, _, _, rfl⟩
    · exact .inl ⟨_, List.mem_singleton.mp e⟩
theorem pieces_short {name : Str} {m : Nat} {ts : List (Int × Int)} {ps : List Str} (ok : NameOk name) (h12 : m ≤ 12) (ht : ∀ q ∈ ts, PairOk m q) (hp : ps ∈ piecesL name m ts) : ∀ s ∈ ps, s.length ≤ 8 := by
  have w3 : webS.length ≤ 8 ∧ tieS.length ≤ 8 ∧ endS.length ≤ 8 := by decide +kernel
  have l8 : name.length ≤ 8 := by rw [← len_cps]; exact ok.len
  have nn : ∀ i : Nat, i ≤ 12 → (numS (i : Int)).length ≤ 8 := fun i hi => Nat.le_trans (num_len' hi) (by decide)
  unfold piecesL at hp
  rcases List.mem_cons.mp hp with e | e
  · rw [e]
    intro s hs
    rcases List.mem_cons.mp hs with e | hs
    · rw [e]
      exact w3.1
    · rcases List.mem_cons.mp hs with e | hs
      · rw [e]
        exact l8
      · rw [List.mem_singleton.mp hs]
        exact nn m h12
  · rcases List.mem_append.mp e with e | e
    · obtain ⟨q, hq, rfl⟩ := List.mem_map.mp e
      obtain ⟨i, j, rfl, hi, hj, _⟩ := ht q hq
      intro s hs
      rcases List.mem_cons.mp hs with e | hs
      · rw [e]
        exact w3.2.1
      · rcases List.mem_cons.mp hs with e | hs
        · rw [e]
          exact nn i (by omega)
        · rw [List.mem_singleton.mp hs]
          exact nn j (by omega)
    · rw [List.mem_singleton.mp e]
      intro s hs
      rw [List.mem_singleton.mp hs]
      exact w3.2.2
theorem spaced_of {w : Str} {rest : List Str} {gs : List (Nat × Str)} {l : Str} {a b : Nat} (hs : shapeL (w :: rest)) (hg : gs.map (·.2) = rest) (h2 : ∀ g ∈ gs, g.1 ≤ 2) (ha : a ≤ 2) (hb : b ≤ 3) (h : tl l = sps a ++ (glue w gs ++ sps b)) : Spaced (w :: rest) l := by
  rcases hs with ⟨w', e⟩ | ⟨w', x, y, e⟩
  · obtain ⟨rfl, rfl⟩ := List.cons.inj e
    have e0 : gs = [] := List.map_eq_nil_iff.mp hg
    subst e0
    exact .one a b ha hb (by rw [h]; simp [glue])
  · obtain ⟨rfl, rfl⟩ := List.cons.inj e
    match gs, hg with
    | [(g1, x'), (g2, y')], hg =>
      injection hg with e1 hg
      injection hg with e2 _
      have e1 : x' = x := e1
      have e2 : y' = y := e2
      subst e1 e2
      exact .three a g1 g2 b ha (h2 (g1, x') List.mem_cons_self) (h2 (g2, y') (List.mem_cons_of_mem _ List.mem_cons_self)) hb (by rw [h]; simp [glue])
theorem cut_tail (xs : List V) : cutV xs (some ((1 : Nat) : Int)) none = xs.drop 1 := by
  unfold cutV
  rw [HT.sIx_none, HT.sIx_nat]
  rcases Nat.lt_or_ge xs.length 1 with h | h
  · rw [Nat.min_eq_right (by omega), List.drop_eq_nil_of_le (Nat.le_refl _), List.drop_eq_nil_of_le (by omega), List.take_nil]
  · rw [Nat.min_eq_left h, List.take_of_length_le (by rw [List.length_drop]; exact Nat.le_refl _)]
theorem cut_init (xs : List V) (y : V) : cutV (xs ++ [y]) none (some (-1)) = xs := by
  have e : HT.sIx (xs ++ [y]).length (xs ++ [y]).length (some (-1)) = xs.length := by
    show (if (-1 : Int) < 0 then ((-1 : Int) + ((xs ++ [y]).length : Int)).toNat else min (-1 : Int).toNat (xs ++ [y]).length) = _
    rw [if_pos (by decide), List.length_append, List.length_singleton]
    omega
  unfold cutV
  rw [e, HT.sIx_none, List.drop_zero, Nat.sub_zero, List.take_left']
  rfl
/-- what the items of a drawn text are read as -/
def itemsD (ds : List DItem) : List Item := ds.map fun d => (d.name, d.m, d.told.map nrm)
theorem itemsD_names (ds : List DItem) : (itemsD ds).map (·.1) = ds.map (·.name) := by
  unfold itemsD
  rw [List.map_map]
  rfl
def spLText (K : PySem.W.Frag) : Sp := fun vs H Q _ => ∃ (p t : Addr) (z : Addr × List Int) (n : Nat) (xs : List V) (ds : List DItem), vs = [.ref p, .ref t] ∧ PenAt K H p z n ∧ n ≤ 10000 ∧ H t = some (.lst xs) ∧ Paired (DAt t H) xs ds ∧ (∀ d ∈ ds, DOk d) ∧ (ds.map (·.name)).Nodup ∧ ds.length ≤ 3 ∧
  ∀ (text : Str) (H' : Hp), Reads text (itemsD ds, none) → text.length ≤ 2000 → PenAt K H' p z (n + 1000) → KeepBut p H H' → Q (.str text) H'
theorem drop_gen {α : Type} {l : List α} {i : Nat} {d : α} (h : l[i]? = some d) : l.drop i = d :: l.drop (i + 1) := by
  rcases Nat.lt_or_ge i l.length with y | y
  · rw [List.drop_eq_getElem_cons y]
    rw [List.getElem?_eq_getElem y] at h
    cases h
    rfl
  · rw [List.getElem?_eq_none y] at h
    cases h
theorem fresh_name {ds : List DItem} {i : Nat} {d : DItem} (hnd : (ds.map (·.name)).Nodup) (hd : ds[i]? = some d) : ((ds.take i).map (·.name)).contains d.name = false := by
  have e : ds = ds.take i ++ (d :: ds.drop (i + 1)) := by
    rw [← drop_gen hd, List.take_append_drop]
  rw [e, List.map_append] at hnd
  have h := (List.nodup_append.mp hnd).2.2
  refine Bool.eq_false_iff.mpr fun c => ?_
  have c := List.contains_iff_mem.mp c
  exact h _ c _ (List.mem_map.mpr ⟨d, List.mem_cons_self, rfl⟩) rfl
theorem told_len {d : DItem} (ok : DOk d) : d.told.length ≤ 8 := by
  have e := ok.perm.length_eq
  rw [List.length_map] at e
  have := ok.few
  omega
theorem sp1 : (" " : Str) = spsS 1 ∧ ("  " : Str) = spsS 2 ∧ ("" : Str) = spsS 0 ∧ ("   " : Str) = spsS 3 := by decide +kernel
section
variable {P : Program} {w : World} {K : PySem.W.Frag} {mg : Str → Option Value} {base : Heap} {f g : Addr} {fd gd : FuncData}
abbrev sLText : Stmt := top 54
abbrev ltxN : List Str := ["pen", "items", "found", "name", "size", "ties", "told", "plain", "pieces", "line", "piece"]
theorem scLText : FnScope ltxN ["pen", "items"] (defScope sLText) := ⟨rfl, rfl, rfl, by decide +kernel, rfl, by decide +kernel, by decide +kernel⟩
theorem ok_ltext {fp fw : Addr} {dp dw : FuncData} (F : FnP K "_law_text" sLText f fd) (TD : Told P w K mg base "_law_draw" 1 ["pen", "many"] (spDraw K) g gd) (TP : Told P w K mg base "_law_pick" 2 ["pen", "some"] (spPick K) fp dp)
    (TW : Told P w K mg base "_law_web_text" 1 ["name", "size", "ties"] (spWText K) fw dw) : FnOk P w K mg base CX0 3 f fd ["pen", "items"] (spLText K) := by
  refine F.ok scLText (fun vs H Q E h => ?_) (fun cdv A outer s H vs Q E hr h => ?_)
  · obtain ⟨p, t, z, n, xs, ds, rfl, _⟩ := h
    rfl
  · obtain ⟨p, t, z, n, xs, ds, rfl, S, hn, hT, hds, hok, hnd, h3, q⟩ := h
    have hr1 : Room 1 _ := hr.mono (by decide)
    have hsz : sizeLine = 16777216 := sizeLine_eq
    refine ⟨_, PSs.nox (pss_cons (ps_set (i := 2) scLText.nd rfl (Or.inl rfl) pe_str)
      (C8.pss_cut (ps_for PassesOwn.never rfl (pi_list (pv 1)) (pg_tup (n := 4) rfl (pgs_cons (pg_name (i := 3) scLText.nd rfl (Or.inl rfl)) (pgs_cons (pg_name (i := 4) scLText.nd rfl (Or.inl rfl)) (pgs_cons (pg_name (i := 5) scLText.nd rfl (Or.inl rfl)) (pgs_cons (pg_name (i := 6) scLText.nd rfl (Or.inl rfl)) pgs_nil)))))
        (pss_one (ps_for PassesOwn.never rfl (pi_list (pe_slice sl_list (pe_split (pe_call TW.ok hr1 (by rfl) TW.m TW.kp TW.b .nil pass0 (pa_cons (pv 3) (pa_cons (pv 4) (pa_cons (pv 6) pa_nil)))) pe_str) po_none (po_some (pe_un un_neg pe_int)))) (pg_name (i := 7) scLText.nd rfl (Or.inl rfl))
          (pss_cons (ps_set (i := 8) scLText.nd rfl (Or.inl rfl) (pe_split (pv 7) pe_str))
          (pss_cons (ps_set (i := 9) scLText.nd rfl (Or.inl rfl) (pe_ix ix_list (pv 8) pe_int (fun _ _ => rfl)))
          (C8.pss_cut (ps_for PassesOwn.never rfl (pi_list (pe_slice sl_list (pv 8) (po_some pe_int) po_none)) (pg_name (i := 10) scLText.nd rfl (Or.inl rfl))
            (pss_one (ps_set (i := 9) scLText.nd rfl (Or.inl rfl) (pe_op op_add_str (pe_op op_add_str (pv 9) (pe_op op_mul_sp pe_str (pe_op op_add pe_int (pe_op op_mul (pe_call TD.ok hr1 (by rfl) TD.m TD.kp TD.b .nil pass0 (pa_cons (pv 0) (pa_cons pe_int pa_nil))) (pe_call TD.ok hr1 (by rfl) TD.m TD.kp TD.b .nil pass0 (pa_cons (pv 0) (pa_cons pe_int pa_nil))))))) (pv 10)))))
          (C8.pss_cut (ps_if (pt_cmpR op_eq (pe_call TD.ok hr1 (by rfl) TD.m TD.kp TD.b .nil pass0 (pa_cons (pv 0) (pa_cons pe_int pa_nil))) pe_int (nomark _))
            (pss_one (ps_set (i := 9) scLText.nd rfl (Or.inl rfl) (pe_op op_add_str (pe_op op_add_str (pe_call TP.ok hr (by rfl) TP.m TP.kp TP.b .nil pass0 (pa_cons (pv 0) (pa_cons (pe_lst (pa_cons pe_str (pa_cons pe_str (pa_cons pe_str pa_nil)))) pa_nil))) (pv 9)) (pe_call TP.ok hr (by rfl) TP.m TP.kp TP.b .nil pass0 (pa_cons (pv 0) (pa_cons (pe_lst (pa_cons pe_str (pa_cons pe_str (pa_cons pe_str pa_nil)))) pa_nil)))))) pss_nil)
          (pss_one (ps_set (i := 2) scLText.nd rfl (Or.inl rfl) (pe_op op_add_str (pe_op op_add_str (pe_op op_add_str (pv 2) (pv 9)) pe_str)
            (pe_ifExp (pt_cmpR op_gt (pe_call TD.ok hr1 (by rfl) TD.m TD.kp TD.b .nil pass0 (pa_cons (pv 0) (pa_cons pe_int pa_nil))) pe_int (nomark _)) pe_str (pe_call TP.ok hr (by rfl) TP.m TP.kp TP.b .nil pass0 (pa_cons (pv 0) (pa_cons (pe_lst (pa_cons pe_str (pa_cons pe_str pa_nil))) pa_nil))))))))))))))
      (pss_one (ps_ret (pv 2))))), ?_⟩
    rw [show L2.start ltxN [V.ref p, V.ref t] = [some (V.ref p), some (V.ref t), none, none, none, none, none, none, none, none, none] from rfl]
    refine set_of ?_
    simp only [gName, List.set_cons_succ, List.set_cons_zero]
    obtain ⟨kv0, hpd⟩ := S.dict
    have hl3 := paired_len hds
    show C8.tCut _ _ _ ([some (V.ref p), some (V.ref t), some (V.str ""), none, none, none, none, none, none, none, none] : L2.St) H
    refine ⟨fun σ' H' => ∃ (text : Str) (a3 a4 a5 a6 a7 a8 a9 a10 : Option V), σ' = [some (.ref p), some (.ref t), some (.str text), a3, a4, a5, a6, a7, a8, a9, a10] ∧ Reads text (itemsD ds, none) ∧ text.length ≤ 2000 ∧ PenAt K H' p z (n + 1000) ∧ KeepBut p H H', ?_, ?_⟩
    · refine ⟨_, rfl, t, rfl, ⟨xs, .inl (.inl hT)⟩, for_list (xs := xs) (fun i σ' H' => ∃ (text : Str) (a3 a4 a5 a6 a7 a8 a9 a10 : Option V), σ' = [some (.ref p), some (.ref t), some (.str text), a3, a4, a5, a6, a7, a8, a9, a10] ∧ Reads text (itemsD (ds.take i), none) ∧ text.length ≤ 500 * i ∧ PenAt K H' p z (n + 300 * i) ∧ KeepBut p H H')
        ⟨"", none, none, none, none, none, none, none, none, rfl, Reads.nil, by decide +kernel, S, KeepBut.refl _ _⟩ (fun i σ' H' _ h => ?_) ?_ ?_⟩
      · obtain ⟨_, _, _, _, _, _, _, _, _, _, _, _, _, k'⟩ := h
        exact .inl (.inl (keep_lst hpd k' _ _ hT))
      · rintro i x σ' H1 hx ⟨text, a3, a4, a5, a6, a7, a8, a9, a10, rfl, hR, htl, S1, k1⟩
        obtain ⟨d, hd, ⟨⟨tt, u, w', ys, zs, rfl, e1, e2, e3, e4, e5, e6⟩⟩⟩ := paired_get hds hx
        have okd := hok d (List.mem_of_getElem? hd)
        have hil : i < ds.length := by
          rcases Nat.lt_or_ge i ds.length with y | y
          · exact y
          · rw [List.getElem?_eq_none y] at hd
            cases hd
        have t1 := keep_tup hpd k1
        have l1 := keep_lst hpd k1
        have tl8 := told_len okd
        refine ⟨tt, _, rfl, .inl (.inl (t1 _ _ e1)), rfl, _, _, rfl, _, _, rfl, _, _, rfl, _, _, rfl, rfl, ?_⟩
        simp only [gName, List.set_cons_succ, List.set_cons_zero]
        refine ⟨_, rfl, _, rfl, _, rfl, d.name, d.m, w', zs, d.told, rfl, okd.nm, okd.lo, okd.hi, .inl (.inl (.inl (l1 _ _ e4))), pairs_two (pairs_map (fun _ _ _ e => t1 _ _ e) e5), okd.each, by omega, fun H2 s2 => ?_⟩
        have wl := web_len okd.nm okd.lo okd.hi okd.each (by omega)
        refine ⟨⟨_, rfl⟩, webText d.name d.m d.told, nlS, rfl, rfl, by decide +kernel, by omega, fun A nA => ?_⟩
        rw [lined_web okd.nm okd.lo okd.hi okd.each (by omega)]
        refine ⟨1, rfl, _, rfl, A, _, rfl, .inl (.inl upd_same), fun B nB => ?_⟩
        have sA := same_new (o := .lst ((linesW d.name d.m d.told ++ [(⟨#[]⟩ : Str)]).map V.str)) nA
        have sB := same_new (o := .lst (cutV ((linesW d.name d.m d.told ++ [(⟨#[]⟩ : Str)]).map V.str) none (some (-1)))) nB
        have hcut : cutV ((linesW d.name d.m d.told ++ [(⟨#[]⟩ : Str)]).map V.str) none (some (-1)) = (linesW d.name d.m d.told).map V.str := by
          rw [List.map_append]
          exact cut_init _ _
        have ppB := (S1.same (s2.trans sA)).ne nB
        have nBH : H B = none := k1.free ((s2.trans sA).free nB) (Ne.symm ppB)
        generalize hH3 : upd (upd H2 A _) B _ = H3 at sB ⊢
        have hB : H3 B = some (.lst ((linesW d.name d.m d.told).map V.str)) := by
          rw [← hH3, upd_same, ← hcut]
        have S2 := (S1.same (s2.trans sA)).same sB
        have k2 : KeepBut p H _ := k1.trans (KeepBut.of ((s2.trans sA).trans sB))
        have npB := ppB
        have plen := pieces_len d.name d.m d.told
        have nt : ((itemsD (ds.take i)).map (·.1)).contains d.name = false := by
          rw [itemsD_names]
          exact fresh_name hnd hd
        refine ⟨B, rfl, ⟨_, .inl (.inl hB)⟩, for_list (xs := (linesW d.name d.m d.told).map V.str) (fun k σ' H' => ∃ (text2 : Str) (a7 a8 a9 a10 : Option V), σ' = [some (.ref p), some (.ref t), some (.str text2), some (.str d.name), some (.int d.m), some (.ref u), some (.ref w'), a7, a8, a9, a10] ∧
            Reads text2 (stAt (itemsD (ds.take i)) d.name d.m d.told k) ∧ text2.length ≤ 500 * i + 45 * k ∧ H' B = some (.lst ((linesW d.name d.m d.told).map V.str)) ∧ PenAt K H' p z (n + 300 * i + 25 * k) ∧ KeepBut p H H')
          ⟨text, _, _, _, _, rfl, hR, htl, hB, S2, k2⟩ (fun k σ' H' _ h => ?_) ?_ ?_⟩
        · obtain ⟨_, _, _, _, _, _, _, _, h, _⟩ := h
          exact .inl (.inl h)
        · rintro k x σ' H4 hx ⟨text2, a7, a8, a9, a10, rfl, hR2, htl2, hB4, S4, k4⟩
          rw [List.getElem?_map] at hx
          have hx2 : ∃ ps, (piecesL d.name d.m d.told)[k]? = some ps ∧ x = .str (lineOf ps) := by
            unfold linesW at hx
            rw [List.getElem?_map] at hx
            cases e : (piecesL d.name d.m d.told)[k]? with
            | none =>
              rw [e] at hx
              cases hx
            | some ps =>
              rw [e] at hx
              exact ⟨ps, rfl, (Option.some.inj hx).symm⟩
          obtain ⟨ps, hps, rfl⟩ := hx2
          have hkl : k < d.told.length + 2 := by
            rcases Nat.lt_or_ge k (piecesL d.name d.m d.told).length with y | y
            · omega
            · rw [List.getElem?_eq_none y] at hps
              cases hps
          have hmem := List.mem_of_getElem? hps
          have hshape := pieces_shape hmem
          have hshort := pieces_short okd.nm okd.hi okd.each hmem
          have hsplit := split_line okd.nm okd.hi okd.each hmem
          have hplain := (step_at (found := []) okd.nm rfl okd.lo okd.hi okd.each (by omega) hps (plain_spaced hps)).2.2.2
          obtain ⟨w0, rest, hwr⟩ : ∃ w0 rest, ps = w0 :: rest := by
            rcases hshape with ⟨w, e⟩ | ⟨w, x, y, e⟩
            · exact ⟨_, _, e⟩
            · exact ⟨_, _, e⟩
          have hrl : rest.length ≤ 2 := by
            rcases hshape with ⟨w, e⟩ | ⟨w, x, y, e⟩ <;> rw [hwr] at e <;> cases e <;> simp
          refine ⟨_, rfl, ⟨_, rfl⟩, lineOf ps, spaceS, rfl, rfl, by decide +kernel, by omega, fun C nC => ?_⟩
          rw [hsplit]
          have sC := same_new (o := .lst (ps.map V.str)) nC
          have ppC := S4.ne nC
          refine ⟨_, rfl, C, _, _, .str w0, rfl, rfl, .inl (.inl upd_same), atI_nat (j := 0) (by rw [hwr]; rfl), ?_⟩
          simp only [gName, List.set_cons_succ, List.set_cons_zero]
          have S5 := S4.same sC
          have k5 : KeepBut p H _ := k4.trans (KeepBut.of sC)
          have hB5 := sC _ _ hB4
          have hC5 : upd H4 C (.lst (ps.map V.str)) C = some (.lst (ps.map V.str)) := upd_same
          generalize upd H4 C (.lst (ps.map V.str)) = H5 at S5 k5 hB5 hC5 ⊢
          refine ⟨fun σ' H' => ∃ (line : Str) (gs : List (Nat × Str)) (a10 : Option V), σ' = [some (.ref p), some (.ref t), some (.str text2), some (.str d.name), some (.int d.m), some (.ref u), some (.ref w'), some (.str (lineOf ps)), some (.ref C), some (.str line), a10] ∧
            gs.map (·.2) = rest ∧ (∀ g ∈ gs, g.1 ≤ 2) ∧ tl line = glue w0 gs ∧ line.length ≤ 40 ∧ H' B = some (.lst ((linesW d.name d.m d.told).map V.str)) ∧ PenAt K H' p z (n + 300 * i + 25 * k + 10) ∧ KeepBut p H H', ?_, ?_⟩
          · refine ⟨_, rfl, 1, rfl, C, _, rfl, .inl (.inl hC5), fun D nD => ?_⟩
            have hcut2 : cutV (ps.map V.str) (some (1 : Int)) none = rest.map V.str := by
              rw [show (1 : Int) = ((1 : Nat) : Int) from rfl, cut_tail, hwr]
              rfl
            rw [hcut2]
            have sD := same_new (o := .lst (rest.map V.str)) nD
            have nDp := S5.ne nD
            have nDH : H D = none := k5.free nD (Ne.symm nDp)
            have w08 := hshort w0 (by rw [hwr]; exact List.mem_cons_self)
            refine ⟨D, rfl, ⟨_, .inl (.inl upd_same)⟩, for_list (xs := rest.map V.str) (fun i2 σ' H' => ∃ (line : Str) (gs : List (Nat × Str)) (a10 : Option V), σ' = [some (.ref p), some (.ref t), some (.str text2), some (.str d.name), some (.int d.m), some (.ref u), some (.ref w'), some (.str (lineOf ps)), some (.ref C), some (.str line), a10] ∧
              gs.map (·.2) = rest.take i2 ∧ (∀ g ∈ gs, g.1 ≤ 2) ∧ tl line = glue w0 gs ∧ line.length ≤ 8 + 11 * i2 ∧ H' D = some (.lst (rest.map V.str)) ∧ H' B = some (.lst ((linesW d.name d.m d.told).map V.str)) ∧ PenAt K H' p z (n + 300 * i + 25 * k + 2 * i2) ∧ KeepBut p H H')
              ⟨w0, [], _, rfl, rfl, fun g h => absurd h List.not_mem_nil, by simp [glue], by omega, upd_same, sD _ _ hB5, S5.same sD, k5.trans (KeepBut.of sD)⟩ (fun i2 σ' H' _ h => ?_) ?_ ?_⟩
            · obtain ⟨_, _, _, _, _, _, _, _, h, _⟩ := h
              exact .inl (.inl h)
            · rintro i2 x σ' H6 hx ⟨line, gs, a10, rfl, hgs, hg2, hline, hll, hD6, hB6, S6, k6⟩
              rw [List.getElem?_map] at hx
              obtain ⟨pc, hpc, rfl⟩ : ∃ pc, rest[i2]? = some pc ∧ x = .str pc := by
                cases e : rest[i2]? with
                | none =>
                  rw [e] at hx
                  cases hx
                | some pc =>
                  rw [e] at hx
                  exact ⟨pc, rfl, (Option.some.inj hx).symm⟩
              have hi2 : i2 < rest.length := by
                rcases Nat.lt_or_ge i2 rest.length with y | y
                · exact y
                · rw [List.getElem?_eq_none y] at hpc
                  cases hpc
              have pc8 := hshort pc (by rw [hwr]; exact List.mem_cons_of_mem _ (List.mem_of_getElem? hpc))
              simp only [gName, List.set_cons_succ, List.set_cons_zero]
              refine ⟨_, rfl, _, rfl, p, z, _, _, rfl, S6, by omega, by decide, by decide, fun r1 H7 ha0 ha1 S7 k7 => ?_⟩
              refine ⟨_, rfl, p, z, _, _, rfl, S7, by omega, by decide, by decide, fun r2 H8 hb0 hb1 S8 k8 => ?_⟩
              obtain ⟨a, rfl⟩ : ∃ a : Nat, r1 = (a : Int) := ⟨r1.toNat, by omega⟩
              obtain ⟨b, rfl⟩ : ∃ b : Nat, r2 = (b : Int) := ⟨r2.toNat, by omega⟩
              have hab : a * b ≤ 2 := by
                have := Nat.mul_le_mul (show a ≤ 2 by omega) (show b ≤ 1 by omega)
                omega
              have hsp : (spsS (a * b + 1)).length = a * b + 1 := by
                rw [← len_cps]
                exact List.length_replicate
              have hln : (line ++ spsS (a * b + 1)).length = line.length + (a * b + 1) := by rw [app_len, hsp]
              refine ⟨_, _, rfl, rfl, .inl ⟨by omega, by omega⟩, _, _, rfl, rfl, a * b + 1, rfl, congrArg V.int (show (1 : Int) + (a : Int) * (b : Int) = ((a * b + 1 : Nat) : Int) by rw [Int.natCast_add, Int.natCast_mul]; exact Int.add_comm _ _), by omega, _, _, rfl, rfl, by rw [hsp]; omega, _, rfl, _, _, rfl, rfl, by rw [hln]; omega, ?_⟩
              refine ⟨line ++ spsS (a * b + 1) ++ pc, gs ++ [(a * b, pc)], _, rfl, ?_, fun g hg => ?_, ?_, ?_, ?_, ?_, S8, (k6.trans k7).trans k8⟩
              · rw [List.map_append, hgs, take_more hpc]
                rfl
              · rcases List.mem_append.mp hg with hg | hg
                · exact hg2 g hg
                · rw [List.mem_singleton.mp hg]
                  exact hab
              · rw [glue_snoc, tl_app, tl_app, hline, List.append_assoc]
                rfl
              · rw [app_len, hln]
                omega
              · obtain ⟨kv6, hpd6⟩ := S6.dict
                obtain ⟨kv7, hpd7⟩ := S7.dict
                exact keep_lst hpd7 k8 _ _ (keep_lst hpd6 k7 _ _ hD6)
              · obtain ⟨kv6, hpd6⟩ := S6.dict
                obtain ⟨kv7, hpd7⟩ := S7.dict
                exact keep_lst hpd7 k8 _ _ (keep_lst hpd6 k7 _ _ hB6)
            · rintro σ' H6 ⟨line, gs, a10, rfl, hgs, hg2, hline, hll, hD6, hB6, S6, k6⟩
              rw [List.length_map] at hgs hll S6
              rw [List.take_length] at hgs
              exact ⟨line, gs, a10, rfl, hgs, hg2, hline, by omega, hB6, S6.mono (by omega), k6⟩
          · rintro σ' H6 ⟨line, gs, a10, rfl, hgs, hg2, hline, hl40, hB6, S6, k6⟩
            refine ⟨fun σ' H' => ∃ (line : Str) (a10 : Option V), σ' = [some (.ref p), some (.ref t), some (.str text2), some (.str d.name), some (.int d.m), some (.ref u), some (.ref w'), some (.str (lineOf ps)), some (.ref C), some (.str line), a10] ∧
              Spaced ps line ∧ H' B = some (.lst ((linesW d.name d.m d.told).map V.str)) ∧ PenAt K H' p z (n + 300 * i + 25 * k + 13) ∧ KeepBut p H H', ?_, ?_⟩
            · refine ⟨_, rfl, p, z, _, _, rfl, S6, by omega, by decide, by decide, fun r H7 hr0 hr1' S7 k7 => ?_⟩
              obtain ⟨kv6, hpd6⟩ := S6.dict
              have hB7 := keep_lst hpd6 k7 _ _ hB6
              refine ⟨rfl, _, rfl, ?_⟩
              by_cases hr : r = 0
              · refine iteT' (decide_eq_true (congrArg V.int hr)) ?_
                refine ⟨_, rfl, by show 3 ≤ sizeLine; omega, fun l nl => ?_⟩
                have sl := same_new (o := .lst [.str " ", .str "  ", .str ""]) nl
                refine ⟨p, l, z, _, _, rfl, S7.same sl, by omega, .inl (.inl upd_same), by show 1 ≤ 3; decide, by show 3 ≤ 1000000; decide, fun v1 H8 hv1 S8 k8 => ?_⟩
                obtain ⟨p1, p2, p3, p4⟩ := sp1
                obtain ⟨a, rfl, ha⟩ : ∃ a : Nat, v1 = .str (spsS a) ∧ a ≤ 2 := by
                  rcases List.mem_cons.mp hv1 with e | hv1
                  · exact ⟨1, by rw [e, p1], by decide⟩
                  · rcases List.mem_cons.mp hv1 with e | hv1
                    · exact ⟨2, by rw [e, p2], by decide⟩
                    · exact ⟨0, by rw [List.mem_singleton.mp hv1, p3], by decide⟩
                have hsa : (spsS a).length = a := by
                  rw [← len_cps]
                  exact List.length_replicate
                refine ⟨_, rfl, _, _, rfl, rfl, by rw [hsa]; omega, _, rfl, by show 3 ≤ sizeLine; omega, fun l2 nl2 => ?_⟩
                have sl2 := same_new (o := .lst [.str " ", .str "", .str "   "]) nl2
                refine ⟨p, l2, z, _, _, rfl, S8.same sl2, by omega, .inl (.inl upd_same), by show 1 ≤ 3; decide, by show 3 ≤ 1000000; decide, fun v2 H9 hv2 S9 k9 => ?_⟩
                obtain ⟨b, rfl, hb⟩ : ∃ b : Nat, v2 = .str (spsS b) ∧ b ≤ 3 := by
                  rcases List.mem_cons.mp hv2 with e | hv2
                  · exact ⟨1, by rw [e, p1], by decide⟩
                  · rcases List.mem_cons.mp hv2 with e | hv2
                    · exact ⟨0, by rw [e, p3], by decide⟩
                    · exact ⟨3, by rw [List.mem_singleton.mp hv2, p4], by decide⟩
                have hsb : (spsS b).length = b := by
                  rw [← len_cps]
                  exact List.length_replicate
                refine ⟨_, _, rfl, rfl, by rw [app_len, hsa, hsb]; omega, ?_⟩
                obtain ⟨kv7, hpd7⟩ := (S7.same sl).dict
                obtain ⟨kv8, hpd8⟩ := (S8.same sl2).dict
                refine ⟨spsS a ++ line ++ spsS b, _, rfl, ?_, keep_lst hpd8 k9 _ _ (sl2 _ _ (keep_lst hpd7 k8 _ _ (sl _ _ hB7))), S9, k6.trans (k7.trans ((KeepBut.of sl).trans (k8.trans ((KeepBut.of sl2).trans k9))))⟩
                rw [hwr]
                refine spaced_of (a := a) (b := b) (by rw [← hwr]; exact hshape) hgs hg2 ha hb ?_
                rw [tl_app, tl_app, hline, tl_spsS, tl_spsS, List.append_assoc]
              · refine iteF' (decide_eq_false fun e => hr (by injection e)) ?_
                refine ⟨line, _, rfl, ?_, hB7, S7.mono (by omega), k6.trans k7⟩
                rw [hwr]
                refine spaced_of (a := 0) (b := 0) (by rw [← hwr]; exact hshape) hgs hg2 (by decide) (by decide) ?_
                rw [hline]
                simp
            · rintro σ' H7 ⟨line2, a10, rfl, hspd, hB7, S7, k7⟩
              obtain ⟨st1, st2, st3, st4⟩ := step_at (found := itemsD (ds.take i)) okd.nm nt okd.lo okd.hi okd.each (by omega) hps hspd
              have nl1 : nlS.length = 1 := by decide +kernel
              have hR8 : Reads (text2 ++ line2 ++ nlS) (stAt (itemsD (ds.take i)) d.name d.m d.told (k + 1)) := hR2.line st1 st2 st3 (by rw [tl_app, tl_app, tl_nl, List.append_assoc])
              have hl8 : (text2 ++ line2 ++ nlS).length ≤ 500 * i + 45 * k + 41 := by
                rw [app_len, app_len, nl1]
                omega
              refine ⟨_, rfl, _, rfl, _, _, rfl, rfl, by omega, _, _, rfl, rfl, by rw [app_len]; show _ + nlS.length ≤ sizeLine; omega, _, rfl, p, z, _, _, rfl, S7, by omega, by decide, by decide, fun r H8 hr0 hr1' S8 k8 => ?_⟩
              obtain ⟨kv7, hpd7⟩ := S7.dict
              have hB8 := keep_lst hpd7 k8 _ _ hB7
              refine ⟨_, _, rfl, rfl, _, rfl, ?_⟩
              have fin : ∀ (e : Str) (H9 : Hp), (e = "" ∨ ∃ a : Nat, a ≤ 2 ∧ tl e = sps a ++ [10]) → H9 B = some (.lst ((linesW d.name d.m d.told).map V.str)) → PenAt K H9 p z (n + 300 * i + 25 * k + 15) → KeepBut p H H9 →
                  e.length ≤ 3 ∧ Reads (text2 ++ line2 ++ nlS ++ e) (stAt (itemsD (ds.take i)) d.name d.m d.told (k + 1)) := by
                intro e H9 he _ _ _
                rcases he with rfl | ⟨a, ha, he⟩
                · refine ⟨by decide +kernel, ?_⟩
                  have e1 : text2 ++ line2 ++ nlS ++ ("" : Str) = text2 ++ line2 ++ nlS := str_ext (by
                    show tl _ = tl _
                    rw [tl_app, show tl ("" : Str) = [] by decide +kernel, List.append_nil])
                  rw [e1]
                  exact hR8
                · refine ⟨?_, hR8.blank (l := spsS a) (tl_spsS a) (by rw [tl_app _ e, he, tl_spsS])⟩
                  rw [← len_cps, show e.cps.toList = _ from he, List.length_append, List.length_replicate, List.length_singleton]
                  omega
              by_cases hr : (0 : Int) < r
              · refine iteT' (decide_eq_true hr) ?_
                obtain ⟨f1, f2⟩ := fin "" H8 (.inl rfl) hB8 (S8.mono (by omega)) (k7.trans k8)
                refine ⟨_, _, rfl, rfl, by show (text2 ++ line2 ++ nlS).length + _ ≤ sizeLine; omega, ?_⟩
                refine ⟨text2 ++ line2 ++ nlS ++ "", _, _, _, _, rfl, f2, ?_, hB8, S8.mono (by omega), k7.trans k8⟩
                rw [app_len]
                omega
              · refine iteF' (decide_eq_false hr) ?_
                refine ⟨_, rfl, by show 2 ≤ sizeLine; omega, fun l nl => ?_⟩
                have sl := same_new (o := .lst [.str "\n", .str "  \n"]) nl
                refine ⟨p, l, z, _, _, rfl, S8.same sl, by omega, .inl (.inl upd_same), by show 1 ≤ 2; decide, by show 2 ≤ 1000000; decide, fun v1 H9 hv1 S9 k9 => ?_⟩
                obtain ⟨kv8, hpd8⟩ := (S8.same sl).dict
                have hB9 := keep_lst hpd8 k9 _ _ (sl _ _ hB8)
                have k9' := k7.trans (k8.trans ((KeepBut.of sl).trans k9))
                obtain ⟨e, rfl, he⟩ : ∃ e : Str, v1 = .str e ∧ (e = "" ∨ ∃ a : Nat, a ≤ 2 ∧ tl e = sps a ++ [10]) := by
                  rcases List.mem_cons.mp hv1 with e | hv1
                  · exact ⟨_, e, .inr ⟨0, by decide, by decide +kernel⟩⟩
                  · exact ⟨_, List.mem_singleton.mp hv1, .inr ⟨2, by decide, by decide +kernel⟩⟩
                obtain ⟨f1, f2⟩ := fin e H9 he hB9 (S9.mono (by omega)) k9'
                refine ⟨_, _, rfl, rfl, by show (text2 ++ line2 ++ nlS).length + _ ≤ sizeLine; omega, ?_⟩
                refine ⟨text2 ++ line2 ++ nlS ++ e, _, _, _, _, rfl, f2, ?_, hB9, S9.mono (by omega), k9'⟩
                rw [app_len]
                omega
        · rintro σ' H4 ⟨text2, a7, a8, a9, a10, rfl, hR2, htl2, hB4, S4, k4⟩
          have hll : ((linesW d.name d.m d.told).map V.str).length = d.told.length + 2 := by
            unfold linesW
            rw [List.length_map, List.length_map, plen]
          rw [hll] at hR2 htl2 S4
          refine ⟨text2, _, _, _, _, _, _, _, _, rfl, ?_, by omega, S4.mono (by omega), k4⟩
          unfold stAt at hR2
          rw [if_neg (by omega), if_neg (by omega)] at hR2
          rw [take_more hd]
          unfold itemsD at hR2 ⊢
          rw [List.map_append]
          exact hR2
      · rintro σ' H1 ⟨text, a3, a4, a5, a6, a7, a8, a9, a10, rfl, hR, htl, S1, k1⟩
        rw [hl3, List.take_length] at hR
        exact ⟨text, _, _, _, _, _, _, _, _, rfl, hR, by omega, S1.mono (by omega), k1⟩
    · rintro σ' H1 ⟨text, a3, a4, a5, a6, a7, a8, a9, a10, rfl, hR, htl, S1, k1⟩
      exact ⟨_, rfl, q text H1 hR htl S1 k1⟩
end
end K88
/-! A text spoiled at one place. -/
namespace K88
open PySem L2

theorem cut_takeV (xs : List V) (n : Nat) : cutV xs none (some (n : Int)) = xs.take n := by
  unfold cutV
  rw [HT.sIx_none, HT.sIx_nat, List.drop_zero, Nat.sub_zero]
  rcases Nat.le_total n xs.length with h | h
  · rw [Nat.min_eq_left h]
  · rw [Nat.min_eq_right h, List.take_of_length_le (Nat.le_refl _), List.take_of_length_le h]
theorem cut_dropV (xs : List V) (n : Nat) : cutV xs (some (n : Int)) none = xs.drop n := by
  unfold cutV
  rw [HT.sIx_none, HT.sIx_nat]
  rcases Nat.le_total n xs.length with h | h
  · rw [Nat.min_eq_left h, List.take_of_length_le (by rw [List.length_drop]; exact Nat.le_refl _)]
  · rw [Nat.min_eq_right h, Nat.sub_self, List.take_zero, List.drop_eq_nil_of_le h]
/-- the two pieces of lines, put together -/
theorem join_bound {z : Str} (i j : Nat) : (((Txt.split z nlS).take i ++ (Txt.split z nlS).drop j).map (·.length)).sum + ((Txt.split z nlS).take i ++ (Txt.split z nlS).drop j).length * nlS.length ≤ 2 * (z.length + 1) := by
  have n1 : nlS.length = 1 := by decide +kernel
  have t := split_total z
  have a := sum_split (Txt.split z nlS) i
  have b := sum_split (Txt.split z nlS) j
  have c : ((Txt.split z nlS).take i).length ≤ (Txt.split z nlS).length := by rw [List.length_take]; omega
  have d : ((Txt.split z nlS).drop j).length ≤ (Txt.split z nlS).length := by rw [List.length_drop]; omega
  rw [n1, sum_app, List.length_append]
  omega
def spSpoil (K : PySem.W.Frag) : Sp := fun vs H Q _ => ∃ (p : Addr) (z : Addr × List Int) (n : Nat) (text : Str), vs = [.ref p, .str text] ∧ PenAt K H p z n ∧ n ≤ 50000 ∧ 1 ≤ text.length ∧ text.length ≤ 3000 ∧
  ∀ (other : Str) (H' : Hp), other.length ≤ 10000 → PenAt K H' p z (n + 10) → KeepBut p H H' → Q (.str other) H'
section
variable {P : Program} {w : World} {K : PySem.W.Frag} {mg : Str → Option Value} {base : Heap} {f g : Addr} {fd gd : FuncData}
abbrev sSpoil : Stmt := top 55
abbrev spoN : List Str := ["pen", "text", "k", "sign", "lines", "n", "ways"]
theorem scSpoil : FnScope spoN ["pen", "text"] (defScope sSpoil) := ⟨rfl, rfl, rfl, by decide +kernel, rfl, by decide +kernel, by decide +kernel⟩
theorem ok_spoil {fp fs : Addr} {dp ds : FuncData} (F : FnP K "_law_spoiled" sSpoil f fd) (TD : Told P w K mg base "_law_draw" 1 ["pen", "many"] (spDraw K) g gd) (TP : Told P w K mg base "_law_pick" 2 ["pen", "some"] (spPick K) fp dp)
    (TS_ : Told P w K mg base "_law_small" 1 [] spSmall fs ds) (mLen : mg "len" = none) (mL : mg "list" = none) : FnOk P w K mg base CX0 3 f fd ["pen", "text"] (spSpoil K) := by
  refine F.ok scSpoil (fun vs H Q E h => ?_) (fun cdv A outer s H vs Q E hr h => ?_)
  · obtain ⟨p, z, n, text, rfl, _⟩ := h
    rfl
  · obtain ⟨p, z, n, text, rfl, S, hn, h1, h3, q⟩ := h
    have hr1 : Room 1 _ := hr.mono (by decide)
    have hsz : sizeLine = 16777216 := sizeLine_eq
    obtain ⟨s26, d10, sle⟩ := small_len
    refine ⟨_, PSs.nox (pss_cons (ps_set (i := 2) scSpoil.nd rfl (Or.inl rfl) (pe_call TD.ok hr1 (by rfl) TD.m TD.kp TD.b .nil pass0 (pa_cons (pv 0) (pa_cons (pe_op op_add (pe_callB call_len (by rfl) mLen PySem.boot_len (pa_cons (pv 1) pa_nil)) pe_int) pa_nil))))
      (pss_cons (ps_set (i := 3) scSpoil.nd rfl (Or.inl rfl) (pe_call TP.ok hr (by rfl) TP.m TP.kp TP.b .nil pass0 (pa_cons (pv 0) (pa_cons (pe_op op_cat (pe_callTy (call_listS rfl) (by rfl) mL (by decide +kernel) (pa_cons pe_str pa_nil))
          (pe_lst (pa_cons (pe_ix ix_str (pe_call0 TS_.ok hr1 (by rfl) TS_.m TS_.kp TS_.b .nil pass0) (pe_call TD.ok hr1 (by rfl) TD.m TD.kp TD.b .nil pass0 (pa_cons (pv 0) (pa_cons pe_int pa_nil))) (fun _ _ => rfl))
            (pa_cons (pe_ix ix_str (pv 1) (pe_call TD.ok hr1 (by rfl) TD.m TD.kp TD.b .nil pass0 (pa_cons (pv 0) (pa_cons (pe_callB call_len (by rfl) mLen PySem.boot_len (pa_cons (pv 1) pa_nil)) pa_nil))) (fun _ _ => rfl)) pa_nil)))) pa_nil))))
      (pss_cons (ps_set (i := 4) scSpoil.nd rfl (Or.inl rfl) (pe_split (pv 1) pe_str))
      (pss_cons (ps_set (i := 5) scSpoil.nd rfl (Or.inl rfl) (pe_call TD.ok hr1 (by rfl) TD.m TD.kp TD.b .nil pass0 (pa_cons (pv 0) (pa_cons (pe_callB call_len (by rfl) mLen PySem.boot_len (pa_cons (pv 4) pa_nil)) pa_nil))))
      (pss_cons (ps_set (i := 6) scSpoil.nd rfl (Or.inl rfl) (pe_lst
          (pa_cons (pe_op op_add_str (pe_op op_add_str (pe_slice sl_str (pv 1) po_none (po_some (pv 2))) (pv 3)) (pe_slice sl_str (pv 1) (po_some (pv 2)) po_none))
          (pa_cons (pe_op op_add_str (pe_op op_add_str (pe_slice sl_str (pv 1) po_none (po_some (pv 2))) (pv 3)) (pe_slice sl_str (pv 1) (po_some (pe_op op_add (pv 2) pe_int)) po_none))
          (pa_cons (pe_op op_add_str (pe_slice sl_str (pv 1) po_none (po_some (pv 2))) (pe_slice sl_str (pv 1) (po_some (pe_op op_add (pv 2) pe_int)) po_none))
          (pa_cons (pe_slice sl_str (pv 1) po_none (po_some (pv 2))) pa_nil))))))
      (pss_one (ps_ret (pe_call TP.ok hr (by rfl) TP.m TP.kp TP.b .nil pass0 (pa_cons (pv 0) (pa_cons (pe_op op_cat (pv 6) (pe_lst
          (pa_cons (pe_join pe_str (pe_op op_cat (pe_slice sl_list (pv 4) po_none (po_some (pv 5))) (pe_slice sl_list (pv 4) (po_some (pe_op op_add (pv 5) pe_int)) po_none)))
          (pa_cons (pe_join pe_str (pe_op op_cat (pe_slice sl_list (pv 4) po_none (po_some (pe_op op_add (pv 5) pe_int))) (pe_slice sl_list (pv 4) (po_some (pv 5)) po_none))) pa_nil)))) pa_nil)))))))))), ?_⟩
    rw [show L2.start spoN [V.ref p, V.str text] = [some (V.ref p), some (V.str text), none, none, none, none, none] from rfl]
    refine ⟨_, rfl, _, rfl, _, text.length, rfl, ⟨by omega, rfl⟩, _, _, rfl, rfl, p, z, n, _, rfl, S, by omega, by omega, by omega, fun r1 H1 _ _ S1 k1 => ?_⟩
    simp only [gName, List.set_cons_succ, List.set_cons_zero]
    refine ⟨_, rfl, _, rfl, by decide +kernel, fun L1 nL1 => ?_⟩
    have sL1 := same_new (o := .lst ((" \n01239tew" : Str).cps.toList.map fun c => V.str ⟨#[c]⟩)) nL1
    refine ⟨rfl, _, rfl, p, z, _, _, rfl, S1.same sL1, by omega, by decide, by decide, fun r2 H2 a0 a1 S2 k2 => ?_⟩
    obtain ⟨c, hc, hat⟩ := sign_of (z := smallS) a0 a1 (by rw [s26]; decide)
    refine ⟨_, _, c, rfl, rfl, sle, hat, ?_⟩
    refine ⟨_, rfl, _, rfl, _, rfl, _, text.length, rfl, ⟨by omega, rfl⟩, p, z, _, _, rfl, S2, by omega, by omega, by omega, fun r3 H3 b0 b1 S3 k3 => ?_⟩
    obtain ⟨c2, hc2, hat2⟩ := sign_of (z := text) b0 b1 (Int.le_refl _)
    refine ⟨_, _, c2, rfl, rfl, by omega, hat2, ?_⟩
    refine ⟨by show 2 ≤ sizeLine; omega, fun L2' nL2 => ?_⟩
    obtain ⟨kv1, hpd1⟩ := (S1.same sL1).dict
    obtain ⟨kv2, hpd2⟩ := S2.dict
    have sL2 := same_new (o := .lst [.str ⟨#[c]⟩, .str ⟨#[c2]⟩]) nL2
    have hL1 := sL2 _ _ (keep_lst hpd2 k3 _ _ (keep_lst hpd1 k2 _ _ (upd_same (o := .lst ((" \n01239tew" : Str).cps.toList.map fun c => V.str ⟨#[c]⟩)))))
    have hW : ((" \n01239tew" : Str).cps.toList.map fun c => V.str ⟨#[c]⟩).length = 10 := by
      rw [List.length_map]
      decide +kernel
    refine ⟨L1, L2', _, _, rfl, rfl, hL1, upd_same, by rw [hW]; show 10 + 2 ≤ sizeLine; omega, fun L3 nL3 => ?_⟩
    have sL3 := same_new (o := .lst (((" \n01239tew" : Str).cps.toList.map fun c => V.str ⟨#[c]⟩) ++ [.str ⟨#[c]⟩, .str ⟨#[c2]⟩])) nL3
    refine ⟨p, L3, z, _, _, rfl, (S3.same sL2).same sL3, by omega, .inl (.inl upd_same), by rw [List.length_append, hW]; show 1 ≤ 10 + 2; decide, by rw [List.length_append, hW]; show 10 + 2 ≤ 1000000; decide, fun v4 H4 hv4 S4 k4 => ?_⟩
    obtain ⟨sign, rfl, hsl⟩ : ∃ sign : Str, v4 = .str sign ∧ sign.length = 1 := by
      rcases List.mem_append.mp hv4 with e | e
      · obtain ⟨x, _, rfl⟩ := List.mem_map.mp e
        exact ⟨_, rfl, rfl⟩
      · rcases List.mem_cons.mp e with e | e
        · exact ⟨_, e, rfl⟩
        · exact ⟨_, List.mem_singleton.mp e, rfl⟩
    simp only [gName, List.set_cons_succ, List.set_cons_zero]
    have nl1 : (nlS.length == 0) = false := by decide +kernel
    refine ⟨_, rfl, ⟨_, rfl⟩, text, nlS, rfl, rfl, nl1, by omega, fun L4 nL4 => ?_⟩
    have sL4 := same_new (o := .lst ((Txt.split text nlS).map V.str)) nL4
    simp only [gName, List.set_cons_succ, List.set_cons_zero]
    have hcnt := split_count text
    have hpos : 0 < (Txt.split text nlS).length := List.length_pos_iff.mpr (split_ne text)
    refine ⟨_, rfl, _, rfl, _, _, rfl, .inl ⟨_, .inl (.inl upd_same), rfl⟩, p, z, _, _, rfl, S4.same sL4, by omega, by rw [List.length_map]; omega, by rw [List.length_map]; omega, fun r5 H5 d0 d1 S5 k5 => ?_⟩
    obtain ⟨i5, rfl⟩ : ∃ i5 : Nat, r5 = (i5 : Int) := ⟨r5.toNat, by omega⟩
    simp only [gName, List.set_cons_succ, List.set_cons_zero]
    obtain ⟨kv4, hpd4⟩ := (S4.same sL4).dict
    have hL4 := keep_lst hpd4 k5 _ _ (upd_same (o := .lst ((Txt.split text nlS).map V.str)))
    have cl : ∀ lo hi, (cutS text lo hi).length ≤ text.length := cutS_length text
    have tle : text.length ≤ sizeLine := by omega
    have c1 := cl none (some r1)
    have c2' := cl (some r1) none
    have c3 := cl (some (r1 + 1)) none
    refine ⟨_, rfl, _, rfl, _, rfl, text, rfl, tle, _, rfl, _, _, rfl, rfl, by omega, _, rfl, _, rfl, _, rfl, text, rfl, tle, _, _, rfl, rfl, by rw [app_len]; omega, ?_⟩
    refine ⟨_, rfl, _, rfl, _, rfl, text, rfl, tle, _, rfl, _, _, rfl, rfl, by omega, _, rfl, _, rfl, _, _, rfl, rfl, _, rfl, text, rfl, tle, _, _, rfl, rfl, by rw [app_len]; omega, ?_⟩
    refine ⟨_, rfl, _, rfl, _, rfl, text, rfl, tle, _, rfl, _, rfl, _, _, rfl, rfl, _, rfl, text, rfl, tle, _, _, rfl, rfl, by omega, ?_⟩
    refine ⟨_, rfl, _, rfl, _, rfl, text, rfl, tle, by show 4 ≤ sizeLine; omega, fun L5 nL5 => ?_⟩
    simp only [gName, List.set_cons_succ, List.set_cons_zero]
    have sL5 : ∀ o, Same H5 (upd H5 L5 o) := fun o => same_new nL5
    have b1 := join_bound (z := text) i5 (i5 + 1)
    have b2 := join_bound (z := text) (i5 + 1) i5
    have j1 := cut_join (z := text) i5 (i5 + 1)
    have j2 := cut_join (z := text) (i5 + 1) i5
    have cc : ((i5 : Int) + 1) = ((i5 + 1 : Nat) : Int) := by omega
    have e1 : cutV ((Txt.split text nlS).map V.str) none (some (i5 : Int)) ++ cutV ((Txt.split text nlS).map V.str) (some ((i5 : Int) + 1)) none = (((Txt.split text nlS).take i5 ++ (Txt.split text nlS).drop (i5 + 1))).map V.str := by
      rw [cc, cut_takeV, cut_dropV, List.map_append, List.map_take, List.map_drop]
    have e2 : cutV ((Txt.split text nlS).map V.str) none (some ((i5 : Int) + 1)) ++ cutV ((Txt.split text nlS).map V.str) (some (i5 : Int)) none = (((Txt.split text nlS).take (i5 + 1) ++ (Txt.split text nlS).drop i5)).map V.str := by
      rw [cc, cut_takeV, cut_dropV, List.map_append, List.map_take, List.map_drop]
    have lb : ∀ lo hi, (cutV ((Txt.split text nlS).map V.str) lo hi).length ≤ 3001 := fun lo hi => by
      have := cutV_length ((Txt.split text nlS).map V.str) lo hi
      rw [List.length_map] at this
      omega
    have l1 := lb none (some (i5 : Int))
    have l2 := lb (some ((i5 : Int) + 1)) none
    have l3 := lb none (some ((i5 : Int) + 1))
    have l4 := lb (some (i5 : Int)) none
    refine ⟨_, rfl, _, rfl, ⟨_, rfl⟩, _, rfl, _, rfl, _, rfl, L4, _, rfl, .inl (.inl (sL5 _ _ _ hL4)), fun A nA => ?_⟩
    have sA := same_new (o := .lst (cutV ((Txt.split text nlS).map V.str) none (some (i5 : Int)))) nA
    refine ⟨_, rfl, _, rfl, _, _, rfl, rfl, _, rfl, L4, _, rfl, .inl (.inl (sA _ _ (sL5 _ _ _ hL4))), fun B nB => ?_⟩
    have sB := same_new (o := .lst (cutV ((Txt.split text nlS).map V.str) (some ((i5 : Int) + 1)) none)) nB
    refine ⟨A, B, _, _, rfl, rfl, sB _ _ upd_same, upd_same, by omega, fun C nC => ?_⟩
    have sC := same_new (o := .lst (cutV ((Txt.split text nlS).map V.str) none (some (i5 : Int)) ++ cutV ((Txt.split text nlS).map V.str) (some ((i5 : Int) + 1)) none)) nC
    refine ⟨nlS, C, _, rfl, rfl, .inl (.inl (.inl (upd_same.trans (by rw [e1])))), by omega, ?_⟩
    have hL4c := sC _ _ (sB _ _ (sA _ _ (sL5 (.lst _) _ _ hL4)))
    refine ⟨⟨_, rfl⟩, _, rfl, _, rfl, _, _, rfl, rfl, _, rfl, L4, _, rfl, .inl (.inl hL4c), fun A2 nA2 => ?_⟩
    have sA2 := same_new (o := .lst (cutV ((Txt.split text nlS).map V.str) none (some ((i5 : Int) + 1)))) nA2
    refine ⟨_, rfl, _, rfl, _, rfl, L4, _, rfl, .inl (.inl (sA2 _ _ hL4c)), fun B2 nB2 => ?_⟩
    have sB2 := same_new (o := .lst (cutV ((Txt.split text nlS).map V.str) (some (i5 : Int)) none)) nB2
    refine ⟨A2, B2, _, _, rfl, rfl, sB2 _ _ upd_same, upd_same, by omega, fun C2 nC2 => ?_⟩
    have sC2 := same_new (o := .lst (cutV ((Txt.split text nlS).map V.str) none (some ((i5 : Int) + 1)) ++ cutV ((Txt.split text nlS).map V.str) (some (i5 : Int)) none)) nC2
    refine ⟨nlS, C2, _, rfl, rfl, .inl (.inl (.inl (upd_same.trans (by rw [e2])))), by omega, ?_⟩
    refine ⟨by show 2 ≤ sizeLine; omega, fun L7 nL7 => ?_⟩
    have s6 := (sA.trans (sB.trans sC)).trans (sA2.trans (sB2.trans sC2))
    have s7 := s6.trans (same_new (o := .lst [.str (Txt.join nlS ((Txt.split text nlS).take i5 ++ (Txt.split text nlS).drop (i5 + 1))), .str (Txt.join nlS ((Txt.split text nlS).take (i5 + 1) ++ (Txt.split text nlS).drop i5))]) nL7)
    refine ⟨L5, L7, _, _, rfl, rfl, s7 _ _ upd_same, upd_same, by show 4 + 2 ≤ sizeLine; omega, fun L8 nL8 => ?_⟩
    refine ⟨p, L8, z, _, _, rfl, S5.same (((sL5 _).trans s7).trans (same_new nL8)), by omega, .inl (.inl upd_same), by show 1 ≤ 6; decide, by show 6 ≤ 1000000; decide, fun v9 H9 hv9 S9 k9 => ?_⟩
    obtain ⟨other, rfl, ho⟩ : ∃ other : Str, v9 = .str other ∧ other.length ≤ 10000 := by
      rcases List.mem_cons.mp hv9 with e | hv9
      · exact ⟨_, e, by rw [app_len, app_len]; omega⟩
      · rcases List.mem_cons.mp hv9 with e | hv9
        · exact ⟨_, e, by rw [app_len, app_len]; omega⟩
        · rcases List.mem_cons.mp hv9 with e | hv9
          · exact ⟨_, e, by rw [app_len]; omega⟩
          · rcases List.mem_cons.mp hv9 with e | hv9
            · exact ⟨_, e, by omega⟩
            · rcases List.mem_cons.mp hv9 with e | hv9
              · exact ⟨_, e, by omega⟩
              · exact ⟨_, List.mem_singleton.mp hv9, by omega⟩
    refine q other H9 ho (S9.mono (by omega)) ?_
    exact (k1.trans (KeepBut.of sL1)).trans (k2.trans (k3.trans ((KeepBut.of (sL2.trans sL3)).trans (k4.trans ((KeepBut.of sL4).trans (k5.trans ((KeepBut.of (((sL5 _).trans s7).trans (same_new nL8))).trans k9)))))))
end
end K88
/-! The law's own reading of a text. -/
namespace K88
open PySem L2

theorem inV_contains (ns : List Str) : (fun x => inV (.str x) (ns.map V.str)) = fun x => ns.contains x := by
  refine funext fun x => ?_
  cases h : ns.contains x with
  | true => exact inV_mem.mpr (List.contains_iff_mem.mp h)
  | false =>
    refine Bool.eq_false_iff.mpr fun c => ?_
    rw [List.contains_iff_mem.mpr (inV_mem.mp c)] at h
    cases h
/-- what is being made stands as mv -/
def MadeAt (H0 H : Hp) (F : Addr) (mv : V) : Option Item → Prop
  | none => mv = .non
  | some (nm, m, ts) => ∃ (M T : Addr) (tv : List V), mv = .ref M ∧ H M = some (.tup [.str nm, .int m, .ref T]) ∧ H T = some (.lst tv) ∧ Paired (PairAt H) tv ts ∧ T ≠ F ∧ H0 T = none
theorem MadeAt.same {H0 H H' : Hp} {F : Addr} {mv : V} {o : Option Item} (s : Same H H') (h : MadeAt H0 H F mv o) : MadeAt H0 H' F mv o := by
  cases o with
  | none => exact h
  | some q =>
    obtain ⟨nm, m, ts⟩ := q
    obtain ⟨M, T, tv, e, h1, h2, h3, h4, h5⟩ := h
    exact ⟨M, T, tv, e, s _ _ h1, s _ _ h2, pairs_map (fun _ _ _ e => s _ _ e) h3, h4, h5⟩
structure ReadAt (K : PySem.W.Frag) (CW : Addr) (H0 H : Hp) (F : Addr) (mv : V) (s : LSt) : Prop where
  sm : Same H0 H
  fd : ∃ xs, H F = some (.lst xs) ∧ Paired (ItemAt K CW H) xs s.1
  md : MadeAt H0 H F mv s.2
  ok : StOk s
theorem ReadAt.same {K : PySem.W.Frag} {CW : Addr} {H0 H H' : Hp} {F : Addr} {mv : V} {s : LSt} (e : Same H H') (h : ReadAt K CW H0 H F mv s) : ReadAt K CW H0 H' F mv s := by
  obtain ⟨a, ⟨xs, b, c⟩, d, f⟩ := h
  exact ⟨a.trans e, ⟨xs, e _ _ b, pair_same e c⟩, d.same e, f⟩
def spLRead (K : PySem.W.Frag) (CW : Addr) : Sp := fun vs H Q _ => ∃ z : Str, vs = [.str z] ∧ z.length ≤ 20000 ∧
  (∀ its, readL (linesR z) = .inl its → ∀ t u xs H', Same H H' → H' t = some (.tup [.ref u, .non]) → H' u = some (.lst xs) → Paired (ItemAt K CW H') xs its → (∀ q ∈ its, ItemOk q) → Q (.ref t) H') ∧
  (∀ l c, readL (linesR z) = .inr (l, c) → ∀ t u H', Same H H' → H' t = some (.tup [.non, .ref u]) → H' u = some (.tup [.int l, .int c]) → Q (.ref t) H')
section
variable {K : PySem.W.Frag} {CW : Addr} {H : Hp}
theorem inames_read {σ : L2.St} {Q : VK} {D : Addr} {xs : List V} {its : List Item} {i j : Nat} (hj : σ[j]? = some (some (.ref D))) (hD : H D = some (.lst xs)) (hp : Paired (ItemAt K CW H) xs its) (hn : its.length ≤ 100000)
    (hw : ∀ v : V, wipe ((wipe σ [i]).set i (some v)) [i] = wipe σ [i]) (ht : ∀ v : V, ((wipe σ [i]).set i (some v))[i]? = some (some v))
    (k : ∀ L H', Same H H' → H' L = some (.lst ((its.map (·.1)).map V.str)) → Q (.ref L) H') : tLc (iList K (tVar j)) (gName i) tYes (tOp (rIxT K) (tVar i) (tC (.int 0))) [i] σ H Q := by
  have hlen := paired_len hp
  have hsz : sizeLine = 16777216 := sizeLine_eq
  refine ⟨_, hj, D, rfl, ⟨xs, .inl (.inl hD)⟩, fun L nL => lc_list (xs := xs) (fun i H2 => Same H H2 ∧ H2 L = some (.lst (((its.take i).map (·.1)).map V.str)) ∧ i ≤ xs.length) ⟨same_new nL, upd_same, Nat.zero_le _⟩ (fun i H2 _ h => .inl (.inl (h.1 _ _ hD))) ?_ ?_⟩
  · rintro i x H2 hx ⟨sm, hL, hi⟩
    obtain ⟨q, hq, ⟨⟨t, w', dx, u, ys, rs, rfl, h1, h2⟩⟩⟩ := paired_get hp hx
    have hil : i < xs.length := by
      rcases Nat.lt_or_ge i xs.length with y | y
      · exact y
      · rw [List.getElem?_eq_none y] at hx
        cases hx
    refine ⟨hw _, ?_⟩
    refine yes_then ?_
    refine ⟨_, ht _, t, _, _, _, rfl, rfl, .inl (.inl (sm _ _ h1)), rfl, _, hL, ?_, fun c o e => ?_, ?_, hil⟩
    · rw [List.length_map, List.length_map, List.length_take]
      omega
    · rw [upd_ne (ne_of_none e nL)]
      exact sm c o e
    · rw [upd_same, take_more hq, List.map_append, List.map_append]
      rfl
  · rintro H2 ⟨sm, hL, _⟩
    rw [hlen, List.take_length] at hL
    exact k L H2 sm hL
end
theorem lines_facts {z : Str} (hz : z.length ≤ 20000) : (linesR z).length ≤ 20001 ∧ ∀ l ∈ linesR z, l.length ≤ 20000 := by
  have c := split_count z
  refine ⟨?_, fun l hl => Nat.le_trans (split_each (lines_sub l hl)) hz⟩
  unfold linesR
  split
  · split
    · rw [List.length_dropLast]
      omega
    · omega
  · exact Nat.zero_le _
theorem laps_app {p : Int × Int} : ∀ {A B : List (Int × Str)} {s : LSt}, lapsL A s = .inr p → lapsL (A ++ B) s = .inr p
  | [], _, _, h => by cases h
  | (n, z) :: A, B, s, h => by
    have h : (match stepL n z s with | .inr p => Sum.inr p | .inl s' => lapsL A s') = .inr p := h
    show (match stepL n z s with | .inr p => Sum.inr p | .inl s' => lapsL (A ++ B) s') = .inr p
    cases e : stepL n z s with
    | inr p' =>
      rw [e] at h
      exact h
    | inl s' =>
      rw [e] at h
      exact laps_app h
theorem outL_pre (ls : List Str) (j : Nat) : ∀ n, ∃ B, outL ls (j + n) = outL ls j ++ B
  | 0 => ⟨[], by rw [List.append_nil]; rfl⟩
  | n + 1 => by
    obtain ⟨B, h⟩ := outL_pre ls j n
    refine ⟨B ++ (match ls[j + n]? with
    | some z => if run z spaceS 0 < z.length then [(((j + n : Nat) : Int) + 1, z)] else []
    | none => []), ?_⟩
    rw [← List.append_assoc, ← h]
    rfl
theorem read_stop {ls : List Str} {i : Nat} {l c : Int} (hi : i < ls.length) (h : lapsL (outL ls (i + 1)) ([], none) = .inr (l, c)) : readL ls = .inr (l, c) := by
  obtain ⟨B, hB⟩ := outL_pre ls (i + 1) (ls.length - (i + 1))
  rw [show i + 1 + (ls.length - (i + 1)) = ls.length by omega] at hB
  unfold readL
  rw [hB, laps_app h]
  rfl
section
variable {P : Program} {w : World} {K : PySem.W.Frag} {mg : Str → Option Value} {base : Heap} {f g CW fWI : Addr} {fd gd dWI : FuncData}
abbrev sLRead : Stmt := top 59
abbrev lrN : List Str := ["text", "lines", "found", "made", "n", "line", "start", "title", "wrong", "one", "end", "tie"]
theorem scLRead : FnScope lrN ["text"] (defScope sLRead) := ⟨rfl, rfl, rfl, by decide +kernel, rfl, by decide +kernel, by decide +kernel⟩
theorem ok_lread {fr fl ft fw fe : Addr} {dr dl dt dw de : FuncData} (F : FnP K "_law_read" sLRead f fd) (TR : Told P w K mg base "_law_run" 1 ["line", "k", "signs"] spRun fr dr) (TL_ : Told P w K mg base "_law_title" 3 ["line", "told"] (spLTitle K) fl dl)
    (TT_ : Told P w K mg base "_law_tie" 3 ["line", "size"] spLTie ft dt) (TW : Told P w K mg base "_law_one_word" 1 ["line", "k", "word"] spWord fw dw) (TE_ : Told P w K mg base "_law_rest" 2 ["line", "k"] spRest fe de)
    (MK : Mk K CW fWI) (mW : mg "Web" = some (.ref CW)) (WI : FnOk P w K mg base CX0 4 fWI dWI ["self", "size", "ties"] (spWebI K CW)) (bW : Binds K dWI ["self", "size", "ties"] [])
    (mT : mg "tuple" = none) (mLen : mg "len" = none) (mR : mg "range" = none) : FnOk P w K mg base CX0 6 f fd ["text"] (spLRead K CW) := by
  refine F.ok scLRead (fun vs H Q E h => ?_) (fun cdv A outer s H vs Q E hr h => ?_)
  · obtain ⟨z, rfl, _⟩ := h
    rfl
  · obtain ⟨z, rfl, hz, q, e⟩ := h
    have hr1 : Room 1 _ := hr.mono (by decide)
    have hr2 : Room 2 _ := hr.mono (by decide)
    have hr3 : Room 3 _ := hr.mono (by decide)
    have hsz : sizeLine = 16777216 := sizeLine_eq
    refine ⟨_, PSs.nox (pss_cons (ps_set (i := 1) scLRead.nd rfl (Or.inl rfl) (pe_split (pv 0) pe_str))
      (C8.pss_cut (ps_set (i := 1) scLRead.nd rfl (Or.inl rfl) (pe_ifExp (pt_cmpR op_eq (pe_ix ix_list (pv 1) (pe_un un_neg pe_int) (fun _ _ => rfl)) pe_str (nomark _)) (pe_slice sl_list (pv 1) po_none (po_some (pe_un un_neg pe_int))) (pv 1)))
      (pss_cons (ps_par (i := 2) (j := 3) rfl scLRead.nd rfl rfl (by decide) rfl rfl (pa_cons (pe_lst pa_nil) (pa_cons pe_non pa_nil)) (by rfl))
      (C8.pss_cut (ps_for PassesOwn.never rfl (pi_range1 (by rfl) mR (pa_cons (pe_callB call_len (by rfl) mLen PySem.boot_len (pa_cons (pv 1) pa_nil)) pa_nil)) (pg_name (i := 4) scLRead.nd rfl (Or.inl rfl))
        (pss_cons (ps_set (i := 5) scLRead.nd rfl (Or.inl rfl) (pe_ix ix_list (pv 1) (pv 4) (fun _ _ => rfl)))
        (pss_cons (ps_set (i := 6) scLRead.nd rfl (Or.inl rfl) (pe_call TR.ok hr1 (by rfl) TR.m TR.kp TR.b .nil pass0 (pa_cons (pv 5) (pa_cons pe_int (pa_cons pe_str pa_nil)))))
        (pss_cons (ps_if (pt_cmpR op_eq (pv 6) (pe_callB call_len (by rfl) mLen PySem.boot_len (pa_cons (pv 5) pa_nil)) (nomark _)) (pss_one ps_continue) pss_nil)
        (C8.pss_cut (ps_if (pt_cmpR op_isN (pv 3) pe_non (nomark _))
            (pss_cons (ps_asg (pe_call TL_.ok hr3 (by rfl) TL_.m TL_.kp TL_.b .nil pass0 (pa_cons (pv 5) (pa_cons
                (pe_lc (own := [("one", 9)]) (g := gName 9) (tt := tYes) (te := tOp (rIxT K) (tVar 9) (tC (.int 0))) (wi := iList K (tVar 2)) rfl scLRead.nd (pi_list (pv 2)) (blkOk_by (own := [("one", 9)]) (N := lrN) (sc := defScope sLRead) (by decide +kernel))
                (fun _ _ _ _ _ => pg_name (i := 9) scLRead.nd rfl (Or.inl rfl)) (fun _ _ _ _ _ => pts_nil) (fun _ _ _ _ _ => pe_ix ix_tup (pv 9) pe_int (fun _ _ => rfl))) pa_nil))) (pg_tup (n := 2) rfl (pgs_cons (pg_name (i := 7) scLRead.nd rfl (Or.inl rfl)) (pgs_cons (pg_name (i := 8) scLRead.nd rfl (Or.inl rfl)) pgs_nil))))
            (pss_one (ps_set (i := 3) scLRead.nd rfl (Or.inl rfl) (pe_ifExp (pt_cmpR op_isN (pv 8) pe_non (nomark _)) (pe_tup (pa_cons (pe_ix ix_tup (pv 7) pe_int (fun _ _ => rfl)) (pa_cons (pe_ix ix_tup (pv 7) pe_int (fun _ _ => rfl)) (pa_cons (pe_lst pa_nil) pa_nil)))) pe_non))))
            (pss_one (ps_if (pt_cmpR op_eq (pe_ix ix_str (pv 5) (pv 6) (fun _ _ => rfl)) pe_str (nomark _))
              (pss_cons (ps_asg (pe_call TW.ok hr1 (by rfl) TW.m TW.kp TW.b .nil pass0 (pa_cons (pv 5) (pa_cons (pv 6) (pa_cons pe_str pa_nil)))) (pg_tup (n := 2) rfl (pgs_cons (pg_name (i := 10) scLRead.nd rfl (Or.inl rfl)) (pgs_cons (pg_name (i := 8) scLRead.nd rfl (Or.inl rfl)) pgs_nil))))
              (pss_cons (ps_set (i := 8) scLRead.nd rfl (Or.inl rfl) (pe_ifExp (pt_cmpR op_isN (pv 8) pe_non (nomark _)) (pe_call TE_.ok hr2 (by rfl) TE_.m TE_.kp TE_.b .nil pass0 (pa_cons (pv 5) (pa_cons (pv 10) pa_nil))) (pv 8)))
              (pss_one (ps_if (pt_cmpR op_isN (pv 8) pe_non (nomark _))
                (pss_cons (ps_expr (pe_bm PySem.F.plainAttrs_list PySem.F.slot_list_append PySem.F.type_list_append mt_append (pv 2) (pa_cons (pe_tup (pa_cons (pe_ix ix_tup (pv 3) pe_int (fun _ _ => rfl)) (pa_cons
                  (pe_make MK WI hr (by rfl) mW bW .nil pass0 (pa_cons (pe_ix ix_tup (pv 3) pe_int (fun _ _ => rfl)) (pa_cons (pe_callTy call_tuple_of (by rfl) mT (by decide +kernel) (pa_cons (pe_ix ix_tup (pv 3) pe_int (fun _ _ => rfl)) pa_nil)) pa_nil))) pa_nil))) pa_nil)))
                (pss_one (ps_set (i := 3) scLRead.nd rfl (Or.inl rfl) pe_non))) pss_nil))))
              (pss_one (ps_if (PW.pt (pw_and (pt_cmpR op_eq (pe_ix ix_str (pv 5) (pv 6) (fun _ _ => rfl)) pe_str (nomark _)) (pw_and (pt_cmpR op_gt (pe_ix ix_tup (pv 3) pe_int (fun _ _ => rfl)) pe_int (nomark _)) (pw_and1 (pt_cmpR op_lt (pe_callB call_len (by rfl) mLen PySem.boot_len (pa_cons (pe_ix ix_tup (pv 3) pe_int (fun _ _ => rfl)) pa_nil)) pe_int (nomark _))))))
                (pss_cons (ps_asg (pe_call TT_.ok hr3 (by rfl) TT_.m TT_.kp TT_.b .nil pass0 (pa_cons (pv 5) (pa_cons (pe_ix ix_tup (pv 3) pe_int (fun _ _ => rfl)) pa_nil))) (pg_tup (n := 2) rfl (pgs_cons (pg_name (i := 11) scLRead.nd rfl (Or.inl rfl)) (pgs_cons (pg_name (i := 8) scLRead.nd rfl (Or.inl rfl)) pgs_nil))))
                (pss_one (ps_expr (pe_bm PySem.F.plainAttrs_list PySem.F.slot_list_append PySem.F.type_list_append mt_append (pe_ix ix_tup (pv 3) pe_int (fun _ _ => rfl)) (pa_cons (pv 11) pa_nil)))))
                (pss_one (ps_set (i := 8) scLRead.nd rfl (Or.inl rfl) (pv 6))))))))
        (pss_one (ps_if (pt_cmpR op_notN (pv 8) pe_non (nomark _)) (pss_one (ps_ret (pe_tup (pa_cons pe_non (pa_cons (pe_tup (pa_cons (pe_op op_add (pv 4) pe_int) (pa_cons (pe_op op_add (pv 8) pe_int) pa_nil))) pa_nil))))) pss_nil)))))))
      (pss_one (ps_ret (pe_ifExp (pt_cmpR op_isN (pv 3) pe_non (nomark _)) (pe_tup (pa_cons (pv 2) (pa_cons pe_non pa_nil))) (pe_tup (pa_cons pe_non (pa_cons (pe_tup (pa_cons (pe_op op_add (pe_callB call_len (by rfl) mLen PySem.boot_len (pa_cons (pv 1) pa_nil)) pe_int) (pa_cons pe_int pa_nil))) pa_nil)))))))))), ?_⟩
    rw [show L2.start lrN [V.str z] = [some (V.str z), none, none, none, none, none, none, none, none, none, none, none] from rfl]
    have hlen2 := split_count z
    refine ⟨_, rfl, ⟨_, rfl⟩, z, nlS, rfl, rfl, by decide +kernel, by omega, fun o no => ?_⟩
    simp only [gName, List.set_cons_succ, List.set_cons_zero]
    obtain ⟨init, last, hsp⟩ : ∃ init last, Txt.split z nlS = init ++ [last] := ⟨_, _, (List.dropLast_concat_getLast (split_ne z)).symm⟩
    have hlin : linesR z = if last = ⟨#[]⟩ then init else init ++ [last] := by
      unfold linesR
      rw [hsp, List.getLast?_concat, List.dropLast_concat]
    obtain ⟨hln, hlall⟩ := lines_facts hz
    have so : Same H (upd H o (.lst ((Txt.split z nlS).map V.str))) := same_new no
    have hat : atI ((Txt.split z nlS).map V.str) (-1) = some (.str last) := by
      rw [hsp, List.map_append]
      exact atI_last _ _
    have e0 : ("" : Str) = ⟨#[]⟩ := by decide +kernel
    refine ⟨fun σ' H' => ∃ Ln, σ' = [some (.str z), some (.ref Ln), none, none, none, none, none, none, none, none, none, none] ∧ Same H H' ∧ H' Ln = some (.lst ((linesR z).map V.str)), ?_, ?_⟩
    · refine ⟨_, rfl, _, rfl, o, _, _, _, rfl, rfl, .inl (.inl upd_same), hat, rfl, _, rfl, ?_⟩
      by_cases c : last = ⟨#[]⟩
      · refine iteT' (decide_eq_true (by rw [c, e0])) ?_
        refine ⟨_, rfl, 1, rfl, _, rfl, o, _, rfl, .inl (.inl upd_same), fun B nB => ⟨B, rfl, so.trans (same_new nB), upd_same.trans ?_⟩⟩
        rw [hlin, if_pos c, hsp, List.map_append]
        exact congrArg (fun l => some (HO.lst l)) (cut_init _ _)
      · refine iteF' (decide_eq_false fun h => c ((V.str.inj h).trans e0)) ?_
        refine ⟨_, rfl, o, rfl, so, upd_same.trans ?_⟩
        rw [hlin, if_neg c, hsp]
    · rintro σ1 H0 ⟨Ln, rfl, s0, hLn⟩
      have lineAt : ∀ {i : Nat} {l : Str}, (linesR z)[i]? = some l → ((linesR z).map V.str)[i]? = some (.str l) := fun h => by
        rw [List.getElem?_map, h]
        rfl
      refine ⟨Nat.zero_le _, fun F nF => ⟨_, _, rfl, ?_⟩⟩
      simp only [List.set_cons_succ, List.set_cons_zero]
      have sF : Same H0 (upd H0 F (.lst [])) := same_new nF
      refine ⟨fun σ' H' => ∃ (s : LSt) (mv : V) (a4 a5 a6 a7 a8 a9 a10 a11 : Option V), σ' = [some (.str z), some (.ref Ln), some (.ref F), some mv, a4, a5, a6, a7, a8, a9, a10, a11] ∧ lapsL (outL (linesR z) (linesR z).length) ([], none) = .inl s ∧ ReadAt K CW H0 H' F mv s, ?_, ?_⟩
      · refine ⟨_, rfl, _, (linesR z).length, rfl, .inl ⟨_, .inl (.inl (sF _ _ hLn)), by rw [List.length_map]⟩, _, rfl, by omega, by omega, for_range (lo := 0) (n := (((linesR z).length : Nat) : Int).toNat)
          (fun i σ' H' => ∃ (s : LSt) (mv : V) (a4 a5 a6 a7 a8 a9 a10 a11 : Option V), σ' = [some (.str z), some (.ref Ln), some (.ref F), some mv, a4, a5, a6, a7, a8, a9, a10, a11] ∧ lapsL (outL (linesR z) i) ([], none) = .inl s ∧ ReadAt K CW H0 H' F mv s ∧ s.1.length ≤ i)
          ⟨([], none), .non, none, none, none, none, none, none, none, none, rfl, rfl, ⟨sF, ⟨[], upd_same, .nil⟩, rfl, fun q h => absurd h List.not_mem_nil, fun q h => by cases h⟩, Nat.le_refl _⟩ ?_ ?_⟩
        · rintro i σ' H1 hi ⟨s, mv, a4, a5, a6, a7, a8, a9, a10, a11, rfl, hlaps, hR, hsl⟩
          have hi' : i < (linesR z).length := by omega
          have eI : (0 : Int) + (i : Int) = (i : Int) := by omega
          rw [eI]
          obtain ⟨l, hl⟩ : ∃ l, (linesR z)[i]? = some l := ⟨_, List.getElem?_eq_getElem hi'⟩
          have hll := hlall l (List.mem_of_getElem? hl)
          have hlz : l.length ≤ sizeLine := by omega
          simp only [gName, List.set_cons_succ, List.set_cons_zero]
          refine ⟨_, rfl, _, rfl, Ln, _, _, _, rfl, rfl, .inl (.inl (hR.sm _ _ hLn)), atI_nat (lineAt hl), ?_⟩
          simp only [gName, List.set_cons_succ, List.set_cons_zero]
          refine ⟨_, rfl, l, spaceS, 0, rfl, hlz, Nat.zero_le _, ?_⟩
          simp only [gName, List.set_cons_succ, List.set_cons_zero]
          have hrle := run_le (g := spaceS) (Nat.zero_le l.length)
          have hout : outL (linesR z) (i + 1) = outL (linesR z) i ++ (if run l spaceS 0 < l.length then [((i : Int) + 1, l)] else []) := by
            conv => lhs; unfold outL
            rw [hl]
          refine ⟨_, rfl, _, rfl, _, l.length, rfl, ⟨hlz, rfl⟩, rfl, _, rfl, ?_⟩
          by_cases cb : run l spaceS 0 = l.length
          · refine iteT' (decide_eq_true (by rw [cb])) ?_
            refine ⟨s, mv, _, _, _, _, _, _, _, _, rfl, ?_, hR, by omega⟩
            rw [hout, if_neg (by omega), List.append_nil]
            exact hlaps
          · refine iteF' (decide_eq_false fun h => cb (by injection h with h; exact Int.ofNat_inj.mp h)) ?_
            have hlt : run l spaceS 0 < l.length := by omega
            have hlaps2 : lapsL (outL (linesR z) (i + 1)) ([], none) = stepL ((i : Int) + 1) l s := by
              rw [hout, if_pos hlt, laps_snoc, hlaps]
            obtain ⟨ch, hch, _⟩ := drop_at hlt
            refine ⟨fun σ' H' => ∃ (mv' wv : V) (a7 a9 a10 a11 : Option V), σ' = [some (.str z), some (.ref Ln), some (.ref F), some mv', some (.int i), some (.str l), some (.int (run l spaceS 0 : Nat)), a7, some wv, a9, a10, a11] ∧
              ((wv = .non ∧ ∃ s', stepL ((i : Int) + 1) l s = .inl s' ∧ ReadAt K CW H0 H' F mv' s') ∨ (∃ w : Nat, wv = .int w ∧ stepL ((i : Int) + 1) l s = .inr ((i : Int) + 1, (w : Int) + 1) ∧ Same H0 H')), ?_, ?_⟩
            · obtain ⟨found, so2⟩ := s
              obtain ⟨sm, ⟨xs, hF, hxs⟩, hmd, hok⟩ := hR
              have hfl : found.length ≤ 100000 := by
                have : found.length ≤ i := hsl
                omega
              cases so2 with
              | none =>
                obtain rfl : mv = .non := hmd
                refine ⟨_, rfl, rfl, _, rfl, iteT' (decide_eq_true rfl) ?_⟩
                refine ⟨_, rfl, ?_⟩
                refine inames_read (D := F) (xs := xs) (its := found) rfl hF hxs hfl (fun v => rfl) (fun v => rfl) fun L2' H2 s2 hL2 => ?_
                refine ⟨l, L2', found.map (·.1), rfl, hlz, .inl (.inl hL2), fun nm sz ht t t2 H3 s3 ht2 ht' => ?_, fun wr hw t H3 s3 ht' => ?_⟩
                · rw [inV_contains] at ht
                  obtain ⟨z1, z12⟩ := title_size ht
                  refine ⟨t, _, rfl, .inl (.inl ht'), rfl, _, _, rfl, _, _, rfl, rfl, ?_⟩
                  simp only [gName, List.set_cons_succ, List.set_cons_zero]
                  refine ⟨_, rfl, rfl, _, rfl, iteT' (decide_eq_true rfl) ?_⟩
                  refine ⟨_, rfl, t2, _, _, _, rfl, rfl, .inl (.inl ht2), rfl, _, rfl, t2, _, _, _, rfl, rfl, .inl (.inl ht2), rfl, Nat.zero_le _, fun T nT => ⟨by show 3 ≤ sizeLine; omega, fun M nM => ?_⟩⟩
                  have sT := same_new (o := .lst []) nT
                  have sM := same_new (o := .tup [.str nm, .int sz, .ref T]) nM
                  have s23 := s2.trans s3
                  have sTM := s23.trans (sT.trans sM)
                  refine ⟨.ref M, .non, _, _, _, _, rfl, .inl ⟨rfl, (found, some (nm, sz.toNat, [])), ?_, sm.trans sTM, ⟨xs, sTM _ _ hF, pair_same sTM hxs⟩, ⟨M, T, [], rfl, ?_, sM _ _ upd_same, .nil, fun eT => ?_, ?_⟩, hok.1, fun q hq => ?_⟩⟩
                  · show stepN _ _ _ = _
                    unfold stepN
                    rw [show titleR l (fun s => (found.map (fun (x : Item) => x.1)).contains s) = _ from ht]
                  · rw [upd_same]
                    refine congrArg some (congrArg HO.tup ?_)
                    rw [show ((sz.toNat : Nat) : Int) = sz from Int.toNat_of_nonneg (by omega)]
                  · rw [eT, s23 _ _ hF] at nT
                    cases nT
                  · exact (sm.trans s23).free nT
                  · cases hq
                    exact ⟨by show 1 ≤ sz.toNat; omega, by show sz.toNat ≤ 12; omega, Nat.zero_le _, fun q hq => absurd hq List.not_mem_nil⟩
                · rw [inV_contains] at hw
                  refine ⟨t, _, rfl, .inl (.inl ht'), rfl, _, _, rfl, _, _, rfl, rfl, ?_⟩
                  simp only [gName, List.set_cons_succ, List.set_cons_zero]
                  refine ⟨_, rfl, rfl, _, rfl, iteF' (decide_eq_false fun h => by cases h) ?_⟩
                  refine ⟨.non, .int wr, _, _, _, _, rfl, .inr ⟨wr, rfl, ?_, sm.trans (s2.trans s3)⟩⟩
                  show stepN _ _ _ = _
                  unfold stepN
                  rw [show titleR l (fun s => (found.map (fun (x : Item) => x.1)).contains s) = _ from hw]
              | some it =>
                obtain ⟨nm, m, ts⟩ := it
                obtain ⟨M, T, tv, rfl, hM, hT, htv, hTF, hT0⟩ := hmd
                obtain ⟨h1, h12, h40, hties⟩ := hok.2 _ rfl
                have h1 : 1 ≤ m := h1
                have h12 : m ≤ 12 := h12
                have h40 : ts.length ≤ 40 := h40
                have htl := paired_len htv
                have stp : stepL ((i : Int) + 1) l (found, some (nm, m, ts)) = stepS ((i : Int) + 1) l found nm m ts := rfl
                unfold stepS at stp
                rw [hch] at stp
                have e101 : ("e" : Str) = ⟨#[101]⟩ := by decide +kernel
                have e116 : ("t" : Str) = ⟨#[116]⟩ := by decide +kernel
                refine ⟨_, rfl, rfl, _, rfl, iteF' (decide_eq_false fun h => by cases h) ?_⟩
                refine ⟨_, rfl, _, rfl, l, _, ch, rfl, rfl, hlz, atI_nat hch, rfl, _, rfl, ?_⟩
                by_cases c1 : ch = 101
                · rw [if_pos (by rw [c1])] at stp
                  refine iteT' (decide_eq_true (by rw [c1, e101])) ?_
                  refine ⟨_, rfl, _, rfl, l, endS, _, rfl, hlz, by decide +kernel, hrle, fun t H2 s2 ht => ?_⟩
                  refine get_pair (i := 10) (j := 8) ht ?_
                  simp only [gName, List.set_cons_succ, List.set_cons_zero]
                  have hend : endR l = match wordR l endL (run l spaceS 0) with | .inr w => some w | .inl e => restR l e := rfl
                  rw [hend] at stp
                  cases hw : wordR l endL (run l spaceS 0) with
                  | inr wr =>
                    rw [hw] at stp
                    refine ⟨_, rfl, rfl, _, rfl, iteF' (decide_eq_false fun h => by cases h) ?_⟩
                    refine ⟨_, rfl, ?_⟩
                    simp only [gName, List.set_cons_succ, List.set_cons_zero]
                    refine ⟨_, rfl, rfl, _, rfl, iteF' (decide_eq_false fun h => by cases h) ?_⟩
                    exact ⟨.ref M, .int wr, _, _, _, _, rfl, .inr ⟨wr, rfl, stp, sm.trans s2⟩⟩
                  | inl en =>
                    rw [hw] at stp
                    refine ⟨_, rfl, rfl, _, rfl, iteT' (decide_eq_true rfl) ?_⟩
                    refine ⟨_, rfl, _, rfl, l, en, rfl, hlz, (word_le _ _ _ hrle hw).2, ?_⟩
                    simp only [gName, List.set_cons_succ, List.set_cons_zero]
                    cases hrr : restR l en with
                    | some wr =>
                      simp only [hrr] at stp
                      refine ⟨_, rfl, rfl, _, rfl, iteF' (decide_eq_false fun h => by cases h) ?_⟩
                      exact ⟨.ref M, .int wr, _, _, _, _, rfl, .inr ⟨wr, rfl, stp, sm.trans s2⟩⟩
                    | none =>
                      simp only [hrr] at stp
                      refine ⟨_, rfl, rfl, _, rfl, iteT' (decide_eq_true rfl) ?_⟩
                      have hF2 := s2 _ _ hF
                      have hM2 := s2 _ _ hM
                      have hT2 := s2 _ _ hT
                      refine ⟨_, rfl, .inl ⟨rfl, _, .inl (.inl hF2)⟩, _, rfl, M, _, _, _, rfl, rfl, .inl (.inl hM2), rfl, _, rfl, M, _, _, _, rfl, rfl, .inl (.inl hM2), rfl, _, rfl, M, _, _, _, rfl, rfl, .inl (.inl hM2), rfl, T, tv, rfl, .inl ⟨.inl (.inl hT2), fun t2 nt2 => ?_⟩⟩
                      intro x dx nx ndx ne
                      have sT : Same H2 (upd H2 t2 (.tup tv)) := same_new nt2
                      have nx2 := sT.free nx
                      have sX : Same (upd H2 t2 (.tup tv)) (upd (upd (upd H2 t2 (.tup tv)) dx (.own x)) x (.ins CW dx [])) := fun b' o' eb => by
                        rw [upd_ne (ne_of_none eb nx), upd_ne (ne_of_none eb ndx)]
                        exact eb
                      refine ⟨x, dx, t2, m, ts, rfl, upd_same, .tup (.inl (.inl (sX _ _ upd_same))) (of_two (pairs_two (pairs_map (fun _ _ _ e => sX _ _ (sT _ _ (s2 _ _ e))) htv))), h1, h12, ⟨h40, hties⟩, fun H4 u ys rs keep hx4 hu hys srt perm => ⟨rfl, two_ok, fun t6 nt6 => ?_⟩⟩
                      have back : Same H2 H4 := fun b' o' eb => keep b' o' (sX b' o' (sT b' o' eb)) (ne_of_none eb nx2)
                      have s6 : Same H4 (upd H4 t6 (.tup [.str nm, .ref x])) := same_new nt6
                      have hF4 := back _ _ hF2
                      have hF6 := s6 _ _ hF4
                      have it6 : ItemAt K CW (upd H4 t6 (.tup [.str nm, .ref x])) (.ref t6) (nm, m, ts) := ⟨⟨t6, x, dx, u, ys, rs, rfl, upd_same, s6 _ _ hx4, s6 _ _ hu, dpAll_same s6 _ _ hys, srt, perm⟩⟩
                      have k7 : But F (upd H4 t6 (.tup [.str nm, .ref x])) (upd (upd H4 t6 (.tup [.str nm, .ref x])) F (.lst (xs ++ [.ref t6]))) := but_upd
                      have sm6 := (sm.trans s2).trans (back.trans s6)
                      refine ⟨F, xs, .ref t6, rfl, rfl, hF6, by have := paired_len hxs; omega, ?_⟩
                      refine ⟨.non, .non, _, _, _, _, rfl, .inl ⟨rfl, (found ++ [(nm, m, ts)], none), stp, fun b' o' eb => k7 b' o' (sm6 b' o' eb) (ne_of_none eb nF), ⟨_, upd_same, Paired.snoc (pair_but hF6 k7 (pair_same (s2.trans (back.trans s6)) hxs)) (it6.but hF6 k7)⟩, rfl, fun q hq => ?_, fun q hq => by cases hq⟩⟩
                      rcases List.mem_append.mp hq with hq | hq
                      · exact hok.1 q hq
                      · rw [List.mem_singleton.mp hq]
                        exact ⟨h1, h12, h40, hties⟩
                · rw [if_neg (fun h => c1 (Option.some.inj h))] at stp
                  refine iteF' (decide_eq_false (fun h => c1 (sign_inj.mp ((V.str.inj h).trans e101)))) ?_
                  have other : ¬ (some ch = some 116 ∧ 1 < m ∧ ts.length < 40) → ∀ {a7 a9 a10 a11 : Option V}, ∃ (mv' wv : V) (b7 b9 b10 b11 : Option V), ([some (.str z), some (.ref Ln), some (.ref F), some (.ref M), some (.int i), some (.str l), some (.int (run l spaceS 0 : Nat)), a7, some (.int (run l spaceS 0 : Nat)), a9, a10, a11] : L2.St) = [some (.str z), some (.ref Ln), some (.ref F), some mv', some (.int i), some (.str l), some (.int (run l spaceS 0 : Nat)), b7, some wv, b9, b10, b11] ∧
                      ((wv = .non ∧ ∃ s', stepL ((i : Int) + 1) l (found, some (nm, m, ts)) = .inl s' ∧ ReadAt K CW H0 H1 F mv' s') ∨ (∃ w : Nat, wv = .int w ∧ stepL ((i : Int) + 1) l (found, some (nm, m, ts)) = .inr ((i : Int) + 1, (w : Int) + 1) ∧ Same H0 H1)) := fun hn {a7 a9 a10 a11} => by
                    rw [if_neg hn] at stp
                    exact ⟨_, _, _, _, _, _, rfl, .inr ⟨_, rfl, stp, sm⟩⟩
                  refine ⟨_, rfl, _, rfl, l, _, ch, rfl, rfl, hlz, atI_nat hch, rfl, _, rfl, ?_⟩
                  by_cases c2 : ch = 116
                  · refine iteT' (decide_eq_true (by rw [c2, e116])) ?_
                    refine ⟨_, rfl, M, _, _, _, rfl, rfl, .inl (.inl hM), rfl, _, _, rfl, rfl, _, rfl, ?_⟩
                    by_cases c3 : 1 < m
                    · refine iteT' (decide_eq_true (show (1 : Int) < (m : Int) by omega)) ?_
                      refine ⟨_, rfl, M, _, _, _, rfl, rfl, .inl (.inl hM), rfl, _, tv.length, rfl, .inl ⟨tv, .inl (.inl hT), rfl⟩, _, _, rfl, rfl, _, rfl, ?_⟩
                      by_cases c4 : ts.length < 40
                      · refine iteT' (decide_eq_true (show ((tv.length : Nat) : Int) < 40 by omega)) ?_
                        rw [if_pos ⟨by rw [c2], c3, c4⟩] at stp
                        refine ⟨_, rfl, _, rfl, M, _, _, _, rfl, rfl, .inl (.inl hM), rfl, l, m, rfl, hlz, h12, fun a b hab t t2 H2 s2 ht2 ht => ?_, fun wr hw t H2 s2 ht => ?_⟩
                        · rw [tie_eq h12] at hab
                          have htie := tie_ok h12 hab
                          simp only [hab] at stp
                          refine ⟨t, _, rfl, .inl (.inl ht), rfl, _, _, rfl, _, _, rfl, rfl, ?_⟩
                          simp only [gName, List.set_cons_succ, List.set_cons_zero]
                          have hT2 := s2 _ _ hT
                          have hM2 := s2 _ _ hM
                          have hF2 := s2 _ _ hF
                          refine ⟨_, rfl, M, _, _, _, rfl, rfl, .inl (.inl hM2), rfl, .inl ⟨rfl, _, .inl (.inl hT2)⟩, _, rfl, T, tv, .ref t2, rfl, rfl, hT2, by omega, ?_⟩
                          have k7 : But T H2 (upd H2 T (.lst (tv ++ [.ref t2]))) := but_upd
                          have up : ∀ t' i' j', H2 t' = some (.tup [.int i', .int j']) → upd H2 T (.lst (tv ++ [.ref t2])) t' = some (.tup [.int i', .int j']) := fun t' i' j' e' => k7 _ _ e' (ne_of e' hT2 (by intro z; cases z))
                          refine ⟨.ref M, .non, _, _, _, _, rfl, .inl ⟨rfl, _, stp, fun b' o' eb => k7 b' o' (s2 b' o' (sm b' o' eb)) (ne_of_none eb hT0), ⟨xs, k7 _ _ hF2 (Ne.symm hTF), pair_but hT2 k7 (pair_same s2 hxs)⟩, ⟨M, T, _, rfl, k7 _ _ hM2 (ne_of hM2 hT2 (by intro z; cases z)), upd_same, Paired.snoc (pairs_map (fun _ _ _ e' => up _ _ _ (s2 _ _ e')) htv) ⟨t2, rfl, up _ _ _ ht2⟩, hTF, hT0⟩, hok.1, fun q hq => ?_⟩⟩
                          cases hq
                          refine ⟨h1, h12, by show (ts ++ [_]).length ≤ 40; rw [List.length_append, List.length_singleton]; omega, fun q hq => ?_⟩
                          rcases List.mem_append.mp hq with hq | hq
                          · exact hties q hq
                          · exact ⟨a, b, List.mem_singleton.mp hq, htie.1, htie.2⟩
                        · rw [tie_eq h12] at hw
                          simp only [hw] at stp
                          refine ⟨t, _, rfl, .inl (.inl ht), rfl, _, _, rfl, _, _, rfl, rfl, ?_⟩
                          simp only [gName, List.set_cons_succ, List.set_cons_zero]
                          have hT2 := s2 _ _ hT
                          have hM2 := s2 _ _ hM
                          refine ⟨_, rfl, M, _, _, _, rfl, rfl, .inl (.inl hM2), rfl, .inl ⟨rfl, _, .inl (.inl hT2)⟩, _, rfl, T, tv, .non, rfl, rfl, hT2, by omega, ?_⟩
                          have k7 : But T H2 (upd H2 T (.lst (tv ++ [.non]))) := but_upd
                          exact ⟨.ref M, .int wr, _, _, _, _, rfl, .inr ⟨wr, rfl, stp, fun b' o' eb => k7 b' o' (s2 b' o' (sm b' o' eb)) (ne_of_none eb hT0)⟩⟩
                      · refine iteF' (decide_eq_false (show ¬ ((tv.length : Nat) : Int) < 40 by omega)) ?_
                        refine ⟨_, rfl, ?_⟩
                        simp only [gName, List.set_cons_succ, List.set_cons_zero]
                        exact other fun h => c4 h.2.2
                    · refine iteF' (decide_eq_false (show ¬ (1 : Int) < (m : Int) by omega)) ?_
                      refine iteF ?_
                      refine ⟨_, rfl, ?_⟩
                      simp only [gName, List.set_cons_succ, List.set_cons_zero]
                      exact other fun h => c3 h.2.1
                  · refine iteF' (decide_eq_false (fun h => c2 (sign_inj.mp ((V.str.inj h).trans e116)))) ?_
                    refine iteF ?_
                    refine ⟨_, rfl, ?_⟩
                    simp only [gName, List.set_cons_succ, List.set_cons_zero]
                    exact other fun h => c2 (Option.some.inj h.1)
            · rintro σ' H2 ⟨mv', wv, a7, a9, a10, a11, rfl, hcase⟩
              refine ⟨_, rfl, rfl, _, rfl, ?_⟩
              rcases hcase with ⟨rfl, s', hst, hR'⟩ | ⟨wr, rfl, hst, sm2⟩
              · refine iteF' rfl ?_
                refine ⟨s', mv', _, _, _, _, _, _, _, _, rfl, hlaps2.trans hst, hR', ?_⟩
                have := (step_ok hst hR.ok).2
                omega
              · refine iteT' rfl ?_
                refine ⟨_, rfl, _, _, rfl, rfl, _, rfl, _, _, rfl, rfl, two_ok, fun t2 nt2 => ⟨two_ok, fun t nt => ?_⟩⟩
                refine e ((i : Int) + 1) ((wr : Int) + 1) ?_ t t2 _ (s0.trans (sm2.trans ((same_new nt2).trans (same_new nt)))) upd_same (same_new nt _ _ upd_same)
                exact read_stop hi' (hlaps2.trans hst)
        · rintro σ' H1 ⟨s, mv, a4, a5, a6, a7, a8, a9, a10, a11, rfl, hlaps, hR, hsl⟩
          exact ⟨s, mv, _, _, _, _, _, _, _, _, rfl, hlaps, hR⟩
      · rintro σ' H1 ⟨⟨found, so2⟩, mv, a4, a5, a6, a7, a8, a9, a10, a11, rfl, hlaps, hR⟩
        have hread : readL (linesR z) = finL (linesR z).length (.inl (found, so2)) := by
          unfold readL
          rw [hlaps]
        obtain ⟨sm, ⟨xs, hF, hxs⟩, hmd, hok⟩ := hR
        refine ⟨_, rfl, rfl, _, rfl, ?_⟩
        cases so2 with
        | none =>
          obtain rfl : mv = .non := hmd
          refine iteT' rfl ⟨_, rfl, two_ok, fun t nt => ?_⟩
          have st := same_new (o := .tup [.ref F, .non]) nt
          exact q found hread t F xs _ (s0.trans (sm.trans st)) upd_same (st _ _ hF) (pair_same st hxs) hok.1
        | some it =>
          obtain ⟨nm, m, ts⟩ := it
          obtain ⟨M, T, tv, rfl, hM, hT, htv, hTF, hT0⟩ := hmd
          refine iteF' rfl ⟨_, rfl, _, (linesR z).length, rfl, .inl ⟨_, .inl (.inl (sm _ _ hLn)), by rw [List.length_map]⟩, _, _, rfl, rfl, two_ok, fun t2 nt2 => ⟨two_ok, fun t nt => ?_⟩⟩
          exact e _ _ hread t t2 _ (s0.trans (sm.trans ((same_new nt2).trans (same_new nt)))) upd_same (same_new nt _ _ upd_same)
end
end K88
/-! Defs that may tell reprs; the repr of items. -/
namespace K88
open PySem L2 PySem.Spec PyProof.Rows

/-- as FnOk, of a call ahead of which no repr is under way -/
structure FnG (P : Program) (w : World) (K : PySem.W.Frag) (mg : Str → Option Value) (base : Heap) (CX : CXT) (k : Nat) (f : Addr) (fd : FuncData) (ps : List Str) (sp : Sp) : Prop where
  len : ∀ vs H Q E, sp vs H Q E → vs.length = ps.length
  run : ∀ (A : Around) (outer : List Env) (s : Shared) (H : Hp) (args : Args) (us : List Value) (vs : List V) (Q : VK) (E : XK), A.guards = some [] → Room k A → Env0 P w K mg base A outer s H →
    BindsTo s fd args (ps.zip us) → Vals vs us → sp vs H Q E → codeAny (model P w) A (.call (.ref f) args) (CR CX outer P w H s Q E) s
section
variable {P : Program} {w : World} {K : PySem.W.Frag} {mg : Str → Option Value} {base : Heap} {x qual : Str} {params : Arguments} {body : List Stmt} {scope : Scope} {dvs : List V} {kws : List (Str × V)} {f : Addr} {fd : FuncData}
theorem okG {CX : CXT} {N ps : List Str} {k : Nat} {sp : Sp} (F : FunD K x qual params body scope dvs kws f fd) (S : FnScope N ps scope) (len : ∀ vs H Q E, sp vs H Q E → vs.length = ps.length)
    (hbody : ∀ (cdv : Value) (A : Around) (outer : List Env) (s : Shared) (H : Hp) (vs : List V) (Q : VK) (E : XK), fd.code = cdv → A.guards = some [] → Room k (A.deeper (envOfC qual scope s.heap.objs.size f cdv)) → sp vs H Q E →
      ∃ t, PSs (cxOf CX P w K mg base N qual scope f cdv A outer s H E) body t ∧ t { nx := fun _ H' => Q .non H', rt := Q } (L2.start N vs) H) : FnG P w K mg base CX (k + 1) f fd ps sp := by
  obtain ⟨oc, od, dV, kV, doc, pm, an, cdv, ct, osl, rfl, lk, hcd, _, _⟩ := F.ex
  refine ⟨len, fun A outer s H args us vs Q E hg hr e0 hb r hsp => ?_⟩
  have hl := len _ _ _ _ hsp
  have inK : K.In s.heap := e0.mod.kin.keeps fun b o z => (e0.bs b o z).1
  have noL : s.heap.NoLimit := e0.mod.nolimit.keeps fun b o z => (e0.bs b o z).1
  have kinds : ∀ y ∈ ps.zip us, scope.names.lookup y.1 = some .local ∨ (scope.names.lookup y.1 = some .cell ∧ ((cellsFrom (s.heap.objs.size + 1) scope.names []).lookup y.1).isSome = true) := by
    rintro ⟨n, v⟩ hy
    rcases S.par n (List.of_mem_zip hy).1 with q | q
    · exact .inl q
    · exact .inr ⟨q, PySem.W.cellsFrom_some _ _ _ (.inl q)⟩
  refine codeAny_call_function hr.depth (inK _ _ lk) rfl S.co S.gen rfl (PySem.W.codeRec_of inK hcd) (hb _ _ _ _ ?_)
  refine wpAny_newFunctionEnv_cells S.kind kinds fun env he s1 e => ?_
  subst he
  refine ⟨noL.keeps e.toInCall.keep, codeAny_func ?_⟩
  obtain ⟨t, ht, hq⟩ := hbody cdv A outer s H vs Q E rfl hg (hr.deeper _) hsp
  have I := inv_start (CX := CX) (E := E) S hr.hd e0 hl r e
  refine wpAny_mono (ht.run [] s1 (L2.start N vs) H _ I hq) (fun fl s' hs => ?_) fun e s' hs => hs
  cases fl with
  | ret u =>
    obtain ⟨v, σ', H', J, rv, q⟩ := hs
    exact ⟨v, H', J.os, J.bare, J.base, J.hok, rv, q⟩
  | next =>
    obtain ⟨σ', H', J, q⟩ := hs
    exact ⟨.non, H', J.os, J.bare, J.base, J.hok, rfl, q⟩
  | brk =>
    obtain ⟨_, _, _, q⟩ := hs
    exact False.elim q
  | cont =>
    obtain ⟨_, _, _, q⟩ := hs
    exact False.elim q
end
section
variable {X : Cx} {k : Nat} {f : Addr} {fd : FuncData} {ps : List Str} {sp : Sp} {ds : List Value} {E : XK} {x : Str} {p pos : Pos} {e : Expr} {es : List Expr} {t : TA}
/-- f(e, ..) of such a def -/
theorem pe_callG {CX : CXT} (hgd : X.A.guards = some []) (F : FnG X.prog X.w X.K X.mg X.base CX k f fd ps sp) (hr : Room k X.A) (hg : Gl X x) (hm : X.mg x = some (.ref f)) (hk : PySem.W.keepIn X.K (.ref f) = true) (hb : Binds X.K fd ps []) (hx : Passes CX X E)
    (ha : PA X (e :: es) t) (hdb : (x == ("__debug__" : Str)) = false := by decide) (he : starEach (e :: es) X.env = (false, eval e X.env) :: starEach es X.env := by rfl) (hpl : (backTo pos (starEach es X.env)).any (·.1) = false := by rfl) :
    PE X (.Call (.Name x p) (e :: es) [] pos) (tCall sp [] E t) := by
  refine ⟨fun pins s σ H Q I h => wpAny_Call_Name_kw (ld_glob I hg hm ?_ hdb)⟩
  refine PySem.W.callWith_K (h₀ := X.base) I.ok.mod.kin hk (thn (ha.run pos pins s σ H _ I h) fun us s1 ⟨vs, H1, I1, r, q⟩ => ⟨I1.kIn, ?_⟩) he hpl
  have q : sp vs H1 Q E := by
    have q' : sp (vs ++ []) H1 Q E := q
    rw [List.append_nil] at q'
    exact q'
  have hl : us.length = ps.length := by rw [← r.length]; exact F.len _ _ _ _ q
  have hb1 := hb s1 us I1.kIn (by rw [List.append_nil]; exact hl)
  rw [List.append_nil] at hb1
  refine wpAny_call (codeAny_mono (F.run X.A X.stack s1 H1 ⟨us, []⟩ us vs Q E hgd hr I1.env0 hb1 r q) fun res s2 hq => ?_)
  cases res with
  | error e' => exact hx pins σ H1 s1 e' s2 I1 hq
  | ok fl =>
    cases fl with
    | ret u => exact I1.after hq
    | next => exact False.elim hq
    | brk => exact False.elim hq
    | cont => exact False.elim hq
end
section
variable {K : PySem.W.Frag} {H : Hp}
mutual
theorem dp_plain : ∀ (d : PyData) (v : V), Dp K H v d → d.hasDict = false
  | .none, _, _ => rfl
  | .bool _, _, _ => rfl
  | .int _, _, _ => rfl
  | .str _, _, _ => rfl
  | .list ds, _, h => by
    cases h with
    | lst hs ha =>
      simp only [PyData.hasDict]
      exact dpAll_plain ds _ ha
  | .tuple ds, _, h => by
    cases h with
    | tup hs ha =>
      simp only [PyData.hasDict]
      exact dpAll_plain ds _ ha
  | .dict _, _, h => by cases h
theorem dpAll_plain : ∀ (ds : List PyData) (vs : List V), DpAll K H vs ds → PyData.hasDictAll ds = false
  | [], _, _ => rfl
  | d :: ds, _, h => by
    cases h with
    | cons h1 h2 =>
      simp only [PyData.hasDictAll, dp_plain d _ h1, dpAll_plain ds _ h2, Bool.or_self]
end
end
section
variable {X : Cx}
/-- repr of a value by its data -/
theorem call_reprD (hg : X.A.guards = some []) (hu : X.A.units + 64 < cLine) : CallR X (.builtin "repr") (fun xs H Q => ∃ v d, xs = [v] ∧ Dp X.K H v d ∧ d.showable = true ∧ d.depth ≤ 20 ∧ d.shown.length ≤ sizeLine ∧ Q (.str d.shown) H) := by
  intro pins s σ H xs us Q I r h
  obtain ⟨v, d, rfl, hd, hsh, hdp, hz, q⟩ := h
  obtain ⟨u, rfl, ru⟩ := vals1 r
  obtain ⟨as, rd⟩ := Dp.reads I d v u hd ru
  have hsm : d.hasDict = true → sysModules ∉ as := fun z => by
    rw [dp_plain d v hd] at z
    cases z
  have fin : ∀ (h' : Heap) (t tk : Tok), (∀ b o, s.heap.get? b = some o → h'.get? b = some o) → EP X pins σ Q (.str d.shown t) { s with heap := h', toks := tk } := fun h' t tk hk =>
    ⟨.str _, H, I.un (Un.kept hk) (I.hok.kept hk), ⟨t, rfl⟩, q⟩
  cases u with
  | ref a => exact repr_of_reads' rd hsh hsm hg (by omega) (fun _ _ e => e) fin hz
  | none => 
    cases rd
    exact PySem.P.repr_of_none (fin s.heap s.toks _ fun _ _ e => e)
  | bool b =>
    cases rd
    exact PySem.P.repr_of_bool (fin s.heap s.toks _ fun _ _ e => e)
  | int i t =>
    cases rd
    exact PySem.P.repr_of_int (by simpa [PyData.showable] using hsh) (fin s.heap s.toks _ fun _ _ e => e)
  | str x t =>
    cases rd
    exact PySem.P.repr_of_str (fin s.heap s.toks _ fun _ _ e => e) hz
  | _ => cases rd
end
end K88
/-! What was read is small. -/
namespace K88
open PySem L2

def NmOk (s : Str) : Prop := s.length ≤ 8 ∧ ∀ c ∈ tl s, c < 16 ^ 8
theorem sub_run (z g : Str) (k : Nat) : tl (subS z k (run z g k)) = (z.cps.toList.drop k).takeWhile fun c => decide (c ∈ g.cps.toList) := by
  show ((z.cps.toList.drop k).take (run z g k - k)).toArray.toList = _
  have e : run z g k - k = ((z.cps.toList.drop k).takeWhile fun c => decide (c ∈ g.cps.toList)).length := by
    unfold run
    omega
  rw [e]
  exact (List.prefix_iff_eq_take.mp (List.takeWhile_prefix _)).symm
theorem take_mem {p : Nat → Bool} {x : Nat} : ∀ {l : List Nat}, x ∈ l.takeWhile p → p x = true
  | [], h => absurd h List.not_mem_nil
  | a :: l, h => by
    rw [List.takeWhile_cons] at h
    split at h
    · rename_i ha
      rcases List.mem_cons.mp h with e | h
      · rw [e]
        exact ha
      · exact take_mem h
    · exact absurd h List.not_mem_nil
theorem both_small : ∀ c ∈ tl bothS, c < 16 ^ 8 := by decide +kernel
theorem name_small {z : Str} {k e : Nat} (h : nameR z k = .inl e) : NmOk (subS z k e) := by
  cases hc : z.cps.toList[k]? with
  | none =>
    rw [name_none hc] at h
    cases h
  | some c =>
    by_cases n : c ∈ smallS.cps.toList
    · rw [name_is hc n] at h
      split at h
      · cases h
      · split at h
        · cases h
        · rename_i h8 _
          have h := Sum.inl.inj h
          subst h
          have t := sub_run z bothS k
          refine ⟨?_, fun x hx => ?_⟩
          · rw [← len_cps, show (subS z k (run z bothS k)).cps.toList = _ from t]
            have e : run z bothS k - k = ((z.cps.toList.drop k).takeWhile fun c => decide (c ∈ bothS.cps.toList)).length := by
              unfold run
              omega
            omega
          · rw [t] at hx
            exact both_small x (of_decide_eq_true (take_mem hx))
    · rw [name_not hc n] at h
      cases h
theorem title_small {z : Str} {told : Str → Bool} {n : Str} {s : Int} (h : titleR z told = .inl (n, s)) : NmOk n := by
  unfold titleR at h
  split at h
  · cases h
  · split at h
    · cases h
    · split at h
      · cases h
      · rename_i e hn
        split at h
        · cases h
        · split at h
          · cases h
          · split at h
            · cases h
            · split at h
              · cases h
              · cases h
                exact name_small hn
def cnt (s : LSt) : Nat := (s.1.map fun q => q.2.2.length + 2).sum + match s.2 with
  | none => 0
  | some q => q.2.2.length + 1
def NmSt (s : LSt) : Prop := (∀ q ∈ s.1, NmOk q.1) ∧ ∀ q, s.2 = some q → NmOk q.1
theorem step_cnt {n : Int} {z : Str} {s s' : LSt} (h : stepL n z s = .inl s') : cnt s' = cnt s + 1 ∧ (NmSt s → NmSt s') := by
  obtain ⟨found, o⟩ := s
  cases o with
  | none =>
    rw [show stepL n z (found, none) = stepN n z found from rfl] at h
    unfold stepN at h
    cases ht : titleR z (fun s => (found.map (·.1)).contains s) with
    | inr w =>
      simp only [ht] at h
      cases h
    | inl p =>
      obtain ⟨name, sz⟩ := p
      simp only [ht] at h
      cases h
      refine ⟨rfl, fun ok => ⟨ok.1, fun q hq => ?_⟩⟩
      cases hq
      exact title_small ht
  | some it =>
    obtain ⟨nm, m, ts⟩ := it
    rw [show stepL n z (found, some (nm, m, ts)) = stepS n z found nm m ts from rfl] at h
    unfold stepS at h
    split at h
    · split at h
      · cases h
      · cases h
        refine ⟨?_, fun ok => ⟨fun q hq => ?_, fun q hq => by cases hq⟩⟩
        · unfold cnt
          rw [List.map_append, List.sum_append]
          simp
          omega
        · rcases List.mem_append.mp hq with hq | hq
          · exact ok.1 q hq
          · rw [List.mem_singleton.mp hq]
            exact ok.2 _ rfl
    · split at h
      · split at h
        · cases h
        · cases h
          refine ⟨?_, fun ok => ⟨ok.1, fun q hq => ?_⟩⟩
          · unfold cnt
            simp
            omega
          · cases hq
            exact ok.2 (nm, m, ts) rfl
      · cases h
theorem laps_cnt : ∀ {ls : List (Int × Str)} {s s' : LSt}, lapsL ls s = .inl s' → cnt s' = cnt s + ls.length ∧ (NmSt s → NmSt s') ∧ (StOk s → StOk s')
  | [], s, s', h => by
    cases h
    exact ⟨rfl, id, id⟩
  | (n, z) :: ls, s, s', h => by
    have h : (match stepL n z s with | .inr p => Sum.inr p | .inl s' => lapsL ls s') = .inl s' := h
    cases e : stepL n z s with
    | inr p =>
      rw [e] at h
      cases h
    | inl s1 =>
      rw [e] at h
      obtain ⟨a, b, c⟩ := laps_cnt (ls := ls) h
      obtain ⟨a1, b1⟩ := step_cnt e
      refine ⟨by rw [List.length_cons]; omega, fun k => b (b1 k), fun k => c (step_ok e k).1⟩
theorem read_facts {ls : List Str} {its : List Item} (h : readL ls = .inl its) : (∀ q ∈ its, ItemOk q ∧ NmOk q.1) ∧ (its.map fun q => q.2.2.length + 2).sum ≤ ls.length := by
  unfold readL at h
  cases e : lapsL (outL ls ls.length) ([], none) with
  | inr p =>
    rw [e] at h
    cases h
  | inl s =>
    rw [e] at h
    obtain ⟨found, o⟩ := s
    cases o with
    | some it => cases h
    | none =>
      have h := Sum.inl.inj h
      have h : found = its := h
      subst h
      obtain ⟨a, b, c⟩ := laps_cnt e
      have b := b ⟨fun q h => absurd h List.not_mem_nil, fun q h => by cases h⟩
      have c := c ⟨fun q h => absurd h List.not_mem_nil, fun q h => by cases h⟩
      refine ⟨fun q hq => ⟨c.1 q hq, b.1 q hq⟩, ?_⟩
      have l := outL_len ls ls.length
      unfold cnt at a
      simp at a
      omega
end K88
/-! Items with their ties in order: one list for the same webs; its text; text_of. -/
namespace K88
open PySem L2

theorem srtd_uniq : ∀ {a b : List (Int × Int)}, SrtO.Srtd SrtO.lexB a → SrtO.Srtd SrtO.lexB b → a.Perm b → a = b
  | [], b, _, _, p => (List.Perm.nil_eq p)
  | x :: a, [], _, _, p => absurd p.length_eq (by simp)
  | x :: a, y :: b, ha, hb, p => by
    have le1 : SrtO.lexB x y = false := by
      rcases List.mem_cons.mp (p.mem_iff.mp (List.mem_cons_self (a := x) (l := a))) with e | hx
      · rw [e]
        exact SrtO.lexB_no.mpr (by omega)
      · exact SrtO.srtd_head hb x hx
    have le2 : SrtO.lexB y x = false := by
      rcases List.mem_cons.mp (p.mem_iff.mpr (List.mem_cons_self (a := y) (l := b))) with e | hy
      · rw [e]
        exact SrtO.lexB_no.mpr (by omega)
      · exact SrtO.srtd_head ha y hy
    have e : x = y := by
      have a1 := SrtO.lexB_no.mp le1
      have a2 := SrtO.lexB_no.mp le2
      refine Prod.ext ?_ ?_ <;> omega
    subst e
    rw [srtd_uniq (List.pairwise_cons.mp ha).2 (List.pairwise_cons.mp hb).2 p.cons_inv]
/-- an item as it stands, its ties as they stand -/
structure ItemX (K : PySem.W.Frag) (CW : Addr) (H : Hp) (x : V) (q : Item) : Prop where
  ex : ∃ (t w' dx u : Addr) (ys : List V), x = .ref t ∧ H t = some (.tup [.str q.1, .ref w']) ∧ H w' = some (.ins CW dx (webFs q.2.1 u)) ∧ H u = some (.tup ys) ∧ Paired (TwoAt K H) ys q.2.2
structure NormOf (q p : Item) : Prop where
  nm : q.1 = p.1
  sz : q.2.1 = p.2.1
  srt : SrtO.Srtd SrtO.lexB q.2.2
  pm : q.2.2.Perm p.2.2
theorem items_norm {K : PySem.W.Frag} {CW : Addr} {H : Hp} : ∀ {xs : List V} {its : List Item}, Paired (ItemAt K CW H) xs its → ∃ L, Paired (ItemX K CW H) xs L ∧ Paired NormOf L its
  | _, _, .nil => ⟨[], .nil, .nil⟩
  | _, _, .cons (b := q) ⟨⟨t, w', dx, u, ys, rs, e1, h1, h2, h3, h4, h5, h6⟩⟩ r => by
    obtain ⟨L, a, b⟩ := items_norm r
    exact ⟨(q.1, q.2.1, rs) :: L, .cons ⟨⟨t, w', dx, u, ys, e1, h1, h2, h3, two_of h4⟩⟩ a, .cons ⟨rfl, rfl, h5, h6⟩ b⟩
/-- the same webs, the ties in any order -/
structure SameI (q p : Item) : Prop where
  nm : q.1 = p.1
  sz : q.2.1 = p.2.1
  pm : q.2.2.Perm p.2.2
theorem norm_uniq : ∀ {L M is js : List Item}, Paired NormOf L is → Paired NormOf M js → Paired SameI is js → L = M
  | _, _, _, _, .nil, .nil, .nil => rfl
  | _, _, _, _, .cons (a := q) h1 t1, .cons (a := p) h2 t2, .cons s t => by
    have e := srtd_uniq h1.srt h2.srt ((h1.pm.trans s.pm).trans h2.pm.symm)
    rw [norm_uniq t1 t2 t]
    refine congrArg (· :: _) ?_
    obtain ⟨a, b, c⟩ := q
    obtain ⟨a', b', c'⟩ := p
    have e1 : a = a' := h1.nm.trans (s.nm.trans h2.nm.symm)
    have e2 : b = b' := h1.sz.trans (s.sz.trans h2.sz.symm)
    have e3 : c = c' := e
    rw [e1, e2, e3]
theorem same_refl : ∀ its : List Item, Paired SameI its its
  | [] => .nil
  | q :: its => .cons ⟨rfl, rfl, List.Perm.refl _⟩ (same_refl its)
def itemD (q : Item) : PyData := .tuple [.str q.1, .int q.2.1, .tuple (q.2.2.map pairD)]
/-! ### its text is short -/
def Small (q : Item) : Prop := ItemOk q ∧ NmOk q.1
theorem norm_small {q p : Item} (h : NormOf q p) (s : Small p) : Small q := by
  obtain ⟨⟨h1, h2, h3, h4⟩, h5⟩ := s
  refine ⟨⟨by rw [h.sz]; exact h1, by rw [h.sz]; exact h2, by rw [h.pm.length_eq]; exact h3, fun x hx => ?_⟩, by rw [h.nm]; exact h5⟩
  rw [h.sz]
  exact h4 x (h.pm.mem_iff.mp hx)
theorem norm_all : ∀ {L its : List Item}, Paired NormOf L its → (∀ q ∈ its, Small q) → ∀ q ∈ L, Small q
  | _, _, .nil, _, q, hq => absurd hq List.not_mem_nil
  | _, _, .cons h t, s, q, hq => by
    rcases List.mem_cons.mp hq with e | hq
    · rw [e]
      exact norm_small h (s _ List.mem_cons_self)
    · exact norm_all t (fun x hx => s x (List.mem_cons_of_mem _ hx)) q hq
theorem norm_sum : ∀ {L its : List Item}, Paired NormOf L its → (L.map fun q => q.2.2.length + 2).sum = (its.map fun q => q.2.2.length + 2).sum
  | _, _, .nil => rfl
  | _, _, .cons h t => by
    rw [List.map_cons, List.map_cons, List.sum_cons, List.sum_cons, norm_sum t, h.pm.length_eq]
theorem small_int {i : Nat} (h : i ≤ 12) : PyData.showable (.int (i : Int)) = true ∧ PyData.leavesShort 8 (.int (i : Int)) = true ∧ PyData.weight (.int (i : Int)) ≤ 4 := by
  have key : ∀ j : _root_.Fin 13, PyData.showable (.int (j.val : Int)) = true ∧ PyData.leavesShort 8 (.int (j.val : Int)) = true ∧ PyData.weight (.int (j.val : Int)) ≤ 4 := by decide +kernel
  exact key ⟨i, by omega⟩
theorem small_pairs {m : Nat} (hm : m ≤ 12) : ∀ {ts : List (Int × Int)}, (∀ q ∈ ts, ∃ a b : Nat, q = ((a : Int), (b : Int)) ∧ a < b ∧ b < m) →
    PyData.showableAll (ts.map pairD) = true ∧ PyData.leavesShortAll 8 (ts.map pairD) = true ∧ PyData.weightAll (ts.map pairD) ≤ 11 * ts.length ∧ PyData.depthAll (ts.map pairD) ≤ 1
  | [], _ => ⟨rfl, rfl, Nat.le_refl _, Nat.zero_le _⟩
  | q :: ts, h => by
    obtain ⟨a, b, rfl, hab, hb⟩ := h q List.mem_cons_self
    obtain ⟨i1, i2, i3, i4⟩ := small_pairs hm (ts := ts) fun x hx => h x (List.mem_cons_of_mem _ hx)
    obtain ⟨a1, a2, a3⟩ := small_int (i := a) (by omega)
    obtain ⟨b1, b2, b3⟩ := small_int (i := b) (by omega)
    rw [List.map_cons]
    refine ⟨?_, ?_, ?_, ?_⟩
    · simp only [PyData.showableAll, pairD, PyData.showable] at a1 b1 ⊢
      rw [a1, b1, i1]
      rfl
    · simp only [PyData.leavesShortAll, pairD, PyData.leavesShort] at a2 b2 ⊢
      rw [a2, b2, i2]
      rfl
    · simp only [PyData.weightAll, pairD, PyData.weight] at a3 b3 ⊢
      rw [List.length_cons]
      omega
    · simp only [PyData.depthAll, pairD, PyData.depth]
      omega
theorem small_items : ∀ {L : List Item}, (∀ q ∈ L, Small q) →
    PyData.showableAll (L.map itemD) = true ∧ PyData.leavesShortAll 8 (L.map itemD) = true ∧ PyData.weightAll (L.map itemD) ≤ 11 * (L.map fun q => q.2.2.length + 2).sum ∧ PyData.depthAll (L.map itemD) ≤ 3
  | [], _ => ⟨rfl, rfl, Nat.le_refl _, Nat.zero_le _⟩
  | q :: L, h => by
    obtain ⟨⟨h1, h2, h3, h4⟩, h5, h6⟩ := h q List.mem_cons_self
    obtain ⟨i1, i2, i3, i4⟩ := small_items (L := L) fun x hx => h x (List.mem_cons_of_mem _ hx)
    obtain ⟨p1, p2, p3, p4⟩ := small_pairs h2 h4
    obtain ⟨m1, m2, m3⟩ := small_int (i := q.2.1) h2
    have hs : q.1.cps.size ≤ 8 := h5
    have hc : (q.1.cps.toList.all fun c => decide (c < 16 ^ 8)) = true := List.all_eq_true.mpr fun c hc => decide_eq_true (h6 c hc)
    rw [List.map_cons, List.map_cons, List.sum_cons]
    refine ⟨?_, ?_, ?_, ?_⟩
    · simp only [PyData.showableAll, itemD, PyData.showable] at m1 ⊢
      rw [m1, p1, i1]
      rfl
    · simp only [PyData.leavesShortAll, itemD, PyData.leavesShort] at m2 ⊢
      rw [m2, p2, i2, hc]
      rfl
    · simp only [PyData.weightAll, itemD, PyData.weight] at m3 ⊢
      omega
    · simp only [PyData.depthAll, itemD, PyData.depth]
      omega
theorem shown_ok {L : List Item} (h : ∀ q ∈ L, Small q) (hs : (L.map fun q => q.2.2.length + 2).sum ≤ 20001) : (PyData.list (L.map itemD)).showable = true ∧ (PyData.list (L.map itemD)).depth ≤ 20 ∧ (PyData.list (L.map itemD)).shown.length ≤ sizeLine := by
  obtain ⟨i1, i2, i3, i4⟩ := small_items h
  refine ⟨by simp only [PyData.showable]; exact i1, by simp only [PyData.depth]; omega, PyData.shown_fits (B := 8) (by decide) (by decide) (by simp only [PyData.leavesShort]; exact i2) (by simp only [PyData.weight]; omega)⟩
/-! ### the two defs -/
def spPlain (K : PySem.W.Frag) (CW : Addr) : Sp := fun vs H Q _ => ∃ (a : Addr) (xs : List V) (L : List Item), vs = [.ref a] ∧ SqA K H a xs ∧ Paired (ItemX K CW H) xs L ∧ (∀ q ∈ L, Small q) ∧ (L.map fun q => q.2.2.length + 2).sum ≤ 20001 ∧
  ∀ H', Same H H' → Q (.str (PyData.list (L.map itemD)).shown) H'
def spTextOf (K : PySem.W.Frag) (CW : Addr) : Sp := fun vs H Q _ => ∃ (a : Addr) (xs : List V) (L : List Item), vs = [.ref a] ∧ SqT K H a xs ∧ Paired (ItemX K CW H) xs L ∧ (∀ q ∈ L, NameOk q.1 ∧ 1 ≤ q.2.1 ∧ q.2.1 ≤ 12 ∧ (∀ p ∈ q.2.2, PairOk q.2.1 p) ∧ q.2.2.length ≤ 8) ∧ L.length ≤ 3 ∧
  ∀ H', Same H H' → Q (.str (Txt.join "" (L.map fun q => webText q.1 q.2.1 q.2.2))) H'
theorem sum_len {L : List Item} : L.length ≤ (L.map fun q => q.2.2.length + 2).sum := by
  induction L with
  | nil => exact Nat.le_refl _
  | cons q L ih =>
    rw [List.map_cons, List.sum_cons, List.length_cons]
    omega
/-- a row of the plain items -/
def RowX (K : PySem.W.Frag) (H : Hp) (x : V) (q : Item) : Prop := ∃ (t u : Addr) (ys : List V), x = .ref t ∧ H t = some (.tup [.str q.1, .int q.2.1, .ref u]) ∧ H u = some (.tup ys) ∧ Paired (TwoAt K H) ys q.2.2
theorem rows_put {K : PySem.W.Frag} {H : Hp} {p : Addr} {l : List V} {o : HO} (hp : H p = some (.lst l)) : ∀ {xs : List V} {L : List Item}, Paired (RowX K H) xs L → Paired (RowX K (upd H p o)) xs L
  | _, _, .nil => .nil
  | _, _, .cons ⟨t, u, ys, e, h1, h2, h3⟩ r => .cons ⟨t, u, ys, e, by rw [upd_ne (ne_of h1 hp (by intro z; cases z))]; exact h1, by rw [upd_ne (ne_of h2 hp (by intro z; cases z))]; exact h2, two_putL hp h3⟩ (rows_put hp r)
theorem rows_same {K : PySem.W.Frag} {H H' : Hp} (s : Same H H') : ∀ {xs : List V} {L : List Item}, Paired (RowX K H) xs L → Paired (RowX K H') xs L
  | _, _, .nil => .nil
  | _, _, .cons ⟨t, u, ys, e, h1, h2, h3⟩ r => .cons ⟨t, u, ys, e, s _ _ h1, s _ _ h2, two_same s h3⟩ (rows_same s r)
theorem rows_data {K : PySem.W.Frag} {H : Hp} : ∀ {xs : List V} {L : List Item}, Paired (RowX K H) xs L → DpAll K H xs (L.map itemD)
  | _, _, .nil => .nil
  | _, _, .cons ⟨t, u, ys, e, h1, h2, h3⟩ r => by
    subst e
    exact .cons (.tup (.inl (.inl h1)) (.cons (.str _) (.cons (.int _) (.cons (.tup (.inl (.inl h2)) (of_two h3)) .nil)))) (rows_data r)
theorem itemsX_same {K : PySem.W.Frag} {CW : Addr} {H H' : Hp} (s : Same H H') : ∀ {xs : List V} {L : List Item}, Paired (ItemX K CW H) xs L → Paired (ItemX K CW H') xs L
  | _, _, .nil => .nil
  | _, _, .cons ⟨⟨t, w', dx, u, ys, e, h1, h2, h3, h4⟩⟩ r => .cons ⟨⟨t, w', dx, u, ys, e, s _ _ h1, s _ _ h2, s _ _ h3, two_same s h4⟩⟩ (itemsX_same s r)
section
variable {K : PySem.W.Frag} {H : Hp} {CW : Addr}
/-- the core of the plain items' list -/
theorem plain_core {J : It} {a : Addr} {xs : List V} {L : List Item} {Q : VK} (hJ : (J = Itl K a ∧ SqL K H a xs) ∨ (J = Itt K a ∧ SqT K H a xs)) (hp : Paired (ItemX K CW H) xs L) (hl : L.length ≤ 100000) (cl : Cls K CW) (n1 : NoAttr K CW "size") (n2 : NoAttr K CW "ties")
    (k : ∀ D H' ws, Same H H' → H' D = some (.lst ws) → Paired (RowX K H') ws L → Q (.ref D) H') {σ : L2.St} (hw : ∀ u v : V, wipe (((wipe σ [1, 2]).set 1 (some u)).set 2 (some v)) [1, 2] = wipe σ [1, 2]) (h1 : ∀ u v : V, (((wipe σ [1, 2]).set 1 (some u)).set 2 (some v))[1]? = some (some u)) (h2 : ∀ u v : V, (((wipe σ [1, 2]).set 1 (some u)).set 2 (some v))[2]? = some (some v)) :
    ∀ D, H D = none → ∃ W : Nat → Nat → Hp → Prop, (∃ m, W 0 m (upd H D (.lst []))) ∧ ∀ i m H, W i m H →
      (J.stop i H ∧ Q (.ref D) H) ∨ (J.go i H ∧ ∃ Nx : Hp → Prop, (∀ H', Nx H' → ∃ m', m' < m ∧ W (i + 1) m' H') ∧ ∀ x H', J.yld i H x H' → gTup K 2 (gCons (gName 1) (gCons (gName 2) gNil)) x (wipe σ [1, 2]) H' fun σ2 H2 => wipe σ2 [1, 2] = wipe σ [1, 2] ∧ tYes σ2 H2 fun b H3 =>
        if b = true then tTup (tCons (tVar 1) (tCons (tFld K (tVar 2) "size") (tCons (tFld K (tVar 2) "ties") tNil))) σ2 H3 fun y H4 => ∃ acc, H4 D = some (.lst acc) ∧ acc.length < sizeLine ∧ Nx (upd H4 D (.lst (acc ++ [y]))) else Nx H3) := by
  intro D nD
  have hlen := paired_len hp
  have hsz : sizeLine = 16777216 := sizeLine_eq
  have turn : ∀ (i : Nat) (x : V) (H2 : Hp), xs[i]? = some x → (Same H H2 ∧ ∃ ws, H2 D = some (.lst ws) ∧ Paired (RowX K H2) ws (L.take i) ∧ i ≤ xs.length) →
      gTup K 2 (gCons (gName 1) (gCons (gName 2) gNil)) x (wipe σ [1, 2]) H2 fun σ2 H2 => wipe σ2 [1, 2] = wipe σ [1, 2] ∧ tYes σ2 H2 fun b H3 =>
        if b = true then tTup (tCons (tVar 1) (tCons (tFld K (tVar 2) "size") (tCons (tFld K (tVar 2) "ties") tNil))) σ2 H3 fun y H4 => ∃ acc, H4 D = some (.lst acc) ∧ acc.length < sizeLine ∧ (fun (H2 : Hp) => Same H H2 ∧ ∃ ws, H2 D = some (.lst ws) ∧ Paired (RowX K H2) ws (L.take (i + 1)) ∧ i + 1 ≤ xs.length) (upd H4 D (.lst (acc ++ [y])))
        else (fun (H2 : Hp) => Same H H2 ∧ ∃ ws, H2 D = some (.lst ws) ∧ Paired (RowX K H2) ws (L.take (i + 1)) ∧ i + 1 ≤ xs.length) H3 := by
    rintro i x H2 hx ⟨sm, ws, hD, hws, hi⟩
    obtain ⟨q, hq, ⟨⟨t, w', dx, u, ys, rfl, e1, e2, e3, e4⟩⟩⟩ := paired_get hp hx
    have hil : i < xs.length := by
      rcases Nat.lt_or_ge i xs.length with y | y
      · exact y
      · rw [List.getElem?_eq_none y] at hx
        cases hx
    refine ⟨t, _, .inl (.inl (sm _ _ e1)) |> fun h => ⟨rfl, h, rfl, _, _, rfl, _, _, rfl, rfl, hw _ _, ?_⟩⟩
    refine yes_then ?_
    refine ⟨_, h1 _ _, _, h2 _ _, w', CW, dx, _, _, rfl, sm _ _ e2, cl, n1, rfl, _, h2 _ _, w', CW, dx, _, _, rfl, sm _ _ e2, cl, n2, rfl, by show 3 ≤ sizeLine; omega, fun t2 nt2 => ?_⟩
    have st := same_new (o := .tup [.str q.1, .int q.2.1, .ref u]) nt2
    refine ⟨ws, st _ _ hD, by have := paired_len hws; rw [List.length_take] at this; omega, fun c o e => ?_, ws ++ [.ref t2], upd_same, ?_, hil⟩
    · rw [upd_ne (ne_of_none e nD)]
      exact st _ _ (sm c o e)
    · rw [take_more hq]
      refine Paired.snoc (rows_put (st _ _ hD) (rows_same st hws)) ?_
      have h1' : Paired (RowX K (upd (upd H2 t2 (.tup [.str q.1, .int q.2.1, .ref u])) D (.lst (ws ++ [.ref t2])))) [.ref t2] [q] := rows_put (st _ _ hD) (.cons ⟨t2, u, ys, rfl, upd_same, st _ _ (sm _ _ e3), two_same (sm.trans st) e4⟩ .nil)
      cases h1' with
      | cons h _ => exact h
  have fin : ∀ H2 : Hp, (Same H H2 ∧ ∃ ws, H2 D = some (.lst ws) ∧ Paired (RowX K H2) ws (L.take xs.length) ∧ xs.length ≤ xs.length) → Q (.ref D) H2 := by
    rintro H2 ⟨sm, ws, hD, hws, _⟩
    rw [hlen, List.take_length] at hws
    exact k D H2 ws sm hD hws
  rcases hJ with ⟨rfl, hs⟩ | ⟨rfl, hs⟩
  · exact lc_list (K := K) (a := a) (xs := xs) (Qd := fun H => Q (.ref D) H) (fun i H2 => Same H H2 ∧ ∃ ws, H2 D = some (.lst ws) ∧ Paired (RowX K H2) ws (L.take i) ∧ i ≤ xs.length) ⟨same_new nD, [], upd_same, .nil, Nat.zero_le _⟩ (fun i H2 _ h => h.1.seq hs) turn fin
  · exact lc_tup (K := K) (a := a) (xs := xs) (Qd := fun H => Q (.ref D) H) (fun i H2 => Same H H2 ∧ ∃ ws, H2 D = some (.lst ws) ∧ Paired (RowX K H2) ws (L.take i) ∧ i ≤ xs.length) ⟨same_new nD, [], upd_same, .nil, Nat.zero_le _⟩ (fun i H2 _ h => sqT_same h.1 hs) turn fin
theorem plain_lt {tl : TE} {a : Addr} {xs : List V} {L : List Item} {Q : VK} {σ : L2.St} (h0 : ∀ R : VK, R (.ref a) H → tl σ H R) (hs : SqA K H a xs) (hp : Paired (ItemX K CW H) xs L) (hl : L.length ≤ 100000) (cl : Cls K CW) (n1 : NoAttr K CW "size") (n2 : NoAttr K CW "ties")
    (k : ∀ D H' ws, Same H H' → H' D = some (.lst ws) → Paired (RowX K H') ws L → Q (.ref D) H') (hw : ∀ u v : V, wipe (((wipe σ [1, 2]).set 1 (some u)).set 2 (some v)) [1, 2] = wipe σ [1, 2]) (h1 : ∀ u v : V, (((wipe σ [1, 2]).set 1 (some u)).set 2 (some v))[1]? = some (some u)) (h2 : ∀ u v : V, (((wipe σ [1, 2]).set 1 (some u)).set 2 (some v))[2]? = some (some v)) :
    tLc (iLT K tl) (gTup K 2 (gCons (gName 1) (gCons (gName 2) gNil))) tYes (tTup (tCons (tVar 1) (tCons (tFld K (tVar 2) "size") (tCons (tFld K (tVar 2) "ties") tNil)))) [1, 2] σ H Q :=
  h0 _ ⟨a, rfl, hs.imp (fun h => ⟨⟨_, h⟩, plain_core (Q := Q) (.inl ⟨rfl, h⟩) hp hl cl n1 n2 k hw h1 h2⟩) fun h => ⟨⟨_, h⟩, plain_core (Q := Q) (.inr ⟨rfl, h⟩) hp hl cl n1 n2 k hw h1 h2⟩⟩
end
theorem ret_of {r : List V → Hp → VK → Prop} {te : TE} {σ : L2.St} {H : Hp} {D : L2.Ends} (h : te σ H fun x H1 => r [x] H1 D.rt) : tRet (tCB r (tCons te tNil)) D σ H := h
section
variable {P : Program} {w : World} {K : PySem.W.Frag} {mg : Str → Option Value} {base : Heap} {f g CW : Addr} {fd gd : FuncData}
abbrev sPlain : Stmt := top 61
abbrev plN : List Str := ["items", "name", "one"]
theorem scPlain : FnScope plN ["items"] (defScope sPlain) := ⟨rfl, rfl, rfl, by decide +kernel, rfl, by decide +kernel, by decide +kernel⟩
theorem ok_plain (F : FnP K "_law_plain_items" sPlain f fd) (cl : Cls K CW) (n1 : NoAttr K CW "size") (n2 : NoAttr K CW "ties") (mR : mg "repr" = none) : FnG P w K mg base CX0 1 f fd ["items"] (spPlain K CW) := by
  refine okG F scPlain (fun vs H Q E h => ?_) (fun cdv A outer s H vs Q E hcd hgd hr h => ?_)
  · obtain ⟨a, xs, L, rfl, _⟩ := h
    rfl
  · obtain ⟨a, xs, L, rfl, hs, hp, hsm, hsum, q⟩ := h
    have hu : (cxOf CX0 P w K mg base plN "_law_plain_items" (defScope sPlain) f cdv A outer s H E).A.units + 64 < cLine := hr.units
    refine ⟨_, PSs.nox (pss_one (ps_ret (pe_callB (call_reprD hgd hu) (by rfl) mR (by decide +kernel) (pa_cons
      (pe_lc (own := [("name", 1), ("one", 2)]) (g := gTup K 2 (gCons (gName 1) (gCons (gName 2) gNil))) (tt := tYes) (te := tTup (tCons (tVar 1) (tCons (tFld K (tVar 2) "size") (tCons (tFld K (tVar 2) "ties") tNil)))) (wi := iLT K (tVar 0)) rfl scPlain.nd (pi_lt (pv 0)) (blkOk_by (own := [("name", 1), ("one", 2)]) (N := plN) (sc := defScope sPlain) (by decide +kernel))
        (fun _ _ _ _ _ => pg_tup (n := 2) rfl (pgs_cons (pg_name (i := 1) scPlain.nd rfl (Or.inl rfl)) (pgs_cons (pg_name (i := 2) scPlain.nd rfl (Or.inl rfl)) pgs_nil))) (fun _ _ _ _ _ => pts_nil)
        (fun _ _ _ _ _ => pe_tup (pa_cons (pv 1) (pa_cons (pe_fld (pv 2) rfl) (pa_cons (pe_fld (pv 2) rfl) pa_nil))))) pa_nil)))), ?_⟩
    rw [show L2.start plN [V.ref a] = [some (V.ref a), none, none] from rfl]
    have hl : L.length ≤ 100000 := Nat.le_trans sum_len (by omega)
    obtain ⟨s1, s2, s3⟩ := shown_ok hsm hsum
    refine ret_of (plain_lt (fun R r => ⟨_, rfl, r⟩) hs hp hl cl n1 n2 (fun D H' ws sm hD hws => ?_) (fun u v => rfl) (fun u v => rfl) (fun u v => rfl))
    exact ⟨.ref D, .list (L.map itemD), rfl, .lst (.inl (.inl hD)) (rows_data hws), s1, s2, s3, q H' sm⟩
end
end K88
/-! text_of. -/
namespace K88
open PySem L2

abbrev rJoin (K : PySem.W.Frag) : V → List V → Hp → VK → Prop := fun x xs H Q => ∃ a p, ∃ ys : List Str, x = .str a ∧ xs = [.ref p] ∧ (SqL K H p (ys.map V.str) ∨ SqT K H p (ys.map V.str)) ∧ (ys.map (·.length)).sum + ys.length * a.length ≤ 16777216 ∧ Q (.str (Txt.join a ys)) H
theorem webs_short : ∀ {L : List Item}, (∀ q ∈ L, NameOk q.1 ∧ 1 ≤ q.2.1 ∧ q.2.1 ≤ 12 ∧ (∀ p ∈ q.2.2, PairOk q.2.1 p) ∧ q.2.2.length ≤ 8) → ((L.map fun q => webText q.1 q.2.1 q.2.2).map (·.length)).sum ≤ 410 * L.length
  | [], _ => Nat.le_refl _
  | q :: L, h => by
    obtain ⟨h1, h2, h3, h4, h5⟩ := h q List.mem_cons_self
    have i := webs_short (L := L) fun x hx => h x (List.mem_cons_of_mem _ hx)
    have j := web_len h1 h2 h3 h4 (by omega)
    rw [List.map_cons, List.map_cons, List.sum_cons, List.length_cons]
    omega
theorem strs_join {K : PySem.W.Frag} {H : Hp} {D : Addr} {Q : VK} {ss : List Str} (hD : H D = some (.lst (ss.map V.str))) (hl : (ss.map (·.length)).sum ≤ 100000) (q : Q (.str (Txt.join "" ss)) H) : rJoin K (.str "") [.ref D] H Q := by
  refine ⟨"", D, ss, rfl, rfl, .inl (.inl (.inl hD)), ?_, q⟩
  rw [show ("" : Str).length = 0 by decide +kernel, Nat.mul_zero]
  omega
theorem join_of {K : PySem.W.Frag} {r : V → List V → Hp → VK → Prop} {v : Str} {te : TE} {σ : L2.St} {H : Hp} {Q : VK} (h : te σ H fun y H2 => r (.str v) [y] H2 Q) : tM1 r (tC (.str v)) te σ H Q := ⟨⟨_, rfl⟩, h⟩
section
variable {P : Program} {w : World} {K : PySem.W.Frag} {mg : Str → Option Value} {base : Heap} {f g CW : Addr} {fd gd : FuncData}
abbrev sTextOf : Stmt := top 37
abbrev txN : List Str := ["items", "name", "web"]
theorem scTextOf : FnScope txN ["items"] (defScope sTextOf) := ⟨rfl, rfl, rfl, by decide +kernel, rfl, by decide +kernel, by decide +kernel⟩
theorem ok_text_of (F : FnP K "text_of" sTextOf f fd) (T : Told P w K mg base "item_text" 1 ["name", "web"] (spIText K CW) g gd) : FnOk P w K mg base CX0 2 f fd ["items"] (spTextOf K CW) := by
  refine F.ok scTextOf (fun vs H Q E h => ?_) (fun cdv A outer s H vs Q E hr h => ?_)
  · obtain ⟨a, xs, L, rfl, _⟩ := h
    rfl
  · obtain ⟨a, xs, L, rfl, hs, hp, hok, h3, q⟩ := h
    refine ⟨_, PSs.nox (pss_one (ps_ret (pe_join pe_str (pe_lc (own := [("name", 1), ("web", 2)]) (g := gTup K 2 (gCons (gName 1) (gCons (gName 2) gNil))) (tt := tYes) (te := tCall (spIText K CW) [] E0 (tCons (tVar 1) (tCons (tVar 2) tNil))) (wi := iTup K (tVar 0)) rfl scTextOf.nd (pi_tup (pv 0)) (blkOk_by (own := [("name", 1), ("web", 2)]) (N := txN) (sc := defScope sTextOf) (by decide +kernel))
        (fun _ _ _ _ _ => pg_tup (n := 2) rfl (pgs_cons (pg_name (i := 1) scTextOf.nd rfl (Or.inl rfl)) (pgs_cons (pg_name (i := 2) scTextOf.nd rfl (Or.inl rfl)) pgs_nil))) (fun _ _ _ _ _ => pts_nil)
        (fun _ _ _ _ _ => pe_call T.ok hr (by rfl) T.m T.kp T.b .nil pass0 (pa_cons (pv 1) (pa_cons (pv 2) pa_nil))))))), ?_⟩
    rw [show L2.start txN [V.ref a] = [some (V.ref a), none, none] from rfl]
    have hlen := paired_len hp
    have hsh := webs_short hok
    have hsz : sizeLine = 16777216 := sizeLine_eq
    refine ⟨⟨_, rfl⟩, _, rfl, a, rfl, ⟨xs, hs⟩, fun D nD => lc_tup (xs := xs) (fun i H2 => Same H H2 ∧ H2 D = some (.lst (((L.take i).map fun q => webText q.1 q.2.1 q.2.2).map V.str)) ∧ i ≤ xs.length) ⟨same_new nD, upd_same, Nat.zero_le _⟩ (fun i H2 _ h => sqT_same h.1 hs) ?_ ?_⟩
    · rintro i x H2 hx ⟨sm, hD, hi⟩
      obtain ⟨q', hq, ⟨⟨t, w', dx, u, ys, rfl, e1, e2, e3, e4⟩⟩⟩ := paired_get hp hx
      obtain ⟨k1, k2, k3, k4, k5⟩ := hok q' (List.mem_of_getElem? hq)
      have hil : i < xs.length := by
        rcases Nat.lt_or_ge i xs.length with y | y
        · exact y
        · rw [List.getElem?_eq_none y] at hx
          cases hx
      refine ⟨t, _, rfl, .inl (.inl (sm _ _ e1)), rfl, _, _, rfl, _, _, rfl, rfl, rfl, ?_⟩
      refine yes_then ?_
      refine ⟨_, rfl, _, rfl, q'.1, q'.2.1, w', dx, u, ys, q'.2.2, rfl, sm _ _ e2, k1, k2, k3, .inl (.inl (sm _ _ e3)), two_same sm e4, k4, by omega, fun H3 s3 => ?_⟩
      refine ⟨_, s3 _ _ hD, ?_, fun c o e => ?_, ?_, hil⟩
      · rw [List.length_map, List.length_map, List.length_take]
        omega
      · rw [upd_ne (ne_of_none e nD)]
        exact s3 _ _ (sm c o e)
      · rw [upd_same, take_more hq, List.map_append, List.map_append]
        rfl
    · rintro H2 ⟨sm, hD, _⟩
      rw [hlen, List.take_length] at hD
      exact strs_join (K := K) hD (by omega) (q H2 sm)
end
end K88
/-! != of two tuples whose items are seen to be equal. -/
open PySem PySem.Spec PyProof.Rows L2 in
theorem K88.tupNe {prog : Program} {w : World} {A : Around} {R : Result → Shared → Prop} (l b : Addr) (us vs : Array Value) (n m : Nat) (d1 d2 : Option Addr) (t1 t2 : Array (Option Value)) (hsz : us.size = vs.size) (I : Shared → Prop)
    (turn : ∀ i (h1 : i < us.size) (h2 : i < vs.size) s, I s → wpAny (model prog w) A.in1 (eqBool us[i] vs[i]) (fun r s' => r = true ∧ I s') (fun e s' => R (.error e) s') s)
    (fin : ∀ s, I s → R (.ok (.ret (.bool false))) s) {s : Shared} (hl : s.heap.get? l = some { cls := .type "tuple", dict := d1, data := .seq us n, slots := t1 }) (hb : s.heap.get? b = some { cls := .type "tuple", dict := d2, data := .seq vs m, slots := t2 }) (h : I s) :
    wpAny (model prog w) A.in1 (Builtin.«tuple.__ne__» ⟨[.ref l, .ref b], []⟩) (GQ.FinOf prog w A R) (fun e s' => R (.error e) s') s := by
  have k2 := AutoSeq1.sub_tuple_tuple
  have hZ : (us.toList.zip vs.toList).length = us.size := by simp [hsz]
  have start := h
  obtain ⟨hp, g, dr, tk, os⟩ := s
  wp_walk using wpAny_loadPart' hl, wpAny_loadPart' hb, wpAny_forIn_list _ (fun rst c s' => c.1 = none ∧ ∃ i, rst = (us.toList.zip vs.toList).drop i ∧ i ≤ us.size ∧ I s') _
  case turn =>
    rintro ⟨y, x⟩ rst c s' ⟨hc, i, hz, hi, hI⟩
    have lt : i < (us.toList.zip vs.toList).length := by
      rcases Nat.lt_or_ge i (us.toList.zip vs.toList).length with q | q
      · exact q
      · rw [List.drop_of_length_le q] at hz
        cases hz
    have l1 : i < us.size := hZ ▸ lt
    have l2 : i < vs.size := hsz ▸ l1
    rw [List.drop_eq_getElem_cons lt] at hz
    injection hz with e1 e2
    obtain rfl : y = us[i] := by simpa using congrArg Prod.fst e1
    obtain rfl : x = vs[i] := by simpa using congrArg Prod.snd e1
    refine wpAny_bind (wpAny_mono (turn i l1 l2 s' hI) (fun r s2 q2 => ?_) fun _ _ z => z)
    obtain ⟨er, q2⟩ := q2
    subst er
    wp_walk
    exact ⟨rfl, i + 1, e2, l1, q2⟩
  case fin =>
    rintro ⟨c1, c2⟩ s' ⟨hc, i, hz, hi, hI⟩
    simp only at hc
    subst hc
    have done : R (.ok (.ret (.bool false))) s' := fin s' hI
    wp_walk
    simpa [Builtin.Tuple.tupleCompareSizes, hsz] using done
  case h =>
    exact ⟨rfl, 0, rfl, Nat.zero_le _, start⟩
namespace K88
open PySem PySem.Spec PyProof.Rows L2
section
variable {X : Cx} {n : Nat} {D : Eqv}
/-- x != y: they are equal -/
def rNeG (K : PySem.W.Frag) (D : Eqv) : R2 := fun x y H Q => DTup K D x y H ∧ ∀ H', Ext H H' → Q (.bl false) H'
theorem op_neG (hD : Mon D) (h : EqG X n D) (hr : Room (n + 1) X.A) : OpR X (compareOp .NotEq) (rNeG X.K D) := by
  intro pins s σ H x y v u Q I rx ry hq
  obtain ⟨⟨a, b, xs, ys, rfl, rfl, ha, hb, p⟩, q⟩ := hq
  cases rx
  cases ry
  obtain ⟨its, r, ⟨⟨c1, d1, e1, t1⟩, o1, q1, n1, z1⟩, _⟩ := I.tuple ha
  obtain ⟨its2, r2, ⟨⟨c2, d2, e2, t2⟩, o2, q2, n2, z2⟩, _⟩ := I.tuple hb
  simp only at q1 z1 q2 z2
  subst q1 z1 q2 z2
  have hsz : its.toArray.size = its2.toArray.size := by
    rw [List.size_toArray, List.size_toArray, ← r.length, ← r2.length]
    exact p.1
  have sb : Sub X (n + 1) X.A := ⟨hr, rfl⟩
  refine wpAny_richCompare_same_room (op := .NotEq) ⟨_, o1, rfl⟩ ⟨_, o2, rfl⟩ F.slot_tuple_ne (GQ.call_here F.slot_tuple_ne ⟨_, o1, rfl⟩ F.entry_tuple_ne (F.args_tuple_ne_2 _ _) ?_) hr.units0
  exact tupNe (R := wants (fun v s' => v ≠ .notImplemented ∧ EP X pins σ Q v s') X.xe) a b its.toArray its2.toArray n1 n2 d1 d2 t1 t2 hsz (fun s' => LoopI X pins σ H s')
    (fun i h1 h2 s' l => turnG hD h sb p r r2 i h1 h2 s' l) (fun s' ⟨H', I', e⟩ => ⟨(fun z => nomatch z), .bl false, H', I', rfl, q H' e⟩) o1 o2 ⟨H, I, Ext.rfl'⟩
end
end K88
/-! The law's catching of an error: a lambda is called in a try. -/
namespace K88
open PySem L2 LamX

abbrev sLLine : Stmt := top 60
abbrev llN : List Str := ["work", "fault"]
theorem scLLine : FnScope llN ["work"] (defScope sLLine) := ⟨rfl, rfl, rfl, by decide +kernel, rfl, by decide +kernel, by decide +kernel⟩
/-- what is told: the line and the column of an error, else None -/
def TLine (C : Addr) : (XK → Hp → VK → Prop) → Hp → VK → Prop := fun tl H Q =>
  tl (fun cls d H' => cls = .ref C ∧ ∃ dd l c, d = some dd ∧ H' dd = some (.xd (fldsB l c)) ∧ ∀ t, H' t = none → Q (.ref t) (upd H' t (.tup [.int l, .int c]))) H fun _ H' => Q .non H'
theorem pss_weak {X : Cx} {b : List Stmt} {t t' : TS} (h : PSs X b t) (w : ∀ pins s σ H D, Inv X pins σ H s → t' D σ H → t D σ H) : PSs X b t' := ⟨fun pins s σ H D I q => h.run pins s σ H D I (w pins s σ H D I q)⟩
theorem line_gives {X : Cx} {g C fI : Addr} {cdg : Value} {q : Str} (T : BadL X.K X.mg C fI) (xf : XfC X.K C) (ex : PySem.W.exmOne X.K (.ref C) (.ref C) = some true) :
    GivesTo X llN "_law_line" (defScope sLLine) g cdg (defBody sLLine) "work" q (TLine C) := by
  intro f c' s H Q tl act hc h
  refine ⟨_, pss_cons (ps_try_as (X := (cxOf C8.CX0 X.prog X.w X.K X.mg X.base llN "_law_line" (defScope sLLine) g cdg X.A X.stack s H C8.E0).nox) (c := .ref C) (i := 1)
      (tb := fun W D σ H => ∃ Ech : XK, (∀ cls d σ' H', Ech cls d H' → W cls d σ' H') ∧ σ[0]? = some (some (.ref f)) ∧ H c' = some (CodeO c' q) ∧ tl Ech H (fun _ H' => D.nx σ H'))
      (ts := fun a cls d D σ H => (∃ σ0 : L2.St, σ = σ0.set 1 (some (.ref a))) ∧ cls = .ref C ∧ ∃ dd l c, d = some dd ∧ H dd = some (.xd (fldsB l c)) ∧ ∀ t, H t = none → D.rt (.ref t) (upd H t (.tup [.int l, .int c])))
      rfl rfl scLLine.nd rfl rfl ⟨(by rfl), by decide, .inl T.m⟩ takes0 (fun W pn xe tk _ => ?_) (fun a oe cls d pn hz hf => ?_)) (pss_one (ps_ret pe_non)), ?_⟩
  · refine ⟨fun pins s' σ H' D I h' => ?_⟩
    obtain ⟨Ech, hW, h1, h2, h3⟩ := h'
    exact (pss_one (ps_expr (act W pn xe Ech _ _ tk hW))).run pins s' σ H' D I ⟨h1, h2, h3⟩
  · refine pss_weak (pss_one (ps_ret (pe_tup (pa_cons (pe_xf (a := a) (oe := oe) (pn := pn) xf T.nl hz hf (pv 1)) (pa_cons (pe_xf (a := a) (oe := oe) (pn := pn) xf T.nc hz hf (pv 1)) pa_nil))))) fun pins s' σ H' D I h' => ?_
    obtain ⟨⟨σ0, rfl⟩, hcls, dd, l, c, hd, hx, k⟩ := h'
    have hlen : (σ0.set 1 (some (V.ref a))).length = 2 := I.len
    rw [List.length_set] at hlen
    have h1 : (σ0.set 1 (some (V.ref a)))[1]? = some (some (V.ref a)) := by rw [List.getElem?_set_self (by omega)]
    exact ⟨_, h1, rfl, hcls, dd, fldsB l c, _, hd, hx, rfl, _, h1, rfl, hcls, dd, fldsB l c, _, hd, hx, rfl, two_ok, k⟩
  · exact ⟨_, fun cls d σ' H' ⟨e1, dd, l, c, e2, e3, k⟩ => ⟨true, by rw [e1]; exact ex, fun _ a _ => ⟨⟨σ', rfl⟩, e1, dd, l, c, e2, e3, k⟩, fun z => nomatch z⟩, rfl, hc, h⟩
end K88
/-! The law's end, for a def that may tell reprs and makes lambdas. -/
namespace K88
open PySem PySem.Spec PyProof.Rows L2 LamX
theorem lawGT {P : Program} {w : World} {K : PySem.W.Frag} {mg mB : Str → Option Value} {CX : CXT} {k : Nat} {fa a : Addr} {cds : List (Addr × Addr)} {fd0 : FuncData} {x : Str} {sp0 : Sp} {sA : Shared} {us0 : List Value} {ns0 : List Int}
    (inKs : K.In sA.heap) (nsM : sA.heap.Ns mainGlobals mg) (nsBl : sA.heap.Ns builtinsNs mB) (bltB : ∀ x : Str, x ≠ "__name__" → mB x = bootBuiltins x) (noLim : sA.heap.NoLimit) (gen0 : sA.gens = #[])
    (tabE : ∀ p ∈ cds, sA.heap.get? p.2 = some { cls := .none, data := .fields #[] }) (tabN : ∀ p ∈ cds, K.lookup p.2 = none) (C : ∀ p ∈ cds, PySem.W.CodeHd sA.heap p.1 p.2)
    (modB : ∃ (bmo : Addr) (ob : Obj), mg "__builtins__" = some (.ref bmo) ∧ bmo ≠ builtinsNs ∧ sA.heap.get? bmo = some ob ∧ ob.cls = .type "module" ∧ ob.dict = some builtinsNs ∧ ob.data = .plain)
    (atA : sA.heap.get? a = some { cls := .type "list", data := .seq us0.toArray }) (intA : IntsAre us0 ns0) (lenA : ns0.length ≤ sizeLine) (roomA : Room k callerA)
    (F : ∀ base : Heap, K.In base → base.Ns mainGlobals mg → (∀ p ∈ cds, TabB base mg p.1 p.2) → FnG P w K mg base CX k fa fd0 [x] sp0) (bnd0 : ∀ (s : Shared) (u : Value), BindsTo s fd0 ⟨[u], []⟩ [(x, u)])
    (prom0 : ∀ H : Hp, (∀ p ∈ cds, H p.2 = some (.tbl #[])) → SqL K H a (ns0.map V.int) → sp0 [.ref a] H (fun v _ => v = .bl true) fun _ _ _ => False)
    (noX0 : ∀ H e s', CX [] H sA (fun _ _ _ => False) e s' → False) :
    codeAny (model P w) callerA (.call (.ref fa) ⟨[.ref a], []⟩) (fun r s' => r = .ok (.ret (.bool true)) ∧ OldK sA.heap s'.heap ∧ s'.os = sA.os ∧ AllBare s'.gens) sA := by
  have rvs := vals_ints intA
  have lenU := intA.length
  have tabAt : ∀ b : Addr, b ∈ cds.map (·.2) → sA.heap.get? b = some { cls := .none, data := .fields #[] } := fun b nsBl => by
    obtain ⟨p, hp, e⟩ := List.mem_map.mp nsBl
    rw [← e]
    exact tabE p hp
  have aNot : a ∉ cds.map (·.2) := fun z => by
    have q := tabAt a z
    rw [atA] at q
    have z' : Data.seq us0.toArray _ = Data.fields #[] := congrArg Obj.data (Option.some.inj q)
    cases z'
  have memC : ∀ p ∈ cds, p.2 ∈ cds.map (·.2) := fun p hp => List.mem_map.mpr ⟨p, hp, rfl⟩
  have from0 : ∀ H : Hp, (∀ p ∈ cds, H p.2 = some (.tbl #[])) → (∀ b, H b = none ∨ b ∈ cds.map (·.2) ∨ ∃ o xs, H b = some (.frz o (.lst xs))) → SqL K H a (ns0.map V.int) → HOk P w H sA.heap → (∀ b, H b ≠ none → b = a ∨ b ∈ cds.map (·.2)) → (H a ≠ none → K.lookup a = none) →
      codeAny (model P w) callerA (.call (.ref fa) ⟨[.ref a], []⟩) (fun r s' => r = .ok (.ret (.bool true)) ∧ OldK sA.heap s'.heap ∧ s'.os = sA.os ∧ AllBare s'.gens) sA := by
    intro H tH oH sqA okH onlyH offK
    have bas0 : ∀ {b : Addr} {o : Obj}, sA.heap.get? b = some o → H b = none → (hidT sA.heap H).get? b = some o := fun e n => hidT_get e n
    have noData : ∀ {b : Addr} {o : Obj}, sA.heap.get? b = some o → (∀ us0 n, o.data ≠ .seq us0 n) → o.data ≠ .fields #[] → H b = none := fun {b o} e h1 h2 => by
      cases q : H b with
      | none => rfl
      | some u =>
        rcases onlyH b (by rw [q]; simp) with e' | e'
        · rw [e', atA] at e
          cases e
          exact (h1 _ _ rfl).elim
        · rw [tabAt b e'] at e
          cases e
          exact (h2 rfl).elim
    have noDict : ∀ {b : Addr} {o : Obj} {es : Array DictEntry} {ep : Nat}, sA.heap.get? b = some o → o.data = .dict es ep → H b = none := fun {b o es ep} e d => by
      refine noData e (fun us0 n z => ?_) fun z => ?_
      · rw [d] at z
        cases z
      · rw [d] at z
        cases z
    have nsH : ∀ {b : Addr} {m : Str → Option Value}, sA.heap.Ns b m → (hidT sA.heap H).Ns b m := fun {b m} ⟨o, es, ep, e, d, r⟩ => ⟨o, es, ep, bas0 e (noDict e d), d, r⟩
    have inB : K.In (hidT sA.heap H) := fun b o e => bas0 (inKs b o e) (by
      cases q : H b with
      | none => rfl
      | some u =>
        rcases onlyH b (by rw [q]; simp) with e' | e'
        · rw [e'] at e q
          rw [offK (by rw [q]; simp)] at e
          cases e
        · obtain ⟨p, hp, ep⟩ := List.mem_map.mp e'
          rw [← ep, tabN p hp] at e
          cases e)
    have modH : L2.Mod K mg (hidT sA.heap H) := ⟨inB, nsH nsM, ⟨mB, nsH nsBl, bltB⟩, let ⟨mc, h1, h2⟩ := noLim; ⟨mc, nsH h1, h2⟩⟩
    have tabB : ∀ p ∈ cds, TabB (hidT sA.heap H) mg p.1 p.2 := fun p hp => by
      have hTp := tabE p hp
      refine ⟨?_, ?_, fun z => ?_⟩
      · obtain ⟨o, us, file, tf, flags, tg, inF, text, tt, e1, r1, r2, r3, r4, r5, r6, r7, r8, hne⟩ := C p hp
        refine ⟨o, us, file, tf, flags, tg, inF, text, tt, bas0 e1 (noData e1 (fun us0 n z => ?_) fun z => ?_), r1, r2, r3, r4, r5, r6, r7, r8, hne⟩
        · rw [r2] at z
          cases z
        · rw [r2] at z
          cases z
          simp at r3
      · obtain ⟨bmo, ob, b1, b2, b3, b4, b5, b6⟩ := modB
        have nG : bmo ≠ mainGlobals := fun q => by
          obtain ⟨o, es, ep, e, hd, _⟩ := nsM
          rw [q, e] at b3
          cases b3
          rw [hd] at b6
          cases b6
        have nP : bmo ≠ p.2 := fun q => by
          rw [q, hTp] at b3
          cases b3
          cases b6
        refine ⟨bmo, ob, b1, b2, nG, nP, bas0 b3 (noData b3 (fun us0 n z => ?_) fun z => ?_), b4, b5, b6⟩
        · rw [b6] at z
          cases z
        · rw [b6] at z
          cases z
      · obtain ⟨o, es, ep, e, hd, _⟩ := nsM
        rw [z, hTp] at e
        cases e
        cases hd
    have env1 : Env0 P w K mg (hidT sA.heap H) callerA [] sA H := ⟨rfl, modH, fun b o e => of_hidT e, Nat.le_of_eq (hidT_size _ _), trivial, fun b nsBl => absurd (show b ∈ ([] : List Addr) from nsBl) (by simp), okH, .of_eq gen0⟩
    refine codeAny_mono ((F _ inB (nsH nsM) tabB).run callerA [] sA H ⟨[.ref a], []⟩ [.ref a] [.ref a] _ _ rfl roomA env1 (bnd0 sA (.ref a)) (.cons rfl .nil) (prom0 H tH sqA)) fun r s' h => ?_
    cases r with
    | error e => exact (noX0 H e s' h).elim
    | ok fl =>
      cases fl with
      | next => exact False.elim h
      | brk => exact False.elim h
      | cont => exact False.elim h
      | ret u =>
        obtain ⟨v, H', os, bare, un, hok', r', q⟩ := h
        have q' : v = .bl true := q
        subst q'
        obtain rfl : u = Value.bool true := r'
        have stay : ∀ b o, b ∉ cds.map (·.2) → sA.heap.get? b = some o → s'.heap.get? b = some o := fun b o nb e => by
          cases q : H b with
          | none => exact un.keep b o e q (by intro z; exact absurd (show b ∈ ([] : List Addr) from z) (by simp)) (by simp)
          | some u =>
            rcases oH b with z | z | ⟨ob, xs, z⟩
            · rw [q] at z; cases z
            · exact absurd z nb
            · have z2 := un.frzs b ob _ z
              obtain ⟨e1, _⟩ := okH b _ z
              obtain ⟨e2, _⟩ := hok' b _ z2
              rw [e] at e1; cases e1
              exact e2
        have grew : ∀ p ∈ cds, ∃ more : Array Value, s'.heap.get? p.2 = some { cls := .none, data := .fields more } := fun p hp => by
          obtain ⟨more, z⟩ := un.tbls p.2 #[] (tH p hp)
          exact ⟨_, hok' p.2 _ z⟩
        refine ⟨rfl, ⟨fun b o e => ?_, fun b o e => ?_⟩, os, bare⟩
        · by_cases nsBl : b ∈ cds.map (·.2)
          · obtain ⟨p, hp, ep⟩ := List.mem_map.mp nsBl
            obtain ⟨more, hm⟩ := grew p hp
            rw [← ep] at e ⊢
            rw [tabE p hp] at e
            cases e
            exact .inr (.inl ⟨((C p hp).tab (tabE p hp)).isCodeTable, rfl, #[], more, rfl, by rw [Array.empty_append]; exact hm⟩)
          · exact .inl (stay b o nsBl e)
        · by_cases nsBl : b ∈ cds.map (·.2)
          · obtain ⟨p, hp, ep⟩ := List.mem_map.mp nsBl
            obtain ⟨more, hm⟩ := grew p hp
            rw [← ep]
            exact ⟨_, hm⟩
          · exact ⟨o, stay b o nsBl e⟩
  cases hk : K.lookup a with
  | some o =>
    have e := inKs a o hk
    rw [atA] at e
    cases e
    refine from0 (fun b => if b ∈ cds.map (·.2) then some (.tbl #[]) else none) (fun p hp => if_pos (memC p hp)) (fun b => ?_) (.inr ⟨_, us0.toArray, _, hk, rfl, rfl, rfl, by rw [List.size_toArray, lenU]; exact lenA, by simpa using rvs⟩) (fun b u z => ?_) (fun b z => ?_) fun z => absurd (show (if a ∈ cds.map (·.2) then some (HO.tbl #[]) else none) = none from if_neg aNot) z
    · by_cases nsBl : b ∈ cds.map (·.2)
      · exact .inr (.inl nsBl)
      · exact .inl (if_neg nsBl)
    · by_cases nsBl : b ∈ cds.map (·.2)
      · have z' := (if_pos nsBl).symm.trans z
        cases z'
        exact tabAt b nsBl
      · have z' := (if_neg nsBl).symm.trans z
        cases z'
    · by_cases nsBl : b ∈ cds.map (·.2)
      · exact .inr nsBl
      · exact absurd (if_neg nsBl) z
  | none =>
    refine from0 (fun b => if b = a then some (.frz { cls := .type "list", data := .seq us0.toArray } (.lst (ns0.map V.int))) else if b ∈ cds.map (·.2) then some (.tbl #[]) else none) (fun p hp => (if_neg (show ¬ p.2 = a from fun z => aNot (by rw [← z]; exact memC p hp))).trans (if_pos (memC p hp))) (fun b => ?_)
      (.inl (.inr ⟨{ cls := .type "list", data := .seq us0.toArray }, if_pos rfl⟩)) (fun b u z => ?_) (fun b z => ?_) fun _ => hk
    · by_cases nsBl : b = a
      · exact .inr (.inr ⟨_, _, if_pos nsBl⟩)
      · by_cases hb2 : b ∈ cds.map (·.2)
        · exact .inr (.inl hb2)
        · exact .inl ((if_neg nsBl).trans (if_neg hb2))
    · by_cases nsBl : b = a
      · have z' := (if_pos nsBl).symm.trans z
        cases z'
        rw [nsBl]
        exact ⟨atA, by rw [List.length_map]; exact lenA, us0, _, rvs, atA⟩
      · have z1 := (if_neg nsBl).symm.trans z
        by_cases hb2 : b ∈ cds.map (·.2)
        · have z' := (if_pos hb2).symm.trans z1
          cases z'
          exact tabAt b hb2
        · have z' := (if_neg hb2).symm.trans z1
          cases z'
    · by_cases nsBl : b = a
      · exact .inl nsBl
      · by_cases hb2 : b ∈ cds.map (·.2)
        · exact .inr hb2
        · exact absurd ((if_neg nsBl).trans (if_neg hb2)) z
/-- what the head tells of the law's promise -/
def LawG (l : PySem.W.OpenLaw) (w : World) (K : PySem.W.Frag) (CX : CXT) (k n : Nat) (x : Str) (mg : Str → Option Value) (fa : Addr) (h : Heap) : Prop :=
  ∃ (fd0 : FuncData) (cds : List (Addr × Addr)) (sp0 : Sp), (∀ p ∈ cds, h.get? p.2 = some { cls := .none, data := .fields #[] }) ∧ (∀ p ∈ cds, K.lookup p.2 = none) ∧ (∀ p ∈ cds, PySem.W.CodeHd h p.1 p.2) ∧ (∀ (s : Shared) (u : Value), BindsTo s fd0 ⟨[u], []⟩ [(x, u)]) ∧
    (∀ (H : Hp) (a : Addr) (ns0 : List Int), ns0.length ≤ n → (∀ p ∈ cds, H p.2 = some (.tbl #[])) → SqL K H a (ns0.map V.int) → sp0 [.ref a] H (fun v _ => v = .bl true) fun _ _ _ => False) ∧
    ∀ base : Heap, K.In base → base.Ns mainGlobals mg → (∀ p ∈ cds, TabB base mg p.1 p.2) → FnG l.prog w K mg base CX k fa fd0 [x] sp0
theorem walkGT {l : PySem.W.OpenLaw} {n k : Nat} {q : Program} {loose : List Str} {XP : (Str → Option Value) → Heap → Prop} {YP : World → Heap → Prop} {d : DefRec} {CX : World → CXT} {x : Str}
    (hn : l.most = some n) (hn2 : n ≤ sizeLine) (hdf : d.params.defaults = []) (hr : Room k callerA)
    (F : ∀ (w : World) (mg : Str → Option Value) (fa : Addr) (h : Heap), YP w h → h.Ns mainGlobals mg → mg d.name = some (.ref fa) → ∃ K : PySem.W.Frag, K.In h ∧ LawG l w K (CX w) k n x mg fa h)
    (hCX : ∀ (w : World) (H : Hp) (s : Shared) (e : Value) (s' : Shared), CX w [] H s (fun _ _ _ => False) e s' → False) :
    PySem.W.WalkO q loose XP YP l.row.toRowW d [] (fun f vs => PySem.call f vs) := by
  refine Att.attach_callB hn hdf fun w s₀ sA mg mB fa o pm cd doc a us0 ns0 G Y ho hd hcd hmg hobj hints hlen hbits hg => ?_
  obtain ⟨K, KX, fd0, cds, sp0, hT, nT, C, hb, hsp, hF⟩ := F w mg fa _ Y G.T.g hmg
  exact lawGT KX G.T.g G.T.b G.T.builtins G.T.nolimit hg hT nT C G.T.bmain hobj hints (Nat.le_trans hlen hn2) hr hF hb (fun H hH hS => hsp H a ns0 hlen hH hS) fun H e s' => hCX w H sA e s'
end K88
/-! A wrong place lies within its line. -/
namespace K88
open PySem L2

theorem gap_bad {z : Str} {k w : Nat} (hk : k ≤ z.length) (h : gapR z k = .inr w) : w ≤ z.length := by
  rw [gap_wrong h]
  exact hk
theorem word_bad {z : Str} : ∀ (l : List Nat) (k w : Nat), k ≤ z.length → wordR z l k = .inr w → w ≤ z.length
  | [], k, w, hk, h => by
    unfold wordR at h
    split at h
    · cases h
    · split at h
      · cases h
      · cases h
        exact hk
  | c :: r, k, w, hk, h => by
    by_cases e : z.cps.toList[k]? = some c
    · rw [word_hit e] at h
      refine word_bad r (k + 1) w ?_ h
      rcases Nat.lt_or_ge k z.length with q | q
      · exact q
      · rw [at_none q] at e
        cases e
    · rw [word_miss e] at h
      cases h
      exact hk
theorem name_bad {z : Str} {k w : Nat} (hk : k ≤ z.length) (h : nameR z k = .inr w) : w ≤ z.length := by
  have r := run_le (g := bothS) hk
  cases hc : z.cps.toList[k]? with
  | none =>
    rw [name_none hc] at h
    cases h
    exact hk
  | some c =>
    by_cases n : c ∈ smallS.cps.toList
    · rw [name_is hc n] at h
      split at h
      · cases h
        omega
      · split at h
        · cases h
          exact r
        · cases h
    · rw [name_not hc n] at h
      cases h
      exact hk
theorem one_bad {z : Str} {T : List Str} {k w : Nat} (hk : k ≤ z.length) (h : oneR z T k = .inr w) : w ≤ z.length := by
  unfold oneR at h
  split at h
  · cases h
  · cases h
    exact extR_le hk
theorem rest_bad {z : Str} {k w : Nat} (hk : k ≤ z.length) (h : restR z k = some w) : w ≤ z.length := by
  unfold restR at h
  split at h
  · cases h
  · cases h
    exact run_le hk
theorem title_bad {z : Str} {told : Str → Bool} {w : Nat} (h : titleR z told = .inr w) : w ≤ z.length := by
  have r0 := run_le (g := spaceS) (Nat.zero_le z.length)
  unfold titleR at h
  split at h
  · rename_i w' hw
    cases h
    exact word_bad _ _ _ r0 hw
  · rename_i k1 hw
    have b1 := (word_le _ _ _ r0 hw).2
    split at h
    · rename_i w' hw
      cases h
      exact gap_bad b1 hw
    · rename_i k2 hw
      have b2 := (run_cases b1 hw).2
      split at h
      · rename_i w' hw
        cases h
        exact name_bad b2 hw
      · rename_i e hw
        have b3 := (name_le b2 hw).2
        split at h
        · cases h
          exact b2
        · split at h
          · rename_i w' hw
            cases h
            exact gap_bad b3 hw
          · rename_i k3 hw
            have b4 := (run_cases b3 hw).2
            split at h
            · rename_i w' hw
              cases h
              exact one_bad b4 hw
            · rename_i e2 hw
              have b5 := (one_le b4 hw).2.1
              split at h
              · rename_i w' hw
                cases h
                exact rest_bad b5 hw
              · cases h
theorem end_bad {z : Str} {w : Nat} (h : endR z = some w) : w ≤ z.length := by
  have r0 := run_le (g := spaceS) (Nat.zero_le z.length)
  unfold endR at h
  split at h
  · rename_i w' hw
    cases h
    exact word_bad _ _ _ r0 hw
  · rename_i k1 hw
    exact rest_bad (word_le _ _ _ r0 hw).2 h
theorem lap_bad {z : Str} {m : Nat} {ns : List Nat} {r : Nat ⊕ Nat} {w : Nat} (hr : ∀ k, r = .inl k → k ≤ z.length) (hw' : ∀ k, r = .inr k → k ≤ z.length) (h : lapT z m ns r = .inr w) : w ≤ z.length := by
  cases r with
  | inr w' =>
    cases h
    exact hw' _ rfl
  | inl k =>
    have b1 := hr k rfl
    unfold lapT at h
    simp only at h
    split at h
    · rename_i w' hw
      cases h
      exact gap_bad b1 hw
    · rename_i k2 hw
      have b2 := (run_cases b1 hw).2
      split at h
      · rename_i w' hw
        cases h
        exact one_bad b2 hw
      · rename_i e hw
        split at h
        · cases h
        · split at h
          · cases h
            exact extR_le b2
          · cases h
theorem tie_bad {z : Str} {m w : Nat} (hm : m ≤ 12) (h : tieR z m = .inr w) : w ≤ z.length := by
  have r0 := run_le (g := spaceS) (Nat.zero_le z.length)
  have a1 : ∀ k, wordR z tieL (run z spaceS 0) = .inl k → k ≤ z.length := fun k e => (word_le _ _ _ r0 e).2
  have a2 : ∀ k, wordR z tieL (run z spaceS 0) = .inr k → k ≤ z.length := fun k e => word_bad _ _ _ r0 e
  unfold tieR at h
  cases h1 : lapT z m [] (wordR z tieL (run z spaceS 0)) with
  | inr w' =>
    simp only [h1] at h
    cases h
    exact lap_bad a1 a2 h1
  | inl p =>
    obtain ⟨e1, a⟩ := p
    simp only [h1] at h
    have b1 : e1 ≤ z.length := by
      cases hw : wordR z tieL (run z spaceS 0) with
      | inr w' =>
        rw [hw] at h1
        cases h1
      | inl k =>
        rw [hw] at h1
        exact (lap_le hm (a1 k hw) h1).1
    cases h2 : lapT z m [a] (.inl e1) with
    | inr w' =>
      simp only [h2] at h
      cases h
      exact lap_bad (fun k e => by cases e; exact b1) (fun k e => by cases e) h2
    | inl p2 =>
      obtain ⟨e2, b⟩ := p2
      simp only [h2] at h
      have b2 := (lap_le hm b1 h2).1
      split at h
      · rename_i w' hw
        cases h
        exact rest_bad b2 hw
      · cases h
theorem step_bad {n : Int} {z : Str} {s : LSt} {l c : Int} (ok : StOk s) (h : stepL n z s = .inr (l, c)) : l = n ∧ 1 ≤ c ∧ c ≤ z.length + 1 := by
  obtain ⟨found, o⟩ := s
  cases o with
  | none =>
    rw [show stepL n z (found, none) = stepN n z found from rfl] at h
    unfold stepN at h
    split at h
    · rename_i w hw
      cases h
      have := title_bad hw
      omega
    · cases h
  | some it =>
    obtain ⟨nm, m, ts⟩ := it
    have hm : m ≤ 12 := (ok.2 _ rfl).2.1
    rw [show stepL n z (found, some (nm, m, ts)) = stepS n z found nm m ts from rfl] at h
    unfold stepS at h
    split at h
    · split at h
      · rename_i w hw
        cases h
        have := end_bad hw
        omega
      · cases h
    · split at h
      · split at h
        · rename_i w hw
          cases h
          have := tie_bad hm hw
          omega
        · cases h
      · cases h
        have := run_le (g := spaceS) (Nat.zero_le z.length)
        omega
theorem laps_bad {B : Nat} : ∀ {ls : List (Int × Str)} {s : LSt} {l c : Int}, StOk s → (∀ q ∈ ls, q.2.length ≤ B) → lapsL ls s = .inr (l, c) → (∃ q ∈ ls, l = q.1) ∧ 1 ≤ c ∧ c ≤ B + 1
  | [], s, l, c, _, _, h => by cases h
  | (n, z) :: ls, s, l, c, ok, hb, h => by
    have h : (match stepL n z s with | .inr p => Sum.inr p | .inl s' => lapsL ls s') = .inr (l, c) := h
    cases e : stepL n z s with
    | inr p =>
      rw [e] at h
      obtain ⟨l', c'⟩ := p
      cases h
      obtain ⟨a1, a2, a3⟩ := step_bad ok e
      have b : z.length ≤ B := hb (n, z) List.mem_cons_self
      exact ⟨⟨_, List.mem_cons_self, a1⟩, a2, by omega⟩
    | inl s1 =>
      rw [e] at h
      obtain ⟨⟨q, hq, el⟩, b2, b3⟩ := laps_bad (step_ok e ok).1 (fun q hq => hb q (List.mem_cons_of_mem _ hq)) h
      exact ⟨⟨q, List.mem_cons_of_mem _ hq, el⟩, b2, b3⟩
theorem outL_num {ls : List Str} : ∀ {i : Nat}, ∀ q ∈ outL ls i, 1 ≤ q.1 ∧ q.1 ≤ i
  | 0, q, h => absurd h List.not_mem_nil
  | i + 1, q, h => by
    unfold outL at h
    rcases List.mem_append.mp h with h | h
    · have := outL_num q h
      omega
    · split at h
      · split at h
        · rw [List.mem_singleton.mp h]
          show 1 ≤ (i : Int) + 1 ∧ (i : Int) + 1 ≤ ((i + 1 : Nat) : Int)
          omega
        · exact absurd h List.not_mem_nil
      · exact absurd h List.not_mem_nil
/-- the line and the column that are told are small -/
theorem read_bad {z : Str} {l c : Int} (hz : z.length ≤ 20000) (h : readL (linesR z) = .inr (l, c)) : 0 ≤ l ∧ l ≤ 30000 ∧ 0 ≤ c ∧ c ≤ 30000 := by
  obtain ⟨f1, f2⟩ := lines_facts hz
  unfold readL at h
  cases e : lapsL (outL (linesR z) (linesR z).length) ([], none) with
  | inr p =>
    rw [e] at h
    obtain ⟨l', c'⟩ := p
    cases h
    obtain ⟨⟨q, hq, el⟩, b2, b3⟩ := laps_bad (B := 20000) ⟨fun q h => absurd h List.not_mem_nil, fun q h => by cases h⟩ (fun q hq => f2 _ (outL_ok q hq).1) e
    have := outL_num q hq
    omega
  | inl s =>
    rw [e] at h
    obtain ⟨found, o⟩ := s
    cases o with
    | none => cases h
    | some it =>
      cases h
      omega
end K88
/-! Parts of the law. -/
namespace K88
open PySem L2 LamX

/-! ### tables stay -/
theorem codeO_dk {c : Addr} {q : Str} (kvs : List (Key × V)) : CodeO c q ≠ .dK kvs := fun z => by
  unfold CodeO at z
  cases z
theorem tabs_keep {K : PySem.W.Frag} {T : List (Addr × Str)} {H H' : Hp} {p : Addr} {z : Addr × List Int} {n : Nat} (S : PenAt K H p z n) (k : KeepBut p H H') (t : Tabs T H) : Tabs T H' := fun q hq => by
  obtain ⟨kvs, hp⟩ := S.dict
  obtain ⟨ps, h1, h2, h3⟩ := t q hq
  refine ⟨ps, k _ _ h1 (ne_of h1 hp (by intro z; cases z)), h2, fun pos cv hc => ?_⟩
  obtain ⟨c, e1, e2⟩ := h3 pos cv hc
  exact ⟨c, e1, k _ _ e2 (ne_of e2 hp (codeO_dk _))⟩
theorem PenAt.extN {K : PySem.W.Frag} {H H' : Hp} {p : Addr} {z : Addr × List Int} {n : Nat} (h : PenAt K H p z n) (e : ExtN H H') : PenAt K H' p z n := by
  obtain ⟨⟨a, d, c, fo, hp, hl, r⟩⟩ := h
  refine ⟨⟨a, d, c, fo, e _ _ hp (fun ps z => by cases z), ?_, r⟩⟩
  rcases hl with (hl | ⟨o, hl⟩) | hl
  · exact .inl (.inl (e _ _ hl (fun ps z => by cases z)))
  · exact .inl (.inr ⟨o, e _ _ hl (fun ps z => by cases z)⟩)
  · exact .inr hl
/-! ### the webs that are made -/
def madeL (ds : List DItem) : List Item := ds.map fun d => (d.name, d.m, d.ts)
theorem itemsX_put {K : PySem.W.Frag} {CW : Addr} {H : Hp} {p : Addr} {l : List V} {o : HO} (hp : H p = some (.lst l)) : ∀ {xs : List V} {L : List Item}, Paired (ItemX K CW H) xs L → Paired (ItemX K CW (upd H p o)) xs L
  | _, _, .nil => .nil
  | _, _, .cons ⟨⟨t, w', dx, u, ys, e, h1, h2, h3, h4⟩⟩ r =>
    .cons ⟨⟨t, w', dx, u, ys, e, by rw [upd_ne (ne_of h1 hp (by intro z; cases z))]; exact h1, by rw [upd_ne (ne_of h2 hp (by intro z; cases z))]; exact h2, by rw [upd_ne (ne_of h3 hp (by intro z; cases z))]; exact h3, two_putL hp h4⟩⟩ (itemsX_put hp r)
abbrev g4 (K : PySem.W.Frag) : TG := gTup K 4 (gCons (gName 11) (gCons (gName 12) (gCons (gName 13) (gCons (gName 14) gNil))))
abbrev tMade (K : PySem.W.Frag) (CW : Addr) : TE := tTup (tCons (tVar 11) (tCons (tMake CW (spWebI K CW) [] E0 (tCons (tVar 12) (tCons (tVar 13) tNil))) tNil))
section
variable {K : PySem.W.Frag} {H : Hp} {CW : Addr}
theorem pairOk_of {m : Nat} {ts : List (Int × Int)} (h : TiesOk m ts) : ∀ q ∈ ts, PairOk m q := fun q hq => by
  obtain ⟨a, b, e, h1, h2⟩ := h.2 q hq
  exact ⟨a, b, e, by omega, h2, by omega⟩
theorem made_read {Q : VK} {t : Addr} {xs : List V} {ds : List DItem} {b0 b1 : Option V} (hT : H t = some (.lst xs)) (hds : Paired (DAt t H) xs ds) (hok : ∀ d ∈ ds, DOk d) (h3 : ds.length ≤ 3)
    (k : ∀ D H' ws, Same H H' → H' D = some (.lst ws) → Paired (ItemX K CW H') ws (madeL ds) → Q (.ref D) H') :
    tLc (iList K (tVar 2)) (g4 K) tYes (tMade K CW) [11, 12, 13, 14] [b0, b1, some (.ref t), none, none, none, none, none, none, none, none, none, none, none, none] H Q := by
  have hlen := paired_len hds
  refine ⟨_, rfl, t, rfl, ⟨xs, .inl (.inl hT)⟩, fun D nD => lc_list (xs := xs) (fun i H2 => Same H H2 ∧ ∃ ws, H2 D = some (.lst ws) ∧ Paired (ItemX K CW H2) ws ((madeL ds).take i) ∧ i ≤ xs.length) ⟨same_new nD, [], upd_same, .nil, Nat.zero_le _⟩ (fun i H2 _ h => .inl (.inl (h.1 _ _ hT))) ?_ ?_⟩
  · rintro i x H2 hx ⟨sm, ws, hD, hws, hi⟩
    obtain ⟨d, hd, ⟨⟨tt, u, w', ys, zs, rfl, e1, e2, e3, e4, e5, e6⟩⟩⟩ := paired_get hds hx
    have okd := hok d (List.mem_of_getElem? hd)
    have hil : i < xs.length := by
      rcases Nat.lt_or_ge i xs.length with y | y
      · exact y
      · rw [List.getElem?_eq_none y] at hx
        cases hx
    refine ⟨tt, _, rfl, .inl (.inl (sm _ _ e1)), rfl, _, _, rfl, _, _, rfl, _, _, rfl, _, _, rfl, rfl, rfl, ?_⟩
    refine yes_then ?_
    refine ⟨_, rfl, _, rfl, _, rfl, ?_⟩
    intro x dx nx ndx ne
    have sX : Same H2 (upd (upd H2 dx (.own x)) x (.ins CW dx [])) := fun b' o' eb => by
      rw [upd_ne (ne_of_none eb nx), upd_ne (ne_of_none eb ndx)]
      exact eb
    refine ⟨x, dx, u, d.m, d.ts, rfl, upd_same, .tup (.inl (.inl (sX _ _ (sm _ _ e2)))) (of_two (pairs_two (pairs_map (fun _ _ _ e => sX _ _ (sm _ _ e)) e3))), okd.lo, okd.hi, okd.ties, fun H4 u2 ys2 rs keep hx4 hu hys srt perm => ⟨rfl, two_ok, fun t6 nt6 => ?_⟩⟩
    have back : Same H2 H4 := fun b' o' eb => keep b' o' (sX b' o' eb) (ne_of_none eb nx)
    have s6 := same_new (o := .tup [.str d.name, .ref x]) nt6
    have hD6 := s6 _ _ (back _ _ hD)
    have ers : rs = d.ts := srtd_uniq srt okd.srt perm
    subst ers
    refine ⟨ws, hD6, ?_, fun c o e => ?_, ws ++ [.ref t6], upd_same, ?_, hil⟩
    · have := paired_len hws
      rw [List.length_take] at this
      have e : (madeL ds).length = ds.length := List.length_map _
      exact Nat.lt_of_le_of_lt (show ws.length ≤ 3 by omega) (by decide)
    · rw [upd_ne (ne_of_none e nD)]
      exact s6 _ _ (back _ _ (sm c o e))
    · have hq : (madeL ds)[i]? = some (d.name, d.m, d.ts) := by
        unfold madeL
        rw [List.getElem?_map, hd]
        rfl
      rw [take_more hq]
      have h1' : Paired (ItemX K CW (upd (upd H4 t6 (.tup [.str d.name, .ref x])) D (.lst (ws ++ [.ref t6])))) (ws ++ [.ref t6]) ((madeL ds).take i ++ [(d.name, d.m, d.ts)]) :=
        itemsX_put hD6 (Paired.snoc (itemsX_same (back.trans s6) hws) ⟨⟨t6, x, dx, u2, ys2, rfl, upd_same, s6 _ _ hx4, s6 _ _ hu, two_same s6 (two_of hys)⟩⟩)
      exact h1'
  · rintro H2 ⟨sm, ws, hD, hws, _⟩
    rw [List.take_of_length_le (by unfold madeL; rw [List.length_map, hlen]; exact Nat.le_refl _)] at hws
    exact k D H2 ws sm hD hws
abbrev tPlainW (K : PySem.W.Frag) : TE := tCall (spWText K) [] E0 (tCons (tVar 11) (tCons (tVar 12) (tCons (tVar 13) tNil)))
theorem plain_read {Q : VK} {t : Addr} {xs : List V} {ds : List DItem} {b0 b1 b3 : Option V} (hT : H t = some (.lst xs)) (hds : Paired (DAt t H) xs ds) (hok : ∀ d ∈ ds, DOk d) (h3 : ds.length ≤ 3)
    (k : ∀ D H', Same H H' → H' D = some (.lst (((madeL ds).map fun q => webText q.1 q.2.1 q.2.2).map V.str)) → Q (.ref D) H') :
    tLc (iList K (tVar 2)) (g4 K) tYes (tPlainW K) [11, 12, 13, 14] [b0, b1, some (.ref t), b3, none, none, none, none, none, none, none, none, none, none, none] H Q := by
  have hlen := paired_len hds
  refine ⟨_, rfl, t, rfl, ⟨xs, .inl (.inl hT)⟩, fun D nD => lc_list (xs := xs) (fun i H2 => Same H H2 ∧ H2 D = some (.lst ((((madeL ds).take i).map fun q => webText q.1 q.2.1 q.2.2).map V.str)) ∧ i ≤ xs.length) ⟨same_new nD, upd_same, Nat.zero_le _⟩ (fun i H2 _ h => .inl (.inl (h.1 _ _ hT))) ?_ ?_⟩
  · rintro i x H2 hx ⟨sm, hD, hi⟩
    obtain ⟨d, hd, ⟨⟨tt, u, w', ys, zs, rfl, e1, e2, e3, e4, e5, e6⟩⟩⟩ := paired_get hds hx
    have okd := hok d (List.mem_of_getElem? hd)
    have hil : i < xs.length := by
      rcases Nat.lt_or_ge i xs.length with y | y
      · exact y
      · rw [List.getElem?_eq_none y] at hx
        cases hx
    refine ⟨tt, _, rfl, .inl (.inl (sm _ _ e1)), rfl, _, _, rfl, _, _, rfl, _, _, rfl, _, _, rfl, rfl, rfl, ?_⟩
    refine yes_then ?_
    refine ⟨_, rfl, _, rfl, _, rfl, d.name, d.m, u, ys, d.ts, rfl, okd.nm, okd.lo, okd.hi, .inr (.inl (.inl (sm _ _ e2))), pairs_two (pairs_map (fun _ _ _ e => sm _ _ e) e3), pairOk_of okd.ties, okd.ties.1, fun H3 s3 => ?_⟩
    have hq : (madeL ds)[i]? = some (d.name, d.m, d.ts) := by
      unfold madeL
      rw [List.getElem?_map, hd]
      rfl
    refine ⟨_, s3 _ _ hD, ?_, fun c o e => ?_, ?_, hil⟩
    · rw [List.length_map, List.length_map, List.length_take]
      have e : (madeL ds).length = ds.length := List.length_map _
      exact Nat.lt_of_le_of_lt (show min i (madeL ds).length ≤ 3 by omega) (by decide)
    · rw [upd_ne (ne_of_none e nD)]
      exact s3 _ _ (sm c o e)
    · rw [upd_same, take_more hq, List.map_append, List.map_append]
      rfl
  · rintro H2 ⟨sm, hD, _⟩
    rw [List.take_of_length_le (by unfold madeL; rw [List.length_map, hlen]; exact Nat.le_refl _)] at hD
    exact k D H2 sm hD
end
/-! ### what is read from the two texts -/
theorem told_same : ∀ {ds : List DItem}, (∀ d ∈ ds, DOk d) → Paired SameI (itemsD ds) (madeL ds)
  | [], _ => .nil
  | d :: ds, h => .cons ⟨rfl, rfl, (h d List.mem_cons_self).perm⟩ (told_same fun x hx => h x (List.mem_cons_of_mem _ hx))
theorem made_norm : ∀ {ds : List DItem}, (∀ d ∈ ds, DOk d) → Paired NormOf (madeL ds) (madeL ds)
  | [], _ => .nil
  | d :: ds, h => .cons ⟨rfl, rfl, (h d List.mem_cons_self).srt, List.Perm.refl _⟩ (made_norm fun x hx => h x (List.mem_cons_of_mem _ hx))
theorem made_facts {ds : List DItem} (h : ∀ d ∈ ds, DOk d) : ∀ q ∈ madeL ds, NameOk q.1 ∧ 1 ≤ q.2.1 ∧ q.2.1 ≤ 12 ∧ (∀ p ∈ q.2.2, PairOk q.2.1 p) ∧ q.2.2.length ≤ 8 := fun q hq => by
  obtain ⟨d, hd, rfl⟩ := List.mem_map.mp hq
  have o := h d hd
  exact ⟨o.nm, o.lo, o.hi, pairOk_of o.ties, o.few⟩
theorem name_nm {s : Str} (h : NameOk s) : NmOk s := ⟨by rw [← len_cps]; exact h.len, fun c hc => both_small c (h.all c hc)⟩
theorem made_small {ds : List DItem} (h : ∀ d ∈ ds, DOk d) : ∀ q ∈ madeL ds, Small q := fun q hq => by
  obtain ⟨d, hd, rfl⟩ := List.mem_map.mp hq
  have o := h d hd
  exact ⟨⟨o.lo, o.hi, o.ties⟩, name_nm o.nm⟩
theorem made_sum : ∀ {ds : List DItem}, (∀ d ∈ ds, DOk d) → ((madeL ds).map fun q => q.2.2.length + 2).sum ≤ 10 * ds.length
  | [], _ => Nat.le_refl _
  | d :: ds, h => by
    have i := made_sum (ds := ds) fun x hx => h x (List.mem_cons_of_mem _ hx)
    have o := (h d List.mem_cons_self).few
    show d.ts.length + 2 + ((madeL ds).map fun q => q.2.2.length + 2).sum ≤ 10 * (ds.length + 1)
    omega
theorem nrm_id {m : Nat} : ∀ {ts : List (Int × Int)}, TiesOk m ts → ts.map nrm = ts
  | [], _ => rfl
  | q :: ts, h => by
    obtain ⟨a, b, rfl, hab, _⟩ := h.2 q List.mem_cons_self
    rw [List.map_cons, (nrm_lt hab).1, nrm_id (m := m) ⟨by have := h.1; rw [List.length_cons] at this; omega, fun x hx => h.2 x (List.mem_cons_of_mem _ hx)⟩]
/-- the plain text -/
def plainS (ds : List DItem) : Str := Txt.join "" ((madeL ds).map fun q => webText q.1 q.2.1 q.2.2)
theorem joinL_flat : ∀ ls : List (List Nat), TL.joinL [] ls = ls.flatten
  | [] => rfl
  | [p] => by simp [TL.joinL]
  | p :: q :: r => by
    show p ++ ([] ++ TL.joinL [] (q :: r)) = _
    rw [joinL_flat (q :: r), List.nil_append]
    simp
theorem tl_plain (ds : List DItem) : tl (plainS ds) = (((madeL ds).map fun q => webText q.1 q.2.1 q.2.2).map tl).flatten := by
  unfold plainS
  rw [tl_join, show tl ("" : Str) = [] by decide +kernel, joinL_flat]
theorem plain_reads {ds : List DItem} (h : ∀ d ∈ ds, DOk d) (hnd : (ds.map (·.name)).Nodup) : Reads (plainS ds) (madeL ds, none) := by
  have key : ∀ i, i ≤ ds.length → ∀ y : Str, tl y = ((((madeL ds).take i).map fun q => webText q.1 q.2.1 q.2.2).map tl).flatten → Reads y ((madeL ds).take i, none) := by
    intro i
    induction i with
    | zero =>
      intro _ y hy
      have e : y = ⟨#[]⟩ := str_ext hy
      rw [e]
      exact Reads.nil
    | succ i ih =>
      intro hi y hy
      have hd : ds[i]? = some ds[i] := List.getElem?_eq_getElem (by omega)
      have o := h _ (List.mem_of_getElem? hd)
      have hq : (madeL ds)[i]? = some (ds[i].name, ds[i].m, ds[i].ts) := by
        unfold madeL
        rw [List.getElem?_map, hd]
        rfl
      rw [take_more hq, List.map_append, List.map_append, List.flatten_append] at hy
      have ez : tl (⟨(((((madeL ds).take i).map fun q => webText q.1 q.2.1 q.2.2).map tl).flatten).toArray⟩ : Str) = ((((madeL ds).take i).map fun q => webText q.1 q.2.1 q.2.2).map tl).flatten := rfl
      have nt : (((madeL ds).take i).map (·.1)).contains ds[i].name = false := by
        have e : ((madeL ds).take i).map (·.1) = (ds.take i).map (·.name) := by
          unfold madeL
          rw [← List.map_take, List.map_map]
          rfl
        rw [e]
        exact fresh_name hnd hd
      have r := (ih (by omega) _ ez).web (y := y) (ts := ds[i].ts) o.nm nt o.lo o.hi (pairOk_of o.ties) o.ties.1 (by rw [hy, ez]; simp)
      rw [nrm_id o.ties] at r
      rw [take_more hq]
      exact r
  have e := key ds.length (Nat.le_refl _) (plainS ds) (by
    rw [tl_plain, List.take_of_length_le]
    unfold madeL
    rw [List.length_map]
    exact Nat.le_refl _)
  rw [List.take_of_length_le (by unfold madeL; rw [List.length_map]; exact Nat.le_refl _)] at e
  exact e
theorem plain_len {ds : List DItem} (h : ∀ d ∈ ds, DOk d) (h3 : ds.length ≤ 3) : (plainS ds).length ≤ 2000 := by
  have a := webs_short (made_facts h)
  have e : (madeL ds).length = ds.length := List.length_map _
  have b : ∀ ls : List Str, ((ls.map tl).flatten).length = (ls.map (·.length)).sum := by
    intro ls
    induction ls with
    | nil => rfl
    | cons l ls ih =>
      rw [List.map_cons, List.flatten_cons, List.length_append, ih, List.map_cons, List.sum_cons, show (tl l).length = l.length from len_cps l]
  rw [← len_cps, show (plainS ds).cps.toList = _ from tl_plain ds, b]
  omega
/-- a text that tells a web is not empty -/
theorem reads_pos {z : Str} {its : List Item} (h : Reads z (its, none)) (h1 : 1 ≤ its.length) : 1 ≤ z.length := by
  rcases Nat.eq_zero_or_pos z.length with e | e
  · obtain ⟨ls, ⟨h2, h3⟩, h4⟩ := h
    have e2 : tl z = [] := by
      rw [← len_cps] at e
      exact List.length_eq_zero_iff.mp e
    cases ls with
    | nil =>
      cases h4
      cases h1
    | cons l ls =>
      rw [e2] at h2
      have := congrArg List.length h2
      unfold closed at this
      simp at this
  · exact e
end K88
/-! The law. -/
namespace K88
open PySem L2 LamX

abbrev sLaw : Stmt := top 62
abbrev lawN : List Str := ["script", "pen", "items", "made", "plain", "text", "turn", "other", "own", "wrong", "odd", "name", "size", "ties", "told"]
theorem scLaw : FnScope lawN ["script"] (defScope sLaw) := ⟨rfl, rfl, rfl, by decide +kernel, rfl, by decide +kernel, by decide +kernel⟩
def spLaw (K : PySem.W.Frag) (Pt : Addr) : Sp := fun vs H Q _ => ∃ (a : Addr) (ns : List Int), vs = [.ref a] ∧ SqL K H a (ns.map V.int) ∧ ns.length ≤ 63 ∧ H Pt = some (.tbl #[]) ∧ ∀ H', Q (.bl true) H'
def E00 : XK := fun _ _ _ => False
theorem pass00 {X : Cx} : Passes (L2.CX X.prog X.w) X E00 := passes_call takes0 fun _ _ _ _ h => h
abbrev DW (K : PySem.W.Frag) (CW : Addr) : Eqv := fun x y H => DFlat x y H ∨ DIns CW (SameWeb K CW) x y H
abbrev DPair (K : PySem.W.Frag) (CW : Addr) : Eqv := DTup K (DW K CW)
theorem mon_web {K : PySem.W.Frag} {CW : Addr} : Mon (DW K CW) := mon_flat.or (mon_ins fun a b H H' e h => by
  obtain ⟨dx, dy, u, u2, m, rs, h1, h2, h3, h4⟩ := h
  exact ⟨dx, dy, u, u2, m, rs, e _ _ h1, e _ _ h2, dp_same e _ _ h3, dp_same e _ _ h4⟩)
structure WebEqT (P : Program) (w : World) (K : PySem.W.Frag) (mg : Str → Option Value) (base : Heap) (CW f : Addr) (fd : FuncData) : Prop where
  ok : FnOk P w K mg base CX0 2 f fd ["self", "other"] (spEq (SameWeb K CW))
  at_ : PySem.W.findIn K (.ref CW) "__eq__" = some (some (.ref f))
  fn : PySem.W.isFn K (.ref f) = true
  b : Binds K fd ["self", "other"] []
theorem eq_pairs {X : Cx} {CW f : Addr} {fd : FuncData} (T : WebEqT X.prog X.w X.K X.mg X.base CW f fd) : EqG X 3 (DPair X.K CW) := eqG_tup mon_web ((eqG_flat.mono (Nat.zero_le 2)).or (eqG_ins T.ok T.at_ T.fn T.b pass0))
structure ToldG (P : Program) (w : World) (K : PySem.W.Frag) (mg : Str → Option Value) (base : Heap) (x : Str) (k : Nat) (ps : List Str) (sp : Sp) (f : Addr) (fd : FuncData) : Prop where
  ok : FnG P w K mg base CX0 k f fd ps sp
  m : mg x = some (.ref f)
  kp : PySem.W.keepIn K (.ref f) = true
  b : Binds K fd ps []
theorem set_cb_of {r : List V → Hp → VK → Prop} {te : TE} {g : TG} {D : L2.Ends} {σ : L2.St} {H : Hp} (h : te σ H fun x H1 => r [x] H1 fun y H2 => g y σ H2 D.nx) : tAsg (tCB r (tCons te tNil)) g D σ H := h
theorem set_join_of {r : V → List V → Hp → VK → Prop} {v : Str} {te : TE} {g : TG} {D : L2.Ends} {σ : L2.St} {H : Hp} (h : te σ H fun y H2 => r (.str v) [y] H2 fun x H3 => g x σ H3 D.nx) : tAsg (tM1 r (tC (.str v)) te) g D σ H := ⟨⟨_, rfl⟩, h⟩
theorem prs_of {K : PySem.W.Frag} {CW : Addr} {H : Hp} : ∀ {xs ys : List V} {L : List Item}, Paired (ItemX K CW H) xs L → Paired (ItemX K CW H) ys L → Prs (DPair K CW) xs ys H
  | _, _, _, .nil, .nil => Prs.nil
  | _, _, _, .cons (b := q) ⟨⟨t1, w1, d1, u1, z1, e1, a1, a2, a3, a4⟩⟩ r1, .cons ⟨⟨t2, w2, d2, u2, z2, e2, b1, b2, b3, b4⟩⟩ r2 => by
    subst e1 e2
    refine Prs.cons ⟨t1, t2, _, _, rfl, rfl, .inl (.inl a1), .inl (.inl b1), ?_⟩ (prs_of r1 r2)
    refine Prs.cons (.inl ⟨rfl, rfl, ?_⟩) (Prs.cons (.inr ⟨w1, w2, d1, d2, _, _, rfl, rfl, a2, b2, d1, d2, u1, u2, q.2.1, q.2.2, a2, b2, .tup (.inl (.inl a3)) (of_two a4), .tup (.inl (.inl b3)) (of_two b4)⟩) Prs.nil)
    simp [eqV]
theorem two_pen {K : PySem.W.Frag} {p : Addr} {H H' : Hp} {kvs : List (Key × V)} (hp : H p = some (.dK kvs)) (k : KeepBut p H H') : ∀ {xs : List V} {qs : List (Int × Int)}, Paired (TwoAt K H) xs qs → Paired (TwoAt K H') xs qs
  | _, _, .nil => .nil
  | _, _, .cons ⟨a, e, h⟩ t => .cons ⟨a, e, by
      rcases h with (h | ⟨o', h⟩) | h
      · exact .inl (.inl (k _ _ h (ne_of h hp (by intro z; cases z))))
      · exact .inl (.inr ⟨o', k _ _ h (ne_of h hp (by intro z; cases z))⟩)
      · exact .inr h⟩ (two_pen hp k t)
theorem itemsX_pen {K : PySem.W.Frag} {CW p : Addr} {H H' : Hp} {kvs : List (Key × V)} (hp : H p = some (.dK kvs)) (k : KeepBut p H H') : ∀ {xs : List V} {L : List Item}, Paired (ItemX K CW H) xs L → Paired (ItemX K CW H') xs L
  | _, _, .nil => .nil
  | _, _, .cons ⟨⟨t, w', dx, u, ys, e, h1, h2, h3, h4⟩⟩ r =>
    .cons ⟨⟨t, w', dx, u, ys, e, keep_tup hp k _ _ h1, k _ _ h2 (ne_of h2 hp (by intro z; cases z)), keep_tup hp k _ _ h3, two_pen hp k h4⟩⟩ (itemsX_pen hp k r)
/-- what a text asks for items_of -/
theorem text_ok {z : Str} (h : z.length ≤ 20000) : z.length + 2 ≤ sizeLine ∧ Txt.split z nlS ≠ [] ∧ (Txt.split z nlS).length ≤ 100000 ∧ ∀ l ∈ Txt.split z nlS, l.length ≤ sizeLine := by
  have e : sizeLine = 16777216 := sizeLine_eq
  have c := split_count z
  refine ⟨by omega, split_ne z, by omega, fun l hl => ?_⟩
  have := split_each hl
  omega
theorem two_small {l c : Int} (h : 0 ≤ l ∧ l ≤ 30000 ∧ 0 ≤ c ∧ c ≤ 30000) : (PyData.tuple [.int l, .int c]).showable = true ∧ (PyData.tuple [.int l, .int c]).depth ≤ 20 ∧ (PyData.tuple [.int l, .int c]).shown.length ≤ sizeLine := by
  have lg : ∀ i : Int, 0 ≤ i → i ≤ 30000 → i.natAbs.log2 ≤ 15 := fun i h0 h1 => by
    rcases Nat.eq_zero_or_pos i.natAbs with e | e
    · rw [e]
      decide
    · exact Nat.le_of_lt ((Nat.log2_lt (Nat.pos_iff_ne_zero.mp e)).mpr (show i.natAbs < 2 ^ 15 by omega))
  have g1 := lg l h.1 h.2.1
  have g2 := lg c h.2.2.1 h.2.2.2
  have s1 : (PyData.shown (.int l)).length ≤ 13 := PyData.shown_int_le (by omega)
  have s2 : (PyData.shown (.int c)).length ≤ 13 := PyData.shown_int_le (by omega)
  refine ⟨?_, ?_, PyData.shown_fits (B := 13) (by decide) (by decide) ?_ ?_⟩
  · simp only [PyData.showable, PyData.showableAll, Bool.and_eq_true, decide_eq_true_eq]
    exact ⟨by omega, by omega, trivial⟩
  · simp only [PyData.depth, PyData.depthAll]
    omega
  · simp only [PyData.leavesShort, PyData.leavesShortAll, Bool.and_eq_true, decide_eq_true_eq]
    exact ⟨s1, s2, trivial⟩
  · simp only [PyData.weight, PyData.weightAll]
    split <;> split <;> omega
section
variable {P : Program} {w : World} {K : PySem.W.Frag} {mg : Str → Option Value} {base : Heap} {f C CW fI fWI fEq c Pt : Addr} {fd dWI dI dEq : FuncData}
theorem ok_law {fp fk fli fw fx fto fpl fio fsp frd fll : Addr} {dp dk dli dw dx dto dpl dio dsp drd dll : FuncData} (F : FnP K "law" sLaw f fd) (hcf : fd.code = .ref c) (TB : TabB base mg c Pt)
    (TPen : Told P w K mg base "_law_pen" 1 ["script"] (spPen K) fp dp) (TP : Told P w K mg base "_law_pick" 2 ["pen", "some"] (spPick K) fk dk) (TLi : Told P w K mg base "_law_items" 4 ["pen"] (spLItems K) fli dli)
    (TW : Told P w K mg base "_law_web_text" 1 ["name", "size", "ties"] (spWText K) fw dw) (TX : Told P w K mg base "_law_text" 3 ["pen", "items"] (spLText K) fx dx) (TTo : Told P w K mg base "text_of" 2 ["items"] (spTextOf K CW) fto dto)
    (TPl : ToldG P w K mg base "_law_plain_items" 1 ["items"] (spPlain K CW) fpl dpl) (TI : ToldX P w K mg base "items_of" 7 ["text"] (spItems K C CW) fio dio) (TSp : Told P w K mg base "_law_spoiled" 3 ["pen", "text"] (spSpoil K) fsp dsp) (TRd : Told P w K mg base "_law_read" 6 ["text"] (spLRead K CW) frd drd)
    (FL : FnP K "_law_line" sLLine fll dll) (mLL : mg "_law_line" = some (.ref fll)) (bLL : Binds K dll ["work"] []) (BL : BadL K mg C fI) (xf : XfC K C) (ex : PySem.W.exmOne K (.ref C) (.ref C) = some true)
    (MK : Mk K CW fWI) (mW : mg "Web" = some (.ref CW)) (WI : FnOk P w K mg base CX0 4 fWI dWI ["self", "size", "ties"] (spWebI K CW)) (bW : Binds K dWI ["self", "size", "ties"] []) (WE : WebEqT P w K mg base CW fEq dEq)
    (mT : mg "tuple" = none) (mR : mg "range" = none) (mRepr : mg "repr" = none) : FnG P w K mg base CX0 10 f fd ["script"] (spLaw K Pt) := by
  obtain ⟨ocL, odL, dVL, kVL, docL, pmL, anL, cdL, ctL, oslL, rfl, lkL, hcdL, _, _⟩ := FL.ex
  have kpL : PySem.W.keepIn K (.ref fll) = true := FL.kp
  refine okG F scLaw (fun vs H Q E h => ?_) (fun cdv A outer s H vs Q E hcd hgd hr h => ?_)
  · obtain ⟨a, ns, rfl, _⟩ := h
    rfl
  · obtain ⟨a, ns, rfl, hS, hns, hPt, q⟩ := h
    obtain rfl : cdv = .ref c := hcd.symm.trans hcf
    have hr1 : Room 1 _ := hr.mono (by decide)
    have hr2 : Room 2 _ := hr.mono (by decide)
    have hr3 : Room 3 _ := hr.mono (by decide)
    have hr4 : Room 4 _ := hr.mono (by decide)
    have hr5 : Room 5 _ := hr.mono (by decide)
    have hr6 : Room 6 _ := hr.mono (by decide)
    have hr7 : Room 7 _ := hr.mono (by decide)
    have hu : (cxOf CX0 P w K mg base lawN "law" (defScope sLaw) f (.ref c) A outer s H E).A.units + 64 < cLine := hr.units
    obtain ⟨lq, hlq⟩ : ∃ lq : Str, (cxOf CX0 P w K mg base lawN "law" (defScope sLaw) f (.ref c) A outer s H E).nox.env.qual ++ "<lambda>" = lq := ⟨_, rfl⟩
    refine ⟨_, PSs.nox (pss_cons (ps_set (i := 1) scLaw.nd rfl (Or.inl rfl) (pe_call TPen.ok hr1 (by rfl) TPen.m TPen.kp TPen.b .nil pass0 (pa_cons (pv 0) pa_nil)))
      (pss_cons (ps_set (i := 2) scLaw.nd rfl (Or.inl rfl) (pe_call TLi.ok hr4 (by rfl) TLi.m TLi.kp TLi.b .nil pass0 (pa_cons (pv 1) pa_nil)))
      (C8.pss_cut (ps_set (i := 3) scLaw.nd rfl (Or.inl rfl) (pe_callTy call_tuple_of (by rfl) mT (by decide +kernel) (pa_cons
          (pe_lc (own := [("name", 11), ("size", 12), ("ties", 13), ("told", 14)]) (g := g4 K) (tt := tYes) (te := tMade K CW) (wi := iList K (tVar 2)) rfl scLaw.nd (pi_list (pv 2)) (blkOk_by (own := [("name", 11), ("size", 12), ("ties", 13), ("told", 14)]) (N := lawN) (sc := defScope sLaw) (by decide +kernel))
            (fun _ _ _ _ _ => pg_tup (n := 4) rfl (pgs_cons (pg_name (i := 11) scLaw.nd rfl (Or.inl rfl)) (pgs_cons (pg_name (i := 12) scLaw.nd rfl (Or.inl rfl)) (pgs_cons (pg_name (i := 13) scLaw.nd rfl (Or.inl rfl)) (pgs_cons (pg_name (i := 14) scLaw.nd rfl (Or.inl rfl)) pgs_nil))))) (fun _ _ _ _ _ => pts_nil)
            (fun _ _ _ _ _ => pe_tup (pa_cons (pv 11) (pa_cons (pe_make MK WI hr5 (by rfl) mW bW .nil pass0 (pa_cons (pv 12) (pa_cons (pv 13) pa_nil))) pa_nil)))) pa_nil)))
      (C8.pss_cut (ps_set (i := 4) scLaw.nd rfl (Or.inl rfl) (pe_join pe_str
          (pe_lc (own := [("name", 11), ("size", 12), ("ties", 13), ("told", 14)]) (g := g4 K) (tt := tYes) (te := tPlainW K) (wi := iList K (tVar 2)) rfl scLaw.nd (pi_list (pv 2)) (blkOk_by (own := [("name", 11), ("size", 12), ("ties", 13), ("told", 14)]) (N := lawN) (sc := defScope sLaw) (by decide +kernel))
            (fun _ _ _ _ _ => pg_tup (n := 4) rfl (pgs_cons (pg_name (i := 11) scLaw.nd rfl (Or.inl rfl)) (pgs_cons (pg_name (i := 12) scLaw.nd rfl (Or.inl rfl)) (pgs_cons (pg_name (i := 13) scLaw.nd rfl (Or.inl rfl)) (pgs_cons (pg_name (i := 14) scLaw.nd rfl (Or.inl rfl)) pgs_nil))))) (fun _ _ _ _ _ => pts_nil)
            (fun _ _ _ _ _ => pe_call TW.ok hr1 (by rfl) TW.m TW.kp TW.b .nil pass0 (pa_cons (pv 11) (pa_cons (pv 12) (pa_cons (pv 13) pa_nil)))))))
      (pss_cons (ps_set (i := 5) scLaw.nd rfl (Or.inl rfl) (pe_call TX.ok hr3 (by rfl) TX.m TX.kp TX.b .nil pass0 (pa_cons (pv 1) (pa_cons (pv 2) pa_nil))))
      (C8.pss_cut (ps_if (PW.pt (pw_or (pt_cmpR op_ne (pe_call TTo.ok hr2 (by rfl) TTo.m TTo.kp TTo.b .nil pass0 (pa_cons (pv 3) pa_nil)) (pv 4) (nomark _))
            (pw_or (pt_cmpR op_ne (pe_callG (sp := spPlain K CW) (E := E0) hgd TPl.ok hr1 (by rfl) TPl.m TPl.kp TPl.b pass0 (pa_cons (pe_call (E := E00) TI.ok hr7 (by rfl) TI.m TI.kp TI.b .nil pass00 (pa_cons (pv 5) pa_nil)) pa_nil)) (pe_callG (sp := spPlain K CW) (E := E0) hgd TPl.ok hr1 (by rfl) TPl.m TPl.kp TPl.b pass0 (pa_cons (pv 3) pa_nil)) (nomark _))
            (pw_or1 (pt_cmpR (op_neG (mon_tup mon_web) (eq_pairs WE) hr4) (pe_call (E := E00) TI.ok hr7 (by rfl) TI.m TI.kp TI.b .nil pass00 (pa_cons (pv 4) pa_nil)) (pv 3) (nomark _)))))) (pss_one (ps_ret pe_bl)) pss_nil)
      (C8.pss_cut (ps_for PassesOwn.never rfl (pi_range1 (by rfl) mR (pa_cons pe_int pa_nil)) (pg_name (i := 6) scLaw.nd rfl (Or.inl rfl))
          (pss_cons (ps_set (i := 7) scLaw.nd rfl (Or.inr rfl) (pe_call TSp.ok hr3 (by rfl) TSp.m TSp.kp TSp.b .nil pass0 (pa_cons (pv 1) (pa_cons (pe_call TP.ok hr2 (by rfl) TP.m TP.kp TP.b .nil pass0 (pa_cons (pv 1) (pa_cons (pe_lst (pa_cons (pv 5) (pa_cons (pv 4) (pa_cons (pv 4) pa_nil)))) pa_nil))) pa_nil))))
          (pss_cons (ps_asg (pe_call TRd.ok hr6 (by rfl) TRd.m TRd.kp TRd.b .nil pass0 (pa_cons (pv 7) pa_nil)) (pg_tup (n := 2) rfl (pgs_cons (pg_name (i := 8) scLaw.nd rfl (Or.inl rfl)) (pgs_cons (pg_name (i := 9) scLaw.nd rfl (Or.inl rfl)) pgs_nil))))
          (pss_one (ps_if (pt_cmpR op_isN (pv 9) pe_non (nomark _))
            (pss_one (ps_if (pt_cmpR op_ne (pe_callG (sp := spPlain K CW) (E := E0) hgd TPl.ok hr1 (by rfl) TPl.m TPl.kp TPl.b pass0 (pa_cons (pe_call (E := E00) TI.ok hr7 (by rfl) TI.m TI.kp TI.b .nil pass00 (pa_cons (pv 7) pa_nil)) pa_nil)) (pe_callG (sp := spPlain K CW) (E := E0) hgd TPl.ok hr1 (by rfl) TPl.m TPl.kp TPl.b pass0 (pa_cons (pv 8) pa_nil)) (nomark _)) (pss_one (ps_ret pe_bl)) pss_nil))
            (pss_one (ps_if (pt_cmpR op_ne (pe_callB (call_reprD hgd hu) (by rfl) mRepr (by decide +kernel) (pa_cons
                (pe_lamcall (T := [(Pt, lq)]) (c := c) (P := Pt) (a := "work") (Ng := llN) (k := 7) (t := fun E => tCall (spItems K C CW) [] E (tCons (tVar 7) tNil)) (by rfl) mLL kpL lkL hcdL bLL scLLine rfl (.inl rfl) (line_gives BL xf ex) TB rfl (List.mem_singleton.mpr (congrArg (Prod.mk Pt) hlq)) (fun p hp _ => by rw [List.mem_singleton.mp hp]; exact hlq.symm) hr (by show LamS (defScope sLaw) _; exact lamS_by (by decide +kernel)) (by rfl) (fun _ _ _ _ _ => rfl)
                  (fun _ _ _ _ _ _ _ hrl => pe_call TI.ok hrl (by rfl) TI.m TI.kp TI.b .nil (passes_call (takes_of rfl rfl rfl rfl) fun _ _ _ _ h => h) (pa_cons (pv 7) pa_nil))) pa_nil))
              (pe_callB (call_reprD hgd hu) (by rfl) mRepr (by decide +kernel) (pa_cons (pv 9) pa_nil)) (nomark _)) (pss_one (ps_ret pe_bl)) pss_nil)))))))
      (pss_cons (ps_set (i := 10) scLaw.nd rfl (Or.inr rfl) (pe_call TP.ok hr2 (by rfl) TP.m TP.kp TP.b .nil pass0 (pa_cons (pv 1) (pa_cons (pe_lst (pa_cons pe_non (pa_cons pe_int (pa_cons (pe_tup (pa_cons pe_str pa_nil)) (pa_cons (pe_lst (pa_cons pe_str pa_nil)) (pa_cons pe_dnewK pa_nil)))))) pa_nil))))
      (pss_one (ps_ret (pe_and (pe_cmpR (op_eqD hr.units) (pe_call (E := E00) TI.ok hr7 (by rfl) TI.m TI.kp TI.b .nil pass00 (pa_cons pe_str pa_nil)) (pe_tup pa_nil) (nomark _))
        (pe_one (pe_cmpR (op_eqD hr.units)
          (pe_lamcall (T := [(Pt, lq)]) (c := c) (P := Pt) (a := "work") (Ng := llN) (k := 7) (t := fun E => tCall (spItems K C CW) [] E (tCons (tVar 10) tNil)) (by rfl) mLL kpL lkL hcdL bLL scLLine rfl (.inl rfl) (line_gives BL xf ex) TB rfl (List.mem_singleton.mpr (congrArg (Prod.mk Pt) hlq)) (fun p hp _ => by rw [List.mem_singleton.mp hp]; exact hlq.symm) hr (by show LamS (defScope sLaw) _; exact lamS_by (by decide +kernel)) (by rfl) (fun _ _ _ _ _ => rfl)
            (fun _ _ _ _ _ _ _ hrl => pe_call TI.ok hrl (by rfl) TI.m TI.kp TI.b .nil (passes_call (takes_of rfl rfl rfl rfl) fun _ _ _ _ h => h) (pa_cons (pv 10) pa_nil)))
          (pe_tup (pa_cons pe_int (pa_cons pe_int pa_nil))) (nomark _)))))))))))))), ?_⟩
    rw [show L2.start lawN [V.ref a] = [some (V.ref a), none, none, none, none, none, none, none, none, none, none, none, none, none, none] from rfl]
    have hsz : sizeLine = 16777216 := sizeLine_eq
    have tb0 : Tabs [(Pt, lq)] H := fun r hr' => by
      rw [List.mem_singleton.mp hr']
      exact TabS.nil hPt
    refine ⟨_, rfl, a, ns, rfl, hS, hns, fun p z H1 np S1 s1 => ?_⟩
    simp only [gName, List.set_cons_succ, List.set_cons_zero]
    have tb1 := tb0.ext s1
    refine ⟨_, rfl, p, z, 0, rfl, S1, by omega, fun t xs ds H2 nt ht hds hok hnd hd1 hd3 S2 k2 => ?_⟩
    simp only [gName, List.set_cons_succ, List.set_cons_zero]
    have tb2 := tabs_keep S1 k2 tb1
    refine ⟨fun σ' H' => ∃ (M : Addr) (ws : List V), σ' = [some (.ref a), some (.ref p), some (.ref t), some (.ref M), none, none, none, none, none, none, none, none, none, none, none] ∧ Same H2 H' ∧ H' M = some (.tup ws) ∧ Paired (ItemX K CW H') ws (madeL ds), ?_, ?_⟩
    · refine set_cb_of (made_read ht hds hok hd3 fun D H3 ws s3 hD hws => ?_)
      refine ⟨D, ws, rfl, .inl ⟨.inl (.inl hD), fun M nM => ⟨M, ws, rfl, s3.trans (same_new nM), upd_same, itemsX_same (same_new nM) hws⟩⟩⟩
    · rintro σ3 H3 ⟨M, ws, rfl, s3, hM, hws⟩
      have ht3 := s3 _ _ ht
      have hds3 := dats_keep (fun b l e => s3 _ _ e) (fun b l e _ => s3 _ _ e) hds
      refine ⟨fun σ' H' => σ' = [some (.ref a), some (.ref p), some (.ref t), some (.ref M), some (.str (plainS ds)), none, none, none, none, none, none, none, none, none, none] ∧ Same H3 H', ?_, ?_⟩
      · refine set_join_of (plain_read ht3 hds3 hok hd3 fun D H4 s4 hD => ?_)
        have a1 := webs_short (made_facts hok)
        have a2 : (madeL ds).length = ds.length := List.length_map _
        have fin : rJoin K (.str "") [.ref D] H4 (fun x H' => gName 4 x [some (.ref a), some (.ref p), some (.ref t), some (.ref M), none, none, none, none, none, none, none, none, none, none, none] H' (fun σ' H' => σ' = [some (.ref a), some (.ref p), some (.ref t), some (.ref M), some (.str (plainS ds)), none, none, none, none, none, none, none, none, none, none] ∧ Same H3 H')) := by
          refine strs_join (K := K) hD (by omega) ?_
          exact ⟨rfl, s4⟩
        exact fin
      · rintro σ4 H4 ⟨rfl, s4⟩
        have s34 := s3.trans s4
        have ht4 := s4 _ _ ht3
        have hds4 := dats_keep (fun b l e => s4 _ _ e) (fun b l e _ => s4 _ _ e) hds3
        have S4 := S2.same s34
        refine ⟨_, rfl, _, rfl, p, t, z, _, xs, ds, rfl, S4, by omega, ht4, hds4, hok, hnd, hd3, fun text H5 hR htl S5 k5 => ?_⟩
        simp only [gName, List.set_cons_succ, List.set_cons_zero]
        have tb5 := tabs_keep S4 k5 (tb2.ext s34)
        obtain ⟨kv4, hpd4⟩ := S4.dict
        have kd : KeepBut p H3 H5 := (KeepBut.of s4).trans k5
        have hM5 : H5 M = some (.tup ws) := keep_tup hpd4 k5 _ _ (s4 _ _ hM)
        have hws5 : Paired (ItemX K CW H5) ws (madeL ds) := itemsX_pen hpd4 k5 (itemsX_same s4 hws)
        have hpl := plain_len hok hd3
        have hpr := plain_reads hok hnd
        have hsm := made_small hok
        have hsum := made_sum hok
        refine ⟨fun σ' H' => σ' = [some (.ref a), some (.ref p), some (.ref t), some (.ref M), some (.str (plainS ds)), some (.str text), none, none, none, none, none, none, none, none, none] ∧ Same H5 H', ?_, ?_⟩
        · refine ⟨_, rfl, M, ws, madeL ds, rfl, .inl (.inl hM5), hws5, made_facts hok, by show (madeL ds).length ≤ 3; unfold madeL; rw [List.length_map]; exact hd3, fun H6 s6 => ?_⟩
          refine ⟨_, rfl, rfl, _, rfl, iteF' (by rw [decide_eq_true (show V.str (Txt.join "" ((madeL ds).map fun q => webText q.1 q.2.1 q.2.2)) = V.str (plainS ds) from rfl)]; rfl) ?_⟩
          obtain ⟨x1, x2, x3, x4⟩ := text_ok (z := text) (by omega)
          refine ⟨_, rfl, .str text, rfl, .inl ⟨text, rfl, x1, x2, x3, x4, fun its hits t7 xs7 H7 s7 ht7 hp7 => ?_, fun l c' hbad => ?_⟩⟩
          · rw [hR.items] at hits
            have hits := Sum.inl.inj hits
            subst hits
            obtain ⟨L7, hx7, hn7⟩ := items_norm hp7
            have e7 : L7 = madeL ds := norm_uniq hn7 (made_norm hok) (told_same hok)
            subst e7
            refine ⟨t7, xs7, madeL ds, rfl, .inr (.inl (.inl ht7)), hx7, hsm, by omega, fun H8 s8 => ?_⟩
            refine ⟨_, rfl, M, ws, madeL ds, rfl, .inr (.inl (.inl (s8 _ _ (s7 _ _ (s6 _ _ hM5))))), itemsX_same (s6.trans (s7.trans s8)) hws5, hsm, by omega, fun H9 s9 => ?_⟩
            refine ⟨rfl, _, rfl, iteF' (by rw [decide_eq_true rfl]; rfl) ?_⟩
            obtain ⟨y1, y2, y3, y4⟩ := text_ok (z := plainS ds) (by omega)
            refine ⟨_, rfl, .str (plainS ds), rfl, .inl ⟨plainS ds, rfl, y1, y2, y3, y4, fun its hits t10 xs10 H10 s10 ht10 hp10 => ?_, fun l c' hbad => ?_⟩⟩
            · rw [hpr.items] at hits
              have hits := Sum.inl.inj hits
              subst hits
              obtain ⟨L10, hx10, hn10⟩ := items_norm hp10
              have e10 : L10 = madeL ds := norm_uniq hn10 (made_norm hok) (same_refl _)
              subst e10
              have s610 := s6.trans ((s7.trans s8).trans (s9.trans s10))
              exact ⟨_, rfl, ⟨t10, M, xs10, ws, rfl, rfl, .inl (.inl ht10), .inl (.inl (s610 _ _ hM5)), prs_of hx10 (itemsX_same s610 hws5)⟩, fun H11 e11 => ⟨_, rfl, iteF' rfl ⟨rfl, s610.trans e11⟩⟩⟩
            · rw [hpr.items] at hbad
              cases hbad
          · rw [hR.items] at hbad
            cases hbad
        · rintro σ6 H6 ⟨rfl, s6⟩
          have S6 := S5.same s6
          have tb6 := tb5.ext s6
          have htp := reads_pos hR (by unfold itemsD; rw [List.length_map]; exact hd1)
          have hpp := reads_pos hpr (by unfold madeL; rw [List.length_map]; exact hd1)
          refine ⟨fun σ' H' => ∃ (a6 a7 a8 a9 a10 : Option V) (m : Nat), σ' = [some (.ref a), some (.ref p), some (.ref t), some (.ref M), some (.str (plainS ds)), some (.str text), a6, a7, a8, a9, a10, none, none, none, none] ∧ PenAt K H' p z m ∧ m ≤ 20000 ∧ Tabs [(Pt, lq)] H', ?_, ?_⟩
          · refine ⟨6, rfl, by decide, by decide, for_range (lo := 0) (n := (6 : Int).toNat) (fun i σ' H' => ∃ (a6 a7 a8 a9 a10 : Option V), σ' = [some (.ref a), some (.ref p), some (.ref t), some (.ref M), some (.str (plainS ds)), some (.str text), a6, a7, a8, a9, a10, none, none, none, none] ∧ PenAt K H' p z (0 + 200 + 1000 + 20 * i) ∧ Tabs [(Pt, lq)] H')
              ⟨none, none, none, none, none, rfl, S6, tb6⟩ ?_ ?_⟩
            · rintro i σ' H7 hi ⟨a6, a7, a8, a9, a10, rfl, S7, tb7⟩
              have hi6 : i < 6 := hi
              simp only [gName, List.set_cons_succ, List.set_cons_zero]
              refine ⟨_, rfl, _, rfl, _, rfl, _, rfl, _, rfl, by show 3 ≤ sizeLine; omega, fun l nl => ?_⟩
              have sl := same_new (o := .lst [.str text, .str (plainS ds), .str (plainS ds)]) nl
              refine ⟨p, l, z, _, _, rfl, S7.same sl, by omega, .inl (.inl upd_same), by show 1 ≤ 3; decide, by show 3 ≤ 1000000; decide, fun v H8 hv S8 k8 => ?_⟩
              obtain ⟨sel, rfl, hs1, hs2⟩ : ∃ sel : Str, v = .str sel ∧ 1 ≤ sel.length ∧ sel.length ≤ 3000 := by
                rcases List.mem_cons.mp hv with e | hv
                · exact ⟨_, e, htp, by omega⟩
                · rcases List.mem_cons.mp hv with e | hv
                  · exact ⟨_, e, hpp, by omega⟩
                  · exact ⟨_, List.mem_singleton.mp hv, hpp, by omega⟩
              refine ⟨p, z, _, sel, rfl, S8, by omega, hs1, hs2, fun other H9 ho S9 k9 => ?_⟩
              have tb9 := tabs_keep S8 k9 (tabs_keep (S7.same sl) k8 (tb7.ext sl))
              simp only [gName, List.set_cons_succ, List.set_cons_zero]
              have ho2 : other.length ≤ 20000 := by omega
              obtain ⟨x1, x2, x3, x4⟩ := text_ok ho2
              refine ⟨_, rfl, other, rfl, ho2, fun its hits t10 u10 xs10 H10 s10 ht10 hu10 hp10 hok10 => ?_, fun l0 c0 hbad t10 u10 H10 s10 ht10 hu10 => ?_⟩
              · refine ⟨t10, _, rfl, .inl (.inl ht10), rfl, _, _, rfl, _, _, rfl, rfl, ?_⟩
                simp only [gName, List.set_cons_succ, List.set_cons_zero]
                refine ⟨_, rfl, rfl, _, rfl, iteT' (decide_eq_true rfl) ?_⟩
                obtain ⟨rf1, rf2⟩ := read_facts hits
                obtain ⟨lf1, lf2⟩ := lines_facts ho2
                refine ⟨_, rfl, .str other, rfl, .inl ⟨other, rfl, x1, x2, x3, x4, fun its2 hits2 t11 xs11 H11 s11 ht11 hp11 => ?_, fun l c' hbad => ?_⟩⟩
                · rw [← read_items, hits] at hits2
                  have hits2 := Sum.inl.inj hits2
                  subst hits2
                  obtain ⟨L11, hx11, hn11⟩ := items_norm hp11
                  obtain ⟨L10, hx10, hn10⟩ := items_norm hp10
                  have e : L11 = L10 := norm_uniq hn11 hn10 (same_refl _)
                  subst e
                  have hsm2 := norm_all hn11 rf1
                  have hsum2 := norm_sum hn11
                  refine ⟨t11, xs11, L11, rfl, .inr (.inl (.inl ht11)), hx11, hsm2, by omega, fun H12 s12 => ?_⟩
                  refine ⟨_, rfl, u10, xs10, L11, rfl, .inl (.inl (.inl (s12 _ _ (s11 _ _ hu10)))), itemsX_same (s11.trans s12) hx10, hsm2, by omega, fun H13 s13 => ?_⟩
                  refine ⟨rfl, _, rfl, iteF' (by rw [decide_eq_true rfl]; rfl) ?_⟩
                  have sall := s10.trans (s11.trans (s12.trans s13))
                  exact ⟨_, _, _, _, _, rfl, (S9.same sall).mono (by omega), tb9.ext sall⟩
                · rw [← read_items, hits] at hbad
                  cases hbad
              · refine ⟨t10, _, rfl, .inl (.inl ht10), rfl, _, _, rfl, _, _, rfl, rfl, ?_⟩
                simp only [gName, List.set_cons_succ, List.set_cons_zero]
                refine ⟨_, rfl, rfl, _, rfl, iteF' (decide_eq_false fun h => by cases h) ?_⟩
                obtain ⟨w1, w2, w3⟩ := two_small (read_bad ho2 hbad)
                have tb10 := tb9.ext s10
                have S10 := S9.same s10
                refine ⟨tb10, fun H11 eN tb11 => ?_⟩
                have hu11 : H11 u10 = some (.tup [.int l0, .int c0]) := eN _ _ hu10 (fun ps z => by cases z)
                have S11 := S10.extN eN
                refine ⟨_, rfl, .str other, rfl, .inl ⟨other, rfl, x1, x2, x3, x4, fun its2 hits2 => ?_, fun l1 c1 hbad2 => ?_⟩⟩
                · rw [← read_items, hbad] at hits2
                  cases hits2
                · rw [← read_items, hbad] at hbad2
                  obtain ⟨rfl, rfl⟩ := Prod.mk.inj (Sum.inr.inj hbad2)
                  refine fun d H12 s12 hd => ⟨rfl, d, l0, c0, rfl, hd, fun t13 nt13 => ?_⟩
                  have s13 := same_new (o := .tup [.int l0, .int c0]) nt13
                  refine ⟨.ref t13, .tuple [.int l0, .int c0], rfl, .tup (.inl (.inl upd_same)) (.cons (.int _) (.cons (.int _) .nil)), w1, w2, w3, ?_⟩
                  refine ⟨_, rfl, .ref u10, .tuple [.int l0, .int c0], rfl, .tup (.inl (.inl (s13 _ _ (s12 _ _ hu11)))) (.cons (.int _) (.cons (.int _) .nil)), w1, w2, w3, ?_⟩
                  refine ⟨rfl, _, rfl, iteF' (by rw [decide_eq_true rfl]; rfl) ?_⟩
                  exact ⟨_, _, _, _, _, rfl, (S11.same (s12.trans s13)).mono (by omega), tb11.ext (s12.trans s13)⟩
            · rintro σ' H7 ⟨a6, a7, a8, a9, a10, rfl, S7, tb7⟩
              exact ⟨_, _, _, _, _, _, rfl, S7, by decide, tb7⟩
          · rintro σ7 H7 ⟨a6, a7, a8, a9, a10, m7, rfl, S7, hm7, tb7⟩
            refine ⟨_, rfl, (by show 1 ≤ sizeLine; omega), fun t1 n1 => ⟨(by show 1 ≤ sizeLine; omega), fun l1 n2 => fun d1 n3 => ⟨(by show 5 ≤ sizeLine; omega), fun L nL => ?_⟩⟩⟩
            have e1 := same_new (o := .tup [.str "web a 2"]) n1
            have e2 := same_new (o := .lst [.str "web a 2"]) n2
            have e3 := same_new (o := .dK []) n3
            have e4 := same_new (o := .lst [.non, .int 5, .ref t1, .ref l1, .ref d1]) nL
            have e14 := e1.trans (e2.trans (e3.trans e4))
            have S8 := S7.same e14
            refine ⟨p, L, z, m7, _, rfl, S8, by omega, .inl (.inl upd_same), by show 1 ≤ 5; decide, by show 5 ≤ 1000000; decide, fun v H9 hv S9 k9 => ?_⟩
            have tb9 := tabs_keep S8 k9 (tb7.ext e14)
            obtain ⟨kv8, hpd8⟩ := S8.dict
            have odd : ∃ ty : Value, (∀ H', ExtN H9 H' → TyX K H' v ty) ∧ PySem.W.kitOne K ty (.type "str") = some false := by
              rcases List.mem_cons.mp hv with e | hv
              · rw [e]
                exact ⟨_, fun H' _ => .base .non, kit_ty (show kitB "NoneType" "str" = some false by decide +kernel)⟩
              · rcases List.mem_cons.mp hv with e | hv
                · rw [e]
                  exact ⟨_, fun H' _ => .base (.int 5), kit_ty (show kitB "int" "str" = some false by decide +kernel)⟩
                · rcases List.mem_cons.mp hv with e | hv
                  · rw [e]
                    have h9 := keep_tup hpd8 k9 _ _ (e2.trans (e3.trans e4) _ _ (upd_same (o := .tup [.str "web a 2"])))
                    exact ⟨_, fun H' x => .base (.tup (x _ _ h9 (fun ps z => by cases z))), kit_ty (show kitB "tuple" "str" = some false by decide +kernel)⟩
                  · rcases List.mem_cons.mp hv with e | hv
                    · rw [e]
                      have h9 := keep_lst hpd8 k9 _ _ (e3.trans e4 _ _ (upd_same (o := .lst [.str "web a 2"])))
                      exact ⟨_, fun H' x => .base (.lst (x _ _ h9 (fun ps z => by cases z))), kit_ty (show kitB "list" "str" = some false by decide +kernel)⟩
                    · rw [List.mem_singleton.mp hv]
                      have hd1' : _ = some (HO.dK []) := e4 _ _ (upd_same (o := .dK []))
                      have npd : d1 ≠ p := fun z => (S7.same (e1.trans e2)).ne n3 z.symm
                      have h9 := k9 _ _ hd1' npd
                      exact ⟨_, fun H' x => .base (.dK (x _ _ h9 (fun ps z => by cases z))), kit_ty (show kitB "dict" "str" = some false by decide +kernel)⟩
            obtain ⟨ty, hty, hkit⟩ := odd
            simp only [gName, List.set_cons_succ, List.set_cons_zero]
            obtain ⟨x1, x2, x3, x4⟩ := text_ok (z := ("" : Str)) (by decide +kernel)
            have hnil : Reads ("" : Str) ([], none) := Reads.nil
            refine ⟨.str "", rfl, .inl ⟨"", rfl, x1, x2, x3, x4, fun its hits t10 xs10 H10 s10 ht10 hp10 => ?_, fun l c' hbad => ?_⟩⟩
            · rw [hnil.items] at hits
              have hits := Sum.inl.inj hits
              subst hits
              cases hp10
              refine ⟨Nat.zero_le _, fun e ne => ?_⟩
              have se := same_new (o := .tup []) ne
              refine ⟨.tuple [], .tuple [], .tup (.inl (.inl (se _ _ ht10))) .nil, .tup (.inl (.inl upd_same)) .nil, by decide +kernel, by decide +kernel, ?_⟩
              refine ⟨true, congrArg V.bl (by decide +kernel), iteT ?_⟩
              have tb10 := tb9.ext (s10.trans se)
              refine ⟨tb10, fun H11 eN tb11 => ?_⟩
              refine ⟨_, rfl, v, rfl, .inr ⟨ty, hty H11 ((ExtN.of (s10.trans se)).trans eN), hkit, fun d H12 s12 hd => ⟨rfl, d, 0, 0, rfl, hd, fun t13 nt13 => ?_⟩⟩⟩
              refine ⟨two_ok, fun t14 nt14 => ?_⟩
              have s14 := same_new (o := .tup [.int 0, .int 0]) nt14
              refine ⟨.tuple [.int 0, .int 0], .tuple [.int 0, .int 0], .tup (.inl (.inl (s14 _ _ upd_same))) (.cons (.int _) (.cons (.int _) .nil)), .tup (.inl (.inl upd_same)) (.cons (.int _) (.cons (.int _) .nil)), by decide +kernel, by decide +kernel, ?_⟩
              have ev : PyData.eqv (.tuple [.int 0, .int 0]) (.tuple [.int 0, .int 0]) = true := by decide +kernel
              rw [ev]
              exact q _
            · rw [hnil.items] at hbad
              cases hbad
end
end K88
/-! What the head tells, turned into what the walk asks. -/
namespace K88
open PySem L2 LamX
theorem oex_ok {K : PySem.W.Frag} {C : Addr} (h : oexB K C = true) : ∃ nm q N bs bm sn sub ab col dd k0 k1 k2 k3 k5, K.lookup C = some (excClassObj nm q C N bs bm true sn sub ab col dd k0 k1 k2 k3 k5 "ValueError.__new__") ∧ PySem.HandSPX.refsVE bm = true := by
  unfold oexB at h
  split at h
  · rename_i dd cd sl lk
    split at h
    · rename_i D bm k0 k1 k2 k3 n k5 hm hs
      obtain ⟨h1, h⟩ := He.ba h
      obtain ⟨h2, h⟩ := He.ba h
      obtain ⟨h3, h⟩ := He.ba h
      obtain ⟨h4, h5⟩ := He.ba h
      have e1 : D = C := of_decide_eq_true h1
      have e2 : n = "ValueError.__new__" := of_decide_eq_true h2
      subst e1 e2
      obtain ⟨nm, bs, mro, ns, qn, hd, sn, sub, ab, col, del⟩ := cd
      have q1 : mro = .ref D :: bm := hm
      have q2 : hd = true := h4
      have q3 : del = false := by
        cases del with
        | false => rfl
        | true => cases h3
      subst q1 q2 q3
      have hsl : sl = #[k0, k1, k2, k3, some (.builtin "ValueError.__new__"), k5] := Array.toList_inj.mp hs
      subst hsl
      exact ⟨nm, qn, ns, bs, bm, sn, sub, ab, col, dd, k0, k1, k2, k3, k5, lk, h5⟩
    · cases h
  · cases h
theorem vals_abs : ∀ {ss : List Str} {us : List Value}, us.map absV = ss.map (fun x => some (V.str x)) → Vals (ss.map V.str) us
  | [], [], _ => .nil
  | [], _ :: _, h => by cases h
  | _ :: _, [], h => by cases h
  | x :: ss, u :: us, h => by
    rw [List.map_cons, List.map_cons] at h
    injection h with h1 h2
    refine .cons ?_ (vals_abs h2)
    cases u with
    | str y t =>
      have e : V.str y = V.str x := Option.some.inj h1
      cases e
      exact ⟨t, rfl⟩
    | none => cases h1
    | bool b => cases h1
    | int i t => cases h1
    | bytes b t => cases h1
    | float b t => cases h1
    | ref a => cases h1
    | type n => cases h1
    | _ => cases h1
theorem words_ok {K : PySem.W.Frag} {a : Addr} (h : wordsB K a = true) : ∀ H, SqT K H a (wordsL.map V.str) := fun H => by
  unfold wordsB at h
  split at h
  · rename_i dd its n sl lk
    have e := of_decide_eq_true h
    have v := vals_abs (ss := wordsL) e
    refine .inr ⟨_, its, n, lk, rfl, rfl, ?_, v⟩
    have l := v.length
    rw [List.length_map] at l
    have l2 : its.size = wordsL.length := by rw [← Array.length_toList]; exact l.symm
    rw [l2]
    decide +kernel
  · cases h
section
variable {w : World} {K : PySem.W.Frag} {h : Heap} {mg : Str → Option Value}
theorem told_of {P : Program} {base : Heap} {x : Str} {i k : Nat} {ps : List Str} {sp : Sp} {f : Addr} {fd : FuncData} (F : FnP K x (top i) f fd) (m : mg x = some (.ref f)) (ok : FnOk P w K mg base CX0 k f fd ps sp) (b : Binds K fd ps []) : Told P w K mg base x k ps sp f fd := ⟨ok, m, F.kp, b⟩
theorem toldX_of {P : Program} {base : Heap} {x : Str} {i k : Nat} {ps : List Str} {sp : Sp} {f : Addr} {fd : FuncData} (F : FnP K x (top i) f fd) (m : mg x = some (.ref f)) (ok : FnOk P w K mg base (L2.CX P w) k f fd ps sp) (b : Binds K fd ps []) : ToldX P w K mg base x k ps sp f fd := ⟨ok, m, F.kp, b⟩
theorem law_told {l : PySem.W.OpenLaw} {f : Addr} (X : K.In h) (G : h.Ns mainGlobals mg) (hfa : mg ("law" : Str) = some (.ref f)) (c : SaysK h K) : LawG l w K CX0 10 63 "script" mg f h := by
  obtain ⟨d_run_end, E_run_end⟩ := c.d.def_ 0 (d := dDef (9, "run_end")) rfl
  have F_run_end : FnP K "run_end" (top 9) (He.ga K "run_end") d_run_end := E_run_end
  have m_run_end : mg "run_end" = some (.ref (He.ga K "run_end")) := He.glo_ok X G (c.d.fact 0 (f := .glo "run_end") rfl)
  have b_run_end : Binds K d_run_end ["line", "k", "signs"] [] := FunD.bindsN F_run_end fun _ _ _ _ _ _ us hl => match us, hl with | [_, _, _], _ => rfl
  obtain ⟨d_past_spaces, E_past_spaces⟩ := c.d.def_ 1 (d := dDef (10, "past_spaces")) rfl
  have F_past_spaces : FnP K "past_spaces" (top 10) (He.ga K "past_spaces") d_past_spaces := E_past_spaces
  have m_past_spaces : mg "past_spaces" = some (.ref (He.ga K "past_spaces")) := He.glo_ok X G (c.d.fact 1 (f := .glo "past_spaces") rfl)
  have b_past_spaces : Binds K d_past_spaces ["line", "k"] [] := FunD.bindsN F_past_spaces fun _ _ _ _ _ _ us hl => match us, hl with | [_, _], _ => rfl
  obtain ⟨d_name_scan, E_name_scan⟩ := c.d.def_ 2 (d := dDef (11, "name_scan")) rfl
  have F_name_scan : FnP K "name_scan" (top 11) (He.ga K "name_scan") d_name_scan := E_name_scan
  have m_name_scan : mg "name_scan" = some (.ref (He.ga K "name_scan")) := He.glo_ok X G (c.d.fact 2 (f := .glo "name_scan") rfl)
  have b_name_scan : Binds K d_name_scan ["line", "k"] [] := FunD.bindsN F_name_scan fun _ _ _ _ _ _ us hl => match us, hl with | [_, _], _ => rfl
  obtain ⟨d_word_scan, E_word_scan⟩ := c.d.def_ 3 (d := dDef (12, "word_scan")) rfl
  have F_word_scan : FnP K "word_scan" (top 12) (He.ga K "word_scan") d_word_scan := E_word_scan
  have m_word_scan : mg "word_scan" = some (.ref (He.ga K "word_scan")) := He.glo_ok X G (c.d.fact 3 (f := .glo "word_scan") rfl)
  have b_word_scan : Binds K d_word_scan ["line", "k", "word"] [] := FunD.bindsN F_word_scan fun _ _ _ _ _ _ us hl => match us, hl with | [_, _, _], _ => rfl
  obtain ⟨d_gap_scan, E_gap_scan⟩ := c.d.def_ 4 (d := dDef (13, "gap_scan")) rfl
  have F_gap_scan : FnP K "gap_scan" (top 13) (He.ga K "gap_scan") d_gap_scan := E_gap_scan
  have m_gap_scan : mg "gap_scan" = some (.ref (He.ga K "gap_scan")) := He.glo_ok X G (c.d.fact 4 (f := .glo "gap_scan") rfl)
  have b_gap_scan : Binds K d_gap_scan ["line", "k"] [] := FunD.bindsN F_gap_scan fun _ _ _ _ _ _ us hl => match us, hl with | [_, _], _ => rfl
  obtain ⟨d_rest_scan, E_rest_scan⟩ := c.d.def_ 5 (d := dDef (14, "rest_scan")) rfl
  have F_rest_scan : FnP K "rest_scan" (top 14) (He.ga K "rest_scan") d_rest_scan := E_rest_scan
  have m_rest_scan : mg "rest_scan" = some (.ref (He.ga K "rest_scan")) := He.glo_ok X G (c.d.fact 5 (f := .glo "rest_scan") rfl)
  have b_rest_scan : Binds K d_rest_scan ["line", "k"] [] := FunD.bindsN F_rest_scan fun _ _ _ _ _ _ us hl => match us, hl with | [_, _], _ => rfl
  obtain ⟨d_between_scan, E_between_scan⟩ := c.d.def_ 6 (d := dDef (15, "between_scan")) rfl
  have F_between_scan : FnP K "between_scan" (top 15) (He.ga K "between_scan") d_between_scan := E_between_scan
  have m_between_scan : mg "between_scan" = some (.ref (He.ga K "between_scan")) := He.glo_ok X G (c.d.fact 6 (f := .glo "between_scan") rfl)
  have b_between_scan : Binds K d_between_scan ["line", "k", "low", "high"] [] := FunD.bindsN F_between_scan fun _ _ _ _ _ _ us hl => match us, hl with | [_, _, _, _], _ => rfl
  obtain ⟨d_is_whole, E_is_whole⟩ := c.d.def_ 7 (d := dDef (17, "is_whole")) rfl
  have F_is_whole : FnP K "is_whole" (top 17) (He.ga K "is_whole") d_is_whole := E_is_whole
  have m_is_whole : mg "is_whole" = some (.ref (He.ga K "is_whole")) := He.glo_ok X G (c.d.fact 7 (f := .glo "is_whole") rfl)
  have b_is_whole : Binds K d_is_whole ["value"] [] := FunD.bindsN F_is_whole fun _ _ _ _ _ _ us hl => match us, hl with | [_], _ => rfl
  obtain ⟨d_in_tuples, E_in_tuples⟩ := c.d.def_ 8 (d := dDef (18, "in_tuples")) rfl
  have F_in_tuples : FnP K "in_tuples" (top 18) (He.ga K "in_tuples") d_in_tuples := E_in_tuples
  have m_in_tuples : mg "in_tuples" = some (.ref (He.ga K "in_tuples")) := He.glo_ok X G (c.d.fact 8 (f := .glo "in_tuples") rfl)
  have b_in_tuples : Binds K d_in_tuples ["value"] [] := FunD.bindsN F_in_tuples fun _ _ _ _ _ _ us hl => match us, hl with | [_], _ => rfl
  obtain ⟨d_is_tuple_of, E_is_tuple_of⟩ := c.d.def_ 9 (d := dDef (19, "is_tuple_of")) rfl
  have F_is_tuple_of : FnP K "is_tuple_of" (top 19) (He.ga K "is_tuple_of") d_is_tuple_of := E_is_tuple_of
  have m_is_tuple_of : mg "is_tuple_of" = some (.ref (He.ga K "is_tuple_of")) := He.glo_ok X G (c.d.fact 9 (f := .glo "is_tuple_of") rfl)
  have b_is_tuple_of : Binds K d_is_tuple_of ["value", "many"] [] := FunD.bindsN F_is_tuple_of fun _ _ _ _ _ _ us hl => match us, hl with | [_, _], _ => rfl
  obtain ⟨d_is_tie, E_is_tie⟩ := c.d.def_ 10 (d := dDef (24, "is_tie")) rfl
  have F_is_tie : FnP K "is_tie" (top 24) (He.ga K "is_tie") d_is_tie := E_is_tie
  have m_is_tie : mg "is_tie" = some (.ref (He.ga K "is_tie")) := He.glo_ok X G (c.d.fact 10 (f := .glo "is_tie") rfl)
  have b_is_tie : Binds K d_is_tie ["size", "value"] [] := FunD.bindsN F_is_tie fun _ _ _ _ _ _ us hl => match us, hl with | [_, _], _ => rfl
  obtain ⟨d_web_key, E_web_key⟩ := c.d.def_ 11 (d := dDef (25, "web_key")) rfl
  have F_web_key : FnP K "web_key" (top 25) (He.ga K "web_key") d_web_key := E_web_key
  have m_web_key : mg "web_key" = some (.ref (He.ga K "web_key")) := He.glo_ok X G (c.d.fact 11 (f := .glo "web_key") rfl)
  have b_web_key : Binds K d_web_key ["web"] [] := FunD.bindsN F_web_key fun _ _ _ _ _ _ us hl => match us, hl with | [_], _ => rfl
  obtain ⟨d_refuse, E_refuse⟩ := c.d.def_ 12 (d := dDef (27, "refuse")) rfl
  have F_refuse : FnP K "refuse" (top 27) (He.ga K "refuse") d_refuse := E_refuse
  have m_refuse : mg "refuse" = some (.ref (He.ga K "refuse")) := He.glo_ok X G (c.d.fact 12 (f := .glo "refuse") rfl)
  have b_refuse : Binds K d_refuse ["number", "wrong"] [] := FunD.bindsN F_refuse fun _ _ _ _ _ _ us hl => match us, hl with | [_, _], _ => rfl
  obtain ⟨d_title_scan, E_title_scan⟩ := c.d.def_ 13 (d := dDef (28, "title_scan")) rfl
  have F_title_scan : FnP K "title_scan" (top 28) (He.ga K "title_scan") d_title_scan := E_title_scan
  have m_title_scan : mg "title_scan" = some (.ref (He.ga K "title_scan")) := He.glo_ok X G (c.d.fact 13 (f := .glo "title_scan") rfl)
  have b_title_scan : Binds K d_title_scan ["line"] [] := FunD.bindsN F_title_scan fun _ _ _ _ _ _ us hl => match us, hl with | [_], _ => rfl
  obtain ⟨d_title_of, E_title_of⟩ := c.d.def_ 14 (d := dDef (29, "title_of")) rfl
  have F_title_of : FnP K "title_of" (top 29) (He.ga K "title_of") d_title_of := E_title_of
  have m_title_of : mg "title_of" = some (.ref (He.ga K "title_of")) := He.glo_ok X G (c.d.fact 14 (f := .glo "title_of") rfl)
  have b_title_of : Binds K d_title_of ["number", "line", "names"] [] := FunD.bindsN F_title_of fun _ _ _ _ _ _ us hl => match us, hl with | [_, _, _], _ => rfl
  obtain ⟨d_read_tie, E_read_tie⟩ := c.d.def_ 15 (d := dDef (30, "read_tie")) rfl
  have F_read_tie : FnP K "read_tie" (top 30) (He.ga K "read_tie") d_read_tie := E_read_tie
  have m_read_tie : mg "read_tie" = some (.ref (He.ga K "read_tie")) := He.glo_ok X G (c.d.fact 15 (f := .glo "read_tie") rfl)
  have b_read_tie : Binds K d_read_tie ["number", "line", "size", "ties"] [] := FunD.bindsN F_read_tie fun _ _ _ _ _ _ us hl => match us, hl with | [_, _, _, _], _ => rfl
  obtain ⟨d_other_scan, E_other_scan⟩ := c.d.def_ 16 (d := dDef (31, "other_scan")) rfl
  have F_other_scan : FnP K "other_scan" (top 31) (He.ga K "other_scan") d_other_scan := E_other_scan
  have m_other_scan : mg "other_scan" = some (.ref (He.ga K "other_scan")) := He.glo_ok X G (c.d.fact 16 (f := .glo "other_scan") rfl)
  have b_other_scan : Binds K d_other_scan ["line", "k", "size", "place"] [] := FunD.bindsN F_other_scan fun _ _ _ _ _ _ us hl => match us, hl with | [_, _, _, _], _ => rfl
  obtain ⟨d_read_end, E_read_end⟩ := c.d.def_ 17 (d := dDef (32, "read_end")) rfl
  have F_read_end : FnP K "read_end" (top 32) (He.ga K "read_end") d_read_end := E_read_end
  have m_read_end : mg "read_end" = some (.ref (He.ga K "read_end")) := He.glo_ok X G (c.d.fact 17 (f := .glo "read_end") rfl)
  have b_read_end : Binds K d_read_end ["number", "line"] [] := FunD.bindsN F_read_end fun _ _ _ _ _ _ us hl => match us, hl with | [_, _], _ => rfl
  obtain ⟨d_web_behind, E_web_behind⟩ := c.d.def_ 18 (d := dDef (33, "web_behind")) rfl
  have F_web_behind : FnP K "web_behind" (top 33) (He.ga K "web_behind") d_web_behind := E_web_behind
  have m_web_behind : mg "web_behind" = some (.ref (He.ga K "web_behind")) := He.glo_ok X G (c.d.fact 18 (f := .glo "web_behind") rfl)
  have b_web_behind : Binds K d_web_behind ["size", "lines", "most"] [] := FunD.bindsN F_web_behind fun _ _ _ _ _ _ us hl => match us, hl with | [_, _, _], _ => rfl
  obtain ⟨d_lines_of, E_lines_of⟩ := c.d.def_ 19 (d := dDef (34, "lines_of")) rfl
  have F_lines_of : FnP K "lines_of" (top 34) (He.ga K "lines_of") d_lines_of := E_lines_of
  have m_lines_of : mg "lines_of" = some (.ref (He.ga K "lines_of")) := He.glo_ok X G (c.d.fact 19 (f := .glo "lines_of") rfl)
  have b_lines_of : Binds K d_lines_of ["text"] [] := FunD.bindsN F_lines_of fun _ _ _ _ _ _ us hl => match us, hl with | [_], _ => rfl
  obtain ⟨d_items_of, E_items_of⟩ := c.d.def_ 20 (d := dDef (35, "items_of")) rfl
  have F_items_of : FnP K "items_of" (top 35) (He.ga K "items_of") d_items_of := E_items_of
  have m_items_of : mg "items_of" = some (.ref (He.ga K "items_of")) := He.glo_ok X G (c.d.fact 20 (f := .glo "items_of") rfl)
  have b_items_of : Binds K d_items_of ["text"] [] := FunD.bindsN F_items_of fun _ _ _ _ _ _ us hl => match us, hl with | [_], _ => rfl
  obtain ⟨d_item_text, E_item_text⟩ := c.d.def_ 21 (d := dDef (36, "item_text")) rfl
  have F_item_text : FnP K "item_text" (top 36) (He.ga K "item_text") d_item_text := E_item_text
  have m_item_text : mg "item_text" = some (.ref (He.ga K "item_text")) := He.glo_ok X G (c.d.fact 21 (f := .glo "item_text") rfl)
  have b_item_text : Binds K d_item_text ["name", "web"] [] := FunD.bindsN F_item_text fun _ _ _ _ _ _ us hl => match us, hl with | [_, _], _ => rfl
  obtain ⟨d_text_of, E_text_of⟩ := c.d.def_ 22 (d := dDef (37, "text_of")) rfl
  have F_text_of : FnP K "text_of" (top 37) (He.ga K "text_of") d_text_of := E_text_of
  have m_text_of : mg "text_of" = some (.ref (He.ga K "text_of")) := He.glo_ok X G (c.d.fact 22 (f := .glo "text_of") rfl)
  have b_text_of : Binds K d_text_of ["items"] [] := FunD.bindsN F_text_of fun _ _ _ _ _ _ us hl => match us, hl with | [_], _ => rfl
  obtain ⟨d_law_pen, E_law_pen⟩ := c.d.def_ 23 (d := dDef (39, "_law_pen")) rfl
  have F_law_pen : FnP K "_law_pen" (top 39) (He.ga K "_law_pen") d_law_pen := E_law_pen
  have m_law_pen : mg "_law_pen" = some (.ref (He.ga K "_law_pen")) := He.glo_ok X G (c.d.fact 23 (f := .glo "_law_pen") rfl)
  have b_law_pen : Binds K d_law_pen ["script"] [] := FunD.bindsN F_law_pen fun _ _ _ _ _ _ us hl => match us, hl with | [_], _ => rfl
  obtain ⟨d_law_draw, E_law_draw⟩ := c.d.def_ 24 (d := dDef (40, "_law_draw")) rfl
  have F_law_draw : FnP K "_law_draw" (top 40) (He.ga K "_law_draw") d_law_draw := E_law_draw
  have m_law_draw : mg "_law_draw" = some (.ref (He.ga K "_law_draw")) := He.glo_ok X G (c.d.fact 24 (f := .glo "_law_draw") rfl)
  have b_law_draw : Binds K d_law_draw ["pen", "many"] [] := FunD.bindsN F_law_draw fun _ _ _ _ _ _ us hl => match us, hl with | [_, _], _ => rfl
  obtain ⟨d_law_pick, E_law_pick⟩ := c.d.def_ 25 (d := dDef (41, "_law_pick")) rfl
  have F_law_pick : FnP K "_law_pick" (top 41) (He.ga K "_law_pick") d_law_pick := E_law_pick
  have m_law_pick : mg "_law_pick" = some (.ref (He.ga K "_law_pick")) := He.glo_ok X G (c.d.fact 25 (f := .glo "_law_pick") rfl)
  have b_law_pick : Binds K d_law_pick ["pen", "some"] [] := FunD.bindsN F_law_pick fun _ _ _ _ _ _ us hl => match us, hl with | [_, _], _ => rfl
  obtain ⟨d_law_shuffled, E_law_shuffled⟩ := c.d.def_ 26 (d := dDef (42, "_law_shuffled")) rfl
  have F_law_shuffled : FnP K "_law_shuffled" (top 42) (He.ga K "_law_shuffled") d_law_shuffled := E_law_shuffled
  have m_law_shuffled : mg "_law_shuffled" = some (.ref (He.ga K "_law_shuffled")) := He.glo_ok X G (c.d.fact 26 (f := .glo "_law_shuffled") rfl)
  have b_law_shuffled : Binds K d_law_shuffled ["pen", "some"] [] := FunD.bindsN F_law_shuffled fun _ _ _ _ _ _ us hl => match us, hl with | [_, _], _ => rfl
  obtain ⟨d_law_web, E_law_web⟩ := c.d.def_ 27 (d := dDef (43, "_law_web")) rfl
  have F_law_web : FnP K "_law_web" (top 43) (He.ga K "_law_web") d_law_web := E_law_web
  have m_law_web : mg "_law_web" = some (.ref (He.ga K "_law_web")) := He.glo_ok X G (c.d.fact 27 (f := .glo "_law_web") rfl)
  have b_law_web : Binds K d_law_web ["pen", "most", "many"] [] := FunD.bindsN F_law_web fun _ _ _ _ _ _ us hl => match us, hl with | [_, _, _], _ => rfl
  obtain ⟨d_law_words, E_law_words⟩ := c.d.def_ 28 (d := dDef (44, "_law_words")) rfl
  have F_law_words : FnP K "_law_words" (top 44) (He.ga K "_law_words") d_law_words := E_law_words
  have m_law_words : mg "_law_words" = some (.ref (He.ga K "_law_words")) := He.glo_ok X G (c.d.fact 28 (f := .glo "_law_words") rfl)
  have b_law_words : Binds K d_law_words [] [] := FunD.bindsN F_law_words fun _ _ _ _ _ _ us hl => match us, hl with | [], _ => rfl
  obtain ⟨d_law_small, E_law_small⟩ := c.d.def_ 29 (d := dDef (45, "_law_small")) rfl
  have F_law_small : FnP K "_law_small" (top 45) (He.ga K "_law_small") d_law_small := E_law_small
  have m_law_small : mg "_law_small" = some (.ref (He.ga K "_law_small")) := He.glo_ok X G (c.d.fact 29 (f := .glo "_law_small") rfl)
  have b_law_small : Binds K d_law_small [] [] := FunD.bindsN F_law_small fun _ _ _ _ _ _ us hl => match us, hl with | [], _ => rfl
  obtain ⟨d_law_run, E_law_run⟩ := c.d.def_ 30 (d := dDef (46, "_law_run")) rfl
  have F_law_run : FnP K "_law_run" (top 46) (He.ga K "_law_run") d_law_run := E_law_run
  have m_law_run : mg "_law_run" = some (.ref (He.ga K "_law_run")) := He.glo_ok X G (c.d.fact 30 (f := .glo "_law_run") rfl)
  have b_law_run : Binds K d_law_run ["line", "k", "signs"] [] := FunD.bindsN F_law_run fun _ _ _ _ _ _ us hl => match us, hl with | [_, _, _], _ => rfl
  obtain ⟨d_law_gap, E_law_gap⟩ := c.d.def_ 31 (d := dDef (47, "_law_gap")) rfl
  have F_law_gap : FnP K "_law_gap" (top 47) (He.ga K "_law_gap") d_law_gap := E_law_gap
  have m_law_gap : mg "_law_gap" = some (.ref (He.ga K "_law_gap")) := He.glo_ok X G (c.d.fact 31 (f := .glo "_law_gap") rfl)
  have b_law_gap : Binds K d_law_gap ["line", "k"] [] := FunD.bindsN F_law_gap fun _ _ _ _ _ _ us hl => match us, hl with | [_, _], _ => rfl
  obtain ⟨d_law_rest, E_law_rest⟩ := c.d.def_ 32 (d := dDef (48, "_law_rest")) rfl
  have F_law_rest : FnP K "_law_rest" (top 48) (He.ga K "_law_rest") d_law_rest := E_law_rest
  have m_law_rest : mg "_law_rest" = some (.ref (He.ga K "_law_rest")) := He.glo_ok X G (c.d.fact 32 (f := .glo "_law_rest") rfl)
  have b_law_rest : Binds K d_law_rest ["line", "k"] [] := FunD.bindsN F_law_rest fun _ _ _ _ _ _ us hl => match us, hl with | [_, _], _ => rfl
  obtain ⟨d_law_one_word, E_law_one_word⟩ := c.d.def_ 33 (d := dDef (49, "_law_one_word")) rfl
  have F_law_one_word : FnP K "_law_one_word" (top 49) (He.ga K "_law_one_word") d_law_one_word := E_law_one_word
  have m_law_one_word : mg "_law_one_word" = some (.ref (He.ga K "_law_one_word")) := He.glo_ok X G (c.d.fact 33 (f := .glo "_law_one_word") rfl)
  have b_law_one_word : Binds K d_law_one_word ["line", "k", "word"] [] := FunD.bindsN F_law_one_word fun _ _ _ _ _ _ us hl => match us, hl with | [_, _, _], _ => rfl
  obtain ⟨d_law_one_name, E_law_one_name⟩ := c.d.def_ 34 (d := dDef (50, "_law_one_name")) rfl
  have F_law_one_name : FnP K "_law_one_name" (top 50) (He.ga K "_law_one_name") d_law_one_name := E_law_one_name
  have m_law_one_name : mg "_law_one_name" = some (.ref (He.ga K "_law_one_name")) := He.glo_ok X G (c.d.fact 34 (f := .glo "_law_one_name") rfl)
  have b_law_one_name : Binds K d_law_one_name ["line", "k"] [] := FunD.bindsN F_law_one_name fun _ _ _ _ _ _ us hl => match us, hl with | [_, _], _ => rfl
  obtain ⟨d_law_web_text, E_law_web_text⟩ := c.d.def_ 35 (d := dDef (51, "_law_web_text")) rfl
  have F_law_web_text : FnP K "_law_web_text" (top 51) (He.ga K "_law_web_text") d_law_web_text := E_law_web_text
  have m_law_web_text : mg "_law_web_text" = some (.ref (He.ga K "_law_web_text")) := He.glo_ok X G (c.d.fact 35 (f := .glo "_law_web_text") rfl)
  have b_law_web_text : Binds K d_law_web_text ["name", "size", "ties"] [] := FunD.bindsN F_law_web_text fun _ _ _ _ _ _ us hl => match us, hl with | [_, _, _], _ => rfl
  obtain ⟨d_law_name, E_law_name⟩ := c.d.def_ 36 (d := dDef (52, "_law_name")) rfl
  have F_law_name : FnP K "_law_name" (top 52) (He.ga K "_law_name") d_law_name := E_law_name
  have m_law_name : mg "_law_name" = some (.ref (He.ga K "_law_name")) := He.glo_ok X G (c.d.fact 36 (f := .glo "_law_name") rfl)
  have b_law_name : Binds K d_law_name ["pen"] [] := FunD.bindsN F_law_name fun _ _ _ _ _ _ us hl => match us, hl with | [_], _ => rfl
  obtain ⟨d_law_items, E_law_items⟩ := c.d.def_ 37 (d := dDef (53, "_law_items")) rfl
  have F_law_items : FnP K "_law_items" (top 53) (He.ga K "_law_items") d_law_items := E_law_items
  have m_law_items : mg "_law_items" = some (.ref (He.ga K "_law_items")) := He.glo_ok X G (c.d.fact 37 (f := .glo "_law_items") rfl)
  have b_law_items : Binds K d_law_items ["pen"] [] := FunD.bindsN F_law_items fun _ _ _ _ _ _ us hl => match us, hl with | [_], _ => rfl
  obtain ⟨d_law_text, E_law_text⟩ := c.d.def_ 38 (d := dDef (54, "_law_text")) rfl
  have F_law_text : FnP K "_law_text" (top 54) (He.ga K "_law_text") d_law_text := E_law_text
  have m_law_text : mg "_law_text" = some (.ref (He.ga K "_law_text")) := He.glo_ok X G (c.d.fact 38 (f := .glo "_law_text") rfl)
  have b_law_text : Binds K d_law_text ["pen", "items"] [] := FunD.bindsN F_law_text fun _ _ _ _ _ _ us hl => match us, hl with | [_, _], _ => rfl
  obtain ⟨d_law_spoiled, E_law_spoiled⟩ := c.d.def_ 39 (d := dDef (55, "_law_spoiled")) rfl
  have F_law_spoiled : FnP K "_law_spoiled" (top 55) (He.ga K "_law_spoiled") d_law_spoiled := E_law_spoiled
  have m_law_spoiled : mg "_law_spoiled" = some (.ref (He.ga K "_law_spoiled")) := He.glo_ok X G (c.d.fact 39 (f := .glo "_law_spoiled") rfl)
  have b_law_spoiled : Binds K d_law_spoiled ["pen", "text"] [] := FunD.bindsN F_law_spoiled fun _ _ _ _ _ _ us hl => match us, hl with | [_, _], _ => rfl
  obtain ⟨d_law_one_of, E_law_one_of⟩ := c.d.def_ 40 (d := dDef (56, "_law_one_of")) rfl
  have F_law_one_of : FnP K "_law_one_of" (top 56) (He.ga K "_law_one_of") d_law_one_of := E_law_one_of
  have m_law_one_of : mg "_law_one_of" = some (.ref (He.ga K "_law_one_of")) := He.glo_ok X G (c.d.fact 40 (f := .glo "_law_one_of") rfl)
  have b_law_one_of : Binds K d_law_one_of ["line", "k", "texts"] [] := FunD.bindsN F_law_one_of fun _ _ _ _ _ _ us hl => match us, hl with | [_, _, _], _ => rfl
  obtain ⟨d_law_title, E_law_title⟩ := c.d.def_ 41 (d := dDef (57, "_law_title")) rfl
  have F_law_title : FnP K "_law_title" (top 57) (He.ga K "_law_title") d_law_title := E_law_title
  have m_law_title : mg "_law_title" = some (.ref (He.ga K "_law_title")) := He.glo_ok X G (c.d.fact 41 (f := .glo "_law_title") rfl)
  have b_law_title : Binds K d_law_title ["line", "told"] [] := FunD.bindsN F_law_title fun _ _ _ _ _ _ us hl => match us, hl with | [_, _], _ => rfl
  obtain ⟨d_law_tie, E_law_tie⟩ := c.d.def_ 42 (d := dDef (58, "_law_tie")) rfl
  have F_law_tie : FnP K "_law_tie" (top 58) (He.ga K "_law_tie") d_law_tie := E_law_tie
  have m_law_tie : mg "_law_tie" = some (.ref (He.ga K "_law_tie")) := He.glo_ok X G (c.d.fact 42 (f := .glo "_law_tie") rfl)
  have b_law_tie : Binds K d_law_tie ["line", "size"] [] := FunD.bindsN F_law_tie fun _ _ _ _ _ _ us hl => match us, hl with | [_, _], _ => rfl
  obtain ⟨d_law_read, E_law_read⟩ := c.d.def_ 43 (d := dDef (59, "_law_read")) rfl
  have F_law_read : FnP K "_law_read" (top 59) (He.ga K "_law_read") d_law_read := E_law_read
  have m_law_read : mg "_law_read" = some (.ref (He.ga K "_law_read")) := He.glo_ok X G (c.d.fact 43 (f := .glo "_law_read") rfl)
  have b_law_read : Binds K d_law_read ["text"] [] := FunD.bindsN F_law_read fun _ _ _ _ _ _ us hl => match us, hl with | [_], _ => rfl
  obtain ⟨d_law_line, E_law_line⟩ := c.d.def_ 44 (d := dDef (60, "_law_line")) rfl
  have F_law_line : FnP K "_law_line" (top 60) (He.ga K "_law_line") d_law_line := E_law_line
  have m_law_line : mg "_law_line" = some (.ref (He.ga K "_law_line")) := He.glo_ok X G (c.d.fact 44 (f := .glo "_law_line") rfl)
  have b_law_line : Binds K d_law_line ["work"] [] := FunD.bindsN F_law_line fun _ _ _ _ _ _ us hl => match us, hl with | [_], _ => rfl
  obtain ⟨d_law_plain_items, E_law_plain_items⟩ := c.d.def_ 45 (d := dDef (61, "_law_plain_items")) rfl
  have F_law_plain_items : FnP K "_law_plain_items" (top 61) (He.ga K "_law_plain_items") d_law_plain_items := E_law_plain_items
  have m_law_plain_items : mg "_law_plain_items" = some (.ref (He.ga K "_law_plain_items")) := He.glo_ok X G (c.d.fact 45 (f := .glo "_law_plain_items") rfl)
  have b_law_plain_items : Binds K d_law_plain_items ["items"] [] := FunD.bindsN F_law_plain_items fun _ _ _ _ _ _ us hl => match us, hl with | [_], _ => rfl
  obtain ⟨d_law, E_law⟩ := c.d.def_ 46 (d := dDef (62, "law")) rfl
  have F_law : FnP K "law" (top 62) (He.ga K "law") d_law := E_law
  have m_law : mg "law" = some (.ref (He.ga K "law")) := He.glo_ok X G (c.d.fact 46 (f := .glo "law") rfl)
  obtain ⟨d_BadLineinit, E_BadLineinit⟩ := c.d.def_ 47 (d := dMeth 3 0 "BadLine" "__init__") rfl
  have F_BadLineinit : FunD K "__init__" "BadLine.__init__" (defArgs (inClass (top 3) 0)) (defBody (inClass (top 3) 0)) (defScope (inClass (top 3) 0)) [] [] (He.ma K (He.ga K "BadLine") "__init__") d_BadLineinit := E_BadLineinit
  have b_BadLineinit : Binds K d_BadLineinit ["self", "line", "column"] [] := FunD.bindsN F_BadLineinit fun _ _ _ _ _ _ us hl => match us, hl with | [_, _, _], _ => rfl
  obtain ⟨d_Webinit, E_Webinit⟩ := c.d.def_ 48 (d := dMeth 23 0 "Web" "__init__") rfl
  have F_Webinit : FunD K "__init__" "Web.__init__" (defArgs (inClass (top 23) 0)) (defBody (inClass (top 23) 0)) (defScope (inClass (top 23) 0)) [] [] (He.ma K (He.ga K "Web") "__init__") d_Webinit := E_Webinit
  have b_Webinit : Binds K d_Webinit ["self", "size", "ties"] [] := FunD.bindsN F_Webinit fun _ _ _ _ _ _ us hl => match us, hl with | [_, _, _], _ => rfl
  obtain ⟨d_Webeq, E_Webeq⟩ := c.d.def_ 49 (d := dMeth 23 1 "Web" "__eq__") rfl
  have F_Webeq : FunD K "__eq__" "Web.__eq__" (defArgs (inClass (top 23) 1)) (defBody (inClass (top 23) 1)) (defScope (inClass (top 23) 1)) [] [] (He.ma K (He.ga K "Web") "__eq__") d_Webeq := E_Webeq
  have b_Webeq : Binds K d_Webeq ["self", "other"] [] := FunD.bindsN F_Webeq fun _ _ _ _ _ _ us hl => match us, hl with | [_, _], _ => rfl
  have g_len : mg "len" = none := He.free_ok X G (c.d.fact 47 (f := .free "len") rfl)
  have g_range : mg "range" = none := He.free_ok X G (c.d.fact 48 (f := .free "range") rfl)
  have g_str : mg "str" = none := He.free_ok X G (c.d.fact 49 (f := .free "str") rfl)
  have g_any : mg "any" = none := He.free_ok X G (c.d.fact 50 (f := .free "any") rfl)
  have g_all : mg "all" = none := He.free_ok X G (c.d.fact 51 (f := .free "all") rfl)
  have g_int : mg "int" = none := He.free_ok X G (c.d.fact 52 (f := .free "int") rfl)
  have g_isinstance : mg "isinstance" = none := He.free_ok X G (c.d.fact 53 (f := .free "isinstance") rfl)
  have g_tuple : mg "tuple" = none := He.free_ok X G (c.d.fact 54 (f := .free "tuple") rfl)
  have g_list : mg "list" = none := He.free_ok X G (c.d.fact 55 (f := .free "list") rfl)
  have g_bool : mg "bool" = none := He.free_ok X G (c.d.fact 56 (f := .free "bool") rfl)
  have g_min : mg "min" = none := He.free_ok X G (c.d.fact 57 (f := .free "min") rfl)
  have g_max : mg "max" = none := He.free_ok X G (c.d.fact 58 (f := .free "max") rfl)
  have g_sorted : mg "sorted" = none := He.free_ok X G (c.d.fact 59 (f := .free "sorted") rfl)
  have g_repr : mg "repr" = none := He.free_ok X G (c.d.fact 60 (f := .free "repr") rfl)
  have m_WebError : mg "WebError" = some (.ref (He.ga K "WebError")) := He.glo_ok X G (c.d.fact 61 (f := .glo "WebError") rfl)
  have m_BadLine : mg "BadLine" = some (.ref (He.ga K "BadLine")) := He.glo_ok X G (c.d.fact 62 (f := .glo "BadLine") rfl)
  have m_Web : mg "Web" = some (.ref (He.ga K "Web")) := He.glo_ok X G (c.d.fact 63 (f := .glo "Web") rfl)
  have m_WORDS : mg "WORDS" = some (.ref (He.ga K "WORDS")) := He.glo_ok X G (c.d.fact 64 (f := .glo "WORDS") rfl)
  obtain ⟨t_MOST_SIZE, m_MOST_SIZE⟩ := He.int_ok X G (c.d.fact 65 (f := .int "MOST_SIZE" 12) rfl)
  obtain ⟨t_MOST_TIES, m_MOST_TIES⟩ := He.int_ok X G (c.d.fact 66 (f := .int "MOST_TIES" 40) rfl)
  obtain ⟨t_LONGEST, m_LONGEST⟩ := He.int_ok X G (c.d.fact 67 (f := .int "LONGEST" 8) rfl)
  obtain ⟨t_SMALL, m_SMALL⟩ := He.str_ok X G (c.d.fact 68 (f := .str "SMALL" "abcdefghijklmnopqrstuvwxyz") rfl)
  obtain ⟨t_DIGITS, m_DIGITS⟩ := He.str_ok X G (c.d.fact 69 (f := .str "DIGITS" "0123456789") rfl)
  have cl : Cls K (He.ga K "Web") := He.cls_ok (c.d.fact 70 (f := .cls "Web") rfl)
  have MK : Mk K (He.ga K "Web") (He.ma K (He.ga K "Web") "__init__") := He.mkr_ok (c.d.fact 71 (f := .mkr "Web") rfl)
  have n1 : NoAttr K (He.ga K "Web") "size" := He.noat_ok (c.d.fact 72 (f := .noat "Web" "size") rfl)
  have n2 : NoAttr K (He.ga K "Web") "ties" := He.noat_ok (c.d.fact 73 (f := .noat "Web" "ties") rfl)
  have nl : NoAttr K (He.ga K "BadLine") "line" := He.noat_ok (c.d.fact 74 (f := .noat "BadLine" "line") rfl)
  have nc : NoAttr K (He.ga K "BadLine") "column" := He.noat_ok (c.d.fact 75 (f := .noat "BadLine" "column") rfl)
  have ex := He.exm_ok (c.d.fact 76 (f := .exm "BadLine" "BadLine" true) rfl)
  have hex := c.ex
  unfold exAll at hex
  obtain ⟨x1, hex⟩ := He.ba hex
  obtain ⟨x2, hex⟩ := He.ba hex
  obtain ⟨x3, x4⟩ := He.ba hex
  obtain ⟨o1, x1⟩ := He.ba x1
  obtain ⟨o2, x1⟩ := He.ba x1
  obtain ⟨o3, x1⟩ := He.ba x1
  obtain ⟨o4, x1⟩ := He.ba x1
  obtain ⟨o5, x1⟩ := He.ba x1
  obtain ⟨o6, x1⟩ := He.ba x1
  obtain ⟨o7, o8⟩ := He.ba x1
  obtain ⟨e1, x2⟩ := He.ba x2
  obtain ⟨e2, e3⟩ := He.ba x2
  obtain ⟨w1, x3⟩ := He.ba x3
  obtain ⟨w2, x3⟩ := He.ba x3
  obtain ⟨w3, x3⟩ := He.ba x3
  obtain ⟨w4, x3⟩ := He.ba x3
  obtain ⟨w5, w6⟩ := He.ba x3
  have BL : BadL K mg (He.ga K "BadLine") (He.ma K (He.ga K "BadLine") "__init__") := ⟨m_BadLine, ⟨oex_ok o1, He.eqO_ok o2, of_decide_eq_true o3, of_decide_eq_true o4, o5⟩, He.eqO_ok o6, of_decide_eq_true o7, nl, nc⟩
  have xf : XfC K (He.ga K "BadLine") := xfB_ok o8
  have fc : PySem.W.findCls K (.ref (He.ga K "WebError")) (.type "type") "__init__" = some (.val (.builtin "ValueError.__init__")) := by
    split at e3
    · rename_i n hn
      rw [hn, of_decide_eq_true e3]
    · cases e3
  have WEr : WebE K mg (He.ga K "WebError") := ⟨m_WebError, e1, He.eqO_ok e2, fc⟩
  have insC : C8.InsC K (He.ga K "Web") := by
    refine ⟨cl, He.eqO_ok w3, He.eqO_ok w4, of_decide_eq_true w5, of_decide_eq_true w6, ?_⟩
    unfold PySem.W.kitOne
    rw [if_pos (by simp)]
  have hW := words_ok x4
  obtain ⟨tt1, tt2, tt3⟩ := c.tab ("law", none) (List.mem_singleton.mpr rfl)
  obtain ⟨ocl, odl, dVl, kVl, docl, pml, anl, cdl, ctl, osll, el, lkl, hcdl, _, _⟩ := F_law.ex
  obtain ⟨cc, ecc⟩ := He.codeIn_ref hcdl
  have hcode : d_law.code = .ref (He.cT K ("law", none)).1 := by
    have e0 : d_law.code = .ref cc := by rw [el]; exact ecc
    have e1 : He.codeOf K ("law", none) = cc := He.codeOf_eq lkl e0
    rw [e0]
    exact congrArg Value.ref e1.symm
  have e := hfa.symm.trans m_law
  cases e
  refine ⟨d_law, [He.cT K ("law", none)], spLaw K (He.cT K ("law", none)).2, fun p hp => by rw [List.mem_singleton.mp hp]; exact tt3, fun p hp => by rw [List.mem_singleton.mp hp]; exact tt2, fun p hp => by rw [List.mem_singleton.mp hp]; exact PySem.W.codeHd_of_K X tt1, fun s u => FunD.bindsA (ps := ["script"]) F_law (fun _ _ _ _ _ _ us hl => match us, hl with | [_], _ => rfl) s [u] rfl,
    fun H a ns hl hT hS => ⟨a, ns, rfl, hS, hl, hT _ (List.mem_singleton.mpr rfl), fun _ => rfl⟩, fun base _ _ hTB => ?_⟩
  have T_run_end := told_of (P := l.prog) (w := w) (base := base) F_run_end m_run_end (ok_run_end F_run_end g_len) b_run_end
  have T_past_spaces := told_of (P := l.prog) (w := w) (base := base) F_past_spaces m_past_spaces (ok_past F_past_spaces T_run_end) b_past_spaces
  have T_name_scan := told_of (P := l.prog) (w := w) (base := base) F_name_scan m_name_scan (ok_name F_name_scan T_run_end g_len m_SMALL m_DIGITS m_LONGEST m_WORDS hW) b_name_scan
  have T_word_scan := told_of (P := l.prog) (w := w) (base := base) F_word_scan m_word_scan (ok_word F_word_scan g_len g_range) b_word_scan
  have T_gap_scan := told_of (P := l.prog) (w := w) (base := base) F_gap_scan m_gap_scan (ok_gap F_gap_scan T_past_spaces) b_gap_scan
  have T_rest_scan := told_of (P := l.prog) (w := w) (base := base) F_rest_scan m_rest_scan (ok_rest F_rest_scan T_past_spaces g_len) b_rest_scan
  have T_between_scan := told_of (P := l.prog) (w := w) (base := base) F_between_scan m_between_scan (ok_between F_between_scan g_len g_range g_str g_any) b_between_scan
  have T_is_whole := told_of (P := l.prog) (w := w) (base := base) F_is_whole m_is_whole (ok_whole F_is_whole g_isinstance g_int g_bool) b_is_whole
  have T_is_tuple_of := told_of (P := l.prog) (w := w) (base := base) F_is_tuple_of m_is_tuple_of (ok_tuple_of F_is_tuple_of g_isinstance g_tuple g_len) b_is_tuple_of
  have T_in_tuples := told_of (P := l.prog) (w := w) (base := base) F_in_tuples m_in_tuples (ok_in_tuples F_in_tuples g_isinstance g_tuple g_list m_in_tuples b_in_tuples 3) b_in_tuples
  have T_is_tie := told_of (P := l.prog) (w := w) (base := base) F_is_tie m_is_tie (ok_is_tie F_is_tie T_is_whole T_is_tuple_of) b_is_tie
  have T_web_key := told_of (P := l.prog) (w := w) (base := base) F_web_key m_web_key (ok_key F_web_key cl n1 n2) b_web_key
  have okWI := ok_webi (P := l.prog) (w := w) (base := base) F_Webinit cl n1 n2 T_is_whole T_in_tuples T_is_tie m_MOST_SIZE m_MOST_TIES g_isinstance g_tuple g_len g_all g_sorted
  have WEq : WebEqT l.prog w K mg base (He.ga K "Web") (He.ma K (He.ga K "Web") "__eq__") d_Webeq := ⟨ok_web_eq F_Webeq T_web_key insC g_isinstance m_Web, He.eqO_ok w1, w2, b_Webeq⟩
  have BT : BadT l.prog w K mg base (He.ga K "BadLine") (He.ma K (He.ga K "BadLine") "__init__") d_BadLineinit := ⟨BL, ok_bli F_BadLineinit BL WEr, b_BadLineinit⟩
  have T_refuse := toldX_of (P := l.prog) (w := w) (base := base) F_refuse m_refuse (ok_refuse F_refuse BT) b_refuse
  have T_title_scan := told_of (P := l.prog) (w := w) (base := base) F_title_scan m_title_scan (ok_tscan F_title_scan T_past_spaces T_word_scan T_gap_scan T_name_scan T_between_scan T_rest_scan m_MOST_SIZE g_int) b_title_scan
  have T_title_of := toldX_of (P := l.prog) (w := w) (base := base) F_title_of m_title_of (ok_title_of F_title_of BT T_title_scan g_len g_min) b_title_of
  have T_other_scan := told_of (P := l.prog) (w := w) (base := base) F_other_scan m_other_scan (ok_other F_other_scan g_len g_range g_str g_any) b_other_scan
  have T_read_tie := toldX_of (P := l.prog) (w := w) (base := base) F_read_tie m_read_tie (ok_read_tie F_read_tie T_past_spaces T_word_scan T_gap_scan T_between_scan T_rest_scan T_other_scan T_refuse g_range g_int g_tuple g_sorted) b_read_tie
  have T_read_end := toldX_of (P := l.prog) (w := w) (base := base) F_read_end m_read_end (ok_read_end F_read_end T_past_spaces T_word_scan T_rest_scan T_refuse) b_read_end
  have T_web_behind := toldX_of (P := l.prog) (w := w) (base := base) F_web_behind m_web_behind (ok_behind F_web_behind BT T_past_spaces T_read_end T_read_tie MK m_Web okWI b_Webinit m_MOST_TIES g_tuple g_len) b_web_behind
  have T_lines_of := toldX_of (P := l.prog) (w := w) (base := base) F_lines_of m_lines_of (ok_lines F_lines_of BT T_past_spaces g_isinstance g_str g_len g_range) b_lines_of
  have T_items_of := toldX_of (P := l.prog) (w := w) (base := base) F_items_of m_items_of (ok_items F_items_of T_lines_of T_title_of T_web_behind g_tuple g_len) b_items_of
  have T_item_text := told_of (P := l.prog) (w := w) (base := base) F_item_text m_item_text (ok_itext F_item_text cl n1 n2) b_item_text
  have T_text_of := told_of (P := l.prog) (w := w) (base := base) F_text_of m_text_of (ok_text_of F_text_of T_item_text) b_text_of
  have T_law_pen := told_of (P := l.prog) (w := w) (base := base) F_law_pen m_law_pen (ok_pen F_law_pen g_int g_list) b_law_pen
  have T_law_draw := told_of (P := l.prog) (w := w) (base := base) F_law_draw m_law_draw (ok_draw F_law_draw g_len g_int) b_law_draw
  have T_law_pick := told_of (P := l.prog) (w := w) (base := base) F_law_pick m_law_pick (ok_pick F_law_pick F_law_draw g_len g_int m_law_draw) b_law_pick
  have T_law_shuffled := told_of (P := l.prog) (w := w) (base := base) F_law_shuffled m_law_shuffled (ok_shuf F_law_shuffled T_law_draw g_len g_range g_list) b_law_shuffled
  have T_law_web := told_of (P := l.prog) (w := w) (base := base) F_law_web m_law_web (ok_lweb F_law_web T_law_draw g_range g_int g_min g_max g_sorted g_tuple) b_law_web
  have T_law_words := told_of (P := l.prog) (w := w) (base := base) F_law_words m_law_words (ok_words F_law_words) b_law_words
  have T_law_small := told_of (P := l.prog) (w := w) (base := base) F_law_small m_law_small (ok_small F_law_small) b_law_small
  have T_law_run := told_of (P := l.prog) (w := w) (base := base) F_law_run m_law_run (ok_law_run F_law_run g_len g_range) b_law_run
  have T_law_gap := told_of (P := l.prog) (w := w) (base := base) F_law_gap m_law_gap (ok_law_gap F_law_gap T_law_run) b_law_gap
  have T_law_rest := told_of (P := l.prog) (w := w) (base := base) F_law_rest m_law_rest (ok_law_rest F_law_rest T_law_run g_len) b_law_rest
  have T_law_one_word := told_of (P := l.prog) (w := w) (base := base) F_law_one_word m_law_one_word (ok_law_word F_law_one_word g_len g_range) b_law_one_word
  have T_law_one_name := told_of (P := l.prog) (w := w) (base := base) F_law_one_name m_law_one_name (ok_law_name F_law_one_name T_law_run T_law_small T_law_words) b_law_one_name
  have T_law_web_text := told_of (P := l.prog) (w := w) (base := base) F_law_web_text m_law_web_text (ok_wtext F_law_web_text g_str) b_law_web_text
  have T_law_name := told_of (P := l.prog) (w := w) (base := base) F_law_name m_law_name (ok_lname F_law_name T_law_draw T_law_pick T_law_small T_law_words g_range g_len) b_law_name
  have T_law_items := told_of (P := l.prog) (w := w) (base := base) F_law_items m_law_items (ok_litems F_law_items T_law_draw T_law_pick T_law_shuffled T_law_web T_law_name g_range g_list) b_law_items
  have T_law_text := told_of (P := l.prog) (w := w) (base := base) F_law_text m_law_text (ok_ltext F_law_text T_law_draw T_law_pick T_law_web_text) b_law_text
  have T_law_spoiled := told_of (P := l.prog) (w := w) (base := base) F_law_spoiled m_law_spoiled (ok_spoil F_law_spoiled T_law_draw T_law_pick T_law_small g_len g_list) b_law_spoiled
  have T_law_one_of := told_of (P := l.prog) (w := w) (base := base) F_law_one_of m_law_one_of (ok_one_of F_law_one_of g_len g_range g_any) b_law_one_of
  have T_law_title := told_of (P := l.prog) (w := w) (base := base) F_law_title m_law_title (ok_ltitle F_law_title T_law_run T_law_one_word T_law_gap T_law_one_name T_law_one_of T_law_rest g_range g_str g_int) b_law_title
  have T_law_tie := told_of (P := l.prog) (w := w) (base := base) F_law_tie m_law_tie (ok_ltie F_law_tie T_law_run T_law_one_word T_law_gap T_law_one_of T_law_rest g_range g_str g_int g_tuple g_sorted) b_law_tie
  have T_law_read := told_of (P := l.prog) (w := w) (base := base) F_law_read m_law_read (ok_lread F_law_read T_law_run T_law_title T_law_tie T_law_one_word T_law_rest MK m_Web okWI b_Webinit g_tuple g_len g_range) b_law_read
  have T_plain : ToldG l.prog w K mg base "_law_plain_items" 1 ["items"] (spPlain K (He.ga K "Web")) (He.ga K "_law_plain_items") d_law_plain_items := ⟨ok_plain F_law_plain_items cl n1 n2 g_repr, m_law_plain_items, F_law_plain_items.kp, b_law_plain_items⟩
  exact ok_law F_law hcode (hTB _ (List.mem_singleton.mpr rfl)) T_law_pen T_law_pick T_law_items T_law_web_text T_law_text T_text_of T_plain T_items_of T_law_spoiled T_law_read F_law_line m_law_line b_law_line BL xf ex MK m_Web okWI b_Webinit WEq g_tuple g_range g_repr
end
end K88
open PySem PySem.W PySem.Calls PyProof.Rows
theorem PySem.Challenge.cw_cutrounds_k88_whole_texts_of_webs_holds : PySem.Challenge.rw_cutrounds_k88_whole_texts_of_webs.Holds := by
  w_on; o_law
  refine HandSHeadRun.head_any (r := OpenLaw.row PySem.Challenge.rw_cutrounds_k88_whole_texts_of_webs) (q := view (OpenLaw.row PySem.Challenge.rw_cutrounds_k88_whole_texts_of_webs).prog [62]) (H := K88.hk) (ob := K88.ob) (M := 20000) (loose := K88.looseAll) (d := HandSHeadRun.topDef (OpenLaw.row PySem.Challenge.rw_cutrounds_k88_whole_texts_of_webs).prog 62) (kwd := []) K88.ob_eq
    (by kernel_rfl) (fun s => by kernel_rfl) K88.headRun (by kernel_rfl) (by kernel_rfl) (by kernel_rfl) (by rfl) (by first | assumption | decide +kernel) (by decide +kernel) ⟨rfl, rfl, rfl, rfl, rfl, by decide +kernel⟩ ?hw ?hc
  case hw => w_witness2
  case hc =>
    refine K88.walkGT (l := PySem.Challenge.rw_cutrounds_k88_whole_texts_of_webs) (n := 63) (k := 10) (x := "script") (CX := fun _ => C8.CX0) rfl (by decide) (by kernel_rfl) ⟨rfl, by decide, by decide⟩ ?F (fun _ _ _ _ _ z => z)
    intro w mg fa h Y G hmg0
    obtain ⟨K, KX, c⟩ := Y
    have hmg : mg ("law" : PySem.Str) = some (.ref fa) := by
      have e : (HandSHeadRun.topDef (OpenLaw.row PySem.Challenge.rw_cutrounds_k88_whole_texts_of_webs).prog 62).name = ("law" : PySem.Str) := by kernel_rfl
      rw [← e]
      exact hmg0
    exact ⟨K, KX, K88.law_told KX G hmg c⟩

import PyProof.Rows.All
import Wide.All
import OpenK.AllK
import Wide.FinOn
import HandS.Words
import KE.KStateDown
import Lean
import HandS.HeadEnd
import HandS.Head0
import HandS.Head1
import HandS.Head2
import HandS.Head3
import HandS.HeadHook1
import HandS.HeadHook2
import HandS.ForMost
import HandS.Walk
import HandS.OwnEq
import HandS.Defaults
import HandS.Wide
import HandS.Gcd
import HandS.IsInst
import HandS.Property
import HandS.Zip
import KE.KOpsOwn
import HandS.TupAny
import HandS.Style
import KE.KDictWalk
import KE.KeyNested
import KE.SortCalls
import KE.DatumOrd
import HandS.SortOrd
import KE.KDictSum
import KE.KDictCopyH
import KE.DataMinMax
import KE.KDictPairs
import HandS.DictTup
import KE.KEqDict
import HandS.Call
import KE.GoesMore
import PySem.Challenge.RW_aheadsums_k82_whole_pieces_put_together
set_option Elab.async false
set_option linter.all false
/-! Hd0: the statements of the top. -/
namespace L2.K3
open PySem PySem.Spec PyProof.Rows
def top (i : Nat) : Stmt := PySem.Challenge.pw_aheadsums_k82_whole_pieces_put_together.main.body.getD i (.Pass ⟨0, 0, 0, 0⟩)
abbrev sR (j : Nat) : Stmt := inClass (top 25) j
abbrev sT (j : Nat) : Stmt := inClass (top 48) j
abbrev sY (j : Nat) : Stmt := inClass (top 67) j
end L2.K3
set_option Elab.async false
set_option linter.all false
set_option maxRecDepth 100000
set_option maxHeartbeats 0
/-! HdA: what the top leaves, read by one run of it. -/
namespace HdF
open PySem PySem.Spec PyProof.Rows L2 L2.K3 He
/-- one function: where it lies, what it is -/
structure DefA where
  ad : PySem.W.Frag → Addr
  name : Str
  qual : Str
  st : Stmt
  dfl : List Dv
def fnA (K : PySem.W.Frag) (a : Addr) : FnW := match K.lookup a with
  | some ⟨_, _, .func fd, _⟩ => some (fd.name, fd.qualname, fd.params, fd.body, fd.scope, fd.globals, fd.closure, fd.builtins)
  | _ => none
def DefA.val (d : DefA) : FnW := some (d.name, d.qual, defArgs d.st, .stmts (defBody d.st), defScope d.st, mainGlobals, [], builtinsNs)
def DefA.dvs (K : PySem.W.Frag) (d : DefA) : List V := d.dfl.map (Dv.v K)
def DefA.ok (K : PySem.W.Frag) (d : DefA) : Bool := PySem.W.keepIn K (.ref (d.ad K)) && (match K.lookup (d.ad K) with
  | some ⟨_, _, .func fd, _⟩ => PySem.W.codeIn K fd.code d.qual && dflB K fd.defaults (d.dvs K)
  | _ => false)
theorem DefA.funD {K : PySem.W.Frag} {d : DefA} (e : fnA K (d.ad K) = d.val) (c : d.ok K = true) : ∃ fd, FunD K d.name d.qual (defArgs d.st) (defBody d.st) (defScope d.st) (d.dvs K) [] (d.ad K) fd := by
  obtain ⟨kp, c2⟩ := ba c
  unfold fnA at e
  cases q : K.lookup (d.ad K) with
  | none => rw [q] at c2; cases c2
  | some o =>
    obtain ⟨oc, od, dt, osl⟩ := o
    rw [q] at c2 e
    cases dt with
    | func fd =>
      obtain ⟨n1, n2, n3, n4, n5, n6, n7, n8, n9, n10, n11, n12, n13, n14, n15⟩ := fd
      have e2 : (some (n1, n2, n3, n4, n5, n6, n7, n15) : FnW) = some (d.name, d.qual, defArgs d.st, .stmts (defBody d.st), defScope d.st, mainGlobals, [], builtinsNs) := e
      simp only [Option.some.injEq, Prod.mk.injEq] at e2
      obtain ⟨h1, h2, h3, h4, h5, h6, h7, h8⟩ := e2
      subst h1 h2 h3 h4 h5 h6 h7 h8
      obtain ⟨k1, k2⟩ := ba (show (PySem.W.codeIn K n13 d.qual && dflB K n8 (d.dvs K)) = true from c2)
      exact ⟨_, ⟨oc, od, n8, n9, n10, n11, n12, n13, n14, osl, rfl, q, k1, dflB_ok k2, .inl rfl⟩, kp⟩
    | _ => cases c2
/-- a property's getter -/
def pgA (K : PySem.W.Frag) (p : Addr) : Addr := match PySem.W.recIn K p "property" with
  | some (.ref g :: _) => g
  | _ => 0
def isPg (K : PySem.W.Frag) (p : Addr) : Bool := match PySem.W.recIn K p "property" with
  | some (.ref _ :: _) => true
  | _ => false
theorem isPg_ok {K : PySem.W.Frag} {p : Addr} (h : isPg K p = true) : ∃ rest, PySem.W.recIn K p "property" = some (.ref (pgA K p) :: rest) := by
  unfold isPg at h
  unfold pgA
  split at h
  · rename_i g rest q
    exact ⟨rest, by rw [q]⟩
  · cases h
def dP (x : Str) (i : Nat) : DefA := ⟨fun K => ga K x, x, x, top i, []⟩
def dM (C x q : Str) (st : Stmt) (dfl : List Dv) : DefA := ⟨fun K => ma K (ga K C) x, x, q, st, dfl⟩
def dG (C x q : Str) (st : Stmt) : DefA := ⟨fun K => pgA K (ma K (ga K C) x), x, q, st, []⟩
def fn0 : List DefA := [dP "is_integer" 17, dP "is_count" 18, dP "divisor_of" 24, dP "told_pair" 26, dP "is_number" 27, dP "ratio_of" 28, dP "total_of" 31, dP "wholes" 30, dP "ints_of" 33, dP "bare_row" 34, dP "cleared" 35, dP "first_at" 36, dP "headed_row" 37, dP "int_steps" 38, dP "head_of" 39, dP "told_rows" 40, dP "steps_of" 41, dP "is_list" 19, dP "want_at_most" 20, dP "want_columns" 45, dP "want_like" 51, dP "is_row" 46, dP "told_row" 47, dP "table_of" 49, dP "want_table" 50, dP "joined" 52, dP "is_letter_of" 56, dP "is_word_of" 57, dP "worth_at" 58, dP "worths_at" 59, dP "ahead_sums" 60, dP "put_more" 63, dP "sums_told" 64, dP "parts_joined" 65, dP "is_word_part" 66, dP "want_tally" 68]
def fn1 : List DefA := [dP "worth_of_tally" 69, dP "tally_worth" 70, dP "middle_parts" 72, dP "found_room" 73, dP "room_of" 74, dP "heads_of" 75, dP "worth_over" 76, dP "joining_of" 77, dP "joining" 78, dP "whole_numbers" 79, dP "kept_numbers" 80, dP "want_kept" 81, dP "joined_by_cuts" 82, dP "joined_numbers" 83, dP "_law_pot" 85, dP "_law_draw" 86, dP "_law_pick" 87, dP "_law_letter" 91, dP "_law_word" 92, dP "_law_number" 93, dP "_law_joined" 94, dP "_law_parts" 95, dP "_law_row" 96, dP "_law_rows" 97, dP "_law_worth" 88, dP "_law_ahead" 89, dP "_law_tally" 90, dP "_law_mixed" 101, dP "_law_middle" 98, dP "_law_less" 99, dP "_law_room" 100, dP "_law_right" 102, dP "law" 103, dM "Ratio" "__init__" "Ratio.__init__" (sR 0) [.int 1], dM "Table" "__init__" "Table.__init__" (sT 0) [], dM "Tally" "__init__" "Tally.__init__" (sY 0) []]
def fn2 : List DefA := [dM "Ratio" "__add__" "Ratio.__add__" (sR 6) [], dM "Ratio" "__sub__" "Ratio.__sub__" (sR 8) [], dM "Ratio" "__mul__" "Ratio.__mul__" (sR 10) [], dM "Ratio" "over" "Ratio.over" (sR 13) [], dM "Ratio" "__eq__" "Ratio.__eq__" (sR 17) [], dG "Ratio" "sign" "Ratio.sign" (sR 3), dG "Ratio" "is_whole" "Ratio.is_whole" (sR 4), dG "Ratio" "top" "Ratio.top" (sR 1)]
def fn : List DefA := fn0 ++ (fn1 ++ (fn2))
def fa0 : List Fa := [.glo "is_integer", .glo "is_count", .glo "divisor_of", .glo "told_pair", .glo "is_number", .glo "ratio_of", .glo "total_of", .glo "wholes", .glo "ints_of", .glo "bare_row", .glo "cleared", .glo "first_at", .glo "headed_row", .glo "int_steps", .glo "head_of", .glo "told_rows", .glo "steps_of", .glo "is_list", .glo "want_at_most", .glo "want_columns", .glo "want_like", .glo "is_row", .glo "told_row", .glo "table_of", .glo "want_table", .glo "joined", .glo "is_letter_of", .glo "is_word_of", .glo "worth_at", .glo "worths_at", .glo "ahead_sums", .glo "put_more", .glo "sums_told", .glo "parts_joined", .glo "is_word_part", .glo "want_tally"]
def fa1 : List Fa := [.glo "worth_of_tally", .glo "tally_worth", .glo "middle_parts", .glo "found_room", .glo "room_of", .glo "heads_of", .glo "worth_over", .glo "joining_of", .glo "joining", .glo "whole_numbers", .glo "kept_numbers", .glo "want_kept", .glo "joined_by_cuts", .glo "joined_numbers", .glo "_law_pot", .glo "_law_draw", .glo "_law_pick", .glo "_law_letter", .glo "_law_word", .glo "_law_number", .glo "_law_joined", .glo "_law_parts", .glo "_law_row", .glo "_law_rows", .glo "_law_worth", .glo "_law_ahead", .glo "_law_tally", .glo "_law_mixed", .glo "_law_middle", .glo "_law_less", .glo "_law_room", .glo "_law_right", .glo "law", .glo "Ratio", .glo "Table", .glo "Tally"]
def fa2 : List Fa := [.free "isinstance", .free "int", .free "bool", .free "list", .free "tuple", .free "range", .free "len", .free "zip", .free "enumerate", .free "sorted", .free "dict", .free "min", .free "max", .free "abs", .free "divmod", .free "all", .int "MOST_COLUMNS" 3, .int "MOST_ROWS" 40, .int "MOST_POWER" 8, .int "MOST_LETTERS" 8, .int "MOST_PARTS" 400, .cls "Ratio", .mkr "Ratio", .cls "Table", .mkr "Table", .cls "Tally", .mkr "Tally", .noat "Ratio" "own_top", .noat "Ratio" "own_bottom", .noat "Table" "own_columns", .noat "Table" "own_rows", .noat "Tally" "own_columns", .noat "Tally" "own_parts", .noat "Tally" "own_kept", .meth "Ratio" "__add__", .meth "Ratio" "__sub__"]
def fa3 : List Fa := [.meth "Ratio" "__mul__", .meth "Ratio" "over", .meth "Ratio" "__eq__"]
def fa : List Fa := fa0 ++ (fa1 ++ (fa2 ++ (fa3)))
def ex0 : List (PySem.W.Frag → Bool) := [fun K => eqO (PySem.W.nsIn K mainGlobals "gcd") (some (some (.builtin "math.gcd"))), fun K => eqO (PySem.W.nsIn K mainGlobals "lcm") (some (some (.builtin "math.lcm"))), fun K => eqO (PySem.W.findIn K (.ref (ga K "Ratio")) "__class__") (some (some (.builtin "object.__class__"))), fun K => decide (PySem.W.mroIn K (ga K "Ratio") (.type "object") = some true), fun K => eqO (PySem.W.findIn K (.ref (ga K "Table")) "__class__") (some (some (.builtin "object.__class__"))), fun K => decide (PySem.W.mroIn K (ga K "Table") (.type "object") = some true), fun K => eqO (PySem.W.findIn K (.ref (ga K "Tally")) "__class__") (some (some (.builtin "object.__class__"))), fun K => decide (PySem.W.mroIn K (ga K "Tally") (.type "object") = some true), fun K => eqO (PySem.W.specialIn K (.builtin "object.__class__") "__get__") (some (some (.builtin "getset_descriptor.__get__"))), fun K => decide (PySem.W.takesIn K (.builtin "object.__class__") = some true), fun K => decide (PySem.W.kitOne K (.ref (ga K "Ratio")) (.type "int") = some false), fun K => decide (PySem.W.kitOne K (.type "int") (.ref (ga K "Ratio")) = some false), fun K => PySem.W.selfFirst K (ga K "Ratio"), fun K => eqO (PySem.W.findIn K (.ref (ga K "Ratio")) "__ne__") (some (some (.builtin "object.__ne__"))), fun K => eqO (PySem.W.findIn K (.ref (ga K "Ratio")) "__radd__") (some (some (.ref (ma K (ga K "Ratio") "__radd__")))), fun K => (PySem.W.findIn K (.type "int") "__add__").isSome, fun K => (PySem.W.findIn K (.type "int") "__radd__").isSome, fun K => decide (PySem.W.subIn K (.type "int") (.ref (ga K "Ratio")) = some false), fun K => eqO (PySem.W.findIn K (.ref (ga K "Ratio")) "sign") (some (some (.ref (ma K (ga K "Ratio") "sign")))), fun K => eqO (PySem.W.specialIn K (.ref (ma K (ga K "Ratio") "sign")) "__get__") (some (some (.builtin "property.__get__"))), fun K => decide (PySem.W.takesIn K (.ref (ma K (ga K "Ratio") "sign")) = some true), fun K => isPg K (ma K (ga K "Ratio") "sign"), fun K => eqO (PySem.W.findIn K (.ref (ga K "Ratio")) "is_whole") (some (some (.ref (ma K (ga K "Ratio") "is_whole")))), fun K => eqO (PySem.W.specialIn K (.ref (ma K (ga K "Ratio") "is_whole")) "__get__") (some (some (.builtin "property.__get__"))), fun K => decide (PySem.W.takesIn K (.ref (ma K (ga K "Ratio") "is_whole")) = some true), fun K => isPg K (ma K (ga K "Ratio") "is_whole"), fun K => eqO (PySem.W.findIn K (.ref (ga K "Ratio")) "top") (some (some (.ref (ma K (ga K "Ratio") "top")))), fun K => eqO (PySem.W.specialIn K (.ref (ma K (ga K "Ratio") "top")) "__get__") (some (some (.builtin "property.__get__"))), fun K => decide (PySem.W.takesIn K (.ref (ma K (ga K "Ratio") "top")) = some true), fun K => isPg K (ma K (ga K "Ratio") "top")]
def ex : List (PySem.W.Frag → Bool) := ex0
def pl0 : List Addr := [3, 462, 461, 617, 616, 743, 742, 321, 320, 314, 586, 585, 710, 709, 368, 367, 382, 381, 396, 395, 417, 416, 445, 444, 345, 344, 343, 353, 352, 351, 329, 328, 327, 271, 270, 278]
def pl1 : List Addr := [277, 306, 305, 473, 472, 480, 479, 487, 486, 506, 505, 499, 498, 511, 510, 516, 515, 521, 520, 528, 527, 533, 532, 538, 537, 545, 544, 550, 549, 557, 556, 285, 284, 292, 291, 564]
def pl2 : List Addr := [563, 640, 639, 569, 568, 574, 573, 626, 625, 633, 632, 647, 646, 652, 651, 657, 656, 664, 663, 669, 668, 674, 673, 681, 680, 686, 685, 691, 690, 698, 697, 754, 753, 759, 758, 766]
def pl3 : List Addr := [765, 771, 770, 776, 775, 783, 782, 788, 787, 793, 792, 798, 797, 805, 804, 810, 809, 815, 814, 820, 819, 827, 826, 832, 831, 839, 838, 846, 845, 853, 852, 881, 880, 888, 887, 895]
def pl4 : List Addr := [894, 900, 899, 907, 906, 914, 913, 921, 920, 860, 859, 867, 866, 874, 873, 943, 942, 926, 925, 931, 930, 936, 935, 948, 947, 955, 954]
def pl : List Addr := pl0 ++ (pl1 ++ (pl2 ++ (pl3 ++ (pl4))))
def obsK (K : PySem.W.Frag) : AlD := (((fa.all fun f => f.ok K) && fn.all fun d => d.ok K) && ex.all fun f => f K, fn.map fun d => fnA K (d.ad K))
def valK : AlD := (true, fn.map DefA.val)
def Says (K : PySem.W.Frag) : Prop := obsK K = valK
def obsF (g : Addr → Option Obj) : AlD := obsK (frG g pl)
def hk : PySem.W.Hook where
  α := AlD
  obs := fun s => obsF s.heap.get?
  val := fun _ => valK
  says := fun _ h => ∃ K : PySem.W.Frag, K.In h ∧ Says K
  of := fun _ _ e => ⟨_, frG_in, e⟩
  keeps := fun _ _ _ ⟨K, hK, c⟩ k => ⟨K, PySem.W.Frag.In.keeps hK k, c⟩
theorem Says.fact {K : PySem.W.Frag} (c : Says K) (i : Nat) {f : Fa} (h : fa[i]? = some f := by rfl) : f.ok K = true := by
  have c1 := (ba (ba (show (((fa.all fun f => f.ok K) && fn.all fun d => d.ok K) && ex.all fun f => f K) = true from congrArg (fun z : AlD => z.1) c)).1).1
  exact List.all_eq_true.mp c1 f (List.mem_of_getElem? h)
theorem Says.more {K : PySem.W.Frag} (c : Says K) (i : Nat) {f : PySem.W.Frag → Bool} (h : ex[i]? = some f := by rfl) : f K = true := by
  have c1 := (ba (show (((fa.all fun f => f.ok K) && fn.all fun d => d.ok K) && ex.all fun f => f K) = true from congrArg (fun z : AlD => z.1) c)).2
  exact List.all_eq_true.mp c1 f (List.mem_of_getElem? h)
theorem Says.def_ {K : PySem.W.Frag} (c : Says K) (i : Nat) {d : DefA} (h : fn[i]? = some d := by rfl) : ∃ fd, FunD K d.name d.qual (defArgs d.st) (defBody d.st) (defScope d.st) (d.dvs K) [] (d.ad K) fd := by
  have c2 := (ba (ba (show (((fa.all fun f => f.ok K) && fn.all fun d => d.ok K) && ex.all fun f => f K) = true from congrArg (fun z : AlD => z.1) c)).1).2
  have e : fn.map (fun d => fnA K (d.ad K)) = fn.map DefA.val := congrArg (fun z : AlD => z.2) c
  have e2 : (fn.map fun d => fnA K (d.ad K))[i]? = (fn.map DefA.val)[i]? := by rw [e]
  rw [List.getElem?_map, List.getElem?_map, h] at e2
  exact DefA.funD (Option.some.inj e2) (List.all_eq_true.mp c2 d (List.mem_of_getElem? h))
abbrev R : PySem.W.OpenRow := PySem.W.OpenLaw.row PySem.Challenge.rw_aheadsums_k82_whole_pieces_put_together
abbrev qv : Program := PySem.W.view R.prog [0, 103]
def names0 : List PySem.Str := ["_wall", "SumsError", "StateError", "LimitError", "InvalidColumns", "InvalidNumber", "InvalidTable", "InvalidTally", "DividedByZero", "InvalidNumbers", "InvalidParts", "InvalidRows", "UnlikeColumns", "TooMany", "is_integer", "is_count", "is_list", "want_at_most"]
def names1 : List PySem.Str := ["PART", "digits_of", "divisor_of", "Ratio", "told_pair", "is_number", "ratio_of", "want_number", "wholes", "total_of", "ints_of", "bare_row", "cleared", "first_at", "headed_row", "int_steps", "head_of", "told_rows", "steps_of", "MOST_COLUMNS"]
def names2 : List PySem.Str := ["MOST_ROWS", "want_columns", "is_row", "told_row", "Table", "table_of", "want_table", "want_like", "joined", "MOST_POWER", "MOST_LETTERS", "is_letter_of", "is_word_of", "worth_at", "worths_at", "ahead_sums", "MOST_PARTS", "put_more", "sums_told", "parts_joined"]
def names3 : List PySem.Str := ["is_word_part", "Tally", "want_tally", "worth_of_tally", "tally_worth", "middle_parts", "found_room", "room_of", "heads_of", "worth_over", "joining_of", "joining", "whole_numbers", "kept_numbers", "want_kept", "joined_by_cuts", "joined_numbers", "_law_pot", "_law_draw", "_law_pick"]
def names4 : List PySem.Str := ["_law_worth", "_law_ahead", "_law_tally", "_law_letter", "_law_word", "_law_number", "_law_joined", "_law_parts", "_law_row", "_law_rows", "_law_middle", "_law_less", "_law_room", "_law_mixed", "_law_right"]
def names : List PySem.Str := names0 ++ names1 ++ names2 ++ names3 ++ names4
def ob (s : PySem.W.SharedT) : AlD := obsF (HandSHeadRun.getT s)
theorem ob_eq (s : PySem.W.SharedT) : ob s = hk.obs s.abs := by
  have e : HandSHeadRun.getT s = s.abs.heap.get? := funext (HandSHeadRun.getT_eq s)
  show obsF _ = obsF _
  rw [e]
theorem run1 (w : World) : HandSHeadRun.RunEqI R qv PySem.W.Hook.none (fun _ => ()) 15000 names w := by
  unfold HandSHeadRun.RunEqI
  kernel_rfl
/-- what the hook sees -/
def RunOb (w : World) : Prop := (HandSHeadRun.wholeF (fun p => HandSHeadRun.stepQ (HandSHeadRun.denQ HandSHeadRun.tabQ) p w) HandSHeadRun.fenceQ 15000 R.prog).map (fun x => ob x.2) = some valK
theorem run2 (w : World) : RunOb w := by
  unfold RunOb
  kernel_rfl
theorem two3 {α β γ δ : Type} {o : Option α} {f : α → β} {g : α → γ} {h : α → δ} {b : β} {c : γ} {d : δ} (h1 : o.map (fun x => (f x, g x, ())) = some (b, c, ())) (h2 : o.map (fun x => h x) = some d) : o.map (fun x => (f x, g x, h x)) = some (b, c, d) := by
  cases o with
  | none => cases h1
  | some x =>
    have e1 : (f x, g x, ()) = (b, c, ()) := Option.some.inj h1
    have e2 : h x = d := Option.some.inj h2
    obtain ⟨e3, e4⟩ := Prod.mk.inj e1
    obtain ⟨e4, _⟩ := Prod.mk.inj e4
    show some (f x, g x, h x) = _
    rw [e2, e3, e4]
theorem run (w : World) : HandSHeadRun.RunEqI R qv hk ob 15000 names w := by
  have h1 := run1 w
  have h2 := run2 w
  unfold HandSHeadRun.RunEqI at h1 ⊢
  unfold RunOb at h2
  generalize (HandSHeadRun.wholeF (fun p => HandSHeadRun.stepQ (HandSHeadRun.denQ HandSHeadRun.tabQ) p w) HandSHeadRun.fenceQ 15000 R.prog) = o at h1 h2 ⊢
  exact two3 h1 h2
end HdF
set_option Elab.async false
set_option linter.all false
set_option maxRecDepth 100000
set_option maxHeartbeats 2000001
/-! K3A: a typed Hoare logic over the hand layer: frozen heap F, slots' predicates, cells. -/
namespace L2.K3
open PySem PySem.Spec PyProof.Rows

/-! ## predicates of values, of cells -/
structure MP where
  p : Hp → V → Prop
  mono : ∀ {F F' : Hp} {v : V}, Ext F F' → p F v → p F' v
structure CP where
  c : Hp → HO → Prop
  mono : ∀ {F F' : Hp} {o : HO}, Ext F F' → c F o → c F' o
structure Ty (α : Type) where
  t : Hp → V → α → Prop
  mono : ∀ {F F' : Hp} {v : V} {x : α}, Ext F F' → t F v x → t F' v x
def Ty.is {α : Type} (T : Ty α) (x : α) : MP := ⟨fun F v => T.t F v x, fun e h => T.mono e h⟩
def mpEx {α : Type} (f : α → MP) : MP := ⟨fun F v => ∃ x, (f x).p F v, fun e ⟨x, h⟩ => ⟨x, (f x).mono e h⟩⟩
def mpAnd (c : Prop) (P : MP) : MP := ⟨fun F v => c ∧ P.p F v, fun e ⟨h, q⟩ => ⟨h, P.mono e q⟩⟩
def mpRef (l : Addr) : MP := ⟨fun _ v => v = .ref l, fun _ h => h⟩
def mpV (x : V) : MP := ⟨fun _ v => v = x, fun _ h => h⟩

abbrev Gam := List (Option MP)
def EnvOk (F : Hp) (σ : St) (Γ : Gam) : Prop := σ.length = Γ.length ∧ ∀ (i : Nat) (P : MP), Γ[i]? = some (some P) → ∃ v, σ[i]? = some (some v) ∧ P.p F v
theorem EnvOk.mono {F F' : Hp} {σ : St} {Γ : Gam} (h : EnvOk F σ Γ) (e : Ext F F') : EnvOk F' σ Γ :=
  ⟨h.1, fun i P hi => let ⟨v, h1, h2⟩ := h.2 i P hi; ⟨v, h1, P.mono e h2⟩⟩
theorem EnvOk.set {F : Hp} {σ : St} {Γ : Gam} (h : EnvOk F σ Γ) (i : Nat) {P : MP} {v : V} (hv : P.p F v) : EnvOk F (σ.set i (some v)) (Γ.set i (some P)) := by
  refine ⟨by rw [List.length_set, List.length_set, h.1], fun j Q hj => ?_⟩
  by_cases hij : i = j
  · subst hij
    by_cases hl : i < Γ.length
    · rw [List.getElem?_set_self hl] at hj
      cases hj
      exact ⟨v, by rw [List.getElem?_set_self (by rw [h.1]; exact hl)], hv⟩
    · rw [List.getElem?_eq_none (by rw [List.length_set]; omega)] at hj
      cases hj
  · rw [List.getElem?_set_ne hij] at hj
    obtain ⟨w, h1, h2⟩ := h.2 j Q hj
    exact ⟨w, by rw [List.getElem?_set_ne hij]; exact h1, h2⟩
abbrev Mem := List (Addr × CP)
structure Cells (F H : Hp) (M : Mem) : Prop where
  nd : (M.map (·.1)).Nodup
  mem : ∀ p ∈ M, F p.1 = none ∧ ∃ o, H p.1 = some o ∧ p.2.c F o
theorem Cells.nil {F H : Hp} : Cells F H [] := ⟨List.nodup_nil, fun _ h => nomatch h⟩

/-- a step: frozen things grow, all but the cells stays, cells stay cells -/
structure Stp (M : Mem) (F H F' H' : Hp) : Prop where
  ff : Ext F F'
  fh : Ext F' H'
  hh : ∀ a o, a ∉ M.map (·.1) → H a = some o → H' a = some o
  nw : ∀ a o, F' a = some o → F a ≠ none ∨ H a = none
  ce : Cells F' H' M
theorem Stp.refl {M : Mem} {F H : Hp} (e : Ext F H) (c : Cells F H M) : Stp M F H F H :=
  ⟨Ext.rfl', e, fun _ _ _ h => h, fun a o h => .inl (by rw [h]; exact fun q => nomatch q), c⟩
theorem Stp.trans {M : Mem} {F H F1 H1 F2 H2 : Hp} (a : Stp M F H F1 H1) (b : Stp M F1 H1 F2 H2) : Stp M F H F2 H2 := by
  refine ⟨a.ff.trans b.ff, b.fh, fun x o hx h => b.hh x o hx (a.hh x o hx h), fun x o h => ?_, b.ce⟩
  rcases b.nw x o h with h1 | h1
  · cases e : F1 x with
    | none => exact absurd e h1
    | some u => exact a.nw x u e
  · right
    cases e : H x with
    | none => rfl
    | some u =>
      by_cases hx : x ∈ M.map (·.1)
      · obtain ⟨p, hp, rfl⟩ := List.mem_map.mp hx
        obtain ⟨_, o', ho, _⟩ := a.ce.mem p hp
        rw [h1] at ho
        cases ho
      · rw [a.hh x u hx e] at h1
        cases h1
/-- cells by a bigger frozen heap -/
theorem Cells.up {M : Mem} {F H F' H' : Hp} (c : Cells F H M) (ff : Ext F F') (hh : ∀ a o, H a = some o → H' a = some o) (nw : ∀ a o, F' a = some o → F a ≠ none ∨ H a = none) : Cells F' H' M := by
  refine ⟨c.nd, fun p hp => ?_⟩
  obtain ⟨f0, o, ho, hc⟩ := c.mem p hp
  refine ⟨?_, o, hh _ _ ho, p.2.mono ff hc⟩
  cases e : F' p.1 with
  | none => rfl
  | some u =>
    rcases nw _ _ e with q | q
    · exact absurd f0 q
    · rw [q] at ho
      cases ho
/-- a step with fewer cells is one with more -/
theorem Stp.up {M N : Mem} {F H F' H' : Hp} (s : Stp M F H F' H') (c : Cells F H N) (hm : ∀ p ∈ M, p ∈ N) : Stp N F H F' H' := by
  refine ⟨s.ff, s.fh, fun a o ha h => s.hh a o (fun q => ha ?_) h, s.nw, ⟨c.nd, fun p hp => ?_⟩⟩
  · obtain ⟨p, hp, e⟩ := List.mem_map.mp q
    exact List.mem_map.mpr ⟨p, hm p hp, e⟩
  · by_cases h : p.1 ∈ M.map (·.1)
    · obtain ⟨q, hq, e⟩ := List.mem_map.mp h
      have hqN := hm q hq
      have : q = p := by
        have nd := c.nd
        exact inj_of_nodup nd hqN hp e
      subst this
      exact s.ce.mem q hq
    · obtain ⟨f0, o, ho, hc⟩ := c.mem p hp
      refine ⟨?_, o, s.hh _ _ h ho, p.2.mono s.ff hc⟩
      cases e : F' p.1 with
      | none => rfl
      | some u =>
        rcases s.nw _ _ e with q | q
        · exact absurd f0 q
        · rw [q] at ho
          cases ho
where
  inj_of_nodup {l : Mem} (nd : (l.map (·.1)).Nodup) {p q : Addr × CP} (hp : p ∈ l) (hq : q ∈ l) (e : p.1 = q.1) : p = q := by
    induction l with
    | nil => cases hp
    | cons x l ih =>
      rw [List.map_cons, List.nodup_cons] at nd
      rcases List.mem_cons.mp hp with h1 | h1
      · rcases List.mem_cons.mp hq with h2 | h2
        · rw [h1, h2]
        · exact absurd (List.mem_map.mpr ⟨q, h2, by rw [← e, h1]⟩) nd.1
      · rcases List.mem_cons.mp hq with h2 | h2
        · exact absurd (List.mem_map.mpr ⟨p, h1, by rw [e, h2]⟩) nd.1
        · exact ih nd.2 h1 h2
/-- a new object that nobody writes: frozen -/
theorem Stp.new {M : Mem} {F H : Hp} {p : Addr} {o : HO} (e : Ext F H) (c : Cells F H M) (hp : H p = none) : Stp M F H (upd F p o) (upd H p o) := by
  have fp : F p = none := by
    cases q : F p with
    | none => rfl
    | some u =>
      rw [e p u q] at hp
      cases hp
  have nw : ∀ a u, upd F p o a = some u → F a ≠ none ∨ H a = none := fun a u h => by
    by_cases hq : a = p
    · subst hq
      exact .inr hp
    · rw [upd_ne hq] at h
      exact .inl (by rw [h]; exact fun q => nomatch q)
  refine ⟨Ext.upd fp, fun a u h => ?_, fun a u _ h => Ext.upd hp a u h, nw, c.up (Ext.upd fp) (fun a u h => Ext.upd hp a u h) nw⟩
  by_cases hq : a = p
  · subst hq
    rw [upd_same] at h ⊢
    exact h
  · rw [upd_ne hq] at h ⊢
    exact e a u h
theorem ext_none {F H : Hp} {a : Addr} (e : Ext F H) (h : H a = none) : F a = none := by
  cases q : F a with
  | none => rfl
  | some u =>
    rw [e a u q] at h
    cases h

/-! ## semantic readings -/
section
variable (X : Cx)
def wE (e : Expr) : TE := fun σ H Q => ∀ (pins : List (Addr × Obj)) (s : Shared), Inv X pins σ H s → wpAny (model X.prog X.w) X.A (eval e X.env) (EP X pins σ Q) X.xe s
def wT (e : Expr) : TT := fun σ H Q => ∀ (pins : List (Addr × Obj)) (s : Shared), Inv X pins σ H s → wpAny (model X.prog X.w) X.A (isTrue e X.env (eval e X.env)) (TP X pins σ Q) X.xe s
def wW (e : Expr) : TT := fun σ H Q => ∀ (whole : Sem Value) (pins : List (Addr × Obj)) (s : Shared), Inv X pins σ H s → wpAny (model X.prog X.w) X.A (isTrue e X.env whole) (TP X pins σ Q) X.xe s
def wA (es : List Expr) : TA := fun σ H Q => ∀ (pos : Pos) (pins : List (Addr × Obj)) (s : Shared), Inv X pins σ H s → wpAny (model X.prog X.w) X.A (spliced (backTo pos (starEach es X.env))) (AP X pins σ Q) X.xe s
def wK (kws : List Keyword) : TA := fun σ H Q => ∀ (pos : Pos) (pins : List (Addr × Obj)) (s : Shared), Inv X pins σ H s → wpAny (model X.prog X.w) X.A (evalAll ((backToKw pos (keywordEach kws X.env)).map (·.2))) (AP X pins σ Q) X.xe s
def wS (st : Stmt) : TS := fun D σ H => ∀ (pins : List (Addr × Obj)) (s : Shared), Inv X pins σ H s → wpAny (model X.prog X.w) X.A (exec st X.env) (SP X pins D) X.xe s
def wSs (sts : List Stmt) : TS := fun D σ H => ∀ (pins : List (Addr × Obj)) (s : Shared), Inv X pins σ H s → wpAny (model X.prog X.w) X.A (execs sts X.env) (SP X pins D) X.xe s
def wG (tg : Expr) : TG := fun v σ H Q => ∀ (pins : List (Addr × Obj)) (s : Shared) (u : Value), Inv X pins σ H s → RelV v u →
    wpAny (model X.prog X.w) X.A (assign tg X.env u) (fun _ s' => ∃ σ' H', Inv X pins σ' H' s' ∧ Q σ' H') X.xe s
def wGs (ts : List Expr) : TGs := fun vs σ H Q => ∀ (pins : List (Addr × Obj)) (s : Shared) (us : List Value), Inv X pins σ H s → Vals vs us →
    wpAny (model X.prog X.w) X.A (assignInOrder ((assignEach ts X.env).map (·.2)) us) (fun _ s' => ∃ σ' H', Inv X pins σ' H' s' ∧ Q σ' H') X.xe s
def wI (tg iter : Expr) : TI := fun σ H R => ∀ (pins : List (Addr × Obj)) (s : Shared), Inv X pins σ H s →
    wpAny (model X.prog X.w) X.A (eval iter X.env) (fun v s1 => wpAny (model X.prog X.w) X.A (pyIter v) (PIE X pins σ tg R) X.xe s1) X.xe s
def wTs (ifs : List Expr) : TT := fun σ H Q => ∀ t, PTs X ifs t → t σ H Q → t σ H Q
end
section
variable {X : Cx}
theorem pe_w {e : Expr} : PE X e (wE X e) := ⟨fun pins s σ H Q I h => h pins s I⟩
theorem pt_w {e : Expr} : PT X e (wT X e) := ⟨fun pins s σ H Q I h => h pins s I⟩
theorem pw_w {e : Expr} : PW X e (wW X e) := ⟨fun wh pins s σ H Q I h => h wh pins s I⟩
theorem pa_w {es : List Expr} : PA X es (wA X es) := ⟨fun pos pins s σ H Q I h => h pos pins s I⟩
theorem ps_w {st : Stmt} : PS X st (wS X st) := ⟨fun pins s σ H D I h => h pins s I⟩
theorem pss_w {sts : List Stmt} : PSs X sts (wSs X sts) := ⟨fun pins s σ H D I h => h pins s I⟩
theorem pg_w {tg : Expr} : PG X tg (wG X tg) := ⟨fun pins s σ H v u Q I r h => h pins s u I r⟩
theorem pgs_w {ts : List Expr} : PGs X ts (wGs X ts) := ⟨fun pins s σ H vs us Q I r h => h pins s us I r⟩
theorem pi_w {tg iter : Expr} : PI X tg iter (wI X tg iter) := ⟨fun pins s σ H R I h => h pins s I⟩
theorem wE_of {e : Expr} {t : TE} {σ : St} {H : Hp} {Q : VK} (h : PE X e t) (q : t σ H Q) : wE X e σ H Q := fun pins s I => h.run pins s σ H Q I q
theorem wT_of {e : Expr} {t : TT} {σ : St} {H : Hp} {Q : Bool → Hp → Prop} (h : PT X e t) (q : t σ H Q) : wT X e σ H Q := fun pins s I => h.run pins s σ H Q I q
theorem wW_of {e : Expr} {t : TT} {σ : St} {H : Hp} {Q : Bool → Hp → Prop} (h : PW X e t) (q : t σ H Q) : wW X e σ H Q := fun wh pins s I => h.run wh pins s σ H Q I q
theorem wA_of {es : List Expr} {t : TA} {σ : St} {H : Hp} {Q : List V → Hp → Prop} (h : PA X es t) (q : t σ H Q) : wA X es σ H Q := fun pos pins s I => h.run pos pins s σ H Q I q
theorem wS_of {st : Stmt} {t : TS} {σ : St} {H : Hp} {D : Ends} (h : PS X st t) (q : t D σ H) : wS X st D σ H := fun pins s I => h.run pins s σ H D I q
theorem wSs_of {sts : List Stmt} {t : TS} {σ : St} {H : Hp} {D : Ends} (h : PSs X sts t) (q : t D σ H) : wSs X sts D σ H := fun pins s I => h.run pins s σ H D I q
theorem wG_of {tg : Expr} {t : TG} {v : V} {σ : St} {H : Hp} {Q : St → Hp → Prop} (h : PG X tg t) (q : t v σ H Q) : wG X tg v σ H Q := fun pins s u I r => h.run pins s σ H v u Q I r q
theorem wGs_of {ts : List Expr} {t : TGs} {vs : List V} {σ : St} {H : Hp} {Q : St → Hp → Prop} (h : PGs X ts t) (q : t vs σ H Q) : wGs X ts vs σ H Q := fun pins s us I r => h.run pins s σ H vs us Q I r q
theorem wI_of {tg iter : Expr} {t : TI} {σ : St} {H : Hp} {R : It → Hp → Prop} (h : PI X tg iter t) (q : t σ H R) : wI X tg iter σ H R := fun pins s I => h.run pins s σ H R I q
theorem EP.imp {pins : List (Addr × Obj)} {σ : St} {Q Q' : VK} {u : Value} {s : Shared} (h : EP X pins σ Q u s) (q : ∀ v H, Q v H → Q' v H) : EP X pins σ Q' u s :=
  let ⟨v, H, I, r, k⟩ := h; ⟨v, H, I, r, q v H k⟩
theorem wE_mono {e : Expr} {σ : St} {H : Hp} {Q Q' : VK} (h : wE X e σ H Q) (q : ∀ v H, Q v H → Q' v H) : wE X e σ H Q' := fun pins s I => thn (h pins s I) fun u s' z => L2.K3.EP.imp z q
theorem SP_mono {pins : List (Addr × Obj)} {D D' : Ends} {f : Flow} {s : Shared} (h : SP X pins D f s) (n : ∀ σ H, D.nx σ H → D'.nx σ H) (r : ∀ v H, D.rt v H → D'.rt v H) (b : ∀ σ H, D.bk σ H → D'.bk σ H) (c : ∀ σ H, D.ct σ H → D'.ct σ H) : SP X pins D' f s := by
  cases f with
  | next => obtain ⟨σ, H, I, q⟩ := h; exact ⟨σ, H, I, n _ _ q⟩
  | brk => obtain ⟨σ, H, I, q⟩ := h; exact ⟨σ, H, I, b _ _ q⟩
  | cont => obtain ⟨σ, H, I, q⟩ := h; exact ⟨σ, H, I, c _ _ q⟩
  | ret u => obtain ⟨v, σ, H, I, rr, q⟩ := h; exact ⟨v, σ, H, I, rr, r _ _ q⟩
theorem wSs_mono {sts : List Stmt} {D D' : Ends} {σ : St} {H : Hp} (h : wSs X sts D σ H) (n : ∀ σ H, D.nx σ H → D'.nx σ H) (r : ∀ v H, D.rt v H → D'.rt v H) (b : ∀ σ H, D.bk σ H → D'.bk σ H) (c : ∀ σ H, D.ct σ H → D'.ct σ H) : wSs X sts D' σ H :=
  fun pins s I => thn (h pins s I) fun f s' z => SP_mono z n r b c
end

/-! ## expressions: Ev -/
section
variable (X : Cx) (Γ : Gam) (M : Mem)
/-- the expression gives a value with P; frozen things grow, cells stay -/
def Ev (e : Expr) (P : MP) : Prop := ∀ (σ : St) (F H : Hp), EnvOk F σ Γ → Ext F H → Cells F H M → ∀ Q : VK, (∀ F' H' v, Stp M F H F' H' → P.p F' v → Q v H') → wE X e σ H Q
def EvA (es : List Expr) (Ps : List MP) : Prop := ∀ (σ : St) (F H : Hp), EnvOk F σ Γ → Ext F H → Cells F H M → ∀ Q : List V → Hp → Prop, (∀ F' H' vs, Stp M F H F' H' → Paired (fun (v : V) (P : MP) => P.p F' v) vs Ps → Q vs H') → wA X es σ H Q
/-- a test that comes out b -/
def EvT (e : Expr) (b : Bool) : Prop := ∀ (σ : St) (F H : Hp), EnvOk F σ Γ → Ext F H → Cells F H M → ∀ Q : Bool → Hp → Prop, (∀ F' H', Stp M F H F' H' → Q b H') → wT X e σ H Q
def EvW (e : Expr) (b : Bool) : Prop := ∀ (σ : St) (F H : Hp), EnvOk F σ Γ → Ext F H → Cells F H M → ∀ Q : Bool → Hp → Prop, (∀ F' H', Stp M F H F' H' → Q b H') → wW X e σ H Q
/-- a value operation: from P, P' to R -/
def Op2 (r : R2) (P P' R : MP) : Prop := ∀ (F H : Hp) (v w : V), Ext F H → Cells F H M → P.p F v → P'.p F w → ∀ Q : VK, (∀ F' H' z, Stp M F H F' H' → R.p F' z → Q z H') → r v w H Q
def Op1 (r : V → Hp → VK → Prop) (P R : MP) : Prop := ∀ (F H : Hp) (v : V), Ext F H → Cells F H M → P.p F v → ∀ Q : VK, (∀ F' H' z, Stp M F H F' H' → R.p F' z → Q z H') → r v H Q
def OpN (r : List V → Hp → VK → Prop) (Ps : List MP) (R : MP) : Prop := ∀ (F H : Hp) (vs : List V), Ext F H → Cells F H M → Paired (fun (v : V) (P : MP) => P.p F v) vs Ps → ∀ Q : VK, (∀ F' H' z, Stp M F H F' H' → R.p F' z → Q z H') → r vs H Q
end
section
variable {X : Cx} {Γ : Gam} {M : Mem} {P P' R : MP} {a b e : Expr} {es : List Expr} {Ps : List MP} {pos : Pos}
theorem Ev.imp (h : Ev X Γ M e P) (q : ∀ F v, P.p F v → P'.p F v) : Ev X Γ M e P' := fun σ F H eo fh ce Q k => h σ F H eo fh ce Q fun F' H' v st pv => k F' H' v st (q F' v pv)
theorem ev_name (i : Nat) {x : Str} (hΓ : Γ[i]? = some (some P)) (hN : X.N[i]? = some x := by rfl) (hv : Vis X.env.scope x := by first | exact Or.inl rfl | exact Or.inr (Or.inl rfl) | exact Or.inr (Or.inr rfl))
    (hd : (x == ("__debug__" : Str)) = false := by decide) (hcd : (x == ("__classdict__" : Str)) = false := by decide) : Ev X Γ M (.Name x pos) P := fun σ F H eo fh ce Q k => by
  obtain ⟨v, h1, h2⟩ := eo.2 i P hΓ
  exact wE_of (pe_var hN hv hd hcd) ⟨v, h1, k F H v (Stp.refl fh ce) h2⟩
theorem ev_const {v : V} (h : PE X e (tC v)) : Ev X Γ M e (mpV v) := fun σ F H eo fh ce Q k => wE_of h (k F H v (Stp.refl fh ce) rfl)
theorem ev_op {op : Operator} {r : R2} (ho : OpR X (binaryOp op) r) (ha : Ev X Γ M a P) (hb : Ev X Γ M b P') (hr : Op2 M r P P' R) : Ev X Γ M (.BinOp a op b pos) R := fun σ F H eo fh ce Q k => by
  refine wE_of (pe_op ho pe_w pe_w) ?_
  refine ha σ F H eo fh ce _ fun F1 H1 v s1 pv => ?_
  refine hb σ F1 H1 (eo.mono s1.ff) s1.fh s1.ce _ fun F2 H2 w s2 pw => ?_
  exact hr F2 H2 v w s2.fh s2.ce (P.mono s2.ff pv) pw Q fun F3 H3 z s3 pz => k F3 H3 z ((s1.trans s2).trans s3) pz
theorem ev_cmp {op : CmpOp} {r : R2} (ho : OpR X (compareOp op) r) (ha : Ev X Γ M a P) (hb : Ev X Γ M b P') (hr : Op2 M r P P' R) (hm : behindInMarks op b = false := by first | exact nomark _ | rfl) : Ev X Γ M (.Compare a [op] [b] pos) R := fun σ F H eo fh ce Q k => by
  refine wE_of (pe_cmpR ho pe_w pe_w hm) ?_
  refine ha σ F H eo fh ce _ fun F1 H1 v s1 pv => ?_
  refine hb σ F1 H1 (eo.mono s1.ff) s1.fh s1.ce _ fun F2 H2 w s2 pw => ?_
  exact hr F2 H2 v w s2.fh s2.ce (P.mono s2.ff pv) pw Q fun F3 H3 z s3 pz => k F3 H3 z ((s1.trans s2).trans s3) pz
theorem ev_un {op : UnaryOp} {r : V → Hp → VK → Prop} (ho : UnR X (unaryOp op) r) (ha : Ev X Γ M a P) (hr : Op1 M r P R) : Ev X Γ M (.UnaryOp op a pos) R := fun σ F H eo fh ce Q k => by
  refine wE_of (pe_un ho pe_w) ?_
  refine ha σ F H eo fh ce _ fun F1 H1 v s1 pv => ?_
  exact hr F1 H1 v s1.fh s1.ce pv Q fun F3 H3 z s3 pz => k F3 H3 z (s1.trans s3) pz
theorem ev_ix {r : R2} (ho : IxR X r) (ha : Ev X Γ M a P) (hb : Ev X Γ M b P') (hr : Op2 M r P P' R) (hs : PlainIx b := by exact fun _ _ => rfl) : Ev X Γ M (.Subscript a b pos) R := fun σ F H eo fh ce Q k => by
  refine wE_of (pe_ix ho pe_w pe_w hs) ?_
  refine ha σ F H eo fh ce _ fun F1 H1 v s1 pv => ?_
  refine hb σ F1 H1 (eo.mono s1.ff) s1.fh s1.ce _ fun F2 H2 w s2 pw => ?_
  exact hr F2 H2 v w s2.fh s2.ce (P.mono s2.ff pv) pw Q fun F3 H3 z s3 pz => k F3 H3 z ((s1.trans s2).trans s3) pz
theorem eva_nil : EvA X Γ M [] [] := fun σ F H eo fh ce Q k => wA_of pa_nil (k F H [] (Stp.refl fh ce) .nil)
theorem eva_cons (he : Ev X Γ M e P) (hr : EvA X Γ M es Ps) (hs : starEach (e :: es) X.env = (false, eval e X.env) :: starEach es X.env := by rfl) : EvA X Γ M (e :: es) (P :: Ps) := fun σ F H eo fh ce Q k => by
  refine wA_of (pa_cons pe_w pa_w hs) ?_
  refine he σ F H eo fh ce _ fun F1 H1 v s1 pv => ?_
  refine hr σ F1 H1 (eo.mono s1.ff) s1.fh s1.ce _ fun F2 H2 vs s2 pvs => ?_
  exact k F2 H2 (v :: vs) (s1.trans s2) (.cons (P.mono s2.ff pv) pvs)
theorem eva_one (he : Ev X Γ M e P) (hs : starEach [e] X.env = (false, eval e X.env) :: starEach [] X.env := by rfl) : EvA X Γ M [e] [P] := eva_cons he eva_nil hs
/-- a built-in by its name -/
theorem ev_callB {id : String} {x : Str} {p : Pos} {r : List V → Hp → VK → Prop} (hc : CallR X (.builtin id) r) (ha : EvA X Γ M (e :: es) Ps) (hr : OpN M r Ps R) (hg : Gl X x) (hm : X.mg x = none) (hv : bootBuiltins x = some (.builtin id))
    (hn : x ≠ "__name__" := by decide) (hdb : (x == ("__debug__" : Str)) = false := by decide) (he : starEach (e :: es) X.env = (false, eval e X.env) :: starEach es X.env := by rfl)
    (hpl : (backTo pos (starEach es X.env)).any (·.1) = false := by rfl) : Ev X Γ M (.Call (.Name x p) (e :: es) [] pos) R := fun σ F H eo fh ce Q k => by
  refine wE_of (pe_callB hc hg hm hv pa_w hn hdb he hpl) ?_
  refine ha σ F H eo fh ce _ fun F1 H1 vs s1 pvs => ?_
  exact hr F1 H1 vs s1.fh s1.ce pvs Q fun F3 H3 z s3 pz => k F3 H3 z (s1.trans s3) pz
theorem ev_callTy {T : String} {x : Str} {p : Pos} {r : List V → Hp → VK → Prop} (hc : CallR X (.type T) r) (ha : EvA X Γ M (e :: es) Ps) (hr : OpN M r Ps R) (hg : Gl X x) (hm : X.mg x = none) (hv : bootBuiltins x = some (.type T))
    (hn : x ≠ "__name__" := by decide) (hdb : (x == ("__debug__" : Str)) = false := by decide) (he : starEach (e :: es) X.env = (false, eval e X.env) :: starEach es X.env := by rfl)
    (hpl : (backTo pos (starEach es X.env)).any (·.1) = false := by rfl) : Ev X Γ M (.Call (.Name x p) (e :: es) [] pos) R := fun σ F H eo fh ce Q k => by
  refine wE_of (pe_callTy hc hg hm hv pa_w hn hdb he hpl) ?_
  refine ha σ F H eo fh ce _ fun F1 H1 vs s1 pvs => ?_
  exact hr F1 H1 vs s1.fh s1.ce pvs Q fun F3 H3 z s3 pz => k F3 H3 z (s1.trans s3) pz
end

/-! ## calls of the text's own defs -/
/-- a typed promise: over i with pre i, arguments As i, cells M0 i, result R i -/
def spT {ι : Type} (pre : ι → Prop) (M0 : ι → Mem) (As : ι → List MP) (R : ι → MP) : Sp := fun vs H Q _ => ∃ (i : ι) (F : Hp), pre i ∧ Paired (fun (v : V) (P : MP) => P.p F v) vs (As i) ∧ Ext F H ∧ Cells F H (M0 i) ∧
  ∀ F' H' v, Stp (M0 i) F H F' H' → (R i).p F' v → Q v H'
/-- a def as callers see it -/
structure Cal (P : Program) (w : World) (K : PySem.W.Frag) (mg : Str → Option Value) (base : Heap) (x : Str) (k : Nat) (ps : List Str) (dvs : List V) (sp : Sp) : Prop where
  ex : ∃ (f : Addr) (fd : FuncData) (ds : List Value), FnOk P w K mg base CX0 k f fd ps sp ∧ mg x = some (.ref f) ∧ PySem.W.keepIn K (.ref f) = true ∧ Binds K fd ps ds ∧ Vals dvs ds
section
variable {X : Cx} {Γ : Gam} {M : Mem} {R : MP} {e : Expr} {es : List Expr} {Ps : List MP} {pos p : Pos}
theorem ev_call {ι : Type} {pre : ι → Prop} {M0 : ι → Mem} {As : ι → List MP} {RR : ι → MP} {x : Str} {k : Nat} {ps : List Str} (c : Cal X.prog X.w X.K X.mg X.base x k ps [] (spT pre M0 As RR)) (hr : Room k X.A) (ha : EvA X Γ M (e :: es) Ps)
    (hi : ∀ F vs, Paired (fun (v : V) (P : MP) => P.p F v) vs Ps → ∃ i, pre i ∧ Paired (fun (v : V) (P : MP) => P.p F v) vs (As i) ∧ ((M0 i).map (·.1)).Nodup ∧ (∀ q ∈ M0 i, q ∈ M) ∧ ∀ F' v, (RR i).p F' v → R.p F' v) (hg : Gl X x := by rfl)
    (hdb : (x == ("__debug__" : Str)) = false := by decide) (he : starEach (e :: es) X.env = (false, eval e X.env) :: starEach es X.env := by rfl)
    (hpl : (backTo pos (starEach es X.env)).any (·.1) = false := by rfl) : Ev X Γ M (.Call (.Name x p) (e :: es) [] pos) R := fun σ F H eo fh ce Q kk => by
  obtain ⟨f, fd, ds, G, hm, kp, b, hd⟩ := c.ex
  refine wE_of (pe_call G hr hg hm kp b hd pass0 pa_w hdb he hpl) ?_
  refine ha σ F H eo fh ce _ fun F1 H1 vs s1 pvs => ?_
  obtain ⟨i, hp, hA, hnd, hM, hR⟩ := hi F1 vs pvs
  rw [List.append_nil]
  have c1 : Cells F1 H1 (M0 i) := ⟨hnd, fun q hq => s1.ce.mem q (hM q hq)⟩
  exact ⟨i, F1, hp, hA, s1.fh, c1, fun F' H' v st pv => kk F' H' v (s1.trans (st.up s1.ce hM)) (hR F' v pv)⟩
end

section
variable {X : Cx} {Γ : Gam} {M : Mem} {R : MP} {e : Expr} {es : List Expr} {pos p : Pos}
/-- the same, the instance known -/
theorem ev_callI {ι : Type} {pre : ι → Prop} {M0 : ι → Mem} {As : ι → List MP} {RR : ι → MP} {x : Str} {k : Nat} {ps : List Str} (c : Cal X.prog X.w X.K X.mg X.base x k ps [] (spT pre M0 As RR)) (hr : Room k X.A) (i : ι) {Ps : List MP} (ha : EvA X Γ M (e :: es) Ps) (hp : pre i)
    (hA : Ps = As i := by rfl) (hR : RR i = R := by rfl) (hnd : ((M0 i).map (·.1)).Nodup := by exact List.nodup_nil) (hM : ∀ q ∈ M0 i, q ∈ M := by exact fun _ h => nomatch h) (hg : Gl X x := by rfl)
    (hdb : (x == ("__debug__" : Str)) = false := by decide) (he : starEach (e :: es) X.env = (false, eval e X.env) :: starEach es X.env := by rfl)
    (hpl : (backTo pos (starEach es X.env)).any (·.1) = false := by rfl) : Ev X Γ M (.Call (.Name x p) (e :: es) [] pos) R :=
  ev_call c hr ha (fun _ _ h => ⟨i, hp, by rw [← hA]; exact h, hnd, hM, fun _ _ q => by rw [← hR]; exact q⟩) hg hdb he hpl
end

/-! ## tests -/
section
variable {X : Cx} {Γ : Gam} {M : Mem} {P : MP} {a b c e : Expr} {rest : List Expr} {pos : Pos} {x y : Bool}
def tBool : Ty Bool := ⟨fun _ v b => v = .bl b, fun _ h => h⟩
def tInt : Ty Int := ⟨fun _ v i => v = .int i, fun _ h => h⟩
/-- an expression that gives a bool, as a test -/
theorem et_val (h : Ev X Γ M e (tBool.is x)) (he : ∀ whole, isTrue e X.env whole = (do let v ← whole; standAt e.pos; holding [v] (truthy v)) := by intro _; rfl) : EvT X Γ M e x := fun σ F H eo fh ce Q k => by
  refine wT_of (pt_val pe_w he) ?_
  exact h σ F H eo fh ce _ fun F' H' v st pv => ⟨x, pv, k F' H' st⟩
/-- a comparison as a test -/
theorem et_cmp {op : CmpOp} {r : R2} {P P' : MP} (ho : OpR X (compareOp op) r) (ha : Ev X Γ M a P) (hb : Ev X Γ M b P') (hr : Op2 M r P P' (tBool.is x)) (hm : behindInMarks op b = false := by first | exact nomark _ | rfl) : EvT X Γ M (.Compare a [op] [b] pos) x := fun σ F H eo fh ce Q k => by
  refine wT_of (pt_cmpR ho pe_w pe_w hm) ?_
  refine ha σ F H eo fh ce _ fun F1 H1 v s1 pv => ?_
  refine hb σ F1 H1 (eo.mono s1.ff) s1.fh s1.ce _ fun F2 H2 w s2 pw => ?_
  exact hr F2 H2 v w s2.fh s2.ce (P.mono s2.ff pv) pw _ fun F3 H3 z s3 pz => ⟨x, pz, k F3 H3 ((s1.trans s2).trans s3)⟩
theorem et_not (h : EvT X Γ M a x) : EvT X Γ M (.UnaryOp .Not a pos) (!x) := fun σ F H eo fh ce Q k => by
  refine wT_of (pt_not pt_w) ?_
  exact h σ F H eo fh ce _ k
theorem EvT.to (h : EvT X Γ M a x) (e : x = y) : EvT X Γ M a y := e ▸ h
theorem ew_and1 (h : EvT X Γ M a x) : EvW X Γ M (.BoolOp .And [a] pos) x := fun σ F H eo fh ce Q k => wW_of (pw_and1 pt_w) (h σ F H eo fh ce _ k)
theorem ew_or1 (h : EvT X Γ M a x) : EvW X Γ M (.BoolOp .Or [a] pos) x := fun σ F H eo fh ce Q k => wW_of (pw_or1 pt_w) (h σ F H eo fh ce _ k)
theorem ew_and (h : EvT X Γ M a x) (h2 : x = true → EvW X Γ M (.BoolOp .And (b :: rest) pos) y) : EvW X Γ M (.BoolOp .And (a :: b :: rest) pos) (x && y) := fun σ F H eo fh ce Q k => by
  refine wW_of (pw_and pt_w pw_w) ?_
  refine h σ F H eo fh ce _ fun F1 H1 s1 => ?_
  cases x with
  | true => exact iteT (h2 rfl σ F1 H1 (eo.mono s1.ff) s1.fh s1.ce _ fun F2 H2 s2 => k F2 H2 (s1.trans s2))
  | false => exact iteF (k F1 H1 s1)
theorem ew_or (h : EvT X Γ M a x) (h2 : x = false → EvW X Γ M (.BoolOp .Or (b :: rest) pos) y) : EvW X Γ M (.BoolOp .Or (a :: b :: rest) pos) (x || y) := fun σ F H eo fh ce Q k => by
  refine wW_of (pw_or pt_w pw_w) ?_
  refine h σ F H eo fh ce _ fun F1 H1 s1 => ?_
  cases x with
  | true => exact iteT (k F1 H1 s1)
  | false => exact iteF (h2 rfl σ F1 H1 (eo.mono s1.ff) s1.fh s1.ce _ fun F2 H2 s2 => k F2 H2 (s1.trans s2))
theorem EvW.t (h : EvW X Γ M a x) : EvT X Γ M a x := fun σ F H eo fh ce Q k => wT_of pw_w.pt (h σ F H eo fh ce Q k)
/-- a and b | a or b | not a as values, of bools -/
theorem ev_one {op : BoolOp} (h : Ev X Γ M a P) : Ev X Γ M (.BoolOp op [a] pos) P := fun σ F H eo fh ce Q k => wE_of (pe_one pe_w) (h σ F H eo fh ce Q k)
theorem ev_and (h : Ev X Γ M a (tBool.is x)) (h2 : x = true → Ev X Γ M (.BoolOp .And (b :: rest) pos) (tBool.is y)) : Ev X Γ M (.BoolOp .And (a :: b :: rest) pos) (tBool.is (x && y)) := fun σ F H eo fh ce Q k => by
  refine wE_of (pe_and pe_w pe_w) ?_
  refine h σ F H eo fh ce _ fun F1 H1 v s1 pv => ⟨x, pv, ?_⟩
  cases x with
  | true => exact iteT (h2 rfl σ F1 H1 (eo.mono s1.ff) s1.fh s1.ce _ fun F2 H2 v s2 pv => k F2 H2 v (s1.trans s2) pv)
  | false => exact iteF (k F1 H1 _ s1 rfl)
theorem ev_or (h : Ev X Γ M a (tBool.is x)) (h2 : x = false → Ev X Γ M (.BoolOp .Or (b :: rest) pos) (tBool.is y)) : Ev X Γ M (.BoolOp .Or (a :: b :: rest) pos) (tBool.is (x || y)) := fun σ F H eo fh ce Q k => by
  refine wE_of (pe_or pe_w pe_w) ?_
  refine h σ F H eo fh ce _ fun F1 H1 v s1 pv => ⟨x, pv, ?_⟩
  cases x with
  | true => exact iteT (k F1 H1 _ s1 rfl)
  | false => exact iteF (h2 rfl σ F1 H1 (eo.mono s1.ff) s1.fh s1.ce _ fun F2 H2 v s2 pv => k F2 H2 v (s1.trans s2) pv)
theorem ev_not (h : Ev X Γ M a (tBool.is x)) : Ev X Γ M (.UnaryOp .Not a pos) (tBool.is (!x)) := fun σ F H eo fh ce Q k => by
  refine wE_of (pe_not pe_w) ?_
  exact h σ F H eo fh ce _ fun F1 H1 v s1 pv => ⟨x, pv, k F1 H1 _ s1 rfl⟩
theorem ev_if (hc : EvT X Γ M c x) (ha : x = true → Ev X Γ M a P) (hb : x = false → Ev X Γ M b P) : Ev X Γ M (.IfExp c a b pos) P := fun σ F H eo fh ce Q k => by
  refine wE_of (pe_ifExp pt_w pe_w pe_w) ?_
  refine hc σ F H eo fh ce _ fun F1 H1 s1 => ?_
  cases x with
  | true => exact iteT (ha rfl σ F1 H1 (eo.mono s1.ff) s1.fh s1.ce _ fun F2 H2 v s2 pv => k F2 H2 v (s1.trans s2) pv)
  | false => exact iteF (hb rfl σ F1 H1 (eo.mono s1.ff) s1.fh s1.ce _ fun F2 H2 v s2 pv => k F2 H2 v (s1.trans s2) pv)
theorem Ev.tob (h : Ev X Γ M a (tBool.is x)) (e : x = y) : Ev X Γ M a (tBool.is y) := e ▸ h
end

/-! ## statements: G -/
/-- a def's entry: frozen heap, heap, the cells that it may change as they are wanted at the end, the wanted result -/
structure En where
  F0 : Hp
  H0 : Hp
  M1 : Mem
  R : MP
  B : Hp
abbrev En.W (E : En) : List Addr := E.M1.map (·.1)
structure StW (F0 H0 : Hp) (W : List Addr) (F H : Hp) : Prop where
  ff : Ext F0 F
  hh : ∀ a o, a ∉ W → H0 a = some o → H a = some o
  nw : ∀ a o, F a = some o → F0 a ≠ none ∨ H0 a = none
structure Sta (E : En) (Γ : Gam) (M : Mem) (σ : St) (H : Hp) (F : Hp) : Prop where
  env : EnvOk F σ Γ
  fh : Ext F H
  ce : Cells F H M
  st : StW E.F0 E.H0 E.W F H
  own : ∀ p ∈ M, p.1 ∈ E.W ∨ E.H0 p.1 = none
  wm : ∀ a ∈ E.W, a ∈ M.map (·.1)
  bs : Ext E.B F
theorem Sta.step {E : En} {Γ : Gam} {M : Mem} {σ : St} {H F F' H' : Hp} (s : Sta E Γ M σ H F) (t : Stp M F H F' H') : Sta E Γ M σ H' F' := by
  refine ⟨s.env.mono t.ff, t.fh, t.ce, ⟨s.st.ff.trans t.ff, fun a o ha h => t.hh a o (fun q => ?_) (s.st.hh a o ha h), fun a o h => ?_⟩, s.own, s.wm, s.bs.trans t.ff⟩
  · obtain ⟨p, hp, rfl⟩ := List.mem_map.mp q
    rcases s.own p hp with z | z
    · exact ha z
    · rw [z] at h
      cases h
  · rcases t.nw a o h with q | q
    · cases e : F a with
      | none => exact absurd e q
      | some u => exact s.st.nw a u e
    · right
      cases e : E.H0 a with
      | none => rfl
      | some u =>
        by_cases ha : a ∈ E.W
        · obtain ⟨p, hp, rfl⟩ := List.mem_map.mp (s.wm a ha)
          obtain ⟨f0, _⟩ := t.ce.mem p hp
          rw [h] at f0
          cases f0
        · rw [s.st.hh a u ha e] at q
          cases q
end L2.K3
set_option Elab.async false
set_option linter.all false
set_option maxRecDepth 100000
set_option maxHeartbeats 2000001
/-! K3B: statements of the typed logic. -/
namespace L2.K3
open PySem PySem.Spec PyProof.Rows

def mpSome {α : Type} (c : α → Prop) (f : α → MP) : MP := ⟨fun F v => ∃ x, c x ∧ (f x).p F v, fun e ⟨x, h, q⟩ => ⟨x, h, (f x).mono e q⟩⟩

/-! ## cells -/
theorem Cells.put {F H : Hp} {M : Mem} {j : Nat} {l : Addr} {c c' : CP} {o' : HO} (x : Cells F H M) (hj : M[j]? = some (l, c)) (ho : c'.c F o') : Cells F (upd H l o') (M.set j (l, c')) := by
  have hjl : j < M.length := (List.getElem?_eq_some_iff.mp hj).1
  have hje : M[j] = (l, c) := (List.getElem?_eq_some_iff.mp hj).2
  have hm : (M.set j (l, c')).map (·.1) = M.map (·.1) := by
    rw [List.map_set]
    apply List.ext_getElem?
    intro k
    by_cases hk : j = k
    · subst hk
      rw [List.getElem?_set_self (by simpa using hjl), List.getElem?_map, hj] <;> rfl
    · rw [List.getElem?_set_ne hk]
  refine ⟨by rw [hm]; exact x.nd, fun p hp => ?_⟩
  obtain ⟨k, hk⟩ := List.getElem?_of_mem hp
  by_cases hjk : j = k
  · subst hjk
    rw [List.getElem?_set_self hjl] at hk
    cases hk
    obtain ⟨f0, _⟩ := x.mem (l, c) (List.mem_of_getElem? hj)
    exact ⟨f0, o', upd_same, ho⟩
  · rw [List.getElem?_set_ne hjk] at hk
    obtain ⟨f0, o, h1, h2⟩ := x.mem p (List.mem_of_getElem? hk)
    have hne : p.1 ≠ l := fun e => by
      have q1 : (M.map (·.1))[k]? = some l := by rw [List.getElem?_map, hk, ← e] <;> rfl
      have q2 : (M.map (·.1))[j]? = some l := by rw [List.getElem?_map, hj] <;> rfl
      have hkl : k < (M.map (·.1)).length := (List.getElem?_eq_some_iff.mp q1).1
      have hjl' : j < (M.map (·.1)).length := (List.getElem?_eq_some_iff.mp q2).1
      have e1 := (List.getElem?_eq_some_iff.mp q1).2
      have e2 := (List.getElem?_eq_some_iff.mp q2).2
      exact hjk ((List.getElem_inj x.nd).mp (e2.trans e1.symm))
    exact ⟨f0, o, by rw [upd_ne hne]; exact h1, h2⟩
theorem map_fst_set {M : Mem} {j : Nat} {l : Addr} {c c' : CP} (hj : M[j]? = some (l, c)) : (M.set j (l, c')).map (·.1) = M.map (·.1) := by
  rw [List.map_set]
  apply List.ext_getElem?
  intro k
  by_cases hk : j = k
  · subst hk
    rw [List.getElem?_set_self (by simpa using (List.getElem?_eq_some_iff.mp hj).1), List.getElem?_map, hj] <;> rfl
  · rw [List.getElem?_set_ne hk]
theorem Sta.put {E : En} {Γ : Gam} {M : Mem} {σ : St} {H F : Hp} {j : Nat} {l : Addr} {c c' : CP} {o' : HO} (s : Sta E Γ M σ H F) (hj : M[j]? = some (l, c)) (ho : c'.c F o') : Sta E Γ (M.set j (l, c')) σ (upd H l o') F := by
  have hm := s.ce.mem (l, c) (List.mem_of_getElem? hj)
  refine ⟨s.env, fun a o h => ?_, s.ce.put hj ho, ⟨s.st.ff, fun a o ha h => ?_, s.st.nw⟩, fun p hp => ?_, by rw [map_fst_set hj]; exact s.wm, s.bs⟩
  · by_cases ha : a = l
    · subst ha
      rw [hm.1] at h
      cases h
    · rw [upd_ne ha]
      exact s.fh a o h
  · by_cases hal : a = l
    · subst hal
      rcases s.own (a, c) (List.mem_of_getElem? hj) with q | q
      · exact absurd q ha
      · rw [q] at h
        cases h
    · rw [upd_ne hal]
      exact s.st.hh a o ha h
  · have h1 : p.1 ∈ (M.set j (l, c')).map (·.1) := List.mem_map.mpr ⟨p, hp, rfl⟩
    rw [map_fst_set hj] at h1
    obtain ⟨q, hq, e⟩ := List.mem_map.mp h1
    rw [← e]
    exact s.own q hq
theorem Sta.h0 {E : En} {Γ : Gam} {M : Mem} {σ : St} {H F : Hp} {p : Addr} (s : Sta E Γ M σ H F) (hp : H p = none) : E.H0 p = none := by
  cases e : E.H0 p with
  | none => rfl
  | some u =>
    by_cases ha : p ∈ E.W
    · obtain ⟨q, hq, rfl⟩ := List.mem_map.mp (s.wm p ha)
      obtain ⟨_, o, ho, _⟩ := s.ce.mem q hq
      rw [hp] at ho
      cases ho
    · rw [s.st.hh p u ha e] at hp
      cases hp
theorem Sta.newc {E : En} {Γ : Gam} {M : Mem} {σ : St} {H F : Hp} {p : Addr} {c : CP} {o : HO} (s : Sta E Γ M σ H F) (hp : H p = none) (ho : c.c F o) : Sta E Γ ((p, c) :: M) σ (upd H p o) F := by
  refine ⟨s.env, fun a u h => Ext.upd hp a u (s.fh a u h), ⟨?_, fun q hq => ?_⟩, ⟨s.st.ff, fun a u ha h => Ext.upd hp a u (s.st.hh a u ha h), s.st.nw⟩, fun q hq => ?_, fun a ha => List.mem_cons_of_mem _ (s.wm a ha), s.bs⟩
  · rw [List.map_cons, List.nodup_cons]
    refine ⟨fun q => ?_, s.ce.nd⟩
    obtain ⟨r, hr, e⟩ := List.mem_map.mp q
    obtain ⟨_, u, hu, _⟩ := s.ce.mem r hr
    have e' : r.1 = p := e
    rw [e', hp] at hu
    cases hu
  · rcases List.mem_cons.mp hq with e | hq
    · subst e
      exact ⟨ext_none s.fh hp, o, upd_same, ho⟩
    · obtain ⟨f0, u, hu, hc⟩ := s.ce.mem q hq
      exact ⟨f0, u, Ext.upd hp _ u hu, hc⟩
  · rcases List.mem_cons.mp hq with e | hq
    · subst e
      exact .inr (s.h0 hp)
    · exact s.own q hq
theorem mem_erase_ne {M : Mem} {j : Nat} {l : Addr} {c : CP} (nd : (M.map (·.1)).Nodup) (hj : M[j]? = some (l, c)) {p : Addr × CP} (hp : p ∈ M.eraseIdx j) : p ∈ M ∧ p.1 ≠ l := by
  obtain ⟨k, hk⟩ := List.getElem?_of_mem hp
  rw [List.getElem?_eraseIdx] at hk
  have key : ∀ k' : Nat, k' ≠ j → M[k']? = some p → p ∈ M ∧ p.1 ≠ l := fun k' hne h => by
    refine ⟨List.mem_of_getElem? h, fun e => hne ?_⟩
    have q1 : (M.map (·.1))[k']? = some l := by rw [List.getElem?_map, h, ← e] <;> rfl
    have q2 : (M.map (·.1))[j]? = some l := by rw [List.getElem?_map, hj] <;> rfl
    exact (List.getElem_inj nd).mp ((List.getElem?_eq_some_iff.mp q1).2.trans (List.getElem?_eq_some_iff.mp q2).2.symm)
  split at hk
  · exact key k (by omega) hk
  · exact key (k + 1) (by omega) hk
theorem nodup_erase {M : Mem} {j : Nat} (nd : (M.map (·.1)).Nodup) : ((M.eraseIdx j).map (·.1)).Nodup := by
  exact nd.sublist ((List.eraseIdx_sublist M j).map _)
theorem Sta.frz {E : En} {Γ : Gam} {M : Mem} {σ : St} {H F : Hp} {j : Nat} {l : Addr} {c : CP} (s : Sta E Γ M σ H F) (hj : M[j]? = some (l, c)) (h0 : E.H0 l = none) (hW : l ∉ E.W) : ∃ o, H l = some o ∧ c.c F o ∧ F l = none ∧ Sta E Γ (M.eraseIdx j) σ H (upd F l o) := by
  obtain ⟨f0, o, ho, hc⟩ := s.ce.mem (l, c) (List.mem_of_getElem? hj)
  refine ⟨o, ho, hc, f0, s.env.mono (Ext.upd f0), fun a u h => ?_, ⟨nodup_erase s.ce.nd, fun p hp => ?_⟩, ⟨s.st.ff.trans (Ext.upd f0), s.st.hh, fun a u h => ?_⟩, fun p hp => s.own p (mem_erase_ne s.ce.nd hj hp).1, fun a ha => ?_, s.bs.trans (Ext.upd f0)⟩
  · by_cases hal : a = l
    · subst hal
      rw [upd_same] at h
      cases h
      exact ho
    · rw [upd_ne hal] at h
      exact s.fh a u h
  · obtain ⟨h1, h2⟩ := mem_erase_ne s.ce.nd hj hp
    obtain ⟨g0, u, hu, hc'⟩ := s.ce.mem p h1
    exact ⟨by rw [upd_ne h2]; exact g0, u, hu, p.2.mono (Ext.upd f0) hc'⟩
  · by_cases hal : a = l
    · subst hal
      exact .inr h0
    · rw [upd_ne hal] at h
      exact s.st.nw a u h
  · obtain ⟨p, hp, e⟩ := List.mem_map.mp (s.wm a ha)
    have hne : p.1 ≠ l := fun q => hW (by rw [← q, e]; exact ha)
    obtain ⟨k, hk⟩ := List.getElem?_of_mem hp
    refine List.mem_map.mpr ⟨p, ?_, e⟩
    have hkj : k ≠ j := fun q => by
      subst q
      rw [hj] at hk
      cases hk
      exact hne rfl
    by_cases hlt : k < j
    · exact List.mem_of_getElem? (i := k) (by rw [List.getElem?_eraseIdx, if_pos hlt]; exact hk)
    · obtain ⟨k', rfl⟩ : ∃ k', k = k' + 1 := ⟨k - 1, by omega⟩
      exact List.mem_of_getElem? (i := k') (by rw [List.getElem?_eraseIdx, if_neg (by omega)]; exact hk)

/-! ## G -/
def GN (E : En) (Γ : Gam) (M : Mem) (N : St → Hp → Prop) : Prop := ∀ (σ : St) (H F : Hp), Sta E Γ M σ H F → N σ H
def G (E : En) (X : Cx) (sts : List Stmt) (Γ : Gam) (M : Mem) (D : Ends) : Prop := GN E Γ M (wSs X sts D)
/-- one of several abstract states -/
def StaS (E : En) (S : Gam → Mem → Prop) (σ : St) (H : Hp) : Prop := ∃ Γ M F, S Γ M ∧ Sta E Γ M σ H F
/-- what a return hands back -/
def retOk (E : En) (v : V) (H' : Hp) : Prop := ∃ F', Ext F' H' ∧ StW E.F0 E.H0 E.W F' H' ∧ Cells F' H' E.M1 ∧ E.R.p F' v
def Dret (E : En) : Ends := { nx := fun _ H' => retOk E .non H', rt := retOk E }

section
variable {X : Cx} {E : En} {Γ Γ' : Gam} {M M' : Mem} {D : Ends} {e a b c : Expr} {rest sts els : List Stmt} {P P' R : MP} {pos pos' : Pos}
theorem g_nil (h : GN E Γ M D.nx) : G E X [] Γ M D := fun σ H F s => wSs_of pss_nil (h σ H F s)
theorem g_next {S : Gam → Mem → Prop} (h : S Γ M) (hD : D.nx = StaS E S) : G E X [] Γ M D := fun σ H F s => wSs_of pss_nil (by show D.nx σ H; rw [hD]; exact ⟨Γ, M, F, h, s⟩)
/-- fewer facts -/
structure Sub (Γ Γ' : Gam) : Prop where
  len : Γ.length = Γ'.length
  at_ : ∀ (i : Nat) P', Γ'[i]? = some (some P') → ∃ P, Γ[i]? = some (some P) ∧ ∀ F v, P.p F v → P'.p F v
theorem Sub.env {F : Hp} {σ : St} (h : Sub Γ Γ') (x : EnvOk F σ Γ) : EnvOk F σ Γ' := ⟨x.1.trans h.len, fun i P' hi => by
  obtain ⟨P, h1, h2⟩ := h.at_ i P' hi
  obtain ⟨v, h3, h4⟩ := x.2 i P h1
  exact ⟨v, h3, h2 F v h4⟩⟩
theorem Sub.nil : Sub [] [] := ⟨rfl, fun i P h => by simp at h⟩
theorem Sub.keep {o : Option MP} (h : Sub Γ Γ') : Sub (o :: Γ) (o :: Γ') := ⟨congrArg Nat.succ h.len, fun i P' hi => by
  cases i with
  | zero => exact ⟨P', hi, fun _ _ q => q⟩
  | succ i => exact h.at_ i P' hi⟩
theorem Sub.drop {o : Option MP} (h : Sub Γ Γ') : Sub (o :: Γ) (none :: Γ') := ⟨congrArg Nat.succ h.len, fun i P' hi => by
  cases i with
  | zero => cases hi
  | succ i => exact h.at_ i P' hi⟩
theorem Sub.weak (hp : ∀ F v, P.p F v → P'.p F v) (h : Sub Γ Γ') : Sub (some P :: Γ) (some P' :: Γ') := ⟨congrArg Nat.succ h.len, fun i Q hi => by
  cases i with
  | zero => cases hi; exact ⟨P, rfl, hp⟩
  | succ i => exact h.at_ i Q hi⟩
theorem Sub.refl : Sub Γ Γ := ⟨rfl, fun i P h => ⟨P, h, fun _ _ q => q⟩⟩
theorem Sta.sub {σ : St} {H F : Hp} (s : Sta E Γ M σ H F) (h : Sub Γ Γ') : Sta E Γ' M σ H F := ⟨h.env s.env, s.fh, s.ce, s.st, s.own, s.wm, s.bs⟩
theorem g_sub (h : Sub Γ Γ') (k : G E X sts Γ' M D) : G E X sts Γ M D := fun σ H F s => k σ H F (s.sub h)
/-- the same two states written otherwise -/
theorem g_to (h : G E X sts Γ' M' D) (e1 : Γ = Γ') (e2 : M = M') : G E X sts Γ M D := e1 ▸ e2 ▸ h

theorem Sta.set {σ : St} {H F : Hp} (s : Sta E Γ M σ H F) (i : Nat) {v : V} (hv : P.p F v) : Sta E (Γ.set i (some P)) M (σ.set i (some v)) H F := ⟨s.env.set i hv, s.fh, s.ce, s.st, s.own, s.wm, s.bs⟩
theorem g_set (i : Nat) {x : Str} (he : Ev X Γ M e P) (k : G E X rest (Γ.set i (some P)) M D) (hN : X.N.Nodup) (hi : X.N[i]? = some x := by rfl) (hx : Loc X.env.scope x := by first | exact Or.inl rfl | exact Or.inr rfl)
    (hs : swapsWith e (some (.Name x pos')) pos.line X.env = pure false := by rfl) (hf : X.fn x = true ∨ X.env.scope.names.lookup x = some .local := by first | exact .inl rfl | exact .inr rfl) : G E X (.Assign [.Name x pos'] e pos :: rest) Γ M D := fun σ H F s => by
  refine wSs_of (pss_cons (ps_set hN hi hx pe_w hs hf) pss_w) ?_
  exact he σ F H s.env s.fh s.ce _ fun F' H' v t pv => k _ H' F' ((s.step t).set i pv)
theorem g_setS {α : Type} {cc : α → Prop} {f : α → MP} (i : Nat) {x : Str} (he : Ev X Γ M e (mpSome cc f)) (k : ∀ y, cc y → G E X rest (Γ.set i (some (f y))) M D) (hN : X.N.Nodup) (hi : X.N[i]? = some x := by rfl) (hx : Loc X.env.scope x := by first | exact Or.inl rfl | exact Or.inr rfl)
    (hs : swapsWith e (some (.Name x pos')) pos.line X.env = pure false := by rfl) (hf : X.fn x = true ∨ X.env.scope.names.lookup x = some .local := by first | exact .inl rfl | exact .inr rfl) : G E X (.Assign [.Name x pos'] e pos :: rest) Γ M D := fun σ H F s => by
  refine wSs_of (pss_cons (ps_set hN hi hx pe_w hs hf) pss_w) ?_
  exact he σ F H s.env s.fh s.ce _ fun F' H' v t ⟨y, hy, pv⟩ => k y hy _ H' F' ((s.step t).set i pv)
theorem g_ret (he : Ev X Γ M e P) (hR : ∀ F v, P.p F v → E.R.p F v := by exact fun _ _ h => h) (hM : ∀ p ∈ E.M1, p ∈ M := by exact fun _ h => nomatch h) (nd : (E.M1.map (·.1)).Nodup := by exact List.nodup_nil)
    (hD : D.rt = retOk E := by rfl) : G E X (.Return (some e) pos :: rest) Γ M D := fun σ H F s => by
  refine wSs_of (pss_cons (ps_ret pe_w) pss_never) ?_
  refine he σ F H s.env s.fh s.ce _ fun F' H' v t pv => ?_
  show D.rt v H'
  rw [hD]
  have s' := s.step t
  exact ⟨F', s'.fh, s'.st, ⟨nd, fun p hp => s'.ce.mem p (hM p hp)⟩, hR F' v pv⟩
theorem g_expr (he : Ev X Γ M e P) (k : G E X rest Γ M D) (hs : swapsWith e none pos.line X.env = pure false := by rfl) : G E X (.Expr e pos :: rest) Γ M D := fun σ H F s => by
  refine wSs_of (pss_cons (ps_expr pe_w hs) pss_w) ?_
  exact he σ F H s.env s.fh s.ce _ fun F' H' v t pv => k σ H' F' (s.step t)
theorem g_if {x : Bool} (hc : EvT X Γ M c x) (ht : x = true → G E X sts Γ M { D with nx := wSs X rest D }) (hf : x = false → G E X els Γ M { D with nx := wSs X rest D }) : G E X (.If c sts els pos :: rest) Γ M D := fun σ H F s => by
  refine wSs_of (pss_cons (ps_if pt_w pss_w pss_w) pss_w) ?_
  refine hc σ F H s.env s.fh s.ce _ fun F' H' t => ?_
  cases x with
  | true => exact iteT (ht rfl σ H' F' (s.step t))
  | false => exact iteF (hf rfl σ H' F' (s.step t))
/-- behind a branch: what follows -/
theorem g_end {D' : Ends} (h : G E X rest Γ M D) (hD : D'.nx = wSs X rest D := by rfl) : G E X [] Γ M D' := fun σ H F s => wSs_of pss_nil (by show D'.nx σ H; rw [hD]; exact h σ H F s)
end
end L2.K3
set_option Elab.async false
set_option linter.all false
set_option maxRecDepth 100000
set_option maxHeartbeats 2000001
/-! K3C: types, defs, whole numbers, records. -/
namespace L2.K3
open PySem PySem.Spec PyProof.Rows

/-! ## a def from its body -/
section
variable {P : Program} {w : World} {K : PySem.W.Frag} {mg : Str → Option Value} {base : Heap}
abbrev bX (P : Program) (w : World) (K : PySem.W.Frag) (mg : Str → Option Value) (base : Heap) (N : List Str) (qual : Str) (scope : Scope) (f : Addr) (cdv : Value) (A : Around) (outer : List Env) (s : Shared) (H : Hp) (E : XK) : Cx :=
  (cxOf CX0 P w K mg base N qual scope f cdv A outer s H E).nox
theorem paired_env {F : Hp} : ∀ {vs : List V} {As : List MP}, Paired (fun (v : V) (P : MP) => P.p F v) vs As → ∀ n : Nat, EnvOk F (vs.map some ++ List.replicate n none) (As.map some ++ List.replicate n none)
  | _, _, .nil, n => ⟨by simp, fun i P h => by
      have h' : (List.replicate n (none : Option MP))[i]? = some (some P) := h
      rw [List.getElem?_replicate] at h'
      split at h'
      · cases h'
      · cases h'⟩
  | _, _, .cons (a := v) (b := P) (l₁ := vs) (l₂ := As) h t, n => by
    have ih := paired_env t n
    refine ⟨by
      have := ih.1
      simp at this ⊢
      omega, fun i Q hi => ?_⟩
    cases i with
    | zero => cases hi; exact ⟨v, rfl, h⟩
    | succ i => exact ih.2 i Q hi
/-- THE RULE for a def: its body from the typed arguments to the typed result -/
theorem fn_mk {ι : Type} {pre : ι → Prop} {M0 : ι → Mem} {As : ι → List MP} {R : ι → MP} {x qual : Str} {params : Arguments} {body : List Stmt} {scope : Scope} {dvs : List V} {kws : List (Str × V)} {f : Addr} {fd : FuncData} {N ps : List Str} {k : Nat}
    (Fd : FunD K x qual params body scope dvs kws f fd) (S : FnScope N ps scope) (hl : ∀ i, (As i).length = ps.length)
    (hb : ∀ (cdv : Value) (A : Around) (outer : List Env) (s : Shared) (H : Hp) (E : XK) (i : ι) (F : Hp), Room k (A.deeper (envOfC qual scope s.heap.objs.size f cdv)) → pre i → Cells F H (M0 i) →
      G ⟨F, H, M0 i, R i, F⟩ (bX P w K mg base N qual scope f cdv A outer s H E) body ((As i).map some ++ List.replicate (N.length - ps.length) none) (M0 i) (Dret ⟨F, H, M0 i, R i, F⟩)) :
    FnOk P w K mg base CX0 (k + 1) f fd ps (spT pre M0 As R) := by
  refine Fd.ok S (fun vs H Q E h => ?_) fun cdv A outer s H vs Q E hr h => ?_
  · obtain ⟨i, F, hp, hA, _⟩ := h
    rw [← hl i]
    exact Paired.length hA
  · obtain ⟨i, F, hp, hA, fh, ce, hq⟩ := h
    refine ⟨wSs (bX P w K mg base N qual scope f cdv A outer s H E) body, pss_w.nox, ?_⟩
    have hlen : vs.length = ps.length := (Paired.length hA).trans (hl i)
    have sta : Sta ⟨F, H, M0 i, R i, F⟩ ((As i).map some ++ List.replicate (N.length - ps.length) none) (M0 i) (start N vs) H F := by
      refine ⟨?_, fh, ce, ⟨Ext.rfl', fun _ _ _ h => h, fun a o h => .inl (by show F a ≠ none; rw [h]; exact fun q => nomatch q)⟩, fun p hp => .inl (List.mem_map.mpr ⟨p, hp, rfl⟩), fun a ha => ha, Ext.rfl'⟩
      show EnvOk F (vs.map some ++ List.replicate (N.length - vs.length) none) _
      rw [hlen]
      exact paired_env hA _
    have fin : ∀ v H', retOk ⟨F, H, M0 i, R i, F⟩ v H' → Q v H' := fun v H' ⟨F', f1, f2, f3, f4⟩ => hq F' H' v ⟨f2.ff, f1, f2.hh, f2.nw, f3⟩ f4
    exact wSs_mono (hb cdv A outer s H E i F hr hp ce _ _ _ sta) (fun _ H' z => fin _ H' z) (fun v H' z => fin v H' z) (fun _ _ z => z.elim) fun _ _ z => z.elim
/-- the def as callers see it -/
theorem cal_mk {x qual : Str} {params : Arguments} {body : List Stmt} {scope : Scope} {f : Addr} {fd : FuncData} {ps : List Str} {k : Nat} {sp : Sp} (Fd : FunD K x qual params body scope [] [] f fd) (hm : mg x = some (.ref f)) (h : FnOk P w K mg base CX0 k f fd ps sp)
    (b : ∀ (kV doc pm : Value) (an : Option Addr) (cdv ct : Value) (us : List Value), us.length = ps.length → bindArgs (PySem.W.fnOf x qual params body scope .none kV doc pm an cdv ct) ⟨us, []⟩ = pure (ps.zip us)) : Cal P w K mg base x k ps [] sp :=
  ⟨f, fd, [], h, hm, Fd.kp, Fd.bindsN b, .nil⟩
theorem Cal.mono {x : Str} {j k : Nat} {ps : List Str} {dvs : List V} {sp : Sp} (c : Cal P w K mg base x j ps dvs sp) (h : j ≤ k) : Cal P w K mg base x k ps dvs sp :=
  let ⟨f, fd, ds, a, b, c, d, e⟩ := c.ex; ⟨f, fd, ds, a.mono h, b, c, d, e⟩
end

theorem paired1 {F : Hp} {vs : List V} {P : MP} (h : Paired (fun (v : V) (P : MP) => P.p F v) vs [P]) : ∃ v, vs = [v] ∧ P.p F v := by
  cases h with
  | cons p q => cases q; exact ⟨_, rfl, p⟩
theorem paired2 {F : Hp} {vs : List V} {P P' : MP} (h : Paired (fun (v : V) (P : MP) => P.p F v) vs [P, P']) : ∃ v w, vs = [v, w] ∧ P.p F v ∧ P'.p F w := by
  cases h with
  | cons p q =>
    cases q with
    | cons p' q => cases q; exact ⟨_, _, rfl, p, p'⟩
theorem paired3 {F : Hp} {vs : List V} {P P' P'' : MP} (h : Paired (fun (v : V) (P : MP) => P.p F v) vs [P, P', P'']) : ∃ v w z, vs = [v, w, z] ∧ P.p F v ∧ P'.p F w ∧ P''.p F z := by
  cases h with
  | cons p q =>
    obtain ⟨w, z, e, h1, h2⟩ := paired2 q
    exact ⟨_, w, z, by rw [e], p, h1, h2⟩

/-! ## types -/
def tNon : Ty Unit := ⟨fun _ v _ => v = .non, fun _ h => h⟩
theorem paired_mono {α : Type} {T : Ty α} {F F' : Hp} (e : Ext F F') {vs : List V} {xs : List α} (h : Paired (T.t F) vs xs) : Paired (T.t F') vs xs := Paired.mapP h fun _ _ q => T.mono e q
def tTup {α : Type} (T : Ty α) : Ty (List α) := ⟨fun F v xs => ∃ a vs, v = .ref a ∧ F a = some (.tup vs) ∧ Paired (T.t F) vs xs, fun e ⟨a, vs, h1, h2, h3⟩ => ⟨a, vs, h1, e _ _ h2, paired_mono e h3⟩⟩
def tLst {α : Type} (T : Ty α) : Ty (List α) := ⟨fun F v xs => ∃ a vs, v = .ref a ∧ F a = some (.lst vs) ∧ Paired (T.t F) vs xs, fun e ⟨a, vs, h1, h2, h3⟩ => ⟨a, vs, h1, e _ _ h2, paired_mono e h3⟩⟩
def tPr {α β : Type} (T : Ty α) (U : Ty β) : Ty (α × β) := ⟨fun F v x => ∃ a v1 v2, v = .ref a ∧ F a = some (.tup [v1, v2]) ∧ T.t F v1 x.1 ∧ U.t F v2 x.2, fun e ⟨a, v1, v2, h1, h2, h3, h4⟩ => ⟨a, v1, v2, h1, e _ _ h2, T.mono e h3, U.mono e h4⟩⟩
/-- the script: a list of whole numbers from outside -/
def tScr (K : PySem.W.Frag) : Ty (List Int) := ⟨fun F v ns => ∃ a, v = .ref a ∧ SqL K F a (ns.map V.int), fun e ⟨a, h1, h2⟩ => ⟨a, h1, h2.ext e⟩⟩
/-- a fraction -/
def ratF (q : Rat) : List (Str × V) := [("own_top", .int q.num), ("own_bottom", .int q.den)]
def tRat (C : Addr) : Ty Rat := ⟨fun F v q => ∃ a dx, v = .ref a ∧ F a = some (.ins C dx (ratF q)), fun e ⟨a, dx, h1, h2⟩ => ⟨a, dx, h1, e _ _ h2⟩⟩
/-- a NUMBER -/
def tNum (C : Addr) : Ty Rat := ⟨fun F v q => (∃ i : Int, v = .int i ∧ q = (i : Rat)) ∨ (tRat C).t F v q, fun e h => h.elim .inl fun h => .inr ((tRat C).mono e h)⟩

/-! ## whole numbers -/
section
variable {X : Cx} {Γ : Gam} {M : Mem} {a b e : Expr} {pos : Pos} {i j : Int} {x y : Bool}
theorem ev_int {n : Int} {k} : Ev X Γ M (.Constant (.int n) k pos) (tInt.is n) := ev_const pe_int
theorem ev_bl {k} : Ev X Γ M (.Constant (.bool x) k pos) (tBool.is x) := ev_const pe_bl
theorem o_int {g : Int → Int → Int} : Op2 M (rI0 fun i j => .int (g i j)) (tInt.is i) (tInt.is j) (tInt.is (g i j)) := fun F H v w fh ce pv pw Q k => ⟨i, j, pv, pw, k F H _ (Stp.refl fh ce) rfl⟩
theorem o_intC {C : Int → Int → Prop} {g : Int → Int → Int} (hc : C i j) : Op2 M (rI C fun i j => .int (g i j)) (tInt.is i) (tInt.is j) (tInt.is (g i j)) := fun F H v w fh ce pv pw Q k => ⟨i, j, pv, pw, hc, k F H _ (Stp.refl fh ce) rfl⟩
theorem o_bool {g : Int → Int → Bool} : Op2 M (rI0 fun i j => .bl (g i j)) (tInt.is i) (tInt.is j) (tBool.is (g i j)) := fun F H v w fh ce pv pw Q k => ⟨i, j, pv, pw, k F H _ (Stp.refl fh ce) rfl⟩
theorem o_eqI : Op2 M rEq (tInt.is i) (tInt.is j) (tBool.is (decide (i = j))) := fun F H v w fh ce pv pw Q k => by
  cases pv
  cases pw
  refine ⟨rfl, k F H _ (Stp.refl fh ce) ?_⟩
  show V.bl _ = V.bl _
  rw [dec_int, Bool.beq_eq_decide_eq]
theorem o_neI : Op2 M rNe (tInt.is i) (tInt.is j) (tBool.is (!decide (i = j))) := fun F H v w fh ce pv pw Q k => by
  cases pv
  cases pw
  refine ⟨rfl, k F H _ (Stp.refl fh ce) ?_⟩
  show V.bl _ = V.bl _
  rw [dec_int, Bool.beq_eq_decide_eq]
theorem ev_add (ha : Ev X Γ M a (tInt.is i)) (hb : Ev X Γ M b (tInt.is j)) : Ev X Γ M (.BinOp a .Add b pos) (tInt.is (i + j)) := ev_op op_add ha hb o_int
theorem ev_sub (ha : Ev X Γ M a (tInt.is i)) (hb : Ev X Γ M b (tInt.is j)) : Ev X Γ M (.BinOp a .Sub b pos) (tInt.is (i - j)) := ev_op op_sub ha hb o_int
theorem ev_mul (ha : Ev X Γ M a (tInt.is i)) (hb : Ev X Γ M b (tInt.is j)) (hc : CMulW i j) : Ev X Γ M (.BinOp a .Mult b pos) (tInt.is (i * j)) := ev_op op_mulW ha hb (o_intC hc)
theorem ev_mod (ha : Ev X Γ M a (tInt.is i)) (hb : Ev X Γ M b (tInt.is j)) (hc : 0 < j) : Ev X Γ M (.BinOp a .Mod b pos) (tInt.is (i % j)) := ev_op op_mod ha hb (o_intC hc)
/-- // by a divisor that is not 0, below 2 ^ 9000 -/
def CDivX (_ j : Int) : Prop := j ≠ 0 ∧ j.natAbs.log2 < 9000
theorem op_fdivX : OpR X (binaryOp .FloorDiv) (rI CDivX fun i j => .int (i.fdiv j)) := opI fun i j _ _ _ _ _ hc q => floordiv_int hc.1 q (.inl (PyProof.noPylong_of_log2 hc.2))
theorem ev_fdiv (ha : Ev X Γ M a (tInt.is i)) (hb : Ev X Γ M b (tInt.is j)) (h0 : j ≠ 0) (h9 : j.natAbs.log2 < 9000) : Ev X Γ M (.BinOp a .FloorDiv b pos) (tInt.is (i.fdiv j)) := ev_op op_fdivX ha hb (o_intC ⟨h0, h9⟩)
theorem ev_lt (ha : Ev X Γ M a (tInt.is i)) (hb : Ev X Γ M b (tInt.is j)) : Ev X Γ M (.Compare a [.Lt] [b] pos) (tBool.is (decide (i < j))) := ev_cmp op_lt ha hb o_bool
theorem ev_gt (ha : Ev X Γ M a (tInt.is i)) (hb : Ev X Γ M b (tInt.is j)) : Ev X Γ M (.Compare a [.Gt] [b] pos) (tBool.is (decide (j < i))) := ev_cmp op_gt ha hb o_bool
theorem ev_le (ha : Ev X Γ M a (tInt.is i)) (hb : Ev X Γ M b (tInt.is j)) : Ev X Γ M (.Compare a [.LtE] [b] pos) (tBool.is (decide (i ≤ j))) := ev_cmp op_le ha hb o_bool
theorem ev_ge (ha : Ev X Γ M a (tInt.is i)) (hb : Ev X Γ M b (tInt.is j)) : Ev X Γ M (.Compare a [.GtE] [b] pos) (tBool.is (decide (j ≤ i))) := ev_cmp op_ge ha hb o_bool
theorem ev_eqI (ha : Ev X Γ M a (tInt.is i)) (hb : Ev X Γ M b (tInt.is j)) : Ev X Γ M (.Compare a [.Eq] [b] pos) (tBool.is (decide (i = j))) := ev_cmp op_eq ha hb o_eqI
theorem ev_neI (ha : Ev X Γ M a (tInt.is i)) (hb : Ev X Γ M b (tInt.is j)) : Ev X Γ M (.Compare a [.NotEq] [b] pos) (tBool.is (!decide (i = j))) := ev_cmp op_ne ha hb o_neI
theorem et_lt (ha : Ev X Γ M a (tInt.is i)) (hb : Ev X Γ M b (tInt.is j)) : EvT X Γ M (.Compare a [.Lt] [b] pos) (decide (i < j)) := et_cmp op_lt ha hb o_bool
theorem et_gt (ha : Ev X Γ M a (tInt.is i)) (hb : Ev X Γ M b (tInt.is j)) : EvT X Γ M (.Compare a [.Gt] [b] pos) (decide (j < i)) := et_cmp op_gt ha hb o_bool
theorem et_le (ha : Ev X Γ M a (tInt.is i)) (hb : Ev X Γ M b (tInt.is j)) : EvT X Γ M (.Compare a [.LtE] [b] pos) (decide (i ≤ j)) := et_cmp op_le ha hb o_bool
theorem et_ge (ha : Ev X Γ M a (tInt.is i)) (hb : Ev X Γ M b (tInt.is j)) : EvT X Γ M (.Compare a [.GtE] [b] pos) (decide (j ≤ i)) := et_cmp op_ge ha hb o_bool
theorem et_eqI (ha : Ev X Γ M a (tInt.is i)) (hb : Ev X Γ M b (tInt.is j)) : EvT X Γ M (.Compare a [.Eq] [b] pos) (decide (i = j)) := et_cmp op_eq ha hb o_eqI
theorem et_neI (ha : Ev X Γ M a (tInt.is i)) (hb : Ev X Γ M b (tInt.is j)) : EvT X Γ M (.Compare a [.NotEq] [b] pos) (!decide (i = j)) := et_cmp op_ne ha hb o_neI
theorem ev_neg (ha : Ev X Γ M a (tInt.is i)) : Ev X Γ M (.UnaryOp .USub a pos) (tInt.is (-i)) := ev_un un_neg ha fun F H v fh ce pv Q k => ⟨i, pv, k F H _ (Stp.refl fh ce) rfl⟩
theorem Ev.toi {i' : Int} (h : Ev X Γ M e (tInt.is i)) (q : i = i') : Ev X Γ M e (tInt.is i') := q ▸ h
/-- a written class: a built-in type by its name, an own class -/
theorem ev_ty {x : Str} {n : String} (hm : X.mg x = none) (hv : bootBuiltins x = some (.type n)) (hg : Gl X x := by rfl) (hn : x ≠ "__name__" := by decide) (hd : (x == ("__debug__" : Str)) = false := by decide) : Ev X Γ M (.Name x pos) (mpV (.ty n)) :=
  ev_const (pe_bltn (u := .type n) hg hm hv rfl hn hd)
theorem ev_cls {x : Str} {C : Addr} (hm : X.mg x = some (.ref C)) (hg : Gl X x := by rfl) (hd : (x == ("__debug__" : Str)) = false := by decide) : Ev X Γ M (.Name x pos) (mpV (.ref C)) := ev_const (pe_glob (u := .ref C) hg hm rfl hd)
theorem ev_gint {x : Str} {n : Int} (hm : ∃ t, X.mg x = some (.int n t)) (hg : Gl X x := by rfl) (hd : (x == ("__debug__" : Str)) = false := by decide) : Ev X Γ M (.Name x pos) (tInt.is n) :=
  let ⟨t, hm⟩ := hm; ev_const (pe_glob (u := .int n t) hg hm ⟨t, rfl⟩ hd)
/-- a built-in function of one whole number -/
theorem cal1 {r : List V → Hp → VK → Prop} {P R : MP} (h : ∀ F H v, Ext F H → Cells F H M → P.p F v → ∀ Q : VK, (∀ F' H' z, Stp M F H F' H' → R.p F' z → Q z H') → r [v] H Q) : OpN M r [P] R := fun F H vs fh ce pvs Q k => by
  cases pvs with
  | cons p q => cases q; exact h F H _ fh ce p Q k
theorem cal2 {r : List V → Hp → VK → Prop} {P P' R : MP} (h : ∀ F H v w, Ext F H → Cells F H M → P.p F v → P'.p F w → ∀ Q : VK, (∀ F' H' z, Stp M F H F' H' → R.p F' z → Q z H') → r [v, w] H Q) : OpN M r [P, P'] R := fun F H vs fh ce pvs Q k => by
  cases pvs with
  | cons p q =>
    cases q with
    | cons p' q => cases q; exact h F H _ _ fh ce p p' Q k
theorem ev_gcd {x : Str} {p : Pos} (ha : Ev X Γ M a (tInt.is i)) (hb : Ev X Γ M b (tInt.is j)) (hm : X.mg x = some (.builtin "math.gcd")) (hg : Gl X x := by rfl) (hdb : (x == ("__debug__" : Str)) = false := by decide)
    (he : starEach [a, b] X.env = (false, eval a X.env) :: starEach [b] X.env := by rfl) (hpl : (backTo pos (starEach [b] X.env)).any (·.1) = false := by rfl) (he2 : starEach [b] X.env = (false, eval b X.env) :: starEach [] X.env := by rfl) :
    Ev X Γ M (.Call (.Name x p) [a, b] [] pos) (tInt.is ((Nat.gcd i.natAbs j.natAbs : Nat) : Int)) := fun σ F H eo fh ce Q k => by
  refine wE_of (pe_callBfun cr_gcd hg hm pa_w hdb he hpl) ?_
  refine (eva_cons ha (eva_one hb he2) he) σ F H eo fh ce _ fun F1 H1 vs s1 pvs => ?_
  cases pvs with
  | cons p q =>
    cases q with
    | cons p' q => cases q; exact ⟨i, j, by rw [show _ = V.int i from p, show _ = V.int j from p'], k F1 H1 _ s1 rfl⟩
end

/-! ## isinstance, fields -/
section
variable {X : Cx} {Γ : Gam} {M : Mem} {P R : MP} {a b e : Expr} {pos p : Pos} {x : Bool}
theorem ev_isi {c : V} {u t : Value} (ha : Ev X Γ M a P) (hb : Ev X Γ M b (mpV c)) (k : ClsV c u) (ht : ∀ F H v, Ext F H → P.p F v → TyX X.K H v t) (hx : PySem.W.kitOne X.K t u = some x) (hm : X.mg "isinstance" = none) (hg : Gl X "isinstance" := by rfl)
    (he : starEach [a, b] X.env = (false, eval a X.env) :: starEach [b] X.env := by rfl) (hpl : (backTo pos (starEach [b] X.env)).any (·.1) = false := by rfl) (he2 : starEach [b] X.env = (false, eval b X.env) :: starEach [] X.env := by rfl) :
    Ev X Γ M (.Call (.Name "isinstance" p) [a, b] [] pos) (tBool.is x) :=
  ev_callB call_isi (eva_cons ha (eva_one hb he2) he) (cal2 fun F H v w fh ce pv pw Q q => ⟨v, w, t, u, x, rfl, by rw [show w = c from pw]; exact k, ht F H v fh pv, hx, q F H _ (Stp.refl fh ce) rfl⟩) hg hm (by decide +kernel) (by decide) (by decide) he hpl
/-- e.f of an instance -/
theorem ev_fld {f : Str} (ha : Ev X Γ M e P) (h : ∀ F v, P.p F v → ∃ a C dx fs w, v = .ref a ∧ F a = some (.ins C dx fs) ∧ Cls X.K C ∧ NoAttr X.K C f ∧ fs.lookup f = some w ∧ R.p F w) (hb : attributeBase e f X.env (eval e X.env) = eval e X.env := by rfl) :
    Ev X Γ M (.Attribute e f pos) R := fun σ F H eo fh ce Q k => by
  refine wE_of (pe_fld pe_w hb) ?_
  refine ha σ F H eo fh ce _ fun F1 H1 v s1 pv => ?_
  obtain ⟨a, C, dx, fs, w, e1, e2, e3, e4, e5, e6⟩ := h F1 v pv
  exact ⟨a, C, dx, fs, w, e1, s1.fh _ _ e2, e3, e4, e5, k F1 H1 w s1 e6⟩
/-- (a, b): a new pair -/
theorem ev_pr {α β : Type} {T : Ty α} {U : Ty β} {x : α} {y : β} {k0} (ha : Ev X Γ M a (T.is x)) (hb : Ev X Γ M b (U.is y)) (he : starEach [a, b] X.env = (false, eval a X.env) :: starEach [b] X.env := by rfl) (he2 : starEach [b] X.env = (false, eval b X.env) :: starEach [] X.env := by rfl) :
    Ev X Γ M (.Tuple [a, b] k0 pos) ((tPr T U).is (x, y)) := fun σ F H eo fh ce Q k => by
  refine wE_of (pe_tup pa_w) ?_
  refine (eva_cons ha (eva_one hb he2) he) σ F H eo fh ce _ fun F1 H1 vs s1 pvs => ?_
  obtain ⟨v1, v2, rfl, p, p'⟩ := paired2 pvs
  refine ⟨by show 2 ≤ sizeLine; decide, fun pp hp => ?_⟩
  have st := Stp.new (o := .tup [v1, v2]) s1.fh s1.ce hp
  exact k _ _ _ (s1.trans st) ⟨pp, v1, v2, rfl, upd_same, T.mono st.ff p, U.mono st.ff p'⟩
end
end L2.K3
set_option Elab.async false
set_option linter.all false
set_option maxRecDepth 100000
set_option maxHeartbeats 2000001
/-! K3D: what is walked: loops, comprehensions. -/
namespace L2.K3
open PySem PySem.Spec PyProof.Rows

/-- a walk over xs of T, whatever frozen heap stands over F0 -/
structure TW {α : Type} (J : It) (F0 : Hp) (T : Ty α) (xs : List α) : Prop where
  small : xs.length ≤ sizeLine
  goes : ∀ (i : Nat) (F H : Hp), i < xs.length → Ext F0 F → Ext F H → J.go i H
  stops : ∀ (F H : Hp), Ext F0 F → Ext F H → J.stop xs.length H
  yields : ∀ (i : Nat) (F H H' : Hp) (v : V) (hi : i < xs.length), Ext F0 F → Ext F H → J.yld i H v H' → ∃ F', Stp [] F H F' H' ∧ T.t F' v xs[i]
def EvI {α : Type} (X : Cx) (Γ : Gam) (M : Mem) (tg iter : Expr) (T : Ty α) (xs : List α) : Prop := ∀ (σ : St) (F H : Hp), EnvOk F σ Γ → Ext F H → Cells F H M → ∀ R : It → Hp → Prop, (∀ J F' H', Stp M F H F' H' → TW J F' T xs → R J H') → wI X tg iter σ H R

/-! ## targets -/
theorem wipe_set {σ : St} {i : Nat} {x : Option V} : ∀ {vs : List Nat}, i ∈ vs → wipe (σ.set i x) vs = wipe σ vs
  | v :: vs, h => by
    by_cases hv : i ∈ vs
    · unfold wipe
      rw [wipe_set hv]
    · have e : i = v := by
        rcases List.mem_cons.mp h with e | e
        · exact e
        · exact absurd e hv
      subst e
      unfold wipe
      rw [wipe_set_out hv, List.set_set]
where
  wipe_set_out {σ : St} {i : Nat} {x : Option V} : ∀ {vs : List Nat}, i ∉ vs → wipe (σ.set i x) vs = (wipe σ vs).set i x
    | [], _ => rfl
    | v :: vs, h => by
      rw [List.mem_cons, not_or] at h
      unfold wipe
      rw [wipe_set_out h.2, List.set_comm _ _ h.1]
def wipeG (Γ : Gam) : List Nat → Gam
  | [] => Γ
  | v :: vs => (wipeG Γ vs).set v none
theorem wipeG_len {Γ : Gam} : ∀ vs : List Nat, (wipeG Γ vs).length = Γ.length
  | [] => rfl
  | v :: vs => by unfold wipeG; rw [List.length_set, wipeG_len vs]
theorem env_wipe {F : Hp} {σ : St} {Γ : Gam} (h : EnvOk F σ Γ) : ∀ vs : List Nat, EnvOk F (wipe σ vs) (wipeG Γ vs)
  | [] => h
  | v :: vs => by
    have ih := env_wipe h vs
    refine ⟨by unfold wipe wipeG; rw [List.length_set, List.length_set]; exact ih.1, fun i P hi => ?_⟩
    unfold wipeG at hi
    by_cases hv : v = i
    · subst hv
      by_cases hl : v < (wipeG Γ vs).length
      · rw [List.getElem?_set_self hl] at hi
        cases hi
      · rw [List.getElem?_eq_none (by simpa using hl)] at hi
        cases hi
    · rw [List.getElem?_set_ne hv] at hi
      obtain ⟨x, h1, h2⟩ := ih.2 i P hi
      exact ⟨x, by unfold wipe; rw [List.getElem?_set_ne hv]; exact h1, h2⟩
/-- the target takes a value of P: from Γ to Γ'; the slots that it stores -/
def Bd (X : Cx) (tg : Expr) (P : MP) (Γ Γ' : Gam) (sl : List Nat) : Prop := ∀ (σ : St) (F H : Hp) (v : V), EnvOk F σ Γ → Ext F H → P.p F v → ∀ Q : St → Hp → Prop, (∀ σ', EnvOk F σ' Γ' → (∀ vs : List Nat, (∀ i ∈ sl, i ∈ vs) → wipe σ' vs = wipe σ vs) → Q σ' H) → wG X tg v σ H Q
def Bds (X : Cx) (ts : List Expr) (Ps : List MP) (Γ Γ' : Gam) (sl : List Nat) : Prop := ∀ (σ : St) (F H : Hp) (vs : List V), EnvOk F σ Γ → Ext F H → Paired (fun (v : V) (P : MP) => P.p F v) vs Ps → ∀ Q : St → Hp → Prop, (∀ σ', EnvOk F σ' Γ' → (∀ ws : List Nat, (∀ i ∈ sl, i ∈ ws) → wipe σ' ws = wipe σ ws) → Q σ' H) → wGs X ts vs σ H Q
section
variable {X : Cx} {Γ Γ' Γ1 : Gam} {P P' : MP} {tg : Expr} {ts : List Expr} {Ps : List MP} {sl sl' : List Nat} {pos : Pos}
theorem bd_name (i : Nat) {x : Str} (hN : X.N.Nodup) (hi : X.N[i]? = some x := by rfl) (hx : Loc X.env.scope x := by first | exact Or.inl rfl | exact Or.inr rfl)
    (hf : X.fn x = true ∨ X.env.scope.names.lookup x = some .local := by first | exact .inl rfl | exact .inr rfl) : Bd X (.Name x pos) P Γ (Γ.set i (some P)) [i] := fun σ F H v eo fh pv Q k =>
  wG_of (pg_name hN hi hx hf) (k _ (eo.set i pv) fun vs h => wipe_set (h i (List.mem_singleton.mpr rfl)))
theorem bds_nil : Bds X [] [] Γ Γ [] := fun σ F H vs eo fh pv Q k => by
  cases pv
  exact wGs_of pgs_nil ⟨rfl, k σ eo fun _ _ => rfl⟩
theorem bds_cons (h1 : Bd X tg P Γ Γ1 sl) (h2 : Bds X ts Ps Γ1 Γ' sl') (hs : (assignEach (tg :: ts) X.env).map (·.2) = assign tg X.env :: (assignEach ts X.env).map (·.2) := by rfl) : Bds X (tg :: ts) (P :: Ps) Γ Γ' (sl ++ sl') := fun σ F H vs eo fh pv Q k => by
  cases pv with
  | cons p q =>
    refine wGs_of (pgs_cons pg_w pgs_w hs) ⟨_, _, rfl, ?_⟩
    refine h1 σ F H _ eo fh p _ fun σ1 e1 w1 => ?_
    refine h2 σ1 F H _ e1 fh q _ fun σ2 e2 w2 => k σ2 e2 fun ws hw => ?_
    rw [w2 ws fun i hi => hw i (List.mem_append_right _ hi), w1 ws fun i hi => hw i (List.mem_append_left _ hi)]
theorem bd_pr {α β : Type} {T : Ty α} {U : Ty β} {x : α × β} {e1 e2 : Expr} {k0} (h : Bds X [e1, e2] [T.is x.1, U.is x.2] Γ Γ' sl) (hc : X.calm = true := by rfl)
    (hn : (assignEach [e1, e2] X.env).length = 2 := by rfl) (hst : (assignEach [e1, e2] X.env).findIdx? (·.1) = none := by rfl) : Bd X (.Tuple [e1, e2] k0 pos) ((tPr T U).is x) Γ Γ' sl := fun σ F H v eo fh pv Q k => by
  obtain ⟨a, v1, v2, rfl, h1, h2, h3⟩ := pv
  refine wG_of (pg_tup (n := 2) hc pgs_w hn hst) ⟨a, [v1, v2], rfl, SqT.of (fh _ _ h1), rfl, ?_⟩
  exact h σ F H [v1, v2] eo fh (.cons h2 (.cons h3 .nil)) Q k
theorem bd_two {α β : Type} {T : Ty α} {U : Ty β} {x : α × β} {e1 e2 : Expr} {k0} (h1 : Bd X e1 (T.is x.1) Γ Γ1 sl) (h2 : Bd X e2 (U.is x.2) Γ1 Γ' sl') (hc : X.calm = true := by rfl)
    (hn : (assignEach [e1, e2] X.env).length = 2 := by rfl) (hst : (assignEach [e1, e2] X.env).findIdx? (·.1) = none := by rfl)
    (hs : (assignEach [e1, e2] X.env).map (·.2) = assign e1 X.env :: (assignEach [e2] X.env).map (·.2) := by rfl) (hs2 : (assignEach [e2] X.env).map (·.2) = assign e2 X.env :: (assignEach [] X.env).map (·.2) := by rfl) : Bd X (.Tuple [e1, e2] k0 pos) ((tPr T U).is x) Γ Γ' (sl ++ (sl' ++ [])) :=
  bd_pr (bds_cons h1 (bds_cons h2 bds_nil hs2) hs) hc hn hst
end

section
variable {X : Cx} {E : En} {Γ Γ' : Gam} {M : Mem} {D : Ends} {P : MP} {tg e : Expr} {rest : List Stmt} {sl : List Nat} {pos : Pos}
/-- a target of any form takes a value -/
theorem g_asg (he : Ev X Γ M e P) (hb : Bd X tg P Γ Γ' sl) (k : G E X rest Γ' M D) (hs : swapsWithSole [tg] e pos.line X.env = pure false := by rfl) (hw : swappedStores [tg] e X.env = pure none := by rfl)
    (h1 : (assignEach [tg] X.env).map (·.2) = [assign tg X.env] := by rfl) : G E X (.Assign [tg] e pos :: rest) Γ M D := fun σ H F s => by
  refine wSs_of (pss_cons (ps_asg pe_w pg_w hs hw h1) pss_w) ?_
  refine he σ F H s.env s.fh s.ce _ fun F' H' v t pv => ?_
  have s' := s.step t
  exact hb σ F' H' v s'.env s'.fh pv _ fun σ' eo' _ => k σ' H' F' ⟨eo', s'.fh, s'.ce, s'.st, s'.own, s'.wm, s'.bs⟩
end
/-! ## sources -/
section
variable {X : Cx} {Γ : Gam} {M : Mem} {tg e e2 : Expr} {pos p : Pos} {α β : Type} {T : Ty α} {U : Ty β} {xs : List α} {ys : List β}
theorem paired_at {F : Hp} : ∀ {vs : List V} {xs : List α}, Paired (T.t F) vs xs → ∀ (i : Nat) (h : i < xs.length), ∃ v, vs[i]? = some v ∧ T.t F v xs[i]
  | _, _, .cons p q, 0, h => ⟨_, rfl, p⟩
  | _, _, .cons p q, i + 1, h => paired_at q i (Nat.lt_of_succ_lt_succ h)
theorem tw_list {K : PySem.W.Frag} {F : Hp} {a : Addr} {vs : List V} (h1 : F a = some (.lst vs)) (h2 : Paired (T.t F) vs xs) (hz : vs.length ≤ sizeLine) : TW (Itl K a) F T xs := by
  have w := walk_list (K := K) (a := a) (xs := vs)
  have hl := Paired.length h2
  refine ⟨by rw [← hl]; exact hz, fun i F1 H hi e fh => w.goes i H (by rw [hl]; exact hi) (SqL.of (fh _ _ (e _ _ h1))), fun F1 H e fh => by rw [← hl]; exact w.stops H (SqL.of (fh _ _ (e _ _ h1))), fun i F1 H H' v hi e fh y => ?_⟩
  obtain ⟨e1, e2⟩ := w.yields i H v H' (by rw [hl]; exact hi) (SqL.of (fh _ _ (e _ _ h1))) y
  subst e1
  obtain ⟨u, hu, tu⟩ := paired_at h2 i hi
  rw [hu] at e2
  cases e2
  exact ⟨F1, Stp.refl fh Cells.nil, T.mono e tu⟩
theorem tw_tup {K : PySem.W.Frag} {F : Hp} {a : Addr} {vs : List V} (h1 : F a = some (.tup vs)) (h2 : Paired (T.t F) vs xs) (hz : vs.length ≤ sizeLine) : TW (Itt K a) F T xs := by
  have w := walk_tup (K := K) (a := a) (xs := vs)
  have hl := Paired.length h2
  refine ⟨by rw [← hl]; exact hz, fun i F1 H hi e fh => w.goes i H (by rw [hl]; exact hi) (SqT.of (fh _ _ (e _ _ h1))), fun F1 H e fh => by rw [← hl]; exact w.stops H (SqT.of (fh _ _ (e _ _ h1))), fun i F1 H H' v hi e fh y => ?_⟩
  obtain ⟨e1, e2⟩ := w.yields i H v H' (by rw [hl]; exact hi) (SqT.of (fh _ _ (e _ _ h1))) y
  subst e1
  obtain ⟨u, hu, tu⟩ := paired_at h2 i hi
  rw [hu] at e2
  cases e2
  exact ⟨F1, Stp.refl fh Cells.nil, T.mono e tu⟩
/-- what a PI gives, seen with the invariant -/
theorem wI_inv {wi : TI} {iter : Expr} {σ : St} {H : Hp} {R R' : It → Hp → Prop} (h : PI X tg iter wi) (q : wi σ H R') (k : ∀ pins s J H', Inv X pins σ H' s → R' J H' → R J H') : wI X tg iter σ H R := fun pins s I => by
  refine thn (h.run pins s σ H R' I q) fun v s1 h1 => thn h1 fun itv s2 h2 => ?_
  obtain ⟨it, fp, tn, J, H', e, I', T', st, hf, r⟩ := h2
  exact ⟨it, fp, tn, J, H', e, I', T', st, hf, k pins s2 J H' I' r⟩
theorem evi_list (h : Ev X Γ M e ((tLst T).is xs)) : EvI X Γ M tg e T xs := fun σ F H eo fh ce R k => by
  refine wI_inv (R' := fun J H' => ∃ (a : Addr) (F' : Hp) (vs : List V), J = Itl X.K a ∧ Stp M F H F' H' ∧ F' a = some (.lst vs) ∧ Paired (T.t F') vs xs) (pi_list pe_w) ?_ fun pins s J H' I ⟨a, F', vs, e1, st, h1, h2⟩ => ?_
  · refine h σ F H eo fh ce _ fun F' H' v st ⟨a, vs, e1, h1, h2⟩ => ?_
    subst e1
    exact ⟨a, rfl, ⟨vs, SqL.of (st.fh _ _ h1)⟩, a, F', vs, rfl, st, h1, h2⟩
  · subst e1
    obtain ⟨_, _, _, hz⟩ := I.list (SqL.of (st.fh _ _ h1))
    exact k _ F' H' st (tw_list h1 h2 hz)
theorem evi_tup (h : Ev X Γ M e ((tTup T).is xs)) : EvI X Γ M tg e T xs := fun σ F H eo fh ce R k => by
  refine wI_inv (R' := fun J H' => ∃ (a : Addr) (F' : Hp) (vs : List V), J = Itt X.K a ∧ Stp M F H F' H' ∧ F' a = some (.tup vs) ∧ Paired (T.t F') vs xs) (pi_tup pe_w) ?_ fun pins s J H' I ⟨a, F', vs, e1, st, h1, h2⟩ => ?_
  · refine h σ F H eo fh ce _ fun F' H' v st ⟨a, vs, e1, h1, h2⟩ => ?_
    subst e1
    exact ⟨a, rfl, ⟨vs, SqT.of (st.fh _ _ h1)⟩, a, F', vs, rfl, st, h1, h2⟩
  · subst e1
    obtain ⟨_, _, _, hz⟩ := I.tuple (SqT.of (st.fh _ _ h1))
    exact k _ F' H' st (tw_tup h1 h2 hz)
/-- lo, lo + 1, .. -/
def upF (lo : Int) (n : Nat) : List Int := (List.range n).map fun i : Nat => lo + (i : Int)
theorem upF_len {lo : Int} {n : Nat} : (upF lo n).length = n := by simp [upF]
theorem tw_range {F : Hp} {lo : Int} {n : Nat} (hz : n ≤ sizeLine) : TW (Itr lo n) F tInt (upF lo n) := by
  refine ⟨by rw [upF_len]; exact hz, fun i F1 H hi e fh => by rw [upF_len] at hi; exact hi, fun F1 H e fh => by rw [upF_len]; exact Nat.le_refl _, fun i F1 H H' v hi e fh y => ?_⟩
  obtain ⟨e1, e2⟩ := y
  subst e1
  refine ⟨F1, Stp.refl fh Cells.nil, ?_⟩
  show v = V.int _
  rw [e2]
  simp [upF]
theorem evi_range1 {n : Int} (h : Ev X Γ M e (tInt.is n)) (hm : X.mg "range" = none) (hn : -1000000 ≤ n ∧ n ≤ 1000000) (hg : Gl X "range" := by rfl) (hs : starEach [e] X.env = [(false, eval e X.env)] := by rfl) (hs1 : starEach [e] X.env = (false, eval e X.env) :: starEach [] X.env := by rfl) : EvI X Γ M tg (.Call (.Name "range" p) [e] [] pos) tInt (upF 0 n.toNat) := fun σ F H eo fh ce R k => by
  refine wI_of (pi_range1 hg hm pa_w hs) ?_
  refine (eva_one h hs1) σ F H eo fh ce _ fun F1 H1 vs s1 pvs => ?_
  obtain ⟨v, rfl, pv⟩ := paired1 pvs
  cases pv
  exact ⟨n, rfl, by omega, by omega, k _ F1 H1 s1 (tw_range (by rw [sizeLine_eq]; omega))⟩
theorem evi_range2 {m n : Int} (h : Ev X Γ M e (tInt.is m)) (h2 : Ev X Γ M e2 (tInt.is n)) (hm : X.mg "range" = none) (hm1 : -1000000 ≤ m ∧ m ≤ 1000000) (hn : -1000000 ≤ n ∧ n ≤ 1000000) (hg : Gl X "range" := by rfl)
    (hs : starEach [e, e2] X.env = [(false, eval e X.env), (false, eval e2 X.env)] := by rfl) (hs2 : starEach [e2] X.env = [(false, eval e2 X.env)] := by rfl) (hs3 : starEach [e, e2] X.env = (false, eval e X.env) :: starEach [e2] X.env := by rfl) (hs1 : starEach [e2] X.env = (false, eval e2 X.env) :: starEach [] X.env := by rfl) : EvI X Γ M tg (.Call (.Name "range" p) [e, e2] [] pos) tInt (upF m (n - m).toNat) := fun σ F H eo fh ce R k => by
  refine wI_of (pi_range2 hg hm pa_w hs hs2) ?_
  refine (eva_cons h (eva_one h2 hs1) hs3) σ F H eo fh ce _ fun F1 H1 vs s1 pvs => ?_
  obtain ⟨v, w, rfl, pv, pw⟩ := paired2 pvs
  cases pv
  cases pw
  exact ⟨m, n, rfl, ⟨by omega, by omega, by omega, by omega⟩, k _ F1 H1 s1 (tw_range (by rw [sizeLine_eq]; omega))⟩
/-- zip of two lists | of two tuples: as far as both go -/
theorem getElem_zip' {xs : List α} {ys : List β} {i : Nat} (h : i < (xs.zip ys).length) : (xs.zip ys)[i] = (xs[i]'(by simp at h; omega), ys[i]'(by simp at h; omega)) := by simp
theorem tw_zip {K : PySem.W.Frag} {F : Hp} {a b : Addr} {vs ws : List V} (h1 : F a = some (.lst vs)) (h2 : Paired (T.t F) vs xs) (g1 : F b = some (.lst ws)) (g2 : Paired (U.t F) ws ys) (hz : vs.length ≤ sizeLine) : TW (Itz K a b) F (tPr T U) (xs.zip ys) := by
  have w := walk_zip (K := K) (a := a) (b := b) (xs := vs) (ys := ws) rfl
  have hl := Paired.length h2
  have gl := Paired.length g2
  have hn : min vs.length ws.length = (xs.zip ys).length := by rw [List.length_zip, hl, gl]
  refine ⟨by rw [List.length_zip, ← hl]; omega, fun i F1 H hi e fh => w.goes i H (by rw [hn]; exact hi) ⟨SqL.of (fh _ _ (e _ _ h1)), SqL.of (fh _ _ (e _ _ g1))⟩,
    fun F1 H e fh => by rw [← hn]; exact w.stops H ⟨SqL.of (fh _ _ (e _ _ h1)), SqL.of (fh _ _ (e _ _ g1))⟩, fun i F1 H H' v hi e fh y => ?_⟩
  obtain ⟨t, x, z, e1, e2, e3, e4, e5⟩ := w.yields i H v H' (by rw [hn]; exact hi) ⟨SqL.of (fh _ _ (e _ _ h1)), SqL.of (fh _ _ (e _ _ g1))⟩ y
  subst e1 e3
  have hi1 : i < xs.length := by rw [List.length_zip] at hi; omega
  have hi2 : i < ys.length := by rw [List.length_zip] at hi; omega
  obtain ⟨u, hu, tu⟩ := paired_at h2 i hi1
  obtain ⟨u2, hu2, tu2⟩ := paired_at g2 i hi2
  have e4' : vs[i]? = some x := e4
  have e5' : ws[i]? = some z := e5
  rw [hu] at e4'
  cases e4'
  rw [hu2] at e5'
  cases e5'
  have st := Stp.new (M := []) (o := .tup [x, z]) fh Cells.nil e2
  refine ⟨_, st, t, x, z, rfl, upd_same, ?_, ?_⟩
  · rw [getElem_zip' hi]; exact T.mono (e.trans st.ff) tu
  · rw [getElem_zip' hi]; exact U.mono (e.trans st.ff) tu2
theorem tw_zipT {K : PySem.W.Frag} {F : Hp} {a b : Addr} {vs ws : List V} (h1 : F a = some (.tup vs)) (h2 : Paired (T.t F) vs xs) (g1 : F b = some (.tup ws)) (g2 : Paired (U.t F) ws ys) (hz : vs.length ≤ sizeLine) : TW (RZ.ItzT K a b) F (tPr T U) (xs.zip ys) := by
  have hl := Paired.length h2
  have gl := Paired.length g2
  refine ⟨by rw [List.length_zip, ← hl]; omega, fun i F1 H hi e fh => ?_, fun F1 H e fh => ?_, fun i F1 H H' v hi e fh y => ?_⟩
  · have hi1 : i < xs.length := by rw [List.length_zip] at hi; omega
    have hi2 : i < ys.length := by rw [List.length_zip] at hi; omega
    obtain ⟨u, hu, tu⟩ := paired_at h2 i hi1
    obtain ⟨u2, hu2, tu2⟩ := paired_at g2 i hi2
    exact ⟨vs, ws, u, u2, SqT.of (fh _ _ (e _ _ h1)), SqT.of (fh _ _ (e _ _ g1)), hu, hu2⟩
  · refine ⟨vs, ws, SqT.of (fh _ _ (e _ _ h1)), SqT.of (fh _ _ (e _ _ g1)), ?_⟩
    rw [List.length_zip]
    omega
  · obtain ⟨t, x, z, e1, e2, e3, e4, e5⟩ := y
    have e4' := e4 vs (SqT.of (fh _ _ (e _ _ h1)))
    have e5' := e5 ws (SqT.of (fh _ _ (e _ _ g1)))
    subst e1 e3
    have hi1 : i < xs.length := by rw [List.length_zip] at hi; omega
    have hi2 : i < ys.length := by rw [List.length_zip] at hi; omega
    obtain ⟨u, hu, tu⟩ := paired_at h2 i hi1
    obtain ⟨u2, hu2, tu2⟩ := paired_at g2 i hi2
    rw [hu] at e4'
    cases e4'
    rw [hu2] at e5'
    cases e5'
    have st := Stp.new (M := []) (o := .tup [x, z]) fh Cells.nil e2
    refine ⟨_, st, t, x, z, rfl, upd_same, ?_, ?_⟩
    · rw [getElem_zip' hi]; exact T.mono (e.trans st.ff) tu
    · rw [getElem_zip' hi]; exact U.mono (e.trans st.ff) tu2
theorem evi_zip {elts : List Expr} {kk : Nat} {tpos : Pos} (h : Ev X Γ M e ((tLst T).is xs)) (h2 : Ev X Γ M e2 ((tLst U).is ys)) (hm : X.mg "zip" = none) (hg : Gl X "zip" := by rfl)
    (hs : starEach [e, e2] X.env = (false, eval e X.env) :: starEach [e2] X.env := by rfl) (hs1 : starEach [e2] X.env = (false, eval e2 X.env) :: starEach [] X.env := by rfl) (hpl : (backTo pos (starEach [e2] X.env)).any (·.1) = false := by rfl) :
    EvI X Γ M (.Tuple elts kk tpos) (.Call (.Name "zip" p) [e, e2] [] pos) (tPr T U) (xs.zip ys) := fun σ F H eo fh ce R k => by
  refine wI_inv (R' := fun J H' => ∃ (a b : Addr) (F' : Hp) (vs ws : List V), J = Itz X.K a b ∧ Stp M F H F' H' ∧ F' a = some (.lst vs) ∧ Paired (T.t F') vs xs ∧ F' b = some (.lst ws) ∧ Paired (U.t F') ws ys) (pi_zip hg hm pa_w hs hpl) ?_ fun pins s J H' I ⟨a, b, F', vs, ws, e1, st, h1, h2, g1, g2⟩ => ?_
  · refine (eva_cons h (eva_one h2 hs1) hs) σ F H eo fh ce _ fun F1 H1 vs s1 pvs => ?_
    obtain ⟨v, w, rfl, ⟨a, vs, rfl, h1, h2⟩, ⟨b, ws, rfl, g1, g2⟩⟩ := paired2 pvs
    exact ⟨a, b, vs, ws, rfl, SqL.of (s1.fh _ _ h1), SqL.of (s1.fh _ _ g1), a, b, F1, vs, ws, rfl, s1, h1, h2, g1, g2⟩
  · subst e1
    obtain ⟨_, _, _, hz⟩ := I.list (SqL.of (st.fh _ _ h1))
    exact k _ F' H' st (tw_zip h1 h2 g1 g2 hz)
theorem evi_zipT {elts : List Expr} {kk : Nat} {tpos : Pos} (h : Ev X Γ M e ((tTup T).is xs)) (h2 : Ev X Γ M e2 ((tTup U).is ys)) (hm : X.mg "zip" = none) (hg : Gl X "zip" := by rfl)
    (hs : starEach [e, e2] X.env = (false, eval e X.env) :: starEach [e2] X.env := by rfl) (hs1 : starEach [e2] X.env = (false, eval e2 X.env) :: starEach [] X.env := by rfl) (hpl : (backTo pos (starEach [e2] X.env)).any (·.1) = false := by rfl) :
    EvI X Γ M (.Tuple elts kk tpos) (.Call (.Name "zip" p) [e, e2] [] pos) (tPr T U) (xs.zip ys) := fun σ F H eo fh ce R k => by
  refine wI_inv (R' := fun J H' => ∃ (a b : Addr) (F' : Hp) (vs ws : List V), J = RZ.ItzT X.K a b ∧ Stp M F H F' H' ∧ F' a = some (.tup vs) ∧ Paired (T.t F') vs xs ∧ F' b = some (.tup ws) ∧ Paired (U.t F') ws ys) (RZ.pi_zipA hg hm pa_w hs hpl) ?_ fun pins s J H' I ⟨a, b, F', vs, ws, e1, st, h1, h2, g1, g2⟩ => ?_
  · refine (eva_cons h (eva_one h2 hs1) hs) σ F H eo fh ce _ fun F1 H1 vs s1 pvs => ?_
    obtain ⟨v, w, rfl, ⟨a, vs, rfl, h1, h2⟩, ⟨b, ws, rfl, g1, g2⟩⟩ := paired2 pvs
    exact ⟨a, b, vs, ws, rfl, .inr ⟨SqT.of (s1.fh _ _ h1), SqT.of (s1.fh _ _ g1), a, b, F1, vs, ws, rfl, s1, h1, h2, g1, g2⟩⟩
  · subst e1
    obtain ⟨_, _, _, hz⟩ := I.tuple (SqT.of (st.fh _ _ h1))
    exact k _ F' H' st (tw_zipT h1 h2 g1 g2 hz)
/-- enumerate(list) -/
theorem tw_enum {K : PySem.W.Frag} {F : Hp} {a : Addr} {vs : List V} (h1 : F a = some (.lst vs)) (h2 : Paired (T.t F) vs xs) (hz : vs.length ≤ sizeLine) : TW (Ite K a) F (tPr tInt T) ((upF 0 xs.length).zip xs) := by
  have w := walk_enum (K := K) (a := a) (xs := vs)
  have hl := Paired.length h2
  have hn : vs.length = ((upF 0 xs.length).zip xs).length := by rw [List.length_zip, upF_len, hl]; omega
  refine ⟨by rw [← hn]; exact hz, fun i F1 H hi e fh => w.goes i H (by rw [hn]; exact hi) (SqL.of (fh _ _ (e _ _ h1))), fun F1 H e fh => by rw [← hn]; exact w.stops H (SqL.of (fh _ _ (e _ _ h1))), fun i F1 H H' v hi e fh y => ?_⟩
  obtain ⟨t, x, z, e1, e2, e3, e4, e5⟩ := w.yields i H v H' (by rw [hn]; exact hi) (SqL.of (fh _ _ (e _ _ h1))) y
  subst e1 e3
  cases e4
  have hi1 : i < xs.length := by rw [← hl, hn]; exact hi
  obtain ⟨u, hu, tu⟩ := paired_at h2 i hi1
  have e5' : vs[i]? = some z := e5
  rw [hu] at e5'
  cases e5'
  have st := Stp.new (M := []) (o := .tup [.int (i : Nat), z]) fh Cells.nil e2
  refine ⟨_, st, t, _, z, rfl, upd_same, ?_, ?_⟩
  · rw [getElem_zip' hi]
    show V.int _ = V.int _
    simp [upF]
  · rw [getElem_zip' hi]; exact T.mono (e.trans st.ff) tu
theorem evi_enum {elts : List Expr} {kk : Nat} {tpos : Pos} (h : Ev X Γ M e ((tLst T).is xs)) (hm : X.mg "enumerate" = none) (hg : Gl X "enumerate" := by rfl)
    (hs : starEach [e] X.env = [(false, eval e X.env)] := by rfl) (hs1 : starEach [e] X.env = (false, eval e X.env) :: starEach [] X.env := by rfl) :
    EvI X Γ M (.Tuple elts kk tpos) (.Call (.Name "enumerate" p) [e] [] pos) (tPr tInt T) ((upF 0 xs.length).zip xs) := fun σ F H eo fh ce R k => by
  refine wI_inv (R' := fun J H' => ∃ (a : Addr) (F' : Hp) (vs : List V), J = Ite X.K a ∧ Stp M F H F' H' ∧ F' a = some (.lst vs) ∧ Paired (T.t F') vs xs) (pi_enum hg hm pa_w hs) ?_ fun pins s J H' I ⟨a, F', vs, e1, st, h1, h2⟩ => ?_
  · refine (eva_one h hs1) σ F H eo fh ce _ fun F1 H1 vs s1 pvs => ?_
    obtain ⟨v, rfl, ⟨a, vs, rfl, h1, h2⟩⟩ := paired1 pvs
    exact ⟨a, vs, rfl, SqL.of (s1.fh _ _ h1), a, F1, vs, rfl, s1, h1, h2⟩
  · subst e1
    obtain ⟨_, _, _, hz⟩ := I.list (SqL.of (st.fh _ _ h1))
    exact k _ F' H' st (tw_enum h1 h2 hz)
end

/-! ## for -/
section
variable {X : Cx} {E : En} {Γ : Gam} {M : Mem} {D : Ends} {tg iter : Expr} {body rest : List Stmt} {pos : Pos} {α : Type} {T : Ty α} {xs : List α}
theorem Sta.base {σ : St} {H F B : Hp} (s : Sta E Γ M σ H F) (e : Ext B F) : Sta { E with B := B } Γ M σ H F := ⟨s.env, s.fh, s.ce, s.st, s.own, s.wm, e⟩
/-- a loop: S i the abstract states ahead of turn i -/
theorem g_for (hi : EvI X Γ M tg iter T xs) (S : Nat → Gam → Mem → Prop) (h0 : S 0 Γ M)
    (turn : ∀ (B : Hp) (i : Nat) (h : i < xs.length) (Γ' : Gam) (M' : Mem), S i Γ' M' → ∃ Γ2 sl, Bd X tg (T.is xs[i]) Γ' Γ2 sl ∧ G { E with B := B } X body Γ2 M' { D with nx := StaS { E with B := B } (S (i + 1)), ct := StaS { E with B := B } (S (i + 1)), bk := wSs X rest D })
    (after : ∀ (Γ' : Gam) (M' : Mem), S xs.length Γ' M' → G E X rest Γ' M' D) (hc : X.calm = true := by rfl) (hp : PassesOwn (model X.prog X.w) X.A X.env X.xe := by exact PassesOwn.never)
    (hs : ∀ x, foldedSetIterable iter X.env x = pure x := by intro _; rfl) : G E X (.For tg iter body [] pos :: rest) Γ M D := fun σ H F s => by
  refine wSs_of (pss_cons (ps_for hp hc pi_w pg_w pss_w hs) pss_w) ?_
  refine hi σ F H s.env s.fh s.ce _ fun J F1 H1 t w => ?_
  have s1 := s.step t
  have e1 : Ext E.B F1 := s1.bs
  refine for_it (n := xs.length) (G := fun H => ∃ F, Ext F1 F ∧ Ext F H) (Y := fun i H v H' => ∃ h : i < xs.length, ∀ F, Ext F1 F → Ext F H → ∃ F', Stp [] F H F' H' ∧ T.t F' v xs[i])
    ⟨fun i H hi ⟨F, a, b⟩ => w.goes i F H hi a b, fun H ⟨F, a, b⟩ => w.stops F H a b, fun i H v H' hi _ y => ⟨hi, fun F a b => w.yields i F H H' v hi a b y⟩⟩
    (fun i σ H => StaS { E with B := F1 } (S i) σ H) ⟨Γ, M, F1, h0, s1.base Ext.rfl'⟩ (fun i σ H _ ⟨Γ', M', F', _, q⟩ => ⟨F', q.bs, q.fh⟩) ?_ ?_
  · rintro i v σ2 H2 H3 hlt ⟨Γ', M', F2, hS, q⟩ ⟨_, y⟩
    obtain ⟨F3, st, tv⟩ := y F2 q.bs q.fh
    obtain ⟨Γ2, sl, hb, hG⟩ := turn F1 i hlt Γ' M' hS
    have q2 := q.step (st.up q.ce fun _ z => nomatch z)
    refine hb σ2 F3 H3 v q2.env q2.fh tv _ fun σ' eo' _ => ?_
    exact hG σ' H3 F3 ⟨eo', q2.fh, q2.ce, q2.st, q2.own, q2.wm, q2.bs⟩
  · rintro σ2 H2 ⟨Γ', M', F2, hS, q⟩
    exact after Γ' M' hS σ2 H2 F2 ⟨q.env, q.fh, q.ce, q.st, q.own, q.wm, e1.trans q.bs⟩
/-- the end of a turn -/
theorem g_turn {S : Gam → Mem → Prop} {Γ' : Gam} {rt : VK} {bk ct : St → Hp → Prop} (h : S Γ' M) (hs : Sub Γ Γ') : G E X [] Γ M ⟨StaS E S, rt, bk, ct⟩ := fun σ H F s => wSs_of pss_nil ⟨Γ', M, F, h, s.sub hs⟩
end
end L2.K3
set_option Elab.async false
set_option linter.all false
set_option maxRecDepth 100000
set_option maxHeartbeats 2000001
/-! K3E: comprehensions, lists, tuples. -/
namespace L2.K3
open PySem PySem.Spec PyProof.Rows

/-- the context of a comprehension's block -/
abbrev blkX (X : Cx) (s : Shared) (H : Hp) (scope : Scope) (C : Addr) (cl : List (Str × Addr)) (fp : List Addr) : Cx := X.blk s H scope (compEnvC scope cl C X.env) fp
theorem paired_snoc {α : Type} {T : Ty α} {F : Hp} {v : V} {x : α} : ∀ {vs : List V} {xs : List α}, Paired (T.t F) vs xs → T.t F v x → Paired (T.t F) (vs ++ [v]) (xs ++ [x])
  | _, _, .nil, h => .cons h .nil
  | _, _, .cons p q, h => .cons p (paired_snoc q h)
theorem take_succ' {α : Type} {xs : List α} {i : Nat} (h : i < xs.length) : xs.take (i + 1) = xs.take i ++ [xs[i]] := by
  rw [List.take_succ, List.getElem?_eq_getElem h] <;> rfl
theorem wipe_wipe {σ : St} {vs : List Nat} : ∀ ws : List Nat, (∀ w ∈ ws, w ∈ vs) → wipe (wipe σ ws) vs = wipe σ vs
  | [], _ => rfl
  | w :: ws, h => by
    show wipe ((wipe σ ws).set w none) vs = _
    rw [wipe_set (h w List.mem_cons_self), wipe_wipe ws fun x hx => h x (List.mem_cons_of_mem _ hx)]
section
variable {X : Cx} {Γ : Gam} {M : Mem} {tg iter elt : Expr} {ifs : List Expr} {scope : Scope} {own : List (Str × Nat)} {pos : Pos} {α β : Type} {T : Ty α} {U : Ty β} {xs : List α} {f : α → β} {b : α → Bool}
/-- the element's reading, whatever the block's context -/
def teB (X : Cx) (scope : Scope) (elt : Expr) : TE := fun σ H Q => ∀ s H0 C cl fp, wE (blkX X s H0 scope C cl fp) elt σ H Q
def tgB (X : Cx) (scope : Scope) (tg : Expr) : TG := fun v σ H Q => ∀ s H0 C cl fp, wG (blkX X s H0 scope C cl fp) tg v σ H Q
def ttB (X : Cx) (scope : Scope) (c : Expr) : TT := fun σ H Q => ∀ s H0 C cl fp, wT (blkX X s H0 scope C cl fp) c σ H Q
def EvLc (X : Cx) (Γ : Gam) (M : Mem) (t : TE) (P : MP) : Prop := ∀ (σ : St) (F H : Hp), EnvOk F σ Γ → Ext F H → Cells F H M → ∀ Q : VK, (∀ F' H' v, Stp M F H F' H' → P.p F' v → Q v H') → t σ H Q
/-- the state between two items -/
def LcP (M : Mem) (F0 H0 : Hp) (D : Addr) (U : Ty β) (ys : List β) (n : Nat) (H : Hp) : Prop := ∃ F acc, Stp M F0 H0 F H ∧ F D = none ∧ H D = some (.lst acc) ∧ Paired (U.t F) acc ys ∧ acc.length ≤ n
theorem LcP.snoc {F0 H0 : Hp} {D : Addr} {ys : List β} {n : Nat} {F H : Hp} {acc : List V} {v : V} {y : β} (h0 : H0 D = none) (cD : ∀ p ∈ M, p.1 ≠ D) (st : Stp M F0 H0 F H) (fD : F D = none) (ha : Paired (U.t F) acc ys) (hv : U.t F v y) (hn : acc.length ≤ n) :
    LcP M F0 H0 D U (ys ++ [y]) (n + 1) (upd H D (.lst (acc ++ [v]))) := by
  refine ⟨F, acc ++ [v], ⟨st.ff, fun a o h => ?_, fun a o ha h => ?_, st.nw, ⟨st.ce.nd, fun p hp => ?_⟩⟩, fD, upd_same, paired_snoc ha hv, by rw [List.length_append, List.length_singleton]; omega⟩
  · have hne : a ≠ D := fun e => by rw [e, fD] at h; cases h
    rw [upd_ne hne]; exact st.fh a o h
  · have hne : a ≠ D := fun e => by rw [e, h0] at h; cases h
    rw [upd_ne hne]; exact st.hh a o ha h
  · obtain ⟨f0, o, ho, hc⟩ := st.ce.mem p hp
    refine ⟨f0, o, ?_, hc⟩
    rw [upd_ne (cD p hp)]; exact ho
/-- what a block does at one item: the target, the tests, the element -/
def LcAt (X : Cx) (scope : Scope) (own : List (Str × Nat)) (Γ : Gam) (M : Mem) (tg elt : Expr) (tt : TT) (P : MP) (U : Ty β) (b : Bool) (y : β) : Prop :=
  ∃ Γ2 sl, (∀ i ∈ sl, i ∈ own.map (·.2)) ∧ (∀ s H C cl fp, Bd (blkX X s H scope C cl fp) tg P (wipeG Γ (own.map (·.2))) Γ2 sl) ∧
    (∀ σ F H, EnvOk F σ Γ2 → Ext F H → Cells F H M → ∀ Q : Bool → Hp → Prop, (∀ F' H', Stp M F H F' H' → Q b H') → tt σ H Q) ∧ (b = true → ∀ s H C cl fp, Ev (blkX X s H scope C cl fp) Γ2 M elt (U.is y))
theorem lc_main {tt : TT} (hi : EvI X Γ M tg iter T xs) (hel : ∀ (i : Nat) (h : i < xs.length), LcAt X scope own Γ M tg elt tt (T.is xs[i]) U (b xs[i]) (f xs[i])) :
    EvLc X Γ M (tLc (wI X tg iter) (tgB X scope tg) tt (teB X scope elt) (own.map (·.2))) ((tLst U).is ((xs.filter b).map f)) := fun σ F H eo fh ce Q k => by
  refine hi σ F H eo fh ce _ fun J F1 H1 t w => fun D hD => ?_
  have fD1 : F1 D = none := ext_none t.fh hD
  have cD : ∀ p ∈ M, p.1 ≠ D := fun p hp e => by
    obtain ⟨_, o, ho, _⟩ := t.ce.mem p hp
    rw [e, hD] at ho
    cases ho
  refine lc_it (n := xs.length) (G := fun H => ∃ F, Ext F1 F ∧ Ext F H) (Y := fun i H v H' => ∃ h : i < xs.length, ∀ F, Ext F1 F → Ext F H → ∃ F', Stp [] F H F' H' ∧ T.t F' v xs[i])
    ⟨fun i H hi ⟨F, a, b⟩ => w.goes i F H hi a b, fun H ⟨F, a, b⟩ => w.stops F H a b, fun i H v H' hi _ y => ⟨hi, fun F a b => w.yields i F H H' v hi a b y⟩⟩
    (fun i H => LcP M F1 H1 D U (((xs.take i).filter b).map f) i H) ?_ (fun i H _ ⟨F, acc, st, _⟩ => ⟨F, st.ff, st.fh⟩) ?_ ?_
  · refine ⟨F1, [], ⟨Ext.rfl', fun a o h => Ext.upd hD a o (t.fh a o h), fun a o _ h => Ext.upd hD a o h, fun a o h => .inl (by rw [h]; exact fun q => nomatch q), ⟨t.ce.nd, fun p hp => ?_⟩⟩, fD1, upd_same, .nil, Nat.le_refl _⟩
    obtain ⟨f0, o, ho, hc⟩ := t.ce.mem p hp
    exact ⟨f0, o, by rw [upd_ne (cD p hp)]; exact ho, hc⟩
  · rintro i v H2 H3 hlt ⟨F2, acc, st, fD, hDl, ha, hn⟩ ⟨_, y⟩
    obtain ⟨F3, st3, tv⟩ := y F2 st.ff st.fh
    have st23 : Stp M F2 H2 F3 H3 := st3.up st.ce fun _ z => nomatch z
    have keepD : ∀ {Fa Ha : Hp}, Stp M F2 H2 Fa Ha → Fa D = none ∧ Ha D = some (.lst acc) := fun {Fa Ha} z => by
      refine ⟨?_, z.hh D _ (fun q => ?_) hDl⟩
      · cases e : Fa D with
        | none => rfl
        | some u =>
          rcases z.nw D u e with q | q
          · exact absurd fD q
          · rw [hDl] at q
            cases q
      · obtain ⟨p, hp, e⟩ := List.mem_map.mp q
        exact cD p hp e
    obtain ⟨Γ2, sl, h1, h2, h3, h4⟩ := hel i hlt
    intro s0 H00 C0 cl0 fp0
    refine h2 s0 H00 C0 cl0 fp0 _ F3 H3 v (env_wipe (eo.mono (t.ff.trans (st.trans st23).ff)) _) st23.fh tv _ fun σ2 eo2 hw => ⟨(hw _ h1).trans (wipe_wipe _ fun _ z => z), ?_⟩
    refine h3 σ2 F3 H3 eo2 st23.fh st23.ce _ fun F4 H4 st4 => ?_
    have st24 := st23.trans st4
    obtain ⟨fD4, hD4⟩ := keepD st24
    have ta : (xs.take (i + 1)) = xs.take i ++ [xs[i]] := take_succ' hlt
    cases hb : b xs[i] with
    | false =>
      refine iteF ⟨F4, acc, st.trans st24, fD4, hD4, ?_, by omega⟩
      rw [ta, List.filter_append, List.filter_cons_of_neg (by rw [hb]; exact Bool.false_ne_true), List.filter_nil, List.append_nil]
      exact paired_mono st24.ff ha
    | true =>
      refine iteT ?_
      intro s5 H5 C5 cl5 fp5
      refine h4 hb s5 H5 C5 cl5 fp5 σ2 F4 H4 (eo2.mono st4.ff) st4.fh st4.ce _ fun F6 H6 z st6 tz => ?_
      have st26 := st24.trans st6
      obtain ⟨fD6, hD6⟩ := keepD st26
      refine ⟨acc, hD6, by have := w.small; omega, ?_⟩
      rw [ta, List.filter_append, List.filter_cons_of_pos hb, List.filter_nil, List.map_append]
      exact LcP.snoc hD cD (st.trans st26) fD6 (paired_mono st26.ff ha) tz hn
  · rintro H2 ⟨F2, acc, st, fD, hDl, ha, hn⟩
    rw [List.take_length] at ha
    have e2 : Ext F2 (upd F2 D (.lst acc)) := Ext.upd fD
    have nw : ∀ a o, upd F2 D (.lst acc) a = some o → F2 a ≠ none ∨ H1 a = none := fun a o h => by
      by_cases hq : a = D
      · rw [hq]; exact .inr hD
      · rw [upd_ne hq] at h
        exact .inl (by rw [h]; exact fun q => nomatch q)
    have st' : Stp M F1 H1 (upd F2 D (.lst acc)) H2 := by
      refine ⟨st.ff.trans e2, fun a o h => ?_, st.hh, fun a o h => ?_, ⟨st.ce.nd, fun p hp => ?_⟩⟩
      · by_cases hq : a = D
        · subst hq
          rw [upd_same] at h
          cases h
          exact hDl
        · rw [upd_ne hq] at h
          exact st.fh a o h
      · rcases nw a o h with q | q
        · cases e : F2 a with
          | none => exact absurd e q
          | some u => exact st.nw a u e
        · exact .inr q
      · obtain ⟨f0, o, ho, hc⟩ := st.ce.mem p hp
        exact ⟨by rw [upd_ne (cD p hp)]; exact f0, o, ho, p.2.mono e2 hc⟩
    exact k _ H2 _ (t.trans st') ⟨D, acc, rfl, upd_same, paired_mono e2 ha⟩
theorem tYes_ok {Γ2 : Gam} : ∀ σ F H, EnvOk F σ Γ2 → Ext F H → Cells F H M → ∀ Q : Bool → Hp → Prop, (∀ F' H', Stp M F H F' H' → Q true H') → tYes σ H Q := fun σ F H _ fh ce Q k => k F H (Stp.refl fh ce)
theorem ttB_ok {Γ2 : Gam} {c : Expr} {x : Bool} (h : ∀ s H C cl fp, EvT (blkX X s H scope C cl fp) Γ2 M c x) : ∀ σ F H, EnvOk F σ Γ2 → Ext F H → Cells F H M → ∀ Q : Bool → Hp → Prop, (∀ F' H', Stp M F H F' H' → Q x H') → ttB X scope c σ H Q :=
  fun σ F H eo fh ce Q k s H0 C cl fp => h s H0 C cl fp σ F H eo fh ce Q k
theorem pe_teB : ∀ (s : Shared) (H : Hp) (C : Addr) (cl : List (Str × Addr)) (fp : List Addr), PE (X.blk s H scope (compEnvC scope cl C X.env) fp) elt (teB X scope elt) := fun s H C cl fp => ⟨fun pins s' σ H' Q I h => h s H C cl fp pins s' I⟩
theorem pg_tgB : ∀ (s : Shared) (H : Hp) (C : Addr) (cl : List (Str × Addr)) (fp : List Addr), PG (X.blk s H scope (compEnvC scope cl C X.env) fp) tg (tgB X scope tg) := fun s H C cl fp => ⟨fun pins s' σ H' v u Q I r h => h s H C cl fp pins s' u I r⟩
theorem pt_ttB {c : Expr} : ∀ (s : Shared) (H : Hp) (C : Addr) (cl : List (Str × Addr)) (fp : List Addr), PTs (X.blk s H scope (compEnvC scope cl C X.env) fp) [c] (ttB X scope c) := fun s H C cl fp => pts_one ⟨fun pins s' σ H' Q I h => h s H C cl fp pins s' I⟩
/-- [elt for tg in iter] -/
theorem ev_lc (own : List (Str × Nat)) (hi : EvI X Γ M tg iter T xs) (hel : ∀ (i : Nat) (h : i < xs.length), LcAt X scope own Γ M tg elt tYes (T.is xs[i]) U true (f xs[i])) (hN : X.N.Nodup) (sc : Scope) (hsc : X.env.scope = sc := by rfl)
    (N : List Str) (hNN : X.N = N := by rfl) (ok : blkC N sc scope own = true := by decide +kernel) (hc : X.calm = true := by rfl) (hs : ∀ x, foldedSetIterable iter X.env x = pure x := by intro _; rfl) : Ev X Γ M (.ListComp elt [⟨tg, iter, [], 0⟩] scope pos) ((tLst U).is (xs.map f)) := fun σ F H eo fh ce Q k => by
  refine wE_of (pe_lc (own := own) hc hN pi_w (by rw [hsc, hNN]; exact blkOk_by ok) pg_tgB (fun _ _ _ _ _ => pts_nil) pe_teB hs) ?_
  have h := lc_main (b := fun _ => true) (f := f) hi hel σ F H eo fh ce Q
  rw [List.filter_eq_self.mpr (fun _ _ => rfl)] at h
  exact h k
/-- [elt for tg in iter if c] -/
theorem ev_lcIf (own : List (Str × Nat)) {c : Expr} (hi : EvI X Γ M tg iter T xs) (hel : ∀ (i : Nat) (h : i < xs.length), LcAt X scope own Γ M tg elt (ttB X scope c) (T.is xs[i]) U (b xs[i]) (f xs[i])) (hN : X.N.Nodup) (sc : Scope) (hsc : X.env.scope = sc := by rfl)
    (N : List Str) (hNN : X.N = N := by rfl) (ok : blkC N sc scope own = true := by decide +kernel) (hc : X.calm = true := by rfl) (hs : ∀ x, foldedSetIterable iter X.env x = pure x := by intro _; rfl) : Ev X Γ M (.ListComp elt [⟨tg, iter, [c], 0⟩] scope pos) ((tLst U).is ((xs.filter b).map f)) := fun σ F H eo fh ce Q k => by
  refine wE_of (pe_lc (own := own) hc hN pi_w (by rw [hsc, hNN]; exact blkOk_by ok) pg_tgB pt_ttB pe_teB hs) ?_
  exact lc_main hi hel σ F H eo fh ce Q k
/-- y = [elt for tg in iter] -/
theorem g_setLc {E : En} {D : Ends} {rest : List Stmt} {y : Str} {py spos : Pos} (i : Nat) (own : List (Str × Nat)) (hi : EvI X Γ M tg iter T xs) (hel : ∀ (i : Nat) (h : i < xs.length), LcAt X scope own Γ M tg elt tYes (T.is xs[i]) U true (f xs[i]))
    (k : G E X rest (Γ.set i (some ((tLst U).is (xs.map f)))) M D) (hN : X.N.Nodup) (sc : Scope) (hsc : X.env.scope = sc := by rfl)
    (hy : X.N[i]? = some y := by rfl) (hyl : sc.names.lookup y = some .local := by rfl) (hk : sc.kind = .function := by rfl) (hl : (py.line == pos.line) = true := by rfl) (hn : (scope.names.any fun (n, k) => n == y && (k == .local || k == .cell)) = false := by decide +kernel)
    (N : List Str) (hNN : X.N = N := by rfl) (ok : blkC N sc scope own = true := by decide +kernel) (hc : X.calm = true := by rfl) (hs : ∀ x, foldedSetIterable iter X.env x = pure x := by intro _; rfl) : G E X (.Assign [.Name y py] (.ListComp elt [⟨tg, iter, [], 0⟩] scope pos) spos :: rest) Γ M D := fun σ H F s => by
  refine wSs_of (pss_cons (ps_setLc (i := i) (own := own) hc hN hy (by rw [hsc]; exact hyl) (sw_true (by rw [hsc]; exact hk) (by rw [hsc]; exact hyl) hl hn) pi_w (by rw [hsc, hNN]; exact blkOk_by ok) pg_tgB (fun _ _ _ _ _ => pts_nil) pe_teB hs) pss_w) ?_
  have h := lc_main (b := fun _ => true) (f := f) hi hel σ F H s.env s.fh s.ce
  rw [List.filter_eq_self.mpr (fun _ _ => rfl)] at h
  exact h _ fun F' H' v t pv => k _ H' F' ((s.step t).set i pv)
end
end L2.K3
set_option Elab.async false
set_option linter.all false
set_option maxRecDepth 100000
set_option maxHeartbeats 2000001
/-! K3F: operators of an own class, != by an own ==, instances made, fields stored. -/
namespace OwnOp
open PySem PySem.Calls PyProof.Rows PySem.W
section
variable {prog : Program} {w : World} {A : Around} {E : Value → Shared → Prop} {s : Shared} {K : Frag} {x y C L f : Addr} {h0 : Heap} {m : Str → Option Value} {ox oy : Obj} {od od' : Option Obj}
/-- x op y of two instances of one class whose def is f -/
theorem bin_same {op : Operator} {Q : Value → Shared → Prop} (F : Fr h0 L s.heap m) (X0 : K.In h0) (I : InstAt s.heap x ox C od) (J : InstAt s.heap y oy C od') (hc : selfFirst K C = true)
    (hs : findIn K (.ref C) (PySem.dunder op.info.2) = some (some (.ref f))) (hf : isFn K (.ref f) = true)
    (h : wpAny (model prog w) A (call (.ref f) [.ref x, .ref y]) (PySem.W.CmpBack Q) E s) : wpAny (model prog w) A (binaryOp op (.ref x) (.ref y)) Q E s := by
  have X := X0.keeps F.keep
  obtain ⟨cd, rest, hcd, hm⟩ := ksp_first hc
  rcases hi : op.info with ⟨sym, nm'⟩
  rw [hi] at hs
  dsimp only at hs
  have one := ksp_try X I hs hf h
  obtain ⟨hh, g, d, tt, os⟩ := s
  have L1 : Looks (model prog w) hh (typeOf (.ref x)) (.ref C) := I.type
  have L2 : Looks (model prog w) hh (typeOf (.ref y)) (.ref C) := J.type
  have L3 : Looks (model prog w) hh (fillsNumberSlot (.ref C) nm') true := fills_K X hcd hm hs
  have he : (Value.ref C == Value.ref C) = true := beq_self_eq_true _
  simp only [binaryOp, hi]
  refine wpAny_holding (wpAny_bind ?_)
  unfold binaryOp1
  refine wpAny_bind (L1.at (wpAny_bind (L2.at (wpAny_bind (L3.at ?_)))))
  simp only [he, if_true]
  ksp_lk
  refine wpAny_mono one (fun r s' hr' => ?_) fun _ _ e => e
  obtain ⟨v, rfl, hq⟩ := hr'
  ksp_lk
  exact hq
theorem on_bind (self : Value) : bindSpecial (.builtin "object.__ne__") self = pure (.builtin "object.__ne__", [self]) :=
  (Slot.of (T := "object") (name := "__ne__") (owner := "object") (n := "__ne__") (by rw [typeLookup_type, builtinLookup_eq_fast]; kernel_rfl) (by decide +kernel) (by decide +kernel) (by decide +kernel)
    (.inl (by decide +kernel)) (by rw [isSubtype_type]; kernel_rfl)).bind self
theorem on_plain : plainId "object.__ne__" = true := by decide +kernel
/-- the object's own != by the class's == -/
theorem ne_body {Q : PySem.Fin → Shared → Prop} (hu : A.units < cLine) (X : K.In s.heap) (I : InstAt s.heap x ox C od) (hs : findIn K (.ref C) "__eq__" = some (some (.ref f))) (hf : isFn K (.ref f) = true)
    (hcall : wpAny (model prog w) A (call (.ref f) [.ref x, .ref y]) (fun v s' => ∃ b, v = .bool b ∧ Q (.done (.ret (.bool (!b)))) s') E s) :
    wpAny (model prog w) A (Builtin.«object.__ne__» ⟨[.ref x, .ref y], []⟩) Q E s := by
  obtain ⟨hh, g, d, tt, os⟩ := s
  unfold Builtin.«object.__ne__»
  repeat (first
    | with_reducible refine wpAny_cRoomFor hu ?_
    | (refine wpAny_bind (m := callSpecialIfBound? (.ref x) (Str.ofString "__eq__") [.ref y])
        (ifBound_K X I hs hf (wpAny_mono hcall (fun r s' hr => by
          obtain ⟨b, rfl, hq⟩ := hr
          repeat (first | exact hq | exact wpAny_pure hq | exact wpAny_truthy_bool hq | (refine wpAny_bind (m := truthy (.bool _)) (wpAny_truthy_bool ?_)) | wp_step)) fun _ _ e => e)))
    | wp_step)
theorem ne_same {Q : Value → Shared → Prop} (hu : A.units + 1 < cLine) (F0 : Fr h0 L s.heap m) (X0 : K.In h0) (I : InstAt s.heap x ox C od) (J : InstAt s.heap y oy C od') (hob : mroIn K C (.type "object") = some true)
    (hn : findIn K (.ref C) "__ne__" = some (some (.builtin "object.__ne__"))) (hs : findIn K (.ref C) "__eq__" = some (some (.ref f))) (hf : isFn K (.ref f) = true)
    (hcall : wpAny (model prog w) A.in1 (call (.ref f) [.ref x, .ref y]) (fun v s' => ∃ b, v = .bool b ∧ Q (.bool (!b)) s') E s) :
    wpAny (model prog w) A (richCompare .NotEq (.ref x) (.ref y)) Q E s := by
  have X := X0.keeps F0.keep
  have hin : Looks (model prog w) s.heap (isInstance (.ref x) (.type "object")) true := I.type.andThen (looks_mroIn X hob)
  unfold richCompare
  simp only [oneThing_ref]
  refine wpAny_holding (wpAny_bind (wpAny_cRoomFor (Nat.lt_of_succ_lt hu) ?_))
  rw [cmpInfo_NotEq]
  dsimp only
  refine wpAny_bind (I.type.here (wpAny_bind (J.type.here ?_)))
  rw [show (Value.ref C != Value.ref C) = false from by simp]
  simp only [Bool.false_eq_true, if_false]
  refine wpAny_bind (wpAny_pure ?_)
  simp only [Bool.false_eq_true, if_false]
  refine wpAny_bind ?_
  unfold tryCompare
  refine wpAny_bind ?_
  simp only [callSpecialIfBound?, bindSpecialIfBound?]
  refine wpAny_holding (wpAny_bind (wpAny_bind (wpAny_bind (I.type.here ((looks_findIn X hn).here ?_)))))
  simp only [on_bind]
  refine wpAny_bind (wpAny_askSetting (wpAny_ite ?_))
  have fin : wpAny (model prog w) A (call (.builtin "object.__ne__") ([.ref x] ++ [.ref y])) (fun v s' => ∃ b, v = .bool b ∧ Q (.bool b) s') E s := by
    refine wpAny_call (codeAny_call_builtin on_plain F.cmpEntry_ne (check_slot F.cmpKind_ne F.cmpSplit_ne hin (F.cmpArgs_ne _ _) ?_))
    refine ne_body (A := A.in1) hu X I hs hf (wpAny_mono hcall (fun v s' hv => ?_) fun _ _ e => e)
    obtain ⟨b, rfl, hq⟩ := hv
    exact ⟨b, rfl, ⟨_, rfl, hq⟩⟩
  have fin2 : wpAny (model prog w) A (call (.builtin "object.__ne__") ([.ref x] ++ [.ref y]) >>= fun v => pure (some v)) (fun r s' => ∃ b, r = some (.bool b) ∧ Q (.bool b) s') E s :=
    wpAny_bind (wpAny_mono fin (fun v s' ⟨b, e, q⟩ => wpAny_pure ⟨b, by rw [e], q⟩) fun _ _ e => e)
  split
  · refine wpAny_bind (wpAny_pure (wpAny_pure (wpAny_mono fin2 (fun r s' hr => ?_) fun _ _ e => e)))
    obtain ⟨b, rfl, q⟩ := hr
    exact wpAny_pure (wpAny_pure q)
  · refine wpAny_tryCatch (wpAny_bind (wpAny_pure (wpAny_pure (wpAny_mono fin2 (fun r s' hr => ?_) fun _ _ e => e))))
    obtain ⟨b, rfl, q⟩ := hr
    exact wpAny_pure (wpAny_pure q)
end
end OwnOp
set_option Elab.async false
set_option linter.all false
set_option maxRecDepth 100000
set_option maxHeartbeats 2000001
/-! K3G: own classes in the typed logic. -/
namespace L2.K3
open PySem PySem.Spec PyProof.Rows

/-! ## an own def run from within an operator -/
section
variable {X : Cx} {CX : CXT} {k : Nat} {f : Addr} {fd : FuncData} {ps : List Str} {sp : Sp}
theorem run_in {A : Around} {pins : List (Addr × Obj)} {σ : St} {H : Hp} {s : Shared} {Q : VK} {us : List Value} {vs : List V} (G : FnOk X.prog X.w X.K X.mg X.base CX0 k f fd ps sp) (sb : L2.Sub X k A) (hb : Binds X.K fd ps []) (I : Inv X pins σ H s) (r : Vals vs us) (h : sp vs H Q E0) :
    wpAny (model X.prog X.w) A (call (.ref f) us) (EP X pins σ Q) X.xe s := by
  have e0 : Env0 X.prog X.w X.K X.mg X.base A X.stack s H := by
    have e := I.env0
    exact ⟨by rw [sb.fr]; exact e.frames, e.mod, e.bs, e.bsz, e.funs, e.frf, e.hok, e.bare⟩
  have hl := G.len _ _ _ _ h
  refine wpAny_call (codeAny_mono (G.run A X.stack s H ⟨us, []⟩ us vs Q E0 sb.room e0 (by
    have := hb s us I.kIn (by rw [List.append_nil, ← r.length]; exact hl)
    rw [List.append_nil] at this
    exact this) r h) fun r s' hq => ?_)
  cases r with
  | error e => exact False.elim hq
  | ok fl =>
    cases fl with
    | ret u => exact I.after hq
    | next => exact False.elim hq
    | brk => exact False.elim hq
    | cont => exact False.elim hq
theorem cmpBack_of {pins : List (Addr × Obj)} {σ : St} {Q : VK} {u : Value} {s : Shared} (h : EP X pins σ Q u s) : PySem.W.CmpBack (EP X pins σ Q) u s := by
  obtain ⟨v, H, I, r, q⟩ := h
  have h' : EP X pins σ Q u s := ⟨v, H, I, r, q⟩
  cases v with
  | non => cases r; exact h'
  | bl b => cases r; exact h'
  | int i => obtain ⟨t, rfl⟩ := r; exact h'
  | str x => obtain ⟨t, rfl⟩ := r; exact h'
  | byt b => obtain ⟨t, rfl⟩ := r; exact h'
  | flt b => obtain ⟨t, rfl⟩ := r; exact h'
  | ref a => cases r; exact h'
  | ty n => cases r; exact h'
def rOwn (C : Addr) (sp : Sp) : R2 := fun x y H Q => (∃ a dx fs, x = .ref a ∧ H a = some (.ins C dx fs)) ∧ (∃ b dy gs, y = .ref b ∧ H b = some (.ins C dy gs)) ∧ sp [x, y] H Q E0
def rOwnI (C : Addr) (sp : Sp) : R2 := fun x y H Q => (∃ a dx fs, x = .ref a ∧ H a = some (.ins C dx fs)) ∧ (∃ i, y = .int i) ∧ sp [x, y] H Q E0
theorem op_own {op : Operator} {C : Addr} (G : FnOk X.prog X.w X.K X.mg X.base CX0 k f fd ps sp) (hr : Room k X.A) (hb : Binds X.K fd ps []) (hc : PySem.W.selfFirst X.K C = true)
    (hs : PySem.W.findIn X.K (.ref C) (PySem.dunder op.info.2) = some (some (.ref f))) (hf : PySem.W.isFn X.K (.ref f) = true) : OpR X (binaryOp op) (rOwn C sp) := by
  rintro pins s σ H x y v u Q I rx ry ⟨⟨a, dx, fs, rfl, ha⟩, ⟨b, dy, gs, rfl, hb'⟩, hsp⟩
  cases rx
  cases ry
  obtain ⟨mA, J, _⟩ := ins_get I.hok ha
  obtain ⟨mB, J', _⟩ := ins_get I.hok hb'
  obtain ⟨od, J, _⟩ := J.look
  obtain ⟨od', J', _⟩ := J'.look
  obtain ⟨m, hF⟩ := I.fr
  refine OwnOp.bin_same hF I.ok.mod.kin J J' hc hs hf ?_
  exact thn (run_in (vs := [.ref a, .ref b]) G ⟨hr, rfl⟩ hb I (.cons rfl (.cons rfl .nil)) hsp) fun u s' h => cmpBack_of h
theorem op_ownI {op : Operator} {C : Addr} {fo ro rc : Option Value} (G : FnOk X.prog X.w X.K X.mg X.base CX0 k f fd ps sp) (hr : Room k X.A) (hb : Binds X.K fd ps []) (hc : PySem.W.selfFirst X.K C = true)
    (hs : PySem.W.findIn X.K (.ref C) (PySem.dunder op.info.2) = some (some (.ref f))) (hf : PySem.W.isFn X.K (.ref f) = true) (hrr : PySem.W.findIn X.K (.ref C) (dunderR op.info.2) = some rc) (hp : rc = none ∨ ∃ g : Addr, rc = some (.ref g))
    (h1 : PySem.W.findIn X.K (.type "int") (PySem.dunder op.info.2) = some fo) (h2 : PySem.W.findIn X.K (.type "int") (dunderR op.info.2) = some ro) (hsub : PySem.W.subIn X.K (.type "int") (.ref C) = some false) : OpR X (binaryOp op) (rOwnI C sp) := by
  rintro pins s σ H x y v u Q I rx ry ⟨⟨a, dx, fs, rfl, ha⟩, ⟨i, rfl⟩, hsp⟩
  cases rx
  obtain ⟨t, rfl⟩ := ry
  obtain ⟨mA, J, _⟩ := ins_get I.hok ha
  obtain ⟨od, J, _⟩ := J.look
  obtain ⟨m, hF⟩ := I.fr
  refine PySem.W.ksp_binT (T := "int") hF I.ok.mod.kin J rfl hc hs hf hrr hp h1 h2 hsub ?_
  exact thn (run_in (vs := [.ref a, .int i]) G ⟨hr, rfl⟩ hb I (.cons rfl (.cons ⟨t, rfl⟩ .nil)) hsp) fun u s' h => cmpBack_of h
theorem op_eqOwn {C : Addr} (G : FnOk X.prog X.w X.K X.mg X.base CX0 k f fd ps sp) (hr : Room k X.A) (hb : Binds X.K fd ps [])
    (hs : PySem.W.findIn X.K (.ref C) "__eq__" = some (some (.ref f))) (hf : PySem.W.isFn X.K (.ref f) = true) : OpR X (compareOp .Eq) (rOwn C sp) := by
  rintro pins s σ H x y v u Q I rx ry ⟨⟨a, dx, fs, rfl, ha⟩, ⟨b, dy, gs, rfl, hb'⟩, hsp⟩
  cases rx
  cases ry
  obtain ⟨mA, J, _⟩ := ins_get I.hok ha
  obtain ⟨mB, J', _⟩ := ins_get I.hok hb'
  obtain ⟨od, J, _⟩ := J.look
  obtain ⟨od', J', _⟩ := J'.look
  obtain ⟨m, hF⟩ := I.fr
  show wpAny (model X.prog X.w) X.A (richCompare .Eq (.ref a) (.ref b)) _ _ _
  refine PySem.W.cmp_K (op := .Eq) (tb := .ref C) hr.units0 hF I.ok.mod.kin J J'.type (by simp [PySem.W.notFirst]) hs hf ?_
  exact thn (run_in (vs := [.ref a, .ref b]) G ⟨hr, rfl⟩ hb I (.cons rfl (.cons rfl .nil)) hsp) fun u s' h => cmpBack_of h
def rOwnNe (C : Addr) (sp : Sp) : R2 := fun x y H Q => (∃ a dx fs, x = .ref a ∧ H a = some (.ins C dx fs)) ∧ (∃ b dy gs, y = .ref b ∧ H b = some (.ins C dy gs)) ∧ sp [x, y] H (fun v H' => ∃ b, v = .bl b ∧ Q (.bl (!b)) H') E0
theorem op_neOwn {C : Addr} (G : FnOk X.prog X.w X.K X.mg X.base CX0 k f fd ps sp) (hr : Room (k + 1) X.A) (hb : Binds X.K fd ps []) (hob : PySem.W.mroIn X.K C (.type "object") = some true)
    (hn : PySem.W.findIn X.K (.ref C) "__ne__" = some (some (.builtin "object.__ne__"))) (hs : PySem.W.findIn X.K (.ref C) "__eq__" = some (some (.ref f))) (hf : PySem.W.isFn X.K (.ref f) = true) : OpR X (compareOp .NotEq) (rOwnNe C sp) := by
  rintro pins s σ H x y v u Q I rx ry ⟨⟨a, dx, fs, rfl, ha⟩, ⟨b, dy, gs, rfl, hb'⟩, hsp⟩
  cases rx
  cases ry
  obtain ⟨mA, J, _⟩ := ins_get I.hok ha
  obtain ⟨mB, J', _⟩ := ins_get I.hok hb'
  obtain ⟨od, J, _⟩ := J.look
  obtain ⟨od', J', _⟩ := J'.look
  obtain ⟨m, hF⟩ := I.fr
  show wpAny (model X.prog X.w) X.A (richCompare .NotEq (.ref a) (.ref b)) _ _ _
  refine OwnOp.ne_same (hu_of hr) hF I.ok.mod.kin J J' hob hn hs hf ?_
  refine thn (run_in (vs := [.ref a, .ref b]) G (L2.Sub.in1 ⟨hr, rfl⟩) hb I (.cons rfl (.cons rfl .nil)) hsp) fun u s' h => ?_
  obtain ⟨z, H', I', rz, b, rfl, q⟩ := h
  cases rz
  exact ⟨b, rfl, .bl (!b), H', I', rfl, q⟩
end

/-! ## instances -/
def cIns (C : Addr) (fts : List (Str × MP)) : CP := ⟨fun F o => ∃ dx fs, o = .ins C dx fs ∧ Paired (fun (p : Str × V) (q : Str × MP) => p.1 = q.1 ∧ q.2.p F p.2) fs fts, fun e ⟨dx, fs, h1, h2⟩ => ⟨dx, fs, h1, Paired.mapP h2 fun _ _ ⟨a, b⟩ => ⟨a, MP.mono _ e b⟩⟩⟩
def mpIns (C : Addr) (fts : List (Str × MP)) : MP := ⟨fun F v => ∃ a o, v = .ref a ∧ F a = some o ∧ (cIns C fts).c F o, fun e ⟨a, o, h1, h2, h3⟩ => ⟨a, o, h1, e _ _ h2, (cIns C fts).mono e h3⟩⟩
theorem putF_new {f : Str} {v : V} : ∀ {fs : List (Str × V)}, (∀ p ∈ fs, p.1 ≠ f) → putF f v fs = fs ++ [(f, v)]
  | [], _ => rfl
  | (g, x) :: fs, h => by
    have hg : ¬ g = f := h (g, x) List.mem_cons_self
    show (if g = f then _ else _) = _
    rw [if_neg hg, putF_new fun p hp => h p (List.mem_cons_of_mem _ hp)] <;> rfl
theorem paired_app {α β : Type} {R : α → β → Prop} : ∀ {l1 : List α} {l2 : List β} {m1 : List α} {m2 : List β}, Paired R l1 l2 → Paired R m1 m2 → Paired R (l1 ++ m1) (l2 ++ m2)
  | _, _, _, _, .nil, h => h
  | _, _, _, _, .cons p q, h => .cons p (paired_app q h)
theorem paired_keys {F : Hp} : ∀ {fs : List (Str × V)} {fts : List (Str × MP)}, Paired (fun (p : Str × V) (q : Str × MP) => p.1 = q.1 ∧ q.2.p F p.2) fs fts → ∀ p ∈ fs, ∃ q ∈ fts, q.1 = p.1
  | _, _, .cons h t, p, hp => by
    rcases List.mem_cons.mp hp with e | hp
    · exact ⟨_, List.mem_cons_self, by rw [e]; exact h.1.symm⟩
    · obtain ⟨q, hq, e⟩ := paired_keys t p hp
      exact ⟨q, List.mem_cons_of_mem _ hq, e⟩
section
variable {X : Cx} {E : En} {Γ : Gam} {M : Mem} {D : Ends} {e o : Expr} {rest : List Stmt} {P : MP} {pos pos' : Pos} {C x : Addr} {fts : List (Str × MP)} {f : Str}
/-- self.f = e, f a new attribute -/
theorem g_fld (j : Nat) (ks : List Str) (ho : Ev X Γ M o (mpRef x)) (he : Ev X Γ M e P) (hj : M[j]? = some (x, cIns C fts)) (c : Cls X.K C) (n : NoAttr X.K C f) (k : G E X rest Γ (M.set j (x, cIns C (fts ++ [(f, P)]))) D)
    (hk : fts.map (·.1) = ks := by rfl) (hn' : f ∉ ks := by decide +kernel) (hl' : ks.length < 1000 := by decide +kernel)
    (hs : swapsWith e (some (.Attribute o f pos')) pos.line X.env = pure false := by rfl) : G E X (.Assign [.Attribute o f pos'] e pos :: rest) Γ M D := fun σ H F s => by
  have hn : ∀ q ∈ fts, q.1 ≠ f := fun q hq e => hn' (by rw [← hk, ← e]; exact List.mem_map.mpr ⟨q, hq, rfl⟩)
  have hl : fts.length < 1000 := by rw [← hk, List.length_map] at hl'; exact hl'
  refine wSs_of (pss_cons (ps_fld pe_w pe_w hs) pss_w) ?_
  refine he σ F H s.env s.fh s.ce _ fun F1 H1 v t1 pv => ?_
  have s1 := s.step t1
  refine ho σ F1 H1 s1.env s1.fh s1.ce _ fun F2 H2 w t2 pw => ?_
  have s2 := s1.step t2
  obtain ⟨f0, ob, hx, dx, fs, rfl, hp⟩ := s2.ce.mem (x, cIns C fts) (List.mem_of_getElem? hj)
  cases (show w = V.ref x from pw)
  refine ⟨x, C, dx, fs, rfl, hx, c, n, by rw [Paired.length hp]; exact hl, ?_⟩
  have e1 : putF f v fs = fs ++ [(f, v)] := putF_new fun p hp' => by
    obtain ⟨q, hq, e⟩ := paired_keys hp p hp'
    rw [← e]
    exact hn q hq
  rw [e1]
  exact k σ _ F2 (s2.put hj ⟨dx, fs ++ [(f, v)], rfl, paired_app hp (.cons ⟨rfl, P.mono t2.ff pv⟩ .nil)⟩)
/-- the end of a def without return -/
theorem g_fall (hR : E.R.p = (mpV .non).p := by rfl) (hM : ∀ p ∈ E.M1, p ∈ M) (nd : (E.M1.map (·.1)).Nodup) (hD : D.nx = fun _ H' => retOk E .non H' := by rfl) : G E X [] Γ M D := fun σ H F s => by
  refine wSs_of pss_nil ?_
  show D.nx σ H
  rw [hD]
  refine ⟨F, s.fh, s.st, ⟨nd, fun p hp => s.ce.mem p (hM p hp)⟩, ?_⟩
  rw [hR]
  rfl
end
/-- what an __init__ promises -/
def spI {ι : Type} (C : Addr) (pre : ι → Prop) (As : ι → List MP) (fts : ι → List (Str × MP)) : Sp := fun vs H Q _ => ∃ (i : ι) (F : Hp) (x : Addr) (us : List V), vs = .ref x :: us ∧ pre i ∧ Paired (fun (v : V) (P : MP) => P.p F v) us (As i) ∧ Ext F H ∧ F x = none ∧ (∃ dx, H x = some (.ins C dx [])) ∧
  ∀ F' H', Ext F F' → Ext F' H' → (∀ a o, a ≠ x → H a = some o → H' a = some o) → (∀ a o, F' a = some o → F a ≠ none ∨ H a = none) → Cells F' H' [(x, cIns C (fts i))] → Q .non H'
section
variable {P : Program} {w : World} {K : PySem.W.Frag} {mg : Str → Option Value} {base : Heap}
theorem fn_mkI {ι : Type} {C : Addr} {pre : ι → Prop} {As : ι → List MP} {fts : ι → List (Str × MP)} {x qual : Str} {params : Arguments} {body : List Stmt} {scope : Scope} {dvs : List V} {kws : List (Str × V)} {f : Addr} {fd : FuncData} {N ps : List Str} {k : Nat}
    (Fd : FunD K x qual params body scope dvs kws f fd) (S : FnScope N ps scope) (hl : ∀ i, (As i).length + 1 = ps.length)
    (hb : ∀ (cdv : Value) (A : Around) (outer : List Env) (s : Shared) (H : Hp) (E : XK) (i : ι) (F : Hp) (x : Addr), Room k (A.deeper (envOfC qual scope s.heap.objs.size f cdv)) → pre i →
      G ⟨F, H, [(x, cIns C (fts i))], mpV .non, F⟩ (bX P w K mg base N qual scope f cdv A outer s H E) body ((mpRef x :: As i).map some ++ List.replicate (N.length - ps.length) none) [(x, cIns C [])] (Dret ⟨F, H, [(x, cIns C (fts i))], mpV .non, F⟩)) :
    FnOk P w K mg base CX0 (k + 1) f fd ps (spI C pre As fts) := by
  refine Fd.ok S (fun vs H Q E h => ?_) fun cdv A outer s H vs Q E hr h => ?_
  · obtain ⟨i, F, x, us, rfl, hp, hA, _⟩ := h
    rw [← hl i, ← Paired.length hA] <;> rfl
  · obtain ⟨i, F, x, us, rfl, hp, hA, fh, f0, ⟨dx, hx⟩, hq⟩ := h
    refine ⟨wSs (bX P w K mg base N qual scope f cdv A outer s H E) body, pss_w.nox, ?_⟩
    have hlen : (V.ref x :: us).length = ps.length := by rw [← hl i, ← Paired.length hA] <;> rfl
    have ce : Cells F H [(x, cIns C [])] := by
      refine ⟨by simp, fun p hp => ?_⟩
      have e : p = (x, cIns C []) := by simpa using hp
      subst e
      exact ⟨f0, _, hx, dx, [], rfl, .nil⟩
    have sta : Sta ⟨F, H, [(x, cIns C (fts i))], mpV .non, F⟩ ((mpRef x :: As i).map some ++ List.replicate (N.length - ps.length) none) [(x, cIns C [])] (start N (V.ref x :: us)) H F := by
      refine ⟨?_, fh, ce, ⟨Ext.rfl', fun _ _ _ h => h, fun a o h => .inl (by show F a ≠ none; rw [h]; exact fun q => nomatch q)⟩, fun p hp => ?_, fun a ha => ha, Ext.rfl'⟩
      · show EnvOk F ((V.ref x :: us).map some ++ List.replicate (N.length - (V.ref x :: us).length) none) _
        rw [hlen]
        exact paired_env (.cons rfl hA) _
      · have e : p = (x, cIns C []) := by simpa using hp
        subst e
        exact .inl List.mem_cons_self
    have fin : ∀ v H', retOk ⟨F, H, [(x, cIns C (fts i))], mpV .non, F⟩ v H' → Q v H' := fun v H' ⟨F', f1, f2, f3, f4⟩ => by
      cases (show v = V.non from f4)
      exact hq F' H' f2.ff f1 (fun a o ha h => f2.hh a o (by simpa using fun q : x = a => ha q.symm) h) f2.nw f3
    exact wSs_mono (hb cdv A outer s H E i F x hr hp _ _ _ sta) (fun _ H' z => fin _ H' z) (fun v H' z => fin v H' z) (fun _ _ z => z.elim) fun _ _ z => z.elim
/-- a class as callers see it: dvs the defaults that fill up -/
structure CalC (P : Program) (w : World) (K : PySem.W.Frag) (mg : Str → Option Value) (base : Heap) (x : Str) (C : Addr) (k : Nat) (ps : List Str) (dvs : List V) (sp : Sp) : Prop where
  ex : ∃ (f : Addr) (fd : FuncData) (ds : List Value), FnOk P w K mg base CX0 k f fd ps sp ∧ mg x = some (.ref C) ∧ Mk K C f ∧ Binds K fd ps ds ∧ Vals dvs ds
end
section
variable {X : Cx} {Γ : Gam} {M : Mem} {e : Expr} {es : List Expr} {Ps Pd : List MP} {R : MP} {pos p : Pos} {C : Addr}
theorem ev_make {ι : Type} {pre : ι → Prop} {As : ι → List MP} {fts : ι → List (Str × MP)} {x : Str} {k : Nat} {ps : List Str} {dvs : List V} (c : CalC X.prog X.w X.K X.mg X.base x C k ps dvs (spI C pre As fts)) (hr : Room (k + 1) X.A) (i : ι) (ha : EvA X Γ M (e :: es) Ps)
    (hp : pre i) (hd : ∀ F, Paired (fun (v : V) (P : MP) => P.p F v) dvs Pd) (hA : As i = Ps ++ Pd := by rfl) (hR : mpIns C (fts i) = R := by rfl) (hg : Gl X x := by rfl)
    (hdb : (x == ("__debug__" : Str)) = false := by decide) (he : starEach (e :: es) X.env = (false, eval e X.env) :: starEach es X.env := by rfl)
    (hpl : (backTo pos (starEach es X.env)).any (·.1) = false := by rfl) : Ev X Γ M (.Call (.Name x p) (e :: es) [] pos) R := fun σ F H eo fh ce Q kk => by
  subst hR
  obtain ⟨f, fd, ds, G, hm, mk, b, hds⟩ := c.ex
  refine wE_of (pe_make mk G hr hg hm b hds pass0 pa_w hdb he hpl) ?_
  refine ha σ F H eo fh ce _ fun F1 H1 vs s1 pvs => ?_
  intro y dy hy hdy hne
  have hH : ∀ a o, H1 a = some o → upd (upd H1 dy (.own y)) y (.ins C dy []) a = some o := fun a o h => by
    rw [upd_ne (ne_of_none h hy), upd_ne (ne_of_none h hdy)]
    exact h
  refine ⟨i, F1, y, vs ++ dvs, rfl, hp, by rw [hA]; exact paired_app pvs (hd F1), fun a o h => hH a o (s1.fh a o h), ext_none s1.fh hy, ⟨dy, upd_same⟩, fun F' H' h1 h2 h3 h4 h5 => ⟨rfl, ?_⟩⟩
  obtain ⟨f0, o, ho, hc⟩ := h5.mem (y, cIns C (fts i)) List.mem_cons_self
  have fe : Ext F' (upd F' y o) := Ext.upd f0
  have hh : ∀ a u, H1 a = some u → H' a = some u := fun a u h => h3 a u (ne_of_none h hy) (hH a u h)
  have nw : ∀ a u, F' a = some u → F1 a ≠ none ∨ H1 a = none := fun a u h => by
    rcases h4 a u h with q | q
    · exact .inl q
    · right
      cases e : H1 a with
      | none => rfl
      | some z => rw [hH a z e] at q; cases q
  have nw2 : ∀ a u, upd F' y o a = some u → F1 a ≠ none ∨ H1 a = none := fun a u h => by
    by_cases ha : a = y
    · rw [ha]; exact .inr hy
    · rw [upd_ne ha] at h
      exact nw a u h
  have st : Stp M F1 H1 (upd F' y o) H' := by
    refine ⟨h1.trans fe, fun a u h => ?_, fun a u _ h => hh a u h, nw2, s1.ce.up (h1.trans fe) hh nw2⟩
    by_cases ha : a = y
    · subst ha
      rw [upd_same] at h
      cases h
      exact ho
    · rw [upd_ne ha] at h
      exact h2 a u h
  exact kk _ H' _ (s1.trans st) ⟨y, o, rfl, upd_same, (cIns C (fts i)).mono fe hc⟩
end

/-! ## methods -/
/-- a method as its users see it -/
structure CalM (P : Program) (w : World) (K : PySem.W.Frag) (mg : Str → Option Value) (base : Heap) (C : Addr) (m : Str) (k : Nat) (ps : List Str) (sp : Sp) : Prop where
  ex : ∃ (f : Addr) (fd : FuncData), FnOk P w K mg base CX0 k f fd ps sp ∧ PySem.W.findIn K (.ref C) m = some (some (.ref f)) ∧ PySem.W.isFn K (.ref f) = true ∧ PySem.W.keepIn K (.ref f) = true ∧ Binds K fd ps []
section
variable {X : Cx} {Γ : Gam} {M : Mem} {P R : MP} {e : Expr} {es : List Expr} {Ps : List MP} {pos apos : Pos} {C : Addr}
/-- o.m(e, ..) of an instance -/
theorem ev_meth {ι : Type} {pre : ι → Prop} {As : ι → List MP} {RR : ι → MP} {m : Str} {k : Nat} {ps : List Str} {o : Expr} {pl : Sem Bool} (c : CalM X.prog X.w X.K X.mg X.base C m k ps (spT pre (fun _ => []) As RR)) (hr : Room k X.A) (cl : Cls X.K C) (i : ι) (ho : Ev X Γ M o P) (ha : EvA X Γ M (e :: es) Ps)
    (hp : pre i) (hP : ∀ F v, P.p F v → ∃ a dx fs, v = .ref a ∧ F a = some (.ins C dx fs) ∧ fs.lookup m = none) (hA : As i = P :: Ps := by rfl) (hR : RR i = R := by rfl)
    (hst : starEach (e :: es) X.env = (false, eval e X.env) :: starEach es X.env := by rfl) (hpl : (backTo pos (starEach es X.env)).any (·.1) = false := by rfl)
    (ht : eval (.Call (.Attribute o m apos) (e :: es) [] pos) X.env = (do
      let ov ← eval o X.env
      standAt apos.atName
      let (f, first) ← holding [ov] (getMethod ov m pl)
      callWith pos f first (backTo pos (starEach (e :: es) X.env)) (backToKw pos (keywordEach [] X.env))) := by rfl) : Ev X Γ M (.Call (.Attribute o m apos) (e :: es) [] pos) R := fun σ F H eo fh ce Q kk => by
  obtain ⟨f, fd, G, h1, h2, h3, b⟩ := c.ex
  refine wE_of (pe_meth (pl := pl) pe_w cl ⟨h1, h2, h3⟩ G hr b .nil pass0 pa_w hst hpl ht) ?_
  refine ho σ F H eo fh ce _ fun F1 H1 v s1 pv => ?_
  obtain ⟨a, dx, fs, rfl, ha', hl⟩ := hP F1 v pv
  refine ⟨a, dx, fs, rfl, s1.fh _ _ ha', hl, ?_⟩
  refine ha σ F1 H1 (eo.mono s1.ff) s1.fh s1.ce _ fun F2 H2 vs s2 pvs => ?_
  rw [List.append_nil]
  refine ⟨i, F2, hp, by rw [hA]; exact .cons (P.mono s2.ff pv) pvs, s2.fh, Cells.nil, fun F3 H3 z st pz => ?_⟩
  exact kk F3 H3 z ((s1.trans s2).trans (st.up s2.ce fun _ q => nomatch q)) (by rw [← hR]; exact pz)
/-- e.f, a property: p its object, m's def the getter -/
theorem ev_prop {ι : Type} {pre : ι → Prop} {As : ι → List MP} {RR : ι → MP} {f : Str} {p g : Addr} {fd : FuncData} {k : Nat} {ps : List Str} (pr : PropOf X.K C f p g) (G : FnOk X.prog X.w X.K X.mg X.base CX0 k g fd ps (spT pre (fun _ => []) As RR)) (b : Binds X.K fd ps []) (hr : Room (k + 1) X.A) (cl : Cls X.K C)
    (i : ι) (ho : Ev X Γ M e P) (hp : pre i) (hP : ∀ F v, P.p F v → ∃ a dx fs, v = .ref a ∧ F a = some (.ins C dx fs)) (hA : As i = [P] := by rfl) (hR : RR i = R := by rfl)
    (hab : attributeBase e f X.env (eval e X.env) = eval e X.env := by rfl) : Ev X Γ M (.Attribute e f pos) R := fun σ F H eo fh ce Q kk => by
  refine wE_of (pe_prop pe_w cl pr G hr b .nil (E := E0) pass0 hab) ?_
  refine ho σ F H eo fh ce _ fun F1 H1 v s1 pv => ?_
  obtain ⟨a, dx, fs, rfl, ha'⟩ := hP F1 v pv
  refine ⟨a, dx, fs, rfl, s1.fh _ _ ha', i, F1, hp, by rw [hA]; exact .cons pv .nil, s1.fh, Cells.nil, fun F3 H3 z st pz => ?_⟩
  exact kk F3 H3 z (s1.trans (st.up s1.ce fun _ q => nomatch q)) (by rw [← hR]; exact pz)
end
end L2.K3
set_option Elab.async false
set_option linter.all false
set_option maxHeartbeats 2000001
/-! MB: fractions as whole numbers above and below; sizes. -/
namespace RM
/-- below 2 ^ n above and below -/
def Sz (n : Nat) (q : Rat) : Prop := q.num.natAbs < 2 ^ n ∧ q.den < 2 ^ n
theorem Sz.mono {n m : Nat} {q : Rat} (h : Sz n q) (e : n ≤ m) : Sz m q := ⟨Nat.lt_of_lt_of_le h.1 (Nat.pow_le_pow_right (by decide) e), Nat.lt_of_lt_of_le h.2 (Nat.pow_le_pow_right (by decide) e)⟩
theorem log2_lt {n k : Nat} (h : n < 2 ^ k) (hk : 0 < k) : n.log2 < k := by
  by_cases h0 : n = 0
  · subst h0
    rw [Nat.log2_zero]
    exact hk
  · exact (Nat.log2_lt h0).mpr h
theorem mulW {i j : Int} {a b : Nat} (ha : i.natAbs < 2 ^ a) (hb : j.natAbs < 2 ^ b) (h : a + b ≤ 900000) : L2.CMulW i j := L2.wide_mul (a := a + 1) (b := b + 1) (Nat.lt_of_lt_of_le ha (Nat.pow_le_pow_right (by decide) (Nat.le_succ _))) (Nat.lt_of_lt_of_le hb (Nat.pow_le_pow_right (by decide) (Nat.le_succ _))) (Nat.succ_pos _) (Nat.succ_pos _) (by omega)
theorem mul_lt {i j : Int} {a b : Nat} (ha : i.natAbs < 2 ^ a) (hb : j.natAbs < 2 ^ b) : (i * j).natAbs < 2 ^ (a + b) := L2.wide_lt ha hb
theorem add_lt {i j : Int} {a : Nat} (ha : i.natAbs < 2 ^ a) (hb : j.natAbs < 2 ^ a) : (i + j).natAbs < 2 ^ (a + 1) := by
  rw [Nat.pow_succ]
  omega
theorem sub_lt {i j : Int} {a : Nat} (ha : i.natAbs < 2 ^ a) (hb : j.natAbs < 2 ^ a) : (i - j).natAbs < 2 ^ (a + 1) := by
  rw [Nat.pow_succ]
  omega
/-- the sign of the greatest common divisor -/
def comm (a b : Int) : Int := if b < 0 then 0 - (Nat.gcd a.natAbs b.natAbs : Int) else (Nat.gcd a.natAbs b.natAbs : Int)
theorem comm_ne {a b : Int} (h : b ≠ 0) : comm a b ≠ 0 := by
  have : 0 < Nat.gcd a.natAbs b.natAbs := Nat.gcd_pos_of_pos_right _ (by omega)
  unfold comm
  split <;> omega
theorem comm_abs (a b : Int) : (comm a b).natAbs = Nat.gcd a.natAbs b.natAbs := by
  unfold comm
  split <;> omega
theorem comm_le {a b : Int} (h : b ≠ 0) : (comm a b).natAbs ≤ b.natAbs := by
  rw [comm_abs]
  exact Nat.le_of_dvd (by omega) (Nat.gcd_dvd_right _ _)
theorem fdiv_exact {a c k : Int} (hc : c ≠ 0) (h : a = c * k) : a.fdiv c = k := by
  rw [h]
  exact Int.mul_fdiv_cancel_left k hc
theorem top_eq {a b : Int} (h : b ≠ 0) : a.fdiv (comm a b) = (Rat.divInt a b).num := by
  have g : 0 < Nat.gcd a.natAbs b.natAbs := Nat.gcd_pos_of_pos_right _ (by omega)
  obtain ⟨k, hk⟩ : ((Nat.gcd a.natAbs b.natAbs : Nat) : Int) ∣ a := Int.natAbs_dvd_natAbs.mp (Nat.gcd_dvd_left _ _)
  have hg : (b.gcd a : Int) = (Nat.gcd a.natAbs b.natAbs : Int) := by
    rw [Int.gcd_comm] <;> rfl
  rw [Rat.num_divInt, hg]
  by_cases hb : b < 0
  · have hs : b.sign = -1 := Int.sign_eq_neg_one_of_neg hb
    have e : a.fdiv (comm a b) = -k := fdiv_exact (comm_ne h) (by unfold comm; rw [if_pos hb]; rw [Int.zero_sub, Int.neg_mul_neg]; exact hk)
    rw [e, hs]
    have e2 : -1 * a = (Nat.gcd a.natAbs b.natAbs : Int) * (-k) := by rw [Int.mul_neg, ← hk]; omega
    rw [e2, Int.mul_ediv_cancel_left _ (by omega)]
  · have hs : b.sign = 1 := Int.sign_eq_one_of_pos (by omega)
    have e : a.fdiv (comm a b) = k := fdiv_exact (comm_ne h) (by unfold comm; rw [if_neg hb]; exact hk)
    rw [e, hs]
    have e2 : 1 * a = (Nat.gcd a.natAbs b.natAbs : Int) * k := by rw [← hk]; omega
    rw [e2, Int.mul_ediv_cancel_left _ (by omega)]
theorem bottom_eq {a b : Int} (h : b ≠ 0) : b.fdiv (comm a b) = ((Rat.divInt a b).den : Int) := by
  have g : 0 < Nat.gcd a.natAbs b.natAbs := Nat.gcd_pos_of_pos_right _ (by omega)
  obtain ⟨k, hk⟩ : ((Nat.gcd a.natAbs b.natAbs : Nat) : Int) ∣ b := Int.natAbs_dvd_natAbs.mp (Nat.gcd_dvd_right _ _)
  have hg : b.gcd a = Nat.gcd a.natAbs b.natAbs := by
    rw [Int.gcd_comm] <;> rfl
  rw [Rat.den_divInt, if_neg h, hg]
  have ha : (b.natAbs : Int) = (Nat.gcd a.natAbs b.natAbs : Int) * k.natAbs := by
    have := congrArg Int.natAbs hk
    rw [Int.natAbs_mul, Int.natAbs_natCast] at this
    rw [← Int.natCast_mul, ← this]
  have hd : b.natAbs / Nat.gcd a.natAbs b.natAbs = k.natAbs := by
    have : b.natAbs = Nat.gcd a.natAbs b.natAbs * k.natAbs := by exact_mod_cast ha
    exact Nat.div_eq_of_eq_mul_right g this
  rw [hd]
  by_cases hb : b < 0
  · have e : b.fdiv (comm a b) = -k := fdiv_exact (comm_ne h) (by unfold comm; rw [if_pos hb]; rw [Int.zero_sub, Int.neg_mul_neg]; exact hk)
    have : k < 0 := by
      rcases Int.lt_or_le k 0 with h1 | h1
      · exact h1
      · have := Int.mul_nonneg (Int.natCast_nonneg (Nat.gcd a.natAbs b.natAbs)) h1
        omega
    rw [e]
    omega
  · have e : b.fdiv (comm a b) = k := fdiv_exact (comm_ne h) (by unfold comm; rw [if_neg hb]; exact hk)
    have : 0 ≤ k := by
      rcases Int.lt_or_le k 0 with h1 | h1
      · have := Int.mul_neg_of_pos_of_neg (show (0 : Int) < (Nat.gcd a.natAbs b.natAbs : Int) by omega) h1
        omega
      · exact h1
    rw [e]
    omega
theorem den_pos (q : Rat) : (0 : Int) < (q.den : Int) := by
  have := q.den_pos
  omega
theorem add_div (p q : Rat) : Rat.divInt (p.num * q.den + q.num * p.den) (p.den * q.den) = p + q := by
  rw [Rat.add_def', ← Int.natCast_mul, Rat.divInt_ofNat]
theorem sub_div (p q : Rat) : Rat.divInt (p.num * q.den - q.num * p.den) (p.den * q.den) = p - q := by
  rw [Rat.sub_def', ← Int.natCast_mul, Rat.divInt_ofNat]
theorem mul_div (p q : Rat) : Rat.divInt (p.num * q.num) (p.den * q.den) = p * q := by
  rw [Rat.mul_def', ← Int.natCast_mul, Rat.divInt_ofNat]
theorem over_div (p q : Rat) : Rat.divInt (p.num * q.den) (p.den * q.num) = p / q := by
  rw [Rat.div_def, Rat.inv_def, ← Rat.divInt_mul_divInt, Rat.num_divInt_den]
theorem whole (i : Int) : Rat.divInt i 1 = (i : Rat) := by
  have h : (1 : Int) = ((1 : Nat) : Int) := rfl
  rw [h, Rat.divInt_ofNat]
  exact (Rat.mk_eq_mkRat i 1 (by decide) (Nat.coprime_one_right _)).symm
end RM
set_option Elab.async false
set_option linter.all false
set_option maxRecDepth 100000
set_option maxHeartbeats 4000001
/-! FnA: what the top holds; whole numbers, fractions. -/
namespace L2.K3
open PySem PySem.Spec PyProof.Rows

abbrev FnP (K : PySem.W.Frag) (x : Str) (st : Stmt) (f : Addr) (fd : FuncData) : Prop := FunD K x x (defArgs st) (defBody st) (defScope st) [] [] f fd
abbrev FnQ (K : PySem.W.Frag) (x q : Str) (st : Stmt) (f : Addr) (fd : FuncData) : Prop := FunD K x q (defArgs st) (defBody st) (defScope st) [] [] f fd
def freeN : List Str := ["isinstance", "int", "bool", "list", "tuple", "range", "len", "zip"]
def freeM : List Str := ["enumerate", "sorted", "dict", "min", "max", "abs", "divmod", "all"]
/-- what holds of an own class whatever it has -/
structure ClT (K : PySem.W.Frag) (C : Addr) : Prop where
  cl : Cls K C
  ic : PySem.W.findIn K (.ref C) "__class__" = some (some (.builtin "object.__class__"))
  im : PySem.W.mroIn K C (.type "object") = some true
structure Tx (K : PySem.W.Frag) (mg : Str → Option Value) (CR CT CY : Addr) : Prop where
  frN : ∀ x ∈ freeN, mg x = none
  frM : ∀ x ∈ freeM, mg x = none
  gcd : mg "gcd" = some (.builtin "math.gcd")
  lcm : mg "lcm" = some (.builtin "math.lcm")
  n3 : ∃ t, mg "MOST_COLUMNS" = some (.int 3 t)
  n40 : ∃ t, mg "MOST_ROWS" = some (.int 40 t)
  n8p : ∃ t, mg "MOST_POWER" = some (.int 8 t)
  n8l : ∃ t, mg "MOST_LETTERS" = some (.int 8 t)
  n400 : ∃ t, mg "MOST_PARTS" = some (.int 400 t)
  gR : mg "Ratio" = some (.ref CR)
  gT : mg "Table" = some (.ref CT)
  gY : mg "Tally" = some (.ref CY)
  R : ClT K CR
  T : ClT K CT
  Y : ClT K CY
  ig : PySem.W.specialIn K (.builtin "object.__class__") "__get__" = some (some (.builtin "getset_descriptor.__get__"))
  it : PySem.W.takesIn K (.builtin "object.__class__") = some true
  Rt : NoAttr K CR "own_top"
  Rb : NoAttr K CR "own_bottom"
  Tc : NoAttr K CT "own_columns"
  Tr : NoAttr K CT "own_rows"
  Yc : NoAttr K CY "own_columns"
  Yp : NoAttr K CY "own_parts"
  Yk : NoAttr K CY "own_kept"
  kRI : PySem.W.kitOne K (.ref CR) (.type "int") = some false
  kIR : PySem.W.kitOne K (.type "int") (.ref CR) = some false
  Rf : PySem.W.selfFirst K CR = true
  Rn : PySem.W.findIn K (.ref CR) "__ne__" = some (some (.builtin "object.__ne__"))
  Ra : ∃ g : Addr, PySem.W.findIn K (.ref CR) "__radd__" = some (some (.ref g))
  ia : ∃ fo : Option Value, PySem.W.findIn K (.type "int") "__add__" = some fo
  ir : ∃ ro : Option Value, PySem.W.findIn K (.type "int") "__radd__" = some ro
  iR : PySem.W.subIn K (.type "int") (.ref CR) = some false

def tNumV (C : Addr) : Ty (Int ⊕ Rat) := ⟨fun F v x => match x with
  | .inl i => v = .int i
  | .inr q => (tRat C).t F v q, fun {F F' v x} e h => by
    cases x with
    | inl i => exact h
    | inr q => exact (tRat C).mono e h⟩
def numV : Int ⊕ Rat → Rat
  | .inl i => (i : Rat)
  | .inr q => q
def topV : Int ⊕ Rat → Int
  | .inl i => i
  | .inr q => q.num
def botV : Int ⊕ Rat → Int
  | .inl _ => 1
  | .inr q => q.den
theorem topV_eq (x : Int ⊕ Rat) : topV x = (numV x).num := by cases x <;> rfl
theorem botV_eq (x : Int ⊕ Rat) : botV x = ((numV x).den : Int) := by cases x <;> rfl
theorem paired2' {α β : Type} {R : α → β → Prop} {l : List α} {b c : β} (h : Paired R l [b, c]) : ∃ x y, l = [x, y] ∧ R x b ∧ R y c := by
  cases h with
  | cons p q =>
    cases q with
    | cons p' q => cases q; exact ⟨_, _, rfl, p, p'⟩
theorem rat_ins {C : Addr} {F : Hp} {v : V} {q : Rat} (h : (mpIns C [("own_top", tInt.is q.num), ("own_bottom", tInt.is (q.den : Int))]).p F v) : (tRat C).t F v q := by
  obtain ⟨a, o, rfl, ha, dx, fs, rfl, hp⟩ := h
  obtain ⟨⟨n1, v1⟩, ⟨n2, v2⟩, rfl, ⟨e1, e2⟩, ⟨e3, e4⟩⟩ := paired2' hp
  simp only at e1 e2 e3 e4
  subst e1 e3
  cases (show v1 = V.int _ from e2)
  cases (show v2 = V.int _ from e4)
  exact ⟨a, dx, rfl, ha⟩
section
variable {P : Program} {w : World} {K : PySem.W.Frag} {mg : Str → Option Value} {base : Heap} {CR CT CY : Addr}
theorem Tx.f (T : Tx K mg CR CT CY) {x : Str} (h : x ∈ freeN := by decide +kernel) : mg x = none := T.frN x h
theorem Tx.g (T : Tx K mg CR CT CY) {x : Str} (h : x ∈ freeM := by decide +kernel) : mg x = none := T.frM x h
theorem ty_ins (T : Tx K mg CR CT CY) {C : Addr} (cl : ClT K C) {F H : Hp} {a dx : Addr} {fs : List (Str × V)} (e : Ext F H) (h : F a = some (.ins C dx fs)) : TyX K H (.ref a) (.ref C) :=
  .base (.ins (e _ _ h) cl.cl cl.ic T.ig T.it cl.im)
theorem ty_rat (T : Tx K mg CR CT CY) {F H : Hp} {v : V} {q : Rat} (e : Ext F H) (h : (tRat CR).t F v q) : TyX K H v (.ref CR) :=
  let ⟨a, dx, e1, e2⟩ := h; by subst e1; exact ty_ins T T.R e e2
theorem ty_int {F H : Hp} {v : V} {i : Int} (e : Ext F H) (h : tInt.t F v i) : TyX K H v (.type "int") := by
  cases h; exact .base (.int i)
section
variable {X : Cx} {Γ : Gam} {M : Mem} {e : Expr} {pos : Pos} {q : Rat}
theorem ev_top (T : Tx X.K mg CR CT CY) (h : Ev X Γ M e ((tRat CR).is q)) (hb : attributeBase e "own_top" X.env (eval e X.env) = eval e X.env := by rfl) : Ev X Γ M (.Attribute e "own_top" pos) (tInt.is q.num) :=
  ev_fld h (fun F v ⟨a, dx, e1, e2⟩ => ⟨a, CR, dx, _, .int q.num, e1, e2, T.R.cl, T.Rt, rfl, rfl⟩) hb
theorem ev_bot (T : Tx X.K mg CR CT CY) (h : Ev X Γ M e ((tRat CR).is q)) (hb : attributeBase e "own_bottom" X.env (eval e X.env) = eval e X.env := by rfl) : Ev X Γ M (.Attribute e "own_bottom" pos) (tInt.is (q.den : Int)) :=
  ev_fld h (fun F v ⟨a, dx, e1, e2⟩ => ⟨a, CR, dx, _, .int q.den, e1, e2, T.R.cl, T.Rb, rfl, rfl⟩) hb
end
theorem sc_is_integer : FnScope ["value"] ["value"] (defScope (top 17)) := ⟨rfl, rfl, rfl, by decide +kernel, rfl, by decide +kernel, by decide +kernel⟩
abbrev sp_is_integer (CR : Addr) : Sp := spT (fun _ => True) (fun _ => []) (fun x : Int ⊕ Rat => [(tNumV CR).is x]) fun x => tBool.is x.isLeft
theorem ok_is_integer {f : Addr} {fd : FuncData} (Fd : FnP K "is_integer" (top 17) f fd) (hm : mg "is_integer" = some (.ref f)) (T : Tx K mg CR CT CY) : Cal P w K mg base "is_integer" 1 ["value"] [] (sp_is_integer CR) := by
  refine cal_mk Fd hm (fn_mk Fd sc_is_integer (fun _ => rfl) fun cdv A outer s H E i F hr hp ce => ?_) fun _ _ _ _ _ _ us hl => match us, hl with | [_], _ => rfl
  cases i with
  | inl i =>
    exact g_ret (ev_and (ev_isi (ev_name 0 rfl) (ev_ty T.f (by decide +kernel)) (.ty "int") (fun F H v e h => ty_int (i := i) e h) (kit_ty (r := true) (by decide +kernel)) T.f) fun _ =>
      ev_one (ev_not (ev_isi (ev_name 0 rfl) (ev_ty T.f (by decide +kernel)) (.ty "bool") (fun F H v e h => ty_int (i := i) e h) (kit_ty (r := false) (by decide +kernel)) T.f)))
  | inr q =>
    exact g_ret (ev_and (ev_isi (ev_name 0 rfl) (ev_ty T.f (by decide +kernel)) (.ty "int") (fun F H v e h => ty_rat (q := q) T e h) T.kRI T.f) (fun h => nomatch h) (y := false))
/-- is_count of a whole number -/
theorem sc_is_count : FnScope ["value"] ["value"] (defScope (top 18)) := ⟨rfl, rfl, rfl, by decide +kernel, rfl, by decide +kernel, by decide +kernel⟩
abbrev sp_is_count : Sp := spT (fun _ => True) (fun _ => []) (fun x : Int => [tInt.is x]) fun x => tBool.is (decide (0 ≤ x))
theorem ok_is_count {f : Addr} {fd : FuncData} (Fd : FnP K "is_count" (top 18) f fd) (hm : mg "is_count" = some (.ref f)) (T : Tx K mg CR CT CY) (c1 : Cal P w K mg base "is_integer" 1 ["value"] [] (sp_is_integer CR)) : Cal P w K mg base "is_count" 2 ["value"] [] sp_is_count := by
  refine cal_mk Fd hm (fn_mk Fd sc_is_count (fun _ => rfl) fun cdv A outer s H E i F hr hp ce => ?_) fun _ _ _ _ _ _ us hl => match us, hl with | [_], _ => rfl
  exact g_ret (ev_and (ev_callI c1 hr (Sum.inl i) (eva_one (ev_name 0 rfl)) trivial) fun _ => ev_one (ev_ge (ev_name 0 rfl) ev_int))
theorem sc_divisor_of : FnScope ["one", "other"] ["one", "other"] (defScope (top 24)) := ⟨rfl, rfl, rfl, by decide +kernel, rfl, by decide +kernel, by decide +kernel⟩
abbrev sp_divisor_of : Sp := spT (fun _ => True) (fun _ => []) (fun x : Int × Int => [tInt.is x.1, tInt.is x.2]) fun x => tInt.is ((Nat.gcd x.1.natAbs x.2.natAbs : Nat) : Int)
theorem ok_divisor_of {f : Addr} {fd : FuncData} (Fd : FnP K "divisor_of" (top 24) f fd) (hm : mg "divisor_of" = some (.ref f)) (T : Tx K mg CR CT CY) : Cal P w K mg base "divisor_of" 1 ["one", "other"] [] sp_divisor_of := by
  refine cal_mk Fd hm (fn_mk Fd sc_divisor_of (fun _ => rfl) fun cdv A outer s H E i F hr hp ce => ?_) fun _ _ _ _ _ _ us hl => match us, hl with | [_, _], _ => rfl
  exact g_ret (ev_gcd (ev_name 0 rfl) (ev_name 1 rfl) T.gcd)
theorem sc_told_pair : FnScope ["value"] ["value"] (defScope (top 26)) := ⟨rfl, rfl, rfl, by decide +kernel, rfl, by decide +kernel, by decide +kernel⟩
abbrev sp_told_pair (CR : Addr) : Sp := spT (fun _ => True) (fun _ => []) (fun x : Int ⊕ Rat => [(tNumV CR).is x]) fun x => (tPr tInt tInt).is (topV x, botV x)
theorem ok_told_pair {f : Addr} {fd : FuncData} (Fd : FnP K "told_pair" (top 26) f fd) (hm : mg "told_pair" = some (.ref f)) (T : Tx K mg CR CT CY) (c1 : Cal P w K mg base "is_integer" 1 ["value"] [] (sp_is_integer CR)) : Cal P w K mg base "told_pair" 2 ["value"] [] (sp_told_pair CR) := by
  refine cal_mk Fd hm (fn_mk Fd sc_told_pair (fun _ => rfl) fun cdv A outer s H E i F hr hp ce => ?_) fun _ _ _ _ _ _ us hl => match us, hl with | [_], _ => rfl
  cases i with
  | inl i =>
    refine g_if (et_val (ev_isi (ev_name 0 rfl) (ev_cls T.gR) (.own CR) (fun F H v e h => ty_int (i := i) e h) T.kIR T.f)) (fun h => nomatch h) fun _ => g_end ?_
    refine g_if (et_not (et_val (ev_callI c1 hr (Sum.inl i) (eva_one (ev_name 0 rfl)) trivial))) (fun h => by cases h) fun _ => g_end ?_
    exact g_ret (ev_pr (ev_name 0 rfl) ev_int)
  | inr q =>
    refine g_if (x := true) (et_val (ev_isi (ev_name 0 rfl) (ev_cls T.gR) (.own CR) (fun F H v e h => ty_rat (q := q) T e h) (by unfold PySem.W.kitOne; rw [if_pos (beq_self_eq_true _)]) T.f)) (fun _ => ?_) fun h => nomatch h
    exact g_ret (ev_pr (ev_top T (q := q) (ev_name 0 rfl)) (ev_bot T (q := q) (ev_name 0 rfl)))
end
end L2.K3
set_option Elab.async false
set_option linter.all false
set_option maxRecDepth 100000
set_option maxHeartbeats 4000001
/-! FnB: the class Ratio. -/
namespace L2.K3
open PySem PySem.Spec PyProof.Rows
section
variable {P : Program} {w : World} {K : PySem.W.Frag} {mg : Str → Option Value} {base : Heap} {CR CT CY : Addr}
def preR (i : Int × Int) : Prop := i.2 ≠ 0 ∧ i.2.natAbs < 2 ^ 8990
abbrev ftsR (i : Int × Int) : List (Str × MP) := [("own_top", tInt.is (Rat.divInt i.1 i.2).num), ("own_bottom", tInt.is ((Rat.divInt i.1 i.2).den : Int))]
abbrev sp_Ratio (CR : Addr) : Sp := spI CR preR (fun i => [tInt.is i.1, tInt.is i.2]) ftsR
theorem sc_Ratio : FnScope ["self", "top", "bottom", "common"] ["self", "top", "bottom"] (defScope (sR 0)) := ⟨rfl, rfl, rfl, by decide +kernel, rfl, by decide +kernel, by decide +kernel⟩
theorem ok_Ratio {f : Addr} {fd : FuncData} {dvs : List V} (Fd : FunD K "__init__" "Ratio.__init__" (defArgs (sR 0)) (defBody (sR 0)) (defScope (sR 0)) dvs [] f fd) (T : Tx K mg CR CT CY)
    (c1 : Cal P w K mg base "is_integer" 1 ["value"] [] (sp_is_integer CR)) (c2 : Cal P w K mg base "divisor_of" 1 ["one", "other"] [] sp_divisor_of) : FnOk P w K mg base CX0 2 f fd ["self", "top", "bottom"] (sp_Ratio CR) := by
  refine fn_mkI Fd sc_Ratio (fun _ => rfl) fun cdv A outer s H E i F x hr hp => ?_
  obtain ⟨a, b⟩ := i
  obtain ⟨h0, h9⟩ := hp
  refine g_if (et_not (et_val (ev_callI c1 hr (Sum.inl a) (eva_one (ev_name 1 rfl)) trivial))) (fun h => by cases h) fun _ => g_end ?_
  refine g_if (x := false) (EvT.to (EvW.t (ew_or (et_not (et_val (ev_callI c1 hr (Sum.inl b) (eva_one (ev_name 2 rfl)) trivial))) fun _ => ew_or1 (et_eqI (ev_name 2 rfl) ev_int))) (by
    show (false || decide (b = 0)) = false
    rw [decide_eq_false h0] <;> rfl)) (fun h => by cases h) fun _ => g_end ?_
  refine g_set 3 (ev_callI c2 hr (a, b) (eva_cons (ev_name 1 rfl) (eva_one (ev_name 2 rfl))) trivial) ?_ sc_Ratio.nd
  have hc : (RM.comm a b).natAbs.log2 < 9000 := RM.log2_lt (Nat.lt_of_le_of_lt (RM.comm_le h0) (Nat.lt_of_lt_of_le h9 (Nat.pow_le_pow_right (by decide) (by decide)))) (by decide)
  have rest : G ⟨F, H, [(x, cIns CR (ftsR (a, b)))], mpV .non, F⟩ (bX P w K mg base ["self", "top", "bottom", "common"] "Ratio.__init__" (defScope (sR 0)) f cdv A outer s H E) ((defBody (sR 0)).drop 4)
      [some (mpRef x), some (tInt.is a), some (tInt.is b), some (tInt.is (RM.comm a b))] [(x, cIns CR [])] (Dret ⟨F, H, [(x, cIns CR (ftsR (a, b)))], mpV .non, F⟩) := by
    refine g_fld 0 [] (ev_name 0 rfl) (ev_fdiv (ev_name 1 rfl) (ev_name 3 rfl) (RM.comm_ne h0) hc) rfl T.R.cl T.Rt ?_
    refine g_fld 0 ["own_top"] (ev_name 0 rfl) (ev_fdiv (ev_name 2 rfl) (ev_name 3 rfl) (RM.comm_ne h0) hc) rfl T.R.cl T.Rb ?_
    rw [RM.top_eq h0, RM.bottom_eq h0]
    exact g_fall rfl (fun p hp => hp) (by simp)
  refine g_if (et_lt (ev_name 2 rfl) ev_int) (fun h => ?_) (fun h => ?_)
  · refine g_set 3 (ev_sub ev_int (ev_name 3 rfl)) ?_ sc_Ratio.nd
    refine g_end (g_to rest ?_ rfl)
    have e : RM.comm a b = 0 - (Nat.gcd a.natAbs b.natAbs : Int) := if_pos (of_decide_eq_true h)
    rw [e] <;> rfl
  · refine g_end (g_to rest ?_ rfl)
    have e : RM.comm a b = (Nat.gcd a.natAbs b.natAbs : Int) := if_neg (of_decide_eq_false h)
    rw [e] <;> rfl
end
end L2.K3
set_option Elab.async false
set_option linter.all false
set_option maxRecDepth 100000
set_option maxHeartbeats 4000001
/-! FnC: the methods of Ratio, its operators; numbers. -/
namespace L2.K3
open PySem PySem.Spec PyProof.Rows
theorem add_name : PySem.dunder Operator.Add.info.2 = ("__add__" : Str) := by decide +kernel
theorem radd_name : PySem.dunderR Operator.Add.info.2 = ("__radd__" : Str) := by decide +kernel
theorem sub_name : PySem.dunder Operator.Sub.info.2 = ("__sub__" : Str) := by decide +kernel
theorem mul_name : PySem.dunder Operator.Mult.info.2 = ("__mul__" : Str) := by decide +kernel
section
variable {P : Program} {w : World} {K : PySem.W.Frag} {mg : Str → Option Value} {base : Heap} {CR CT CY : Addr}
/-! ### the class called -/
abbrev CalR2 (P : Program) (w : World) (K : PySem.W.Frag) (mg : Str → Option Value) (base : Heap) (CR : Addr) : Prop := CalC P w K mg base "Ratio" CR 2 ["self", "top", "bottom"] [] (sp_Ratio CR)
abbrev CalR1 (P : Program) (w : World) (K : PySem.W.Frag) (mg : Str → Option Value) (base : Heap) (CR : Addr) : Prop := CalC P w K mg base "Ratio" CR 2 ["self", "top", "bottom"] [.int 1] (sp_Ratio CR)
section
variable {X : Cx} {Γ : Gam} {M : Mem} {a b e : Expr} {pos p : Pos} {i j : Int} {x y : Rat}
theorem ev_ratio2 (c : CalR2 X.prog X.w X.K X.mg X.base CR) (hr : Room 3 X.A) (ha : Ev X Γ M a (tInt.is i)) (hb : Ev X Γ M b (tInt.is j)) (h0 : j ≠ 0) (h9 : j.natAbs < 2 ^ 8990) {q : Rat} (hq : Rat.divInt i j = q) (hg : Gl X "Ratio" := by rfl)
    (he : starEach [a, b] X.env = (false, eval a X.env) :: starEach [b] X.env := by rfl) (hpl : (backTo pos (starEach [b] X.env)).any (·.1) = false := by rfl) (he2 : starEach [b] X.env = (false, eval b X.env) :: starEach [] X.env := by rfl) :
    Ev X Γ M (.Call (.Name "Ratio" p) [a, b] [] pos) ((tRat CR).is q) := by
  subst hq
  exact (ev_make (Pd := []) (R := mpIns CR (ftsR (i, j))) c hr (i, j) (eva_cons ha (eva_one hb he2) he) ⟨h0, h9⟩ (fun _ => .nil) rfl rfl hg (by decide) he hpl).imp fun F v h => rat_ins h
theorem ev_ratio1 (c : CalR1 X.prog X.w X.K X.mg X.base CR) (hr : Room 3 X.A) (ha : Ev X Γ M a (tInt.is i)) {q : Rat} (hq : (i : Rat) = q) (hg : Gl X "Ratio" := by rfl)
    (he : starEach [a] X.env = (false, eval a X.env) :: starEach [] X.env := by rfl) (hpl : (backTo pos (starEach [] X.env)).any (·.1) = false := by rfl) :
    Ev X Γ M (.Call (.Name "Ratio" p) [a] [] pos) ((tRat CR).is q) := by
  subst hq
  have h1 : (1 : Int).natAbs < 2 ^ 8990 := Nat.one_lt_two_pow (by decide)
  rw [← RM.whole]
  exact (ev_make (Pd := [tInt.is 1]) (R := mpIns CR (ftsR (i, 1))) c hr (i, 1) (eva_one ha he) ⟨show (1 : Int) ≠ 0 by decide, h1⟩ (fun _ => .cons rfl .nil) rfl rfl hg (by decide) he hpl).imp fun F v h => rat_ins h
end
/-! ### +, -, *, over, == -/
def preA (i : Rat × (Int ⊕ Rat)) : Prop := RM.Sz 4400 i.1 ∧ RM.Sz 4400 (numV i.2)
abbrev sp_bin (CR : Addr) (g : Rat → Rat → Rat) : Sp := spT preA (fun _ => []) (fun i : Rat × (Int ⊕ Rat) => [(tRat CR).is i.1, (tNumV CR).is i.2]) fun i => (tRat CR).is (g i.1 (numV i.2))
theorem sz_den {q : Rat} {n : Nat} (h : RM.Sz n q) : ((q.den : Int)).natAbs < 2 ^ n := by
  rw [Int.natAbs_natCast]
  exact h.2
theorem den_ne (q : Rat) : ((q.den : Nat) : Int) ≠ 0 := by
  have := RM.den_pos q
  omega
theorem prod_ne {a b : Int} (h : a ≠ 0) (k : b ≠ 0) : a * b ≠ 0 := Int.mul_ne_zero h k
theorem p8800 {n : Nat} (h : n < 2 ^ (4400 + 4400)) : n < 2 ^ 8990 := Nat.lt_of_lt_of_le h (Nat.pow_le_pow_right (by decide) (by decide))
theorem sc_radd : FnScope ["self", "other", "top", "bottom"] ["self", "other"] (defScope (sR 6)) := ⟨rfl, rfl, rfl, by decide +kernel, rfl, by decide +kernel, by decide +kernel⟩
theorem ok_radd {f : Addr} {fd : FuncData} (Fd : FnQ K "__add__" "Ratio.__add__" (sR 6) f fd) (T : Tx K mg CR CT CY) (c1 : Cal P w K mg base "told_pair" 2 ["value"] [] (sp_told_pair CR)) (c2 : CalR2 P w K mg base CR) : FnOk P w K mg base CX0 4 f fd ["self", "other"] (sp_bin CR (· + ·)) := by
  refine fn_mk Fd sc_radd (fun _ => rfl) fun cdv A outer s H E i F hr hp ce => ?_
  obtain ⟨p, x⟩ := i
  obtain ⟨hp, hx⟩ := hp
  refine g_asg (ev_callI (R := (tPr tInt tInt).is (topV x, botV x)) c1 (hr.mono (by decide)) x (eva_one (ev_name 1 rfl)) trivial) (bd_two (bd_name 2 sc_radd.nd) (bd_name 3 sc_radd.nd)) ?_
  have e1 := topV_eq x
  have e2 := botV_eq x
  simp only [e1, e2]
  refine g_ret (ev_ratio2 c2 hr (ev_add (ev_mul (ev_top T (ev_name 0 rfl)) (ev_name 3 rfl) (RM.mulW hp.1 (sz_den hx) (by decide))) (ev_mul (ev_name 2 rfl) (ev_bot T (ev_name 0 rfl)) (RM.mulW hx.1 (sz_den hp) (by decide))))
    (ev_mul (ev_bot T (ev_name 0 rfl)) (ev_name 3 rfl) (RM.mulW (sz_den hp) (sz_den hx) (by decide))) (prod_ne (den_ne p) (den_ne _)) (p8800 (RM.mul_lt (sz_den hp) (sz_den hx))) (RM.add_div p (numV x)))
theorem sc_rsub : FnScope ["self", "other", "top", "bottom"] ["self", "other"] (defScope (sR 8)) := ⟨rfl, rfl, rfl, by decide +kernel, rfl, by decide +kernel, by decide +kernel⟩
theorem ok_rsub {f : Addr} {fd : FuncData} (Fd : FnQ K "__sub__" "Ratio.__sub__" (sR 8) f fd) (T : Tx K mg CR CT CY) (c1 : Cal P w K mg base "told_pair" 2 ["value"] [] (sp_told_pair CR)) (c2 : CalR2 P w K mg base CR) : FnOk P w K mg base CX0 4 f fd ["self", "other"] (sp_bin CR (· - ·)) := by
  refine fn_mk Fd sc_rsub (fun _ => rfl) fun cdv A outer s H E i F hr hp ce => ?_
  obtain ⟨p, x⟩ := i
  obtain ⟨hp, hx⟩ := hp
  refine g_asg (ev_callI (R := (tPr tInt tInt).is (topV x, botV x)) c1 (hr.mono (by decide)) x (eva_one (ev_name 1 rfl)) trivial) (bd_two (bd_name 2 sc_rsub.nd) (bd_name 3 sc_rsub.nd)) ?_
  have e1 := topV_eq x
  have e2 := botV_eq x
  simp only [e1, e2]
  refine g_ret (ev_ratio2 c2 hr (ev_sub (ev_mul (ev_top T (ev_name 0 rfl)) (ev_name 3 rfl) (RM.mulW hp.1 (sz_den hx) (by decide))) (ev_mul (ev_name 2 rfl) (ev_bot T (ev_name 0 rfl)) (RM.mulW hx.1 (sz_den hp) (by decide))))
    (ev_mul (ev_bot T (ev_name 0 rfl)) (ev_name 3 rfl) (RM.mulW (sz_den hp) (sz_den hx) (by decide))) (prod_ne (den_ne p) (den_ne _)) (p8800 (RM.mul_lt (sz_den hp) (sz_den hx))) (RM.sub_div p (numV x)))
theorem sc_rmul : FnScope ["self", "other", "top", "bottom"] ["self", "other"] (defScope (sR 10)) := ⟨rfl, rfl, rfl, by decide +kernel, rfl, by decide +kernel, by decide +kernel⟩
theorem ok_rmul {f : Addr} {fd : FuncData} (Fd : FnQ K "__mul__" "Ratio.__mul__" (sR 10) f fd) (T : Tx K mg CR CT CY) (c1 : Cal P w K mg base "told_pair" 2 ["value"] [] (sp_told_pair CR)) (c2 : CalR2 P w K mg base CR) : FnOk P w K mg base CX0 4 f fd ["self", "other"] (sp_bin CR (· * ·)) := by
  refine fn_mk Fd sc_rmul (fun _ => rfl) fun cdv A outer s H E i F hr hp ce => ?_
  obtain ⟨p, x⟩ := i
  obtain ⟨hp, hx⟩ := hp
  refine g_asg (ev_callI (R := (tPr tInt tInt).is (topV x, botV x)) c1 (hr.mono (by decide)) x (eva_one (ev_name 1 rfl)) trivial) (bd_two (bd_name 2 sc_rmul.nd) (bd_name 3 sc_rmul.nd)) ?_
  have e1 := topV_eq x
  have e2 := botV_eq x
  simp only [e1, e2]
  refine g_ret (ev_ratio2 c2 hr (ev_mul (ev_top T (ev_name 0 rfl)) (ev_name 2 rfl) (RM.mulW hp.1 hx.1 (by decide)))
    (ev_mul (ev_bot T (ev_name 0 rfl)) (ev_name 3 rfl) (RM.mulW (sz_den hp) (sz_den hx) (by decide))) (prod_ne (den_ne p) (den_ne _)) (p8800 (RM.mul_lt (sz_den hp) (sz_den hx))) (RM.mul_div p (numV x)))
/-- over -/
def preO (i : Rat × (Int ⊕ Rat)) : Prop := RM.Sz 4400 i.1 ∧ RM.Sz 4400 (numV i.2) ∧ numV i.2 ≠ 0
abbrev sp_over (CR : Addr) : Sp := spT preO (fun _ => []) (fun i : Rat × (Int ⊕ Rat) => [(tRat CR).is i.1, (tNumV CR).is i.2]) fun i => (tRat CR).is (i.1 / numV i.2)
theorem num_ne {q : Rat} (h : q ≠ 0) : q.num ≠ 0 := fun e => h (Rat.num_eq_zero.mp e)
theorem sc_rover : FnScope ["self", "other", "top", "bottom"] ["self", "other"] (defScope (sR 13)) := ⟨rfl, rfl, rfl, by decide +kernel, rfl, by decide +kernel, by decide +kernel⟩
theorem ok_rover {f : Addr} {fd : FuncData} (Fd : FnQ K "over" "Ratio.over" (sR 13) f fd) (T : Tx K mg CR CT CY) (c1 : Cal P w K mg base "told_pair" 2 ["value"] [] (sp_told_pair CR)) (c2 : CalR2 P w K mg base CR) : FnOk P w K mg base CX0 4 f fd ["self", "other"] (sp_over CR) := by
  refine fn_mk Fd sc_rover (fun _ => rfl) fun cdv A outer s H E i F hr hp ce => ?_
  obtain ⟨p, x⟩ := i
  obtain ⟨hp, hx, h0⟩ := hp
  refine g_asg (ev_callI (R := (tPr tInt tInt).is (topV x, botV x)) c1 (hr.mono (by decide)) x (eva_one (ev_name 1 rfl)) trivial) (bd_two (bd_name 2 sc_rover.nd) (bd_name 3 sc_rover.nd)) ?_
  have e1 := topV_eq x
  have e2 := botV_eq x
  simp only [e1, e2]
  refine g_if (et_eqI (ev_name 2 rfl) ev_int) (fun h => absurd (of_decide_eq_true h) (num_ne h0)) fun _ => g_end ?_
  refine g_ret (ev_ratio2 c2 hr (ev_mul (ev_top T (ev_name 0 rfl)) (ev_name 3 rfl) (RM.mulW hp.1 (sz_den hx) (by decide)))
    (ev_mul (ev_bot T (ev_name 0 rfl)) (ev_name 2 rfl) (RM.mulW (sz_den hp) hx.1 (by decide))) (prod_ne (den_ne p) (num_ne h0)) (p8800 (RM.mul_lt (sz_den hp) hx.1)) (RM.over_div p (numV x)))
abbrev sp_req (CR : Addr) : Sp := spT (fun _ => True) (fun _ => []) (fun i : Rat × Rat => [(tRat CR).is i.1, (tRat CR).is i.2]) fun i => tBool.is (decide (i.1 = i.2))
theorem kit_self {K : PySem.W.Frag} {C : Value} : PySem.W.kitOne K C C = some true := by unfold PySem.W.kitOne; rw [if_pos (beq_self_eq_true _)]
theorem req_eq (p q : Rat) : (decide (p.num = q.num) && decide ((p.den : Int) = (q.den : Int))) = decide (p = q) := by
  by_cases h : p = q
  · subst h; simp
  · rw [decide_eq_false h]
    by_cases h1 : p.num = q.num
    · have h2 : ¬ ((p.den : Int) = (q.den : Int)) := fun e => h (Rat.ext h1 (by omega))
      rw [decide_eq_false h2, Bool.and_false]
    · rw [decide_eq_false h1, Bool.false_and]
theorem sc_req : FnScope ["self", "other"] ["self", "other"] (defScope (sR 17)) := ⟨rfl, rfl, rfl, by decide +kernel, rfl, by decide +kernel, by decide +kernel⟩
theorem ok_req {f : Addr} {fd : FuncData} (Fd : FnQ K "__eq__" "Ratio.__eq__" (sR 17) f fd) (T : Tx K mg CR CT CY) : FnOk P w K mg base CX0 1 f fd ["self", "other"] (sp_req CR) := by
  refine fn_mk Fd sc_req (fun _ => rfl) fun cdv A outer s H E i F hr hp ce => ?_
  obtain ⟨p, q⟩ := i
  refine g_if (x := false) (et_not (x := true) (et_val (ev_isi (ev_name 1 rfl) (ev_cls T.gR) (.own CR) (fun F H v e h => ty_rat (q := q) T e h) kit_self T.f))) (fun h => by cases h) fun _ => g_end ?_
  refine g_ret (Ev.tob (ev_and (ev_eqI (ev_top T (q := p) (ev_name 0 rfl)) (ev_top T (q := q) (ev_name 1 rfl))) fun _ => ev_one (ev_eqI (ev_bot T (q := p) (ev_name 0 rfl)) (ev_bot T (q := q) (ev_name 1 rfl)))) (req_eq p q))
def sgn (q : Rat) : Int := (if decide (0 < q.num) = true then 1 else 0) - (if decide (q.num < 0) = true then 1 else 0)
abbrev sp_sign (CR : Addr) : Sp := spT (fun _ => True) (fun _ => []) (fun q : Rat => [(tRat CR).is q]) fun q => tInt.is (sgn q)
theorem ev_intb {X : Cx} {Γ : Gam} {M : Mem} {a : Expr} {x : Bool} {pos p : Pos} (ha : Ev X Γ M a (tBool.is x)) (hm : X.mg "int" = none) (hg : Gl X "int" := by rfl) (he : starEach [a] X.env = (false, eval a X.env) :: starEach [] X.env := by rfl) (hpl : (backTo pos (starEach [] X.env)).any (·.1) = false := by rfl) :
    Ev X Γ M (.Call (.Name "int" p) [a] [] pos) (tInt.is (if x = true then 1 else 0)) :=
  ev_callTy call_int1 (eva_one ha he) (cal1 fun F H v fh ce pv Q k => .inr ⟨x, by rw [show v = V.bl x from pv], k F H _ (Stp.refl fh ce) rfl⟩) hg hm (by decide +kernel) (by decide) (by decide) he hpl
theorem ev_inti {X : Cx} {Γ : Gam} {M : Mem} {a : Expr} {x : Int} {pos p : Pos} (ha : Ev X Γ M a (tInt.is x)) (hm : X.mg "int" = none) (hg : Gl X "int" := by rfl) (he : starEach [a] X.env = (false, eval a X.env) :: starEach [] X.env := by rfl) (hpl : (backTo pos (starEach [] X.env)).any (·.1) = false := by rfl) :
    Ev X Γ M (.Call (.Name "int" p) [a] [] pos) (tInt.is x) :=
  ev_callTy call_int1 (eva_one ha he) (cal1 fun F H v fh ce pv Q k => .inl ⟨x, by rw [show v = V.int x from pv], k F H _ (Stp.refl fh ce) rfl⟩) hg hm (by decide +kernel) (by decide) (by decide) he hpl
theorem sc_rsign : FnScope ["self"] ["self"] (defScope (sR 3)) := ⟨rfl, rfl, rfl, by decide +kernel, rfl, by decide +kernel, by decide +kernel⟩
theorem ok_rsign {f : Addr} {fd : FuncData} (Fd : FnQ K "sign" "Ratio.sign" (sR 3) f fd) (T : Tx K mg CR CT CY) : FnOk P w K mg base CX0 1 f fd ["self"] (sp_sign CR) := by
  refine fn_mk Fd sc_rsign (fun _ => rfl) fun cdv A outer s H E q F hr hp ce => ?_
  exact g_ret (ev_sub (ev_intb (ev_gt (ev_top T (q := q) (ev_name 0 rfl)) ev_int) T.f) (ev_intb (ev_lt (ev_top T (q := q) (ev_name 0 rfl)) ev_int) T.f))
abbrev sp_whole (CR : Addr) : Sp := spT (fun _ => True) (fun _ => []) (fun q : Rat => [(tRat CR).is q]) fun q => tBool.is (decide ((q.den : Int) = 1))
theorem sc_rwhole : FnScope ["self"] ["self"] (defScope (sR 4)) := ⟨rfl, rfl, rfl, by decide +kernel, rfl, by decide +kernel, by decide +kernel⟩
theorem ok_rwhole {f : Addr} {fd : FuncData} (Fd : FnQ K "is_whole" "Ratio.is_whole" (sR 4) f fd) (T : Tx K mg CR CT CY) : FnOk P w K mg base CX0 1 f fd ["self"] (sp_whole CR) := by
  refine fn_mk Fd sc_rwhole (fun _ => rfl) fun cdv A outer s H E q F hr hp ce => ?_
  exact g_ret (ev_eqI (ev_bot T (q := q) (ev_name 0 rfl)) ev_int)
abbrev sp_top (CR : Addr) : Sp := spT (fun _ => True) (fun _ => []) (fun q : Rat => [(tRat CR).is q]) fun q => tInt.is q.num
theorem sc_rtop : FnScope ["self"] ["self"] (defScope (sR 1)) := ⟨rfl, rfl, rfl, by decide +kernel, rfl, by decide +kernel, by decide +kernel⟩
theorem ok_rtop {f : Addr} {fd : FuncData} (Fd : FnQ K "top" "Ratio.top" (sR 1) f fd) (T : Tx K mg CR CT CY) : FnOk P w K mg base CX0 1 f fd ["self"] (sp_top CR) := by
  refine fn_mk Fd sc_rtop (fun _ => rfl) fun cdv A outer s H E q F hr hp ce => ?_
  exact g_ret (ev_top T (q := q) (ev_name 0 rfl))
/-! ### is_number, ratio_of -/
abbrev sp_is_number (CR : Addr) : Sp := spT (fun _ => True) (fun _ => []) (fun x : Int ⊕ Rat => [(tNumV CR).is x]) fun _ => tBool.is true
theorem sc_is_number : FnScope ["value"] ["value"] (defScope (top 27)) := ⟨rfl, rfl, rfl, by decide +kernel, rfl, by decide +kernel, by decide +kernel⟩
theorem ok_is_number {f : Addr} {fd : FuncData} (Fd : FnP K "is_number" (top 27) f fd) (hm : mg "is_number" = some (.ref f)) (T : Tx K mg CR CT CY) (c1 : Cal P w K mg base "is_integer" 1 ["value"] [] (sp_is_integer CR)) : Cal P w K mg base "is_number" 2 ["value"] [] (sp_is_number CR) := by
  refine cal_mk Fd hm (fn_mk Fd sc_is_number (fun _ => rfl) fun cdv A outer s H E x F hr hp ce => ?_) fun _ _ _ _ _ _ us hl => match us, hl with | [_], _ => rfl
  cases x with
  | inl i => exact g_ret (Ev.tob (ev_or (x := true) (y := true) (ev_callI c1 hr (Sum.inl i) (eva_one (ev_name 0 rfl)) trivial) fun h => by cases h) rfl)
  | inr q => exact g_ret (Ev.tob (ev_or (x := false) (y := true) (ev_callI c1 hr (Sum.inr q) (eva_one (ev_name 0 rfl)) trivial) fun _ => ev_one (ev_isi (ev_name 0 rfl) (ev_cls T.gR) (.own CR) (fun F H v e h => ty_rat (q := q) T e h) kit_self T.f)) rfl)
abbrev sp_ratio_of (CR : Addr) : Sp := spT (fun _ => True) (fun _ => []) (fun x : Int ⊕ Rat => [(tNumV CR).is x]) fun x => (tRat CR).is (numV x)
theorem sc_ratio_of : FnScope ["number"] ["number"] (defScope (top 28)) := ⟨rfl, rfl, rfl, by decide +kernel, rfl, by decide +kernel, by decide +kernel⟩
theorem ok_ratio_of {f : Addr} {fd : FuncData} (Fd : FnP K "ratio_of" (top 28) f fd) (hm : mg "ratio_of" = some (.ref f)) (T : Tx K mg CR CT CY) (c1 : CalR1 P w K mg base CR) : Cal P w K mg base "ratio_of" 4 ["number"] [] (sp_ratio_of CR) := by
  refine cal_mk Fd hm (fn_mk Fd sc_ratio_of (fun _ => rfl) fun cdv A outer s H E x F hr hp ce => ?_) fun _ _ _ _ _ _ us hl => match us, hl with | [_], _ => rfl
  cases x with
  | inl i => exact g_ret (ev_if (x := false) (et_val (ev_isi (ev_name 0 rfl) (ev_cls T.gR) (.own CR) (fun F H v e h => ty_int (i := i) e h) T.kIR T.f)) (fun h => by cases h) fun _ => ev_ratio1 c1 hr (i := i) (ev_name 0 rfl) rfl)
  | inr q => exact g_ret (ev_if (x := true) (et_val (ev_isi (ev_name 0 rfl) (ev_cls T.gR) (.own CR) (fun F H v e h => ty_rat (q := q) T e h) kit_self T.f)) (fun _ => ev_name 0 rfl) fun h => by cases h)
/-! ### the operators used -/
abbrev CalB (P : Program) (w : World) (K : PySem.W.Frag) (mg : Str → Option Value) (base : Heap) (CR : Addr) (m : Str) (g : Rat → Rat → Rat) : Prop := CalM P w K mg base CR m 4 ["self", "other"] (sp_bin CR g)
section
variable {X : Cx} {Γ : Gam} {M : Mem} {a b e : Expr} {pos p : Pos} {i : Int} {x y : Rat} {g : Rat → Rat → Rat}
theorem o_bin (hx : RM.Sz 4400 x) (hy : RM.Sz 4400 y) : Op2 M (rOwn CR (sp_bin CR g)) ((tRat CR).is x) ((tRat CR).is y) ((tRat CR).is (g x y)) := fun F H v w fh ce pv pw Q k => by
  obtain ⟨a, dx, rfl, ha⟩ := id pv
  obtain ⟨b, dy, rfl, hb⟩ := id pw
  refine ⟨⟨a, dx, _, rfl, fh _ _ ha⟩, ⟨b, dy, _, rfl, fh _ _ hb⟩, (x, .inr y), F, ⟨hx, hy⟩, .cons pv (.cons pw .nil), fh, Cells.nil, fun F' H' z st pz => k F' H' z (st.up ce fun _ q => nomatch q) pz⟩
theorem o_binI (hx : RM.Sz 4400 x) (hy : RM.Sz 4400 (i : Rat)) : Op2 M (rOwnI CR (sp_bin CR g)) ((tRat CR).is x) (tInt.is i) ((tRat CR).is (g x i)) := fun F H v w fh ce pv pw Q k => by
  obtain ⟨a, dx, rfl, ha⟩ := id pv
  refine ⟨⟨a, dx, _, rfl, fh _ _ ha⟩, ⟨i, pw⟩, (x, .inl i), F, ⟨hx, hy⟩, .cons pv (.cons pw .nil), fh, Cells.nil, fun F' H' z st pz => k F' H' z (st.up ce fun _ q => nomatch q) pz⟩
theorem ev_rbin {op : Operator} {m : Str} (T : Tx X.K mg CR CT CY) (c : CalB X.prog X.w X.K X.mg X.base CR m g) (hr : Room 4 X.A) (ha : Ev X Γ M a ((tRat CR).is x)) (hb : Ev X Γ M b ((tRat CR).is y)) (hx : RM.Sz 4400 x) (hy : RM.Sz 4400 y) (hn : PySem.dunder op.info.2 = m) :
    Ev X Γ M (.BinOp a op b pos) ((tRat CR).is (g x y)) := by
  obtain ⟨f, fd, G, h1, h2, h3, bd⟩ := c.ex
  exact ev_op (op_own G hr bd T.Rf (by rw [hn]; exact h1) h2) ha hb (o_bin hx hy)
theorem ev_radd (T : Tx X.K mg CR CT CY) (c : CalB X.prog X.w X.K X.mg X.base CR "__add__" (· + ·)) (hr : Room 4 X.A) (ha : Ev X Γ M a ((tRat CR).is x)) (hb : Ev X Γ M b ((tRat CR).is y)) (hx : RM.Sz 4400 x) (hy : RM.Sz 4400 y) : Ev X Γ M (.BinOp a .Add b pos) ((tRat CR).is (x + y)) := ev_rbin T c hr ha hb hx hy add_name
theorem ev_rsub (T : Tx X.K mg CR CT CY) (c : CalB X.prog X.w X.K X.mg X.base CR "__sub__" (· - ·)) (hr : Room 4 X.A) (ha : Ev X Γ M a ((tRat CR).is x)) (hb : Ev X Γ M b ((tRat CR).is y)) (hx : RM.Sz 4400 x) (hy : RM.Sz 4400 y) : Ev X Γ M (.BinOp a .Sub b pos) ((tRat CR).is (x - y)) := ev_rbin T c hr ha hb hx hy sub_name
theorem ev_rmul (T : Tx X.K mg CR CT CY) (c : CalB X.prog X.w X.K X.mg X.base CR "__mul__" (· * ·)) (hr : Room 4 X.A) (ha : Ev X Γ M a ((tRat CR).is x)) (hb : Ev X Γ M b ((tRat CR).is y)) (hx : RM.Sz 4400 x) (hy : RM.Sz 4400 y) : Ev X Γ M (.BinOp a .Mult b pos) ((tRat CR).is (x * y)) := ev_rbin T c hr ha hb hx hy mul_name
theorem ev_raddI (T : Tx X.K mg CR CT CY) (c : CalB X.prog X.w X.K X.mg X.base CR "__add__" (· + ·)) (hr : Room 4 X.A) (ha : Ev X Γ M a ((tRat CR).is x)) (hb : Ev X Γ M b (tInt.is i)) (hx : RM.Sz 4400 x) (hy : RM.Sz 4400 (i : Rat)) : Ev X Γ M (.BinOp a .Add b pos) ((tRat CR).is (x + i)) := by
  obtain ⟨f, fd, G, h1, h2, h3, bd⟩ := c.ex
  obtain ⟨g, hg⟩ := T.Ra
  obtain ⟨fo, hfo⟩ := T.ia
  obtain ⟨ro, hro⟩ := T.ir
  exact ev_op (op_ownI G hr bd T.Rf (by rw [add_name]; exact h1) h2 (by rw [radd_name]; exact hg) (.inr ⟨g, rfl⟩) (by rw [add_name]; exact hfo) (by rw [radd_name]; exact hro) T.iR) ha hb (o_binI (g := (· + ·)) hx hy)
abbrev CalE (P : Program) (w : World) (K : PySem.W.Frag) (mg : Str → Option Value) (base : Heap) (CR : Addr) : Prop := CalM P w K mg base CR "__eq__" 1 ["self", "other"] (sp_req CR)
theorem o_req : Op2 M (rOwn CR (sp_req CR)) ((tRat CR).is x) ((tRat CR).is y) (tBool.is (decide (x = y))) := fun F H v w fh ce pv pw Q k => by
  obtain ⟨a, dx, rfl, ha⟩ := id pv
  obtain ⟨b, dy, rfl, hb⟩ := id pw
  refine ⟨⟨a, dx, _, rfl, fh _ _ ha⟩, ⟨b, dy, _, rfl, fh _ _ hb⟩, (x, y), F, trivial, .cons pv (.cons pw .nil), fh, Cells.nil, fun F' H' z st pz => k F' H' z (st.up ce fun _ q => nomatch q) pz⟩
theorem o_rne : Op2 M (rOwnNe CR (sp_req CR)) ((tRat CR).is x) ((tRat CR).is y) (tBool.is (!decide (x = y))) := fun F H v w fh ce pv pw Q k => by
  obtain ⟨a, dx, rfl, ha⟩ := id pv
  obtain ⟨b, dy, rfl, hb⟩ := id pw
  refine ⟨⟨a, dx, _, rfl, fh _ _ ha⟩, ⟨b, dy, _, rfl, fh _ _ hb⟩, (x, y), F, trivial, .cons pv (.cons pw .nil), fh, Cells.nil, fun F' H' z st pz => ⟨_, pz, k F' H' _ (st.up ce fun _ q => nomatch q) rfl⟩⟩
theorem et_rne (T : Tx X.K mg CR CT CY) (c : CalE X.prog X.w X.K X.mg X.base CR) (hr : Room 2 X.A) (ha : Ev X Γ M a ((tRat CR).is x)) (hb : Ev X Γ M b ((tRat CR).is y)) : EvT X Γ M (.Compare a [.NotEq] [b] pos) (!decide (x = y)) := by
  obtain ⟨f, fd, G, h1, h2, h3, bd⟩ := c.ex
  exact et_cmp (op_neOwn G hr bd T.R.im T.Rn h1 h2) ha hb o_rne
theorem et_req (T : Tx X.K mg CR CT CY) (c : CalE X.prog X.w X.K X.mg X.base CR) (hr : Room 2 X.A) (ha : Ev X Γ M a ((tRat CR).is x)) (hb : Ev X Γ M b ((tRat CR).is y)) : EvT X Γ M (.Compare a [.Eq] [b] pos) (decide (x = y)) := by
  obtain ⟨f, fd, G, h1, h2, h3, bd⟩ := c.ex
  exact et_cmp (op_eqOwn G (hr.mono (by decide)) bd h1 h2) ha hb o_req
end
end
end L2.K3
set_option Elab.async false
set_option linter.all false
set_option maxRecDepth 100000
set_option maxHeartbeats 4000001
/-! FnD: sums and common bottoms of fractions. -/
namespace L2.K3
open PySem PySem.Spec PyProof.Rows
section
variable {X : Cx} {Γ : Gam} {M : Mem} {a b : Expr} {pos p : Pos} {i j : Int}
def rLcm : List V → Hp → VK → Prop := fun vs H Q => ∃ a b : Int, vs = [.int a, .int b] ∧ a.natAbs < 2 ^ 64 ∧ b.natAbs < 2 ^ 64 ∧ Q (.int ((Nat.lcm a.natAbs b.natAbs : Nat) : Int)) H
theorem cr_lcm : CallR X (.builtin "math.lcm") rLcm := by
  intro pins s σ H vs us Q I r h
  obtain ⟨a, b, rfl, h1, h2, q⟩ := h
  obtain ⟨t, u, rfl⟩ := Vals.int2 r
  exact PySem.W.mc_lcm h1 h2 fun _ => ⟨.int _, H, I.tok _, ⟨_, rfl⟩, q⟩
theorem ev_lcm {x : Str} (ha : Ev X Γ M a (tInt.is i)) (hb : Ev X Γ M b (tInt.is j)) (hi : i.natAbs < 2 ^ 64) (hj : j.natAbs < 2 ^ 64) (hm : X.mg x = some (.builtin "math.lcm")) (hg : Gl X x := by rfl) (hdb : (x == ("__debug__" : Str)) = false := by decide)
    (he : starEach [a, b] X.env = (false, eval a X.env) :: starEach [b] X.env := by rfl) (hpl : (backTo pos (starEach [b] X.env)).any (·.1) = false := by rfl) (he2 : starEach [b] X.env = (false, eval b X.env) :: starEach [] X.env := by rfl) :
    Ev X Γ M (.Call (.Name x p) [a, b] [] pos) (tInt.is ((Nat.lcm i.natAbs j.natAbs : Nat) : Int)) := fun σ F H eo fh ce Q k => by
  refine wE_of (pe_callBfun cr_lcm hg hm pa_w hdb he hpl) ?_
  refine (eva_cons ha (eva_one hb he2) he) σ F H eo fh ce _ fun F1 H1 vs s1 pvs => ?_
  obtain ⟨v, w, rfl, pv, pw⟩ := paired2 pvs
  exact ⟨i, j, by rw [show v = V.int i from pv, show w = V.int j from pw], hi, hj, k F1 H1 _ s1 rfl⟩
end
def rsum (xs : List Rat) : Rat := xs.foldl (· + ·) 0
theorem rsum_take {xs : List Rat} {i : Nat} (h : i < xs.length) : rsum (xs.take (i + 1)) = rsum (xs.take i) + xs[i] := by
  unfold rsum
  rw [take_succ' h, List.foldl_append] <;> rfl
section
variable {P : Program} {w : World} {K : PySem.W.Frag} {mg : Str → Option Value} {base : Heap} {CR CT CY : Addr}
def preSum (xs : List Rat) : Prop := (∀ q ∈ xs, RM.Sz 4400 q) ∧ ∀ i, i ≤ xs.length → RM.Sz 4400 (rsum (xs.take i))
abbrev sp_total_of (CR : Addr) : Sp := spT preSum (fun _ => []) (fun xs : List Rat => [(tLst (tRat CR)).is xs]) fun xs => (tRat CR).is (rsum xs)
theorem sc_total_of : FnScope ["ratios", "found", "ratio"] ["ratios"] (defScope (top 31)) := ⟨rfl, rfl, rfl, by decide +kernel, rfl, by decide +kernel, by decide +kernel⟩
theorem ok_total_of {f : Addr} {fd : FuncData} (Fd : FnP K "total_of" (top 31) f fd) (hm : mg "total_of" = some (.ref f)) (T : Tx K mg CR CT CY) (c1 : CalR1 P w K mg base CR) (c2 : CalB P w K mg base CR "__add__" (· + ·)) : Cal P w K mg base "total_of" 5 ["ratios"] [] (sp_total_of CR) := by
  refine cal_mk Fd hm (fn_mk Fd sc_total_of (fun _ => rfl) fun cdv A outer s H E xs F hr hp ce => ?_) fun _ _ _ _ _ _ us hl => match us, hl with | [_], _ => rfl
  refine g_set 1 (ev_ratio1 c1 (hr.mono (by decide)) ev_int (q := 0) rfl) ?_ sc_total_of.nd
  refine g_for (evi_list (ev_name 0 rfl)) (fun i Γ' M' => Γ' = [some ((tLst (tRat CR)).is xs), some ((tRat CR).is (rsum (xs.take i))), none] ∧ M' = []) ⟨rfl, rfl⟩ ?_ ?_
  · rintro B i h _ _ ⟨rfl, rfl⟩
    refine ⟨_, _, bd_name 2 sc_total_of.nd, ?_⟩
    refine g_set 1 (ev_radd T c2 hr (ev_name 1 rfl) (ev_name 2 rfl) (hp.2 i (Nat.le_of_lt h)) (hp.1 _ (List.getElem_mem h))) ?_ sc_total_of.nd
    rw [← rsum_take h]
    exact g_turn ⟨rfl, rfl⟩ (.keep (.keep (.drop .nil)))
  · rintro _ _ ⟨rfl, rfl⟩
    rw [List.take_length]
    exact g_ret (ev_name 1 rfl)
/-! ### wholes -/
def lcms (xs : List Rat) : Int := xs.foldl (fun b q => ((Nat.lcm b.natAbs q.den : Nat) : Int)) 1
theorem lcms_take {xs : List Rat} {i : Nat} (h : i < xs.length) : lcms (xs.take (i + 1)) = ((Nat.lcm (lcms (xs.take i)).natAbs xs[i].den : Nat) : Int) := by
  unfold lcms
  rw [take_succ' h, List.foldl_append] <;> rfl
def whol (xs : List Rat) : List Int := xs.map fun q => q.num * (lcms xs).fdiv q.den
def preW (xs : List Rat) : Prop := (∀ q ∈ xs, q.num.natAbs < 2 ^ 4000 ∧ q.den < 2 ^ 64) ∧ ∀ i, i ≤ xs.length → (lcms (xs.take i)).natAbs < 2 ^ 64
abbrev sp_wholes (CR : Addr) : Sp := spT preW (fun _ => []) (fun xs : List Rat => [(tLst (tRat CR)).is xs]) fun xs => (tPr tInt (tLst tInt)).is (lcms xs, whol xs)
theorem fdiv_le {a b : Int} {n : Nat} (ha : a.natAbs < 2 ^ n) (hb : 0 < b) (h0 : 0 ≤ a) : (a.fdiv b).natAbs < 2 ^ n := by
  rw [Int.fdiv_eq_ediv_of_nonneg _ (Int.le_of_lt hb)]
  have h1 : 0 ≤ a / b := Int.ediv_nonneg h0 (Int.le_of_lt hb)
  have h2 : a / b ≤ a := Int.ediv_le_self _ h0
  omega
theorem lcms_nn (xs : List Rat) : 0 ≤ lcms xs := by
  have : ∀ (l : List Rat) (b : Int), 0 ≤ b → 0 ≤ l.foldl (fun b q => ((Nat.lcm b.natAbs q.den : Nat) : Int)) b := by
    intro l
    induction l with
    | nil => exact fun b h => h
    | cons q l ih => exact fun b _ => ih _ (Int.natCast_nonneg _)
  exact this xs 1 (by decide)
theorem sc_wholes : FnScope ["ratios", "bottom", "ratio"] ["ratios"] (defScope (top 30)) := ⟨rfl, rfl, rfl, by decide +kernel, rfl, by decide +kernel, by decide +kernel⟩
theorem ok_wholes {f : Addr} {fd : FuncData} (Fd : FnP K "wholes" (top 30) f fd) (hm : mg "wholes" = some (.ref f)) (T : Tx K mg CR CT CY) : Cal P w K mg base "wholes" 1 ["ratios"] [] (sp_wholes CR) := by
  refine cal_mk Fd hm (fn_mk Fd sc_wholes (fun _ => rfl) fun cdv A outer s H E xs F hr hp ce => ?_) fun _ _ _ _ _ _ us hl => match us, hl with | [_], _ => rfl
  refine g_set 1 ev_int ?_ sc_wholes.nd
  refine g_for (evi_list (ev_name 0 rfl)) (fun i Γ' M' => Γ' = [some ((tLst (tRat CR)).is xs), some (tInt.is (lcms (xs.take i))), none] ∧ M' = []) ⟨rfl, rfl⟩ ?_ ?_
  · rintro B i h _ _ ⟨rfl, rfl⟩
    refine ⟨_, _, bd_name 2 sc_wholes.nd, ?_⟩
    refine g_set 1 (ev_lcm (ev_name 1 rfl) (ev_bot T (q := xs[i]) (ev_name 2 rfl)) (hp.2 i (Nat.le_of_lt h)) (by rw [Int.natAbs_natCast]; exact (hp.1 _ (List.getElem_mem h)).2) T.lcm) ?_ sc_wholes.nd
    rw [Int.natAbs_natCast, ← lcms_take h]
    exact g_turn ⟨rfl, rfl⟩ (.keep (.keep (.drop .nil)))
  · rintro _ _ ⟨rfl, rfl⟩
    rw [List.take_length]
    have hb : (lcms xs).natAbs < 2 ^ 64 := by have := hp.2 _ (Nat.le_refl _); rw [List.take_length] at this; exact this
    refine g_ret (ev_pr (ev_name 1 rfl) (ev_lc [("ratio", 2)] (evi_list (ev_name 0 rfl)) (f := fun q => q.num * (lcms xs).fdiv q.den) (fun i h => ?_) sc_wholes.nd (defScope (top 30)) (N := ["ratios", "bottom", "ratio"])))
    obtain ⟨h1, h2⟩ := hp.1 _ (List.getElem_mem h)
    refine ⟨_, _, by decide, fun s H C cl fp => bd_name 2 sc_wholes.nd, tYes_ok, fun _ s H C cl fp => ?_⟩
    refine ev_mul (ev_top T (q := xs[i]) (ev_name 2 rfl)) (ev_fdiv (ev_name 1 rfl) (ev_bot T (q := xs[i]) (ev_name 2 rfl)) (den_ne _) ?_) ?_
    · rw [Int.natAbs_natCast]
      exact RM.log2_lt (Nat.lt_of_lt_of_le h2 (Nat.pow_le_pow_right (by decide) (by decide))) (by decide)
    · exact RM.mulW h1 (fdiv_le hb (RM.den_pos _) (lcms_nn xs)) (by decide)
end
end L2.K3
set_option Elab.async false
set_option linter.all false
set_option maxRecDepth 100000
set_option maxHeartbeats 2000001
/-! K3H: lists and tuples in the typed logic. -/
namespace L2.K3
open PySem PySem.Spec PyProof.Rows
theorem paired_len {α : Type} {T : Ty α} {F : Hp} {vs : List V} {xs : List α} (h : Paired (T.t F) vs xs) : vs.length = xs.length := Paired.length h
theorem paired_drop {α β : Type} {R : α → β → Prop} : ∀ {l : List α} {m : List β} (n : Nat), Paired R l m → Paired R (l.drop n) (m.drop n)
  | _, _, 0, h => h
  | _, _, _ + 1, .nil => .nil
  | _, _, n + 1, .cons _ q => paired_drop n q
theorem paired_take {α β : Type} {R : α → β → Prop} : ∀ {l : List α} {m : List β} (n : Nat), Paired R l m → Paired R (l.take n) (m.take n)
  | _, _, 0, _ => .nil
  | _, _, _ + 1, .nil => .nil
  | _, _, n + 1, .cons p q => .cons p (paired_take n q)
def cutA {α : Type} (xs : List α) (lo hi : Option Int) : List α := (xs.drop (HT.sIx xs.length 0 lo)).take (HT.sIx xs.length xs.length hi - HT.sIx xs.length 0 lo)
theorem paired_cut {α : Type} {T : Ty α} {F : Hp} {vs : List V} {xs : List α} (h : Paired (T.t F) vs xs) (lo hi : Option Int) : Paired (T.t F) (cutV vs lo hi) (cutA xs lo hi) := by
  unfold cutV cutA
  rw [paired_len h]
  exact paired_take _ (paired_drop _ h)
theorem cut_to {α : Type} {xs : List α} {k : Nat} (h : k ≤ xs.length) : cutA xs none (some (k : Int)) = xs.take k := by
  unfold cutA
  rw [HT.sIx_none, HT.sIx_nat, List.drop_zero, Nat.min_eq_left h, Nat.sub_zero]
theorem cut_from {α : Type} {xs : List α} {k : Nat} (h : k ≤ xs.length) : cutA xs (some (k : Int)) none = xs.drop k := by
  unfold cutA
  rw [HT.sIx_none, HT.sIx_nat, Nat.min_eq_left h, List.take_of_length_le (by rw [List.length_drop]; exact Nat.le_refl _)]
theorem cut_mid {α : Type} {xs : List α} {j k : Nat} (hj : j ≤ xs.length) (h : k ≤ xs.length) : cutA xs (some (j : Int)) (some (k : Int)) = (xs.drop j).take (k - j) := by
  unfold cutA
  rw [HT.sIx_nat, HT.sIx_nat, Nat.min_eq_left h, Nat.min_eq_left hj]
theorem cut_whole {α : Type} {xs : List α} {lo hi : Option Int} (h : HT.sIx xs.length 0 lo = 0 ∧ HT.sIx xs.length xs.length hi = xs.length) : cutA xs lo hi = xs := by
  unfold cutA
  rw [h.1, h.2, List.drop_zero, Nat.sub_zero, List.take_length]
theorem paired_atI {α : Type} {T : Ty α} {F : Hp} {vs : List V} {xs : List α} (h : Paired (T.t F) vs xs) {i : Int} {x : α} (hx : atI xs i = some x) : ∃ v, atI vs i = some v ∧ T.t F v x := by
  unfold atI at hx ⊢
  rw [paired_len h]
  cases hi : ixN xs.length i with
  | none => rw [hi] at hx; cases hx
  | some j =>
    rw [hi] at hx
    have hx' : xs[j]? = some x := hx
    obtain ⟨hj, he⟩ := List.getElem?_eq_some_iff.mp hx'
    obtain ⟨v, hv, tv⟩ := paired_at h j hj
    exact ⟨v, hv, by rw [← he]; exact tv⟩
section
variable {X : Cx} {E : En} {D : Ends} {Γ : Gam} {M : Mem} {a b e : Expr} {es : List Expr} {rest : List Stmt} {pos p p2 : Pos} {α β : Type} {T : Ty α} {U : Ty β} {xs ys : List α} {x : α} {i : Int}
theorem ev_ixL (ha : Ev X Γ M a ((tLst T).is xs)) (hb : Ev X Γ M b (tInt.is i)) (h : atI xs i = some x) (hs : PlainIx b := by exact fun _ _ => rfl) : Ev X Γ M (.Subscript a b pos) (T.is x) :=
  ev_ix ix_list ha hb (fun F H v w fh ce pv pw Q k => by
    obtain ⟨l, vs, rfl, h1, h2⟩ := pv
    obtain ⟨z, hz, tz⟩ := paired_atI h2 h
    exact ⟨l, vs, i, z, rfl, pw, SqL.of (fh _ _ h1), hz, k F H z (Stp.refl fh ce) tz⟩) hs
theorem ev_ixT (ha : Ev X Γ M a ((tTup T).is xs)) (hb : Ev X Γ M b (tInt.is i)) (h : atI xs i = some x) (hs : PlainIx b := by exact fun _ _ => rfl) : Ev X Γ M (.Subscript a b pos) (T.is x) :=
  ev_ix ix_tup ha hb (fun F H v w fh ce pv pw Q k => by
    obtain ⟨l, vs, rfl, h1, h2⟩ := pv
    obtain ⟨z, hz, tz⟩ := paired_atI h2 h
    exact ⟨l, vs, i, z, rfl, pw, SqT.of (fh _ _ h1), hz, k F H z (Stp.refl fh ce) tz⟩) hs
/-- p[0], p[1] of a pair -/
theorem ev_fst {y : α × β} {k0} {q : Pos} (ha : Ev X Γ M a ((tPr T U).is y)) : Ev X Γ M (.Subscript a (.Constant (.int 0) k0 q) pos) (T.is y.1) :=
  ev_ix ix_tup ha ev_int (fun F H v w fh ce pv pw Q k => by
    obtain ⟨l, v1, v2, rfl, h1, h2, h3⟩ := pv
    exact ⟨l, [v1, v2], 0, v1, rfl, pw, SqT.of (fh _ _ h1), rfl, k F H v1 (Stp.refl fh ce) h2⟩)
theorem ev_snd {y : α × β} {k0} {q : Pos} (ha : Ev X Γ M a ((tPr T U).is y)) : Ev X Γ M (.Subscript a (.Constant (.int 1) k0 q) pos) (U.is y.2) :=
  ev_ix ix_tup ha ev_int (fun F H v w fh ce pv pw Q k => by
    obtain ⟨l, v1, v2, rfl, h1, h2, h3⟩ := pv
    exact ⟨l, [v1, v2], 1, v2, rfl, pw, SqT.of (fh _ _ h1), rfl, k F H v2 (Stp.refl fh ce) h3⟩)
/-! ### slices -/
def EvO (X : Cx) (Γ : Gam) (M : Mem) (e : Option Expr) (o : Option Int) : Prop := ∀ (σ : St) (F H : Hp), EnvOk F σ Γ → Ext F H → Cells F H M → ∀ Q : Option Int → Hp → Prop, (∀ F' H', Stp M F H F' H' → Q o H') → ∃ t, PO X e t ∧ t σ H Q
theorem eo_none : EvO X Γ M none none := fun σ F H eo fh ce Q k => ⟨_, po_none, k F H (Stp.refl fh ce)⟩
theorem eo_some (h : Ev X Γ M e (tInt.is i)) : EvO X Γ M (some e) (some i) := fun σ F H eo fh ce Q k => ⟨_, po_some pe_w, h σ F H eo fh ce _ fun F' H' v st pv => ⟨i, pv, k F' H' st⟩⟩
/-- slice parts by their semantic reading -/
def wO (X : Cx) (e : Option Expr) : TO := fun σ H Q => ∀ (pins : List (Addr × Obj)) (s : Shared), Inv X pins σ H s → wpAny (model X.prog X.w) X.A (evalPart e X.env) (fun u s' => ∃ o H', Inv X pins σ H' s' ∧ IsPart u o ∧ Q o H') X.xe s
theorem po_w {e : Option Expr} : PO X e (wO X e) := ⟨fun pins s σ H Q I h => h pins s I⟩
theorem ev_sl {lo hi : Option Expr} {l h : Option Int} {P R : MP} {r : V → Option Int → Option Int → Hp → VK → Prop} (hr : SlR X r) (ha : Ev X Γ M a P) (hl : EvO X Γ M lo l) (hh : EvO X Γ M hi h)
    (op : ∀ F H v, Ext F H → Cells F H M → P.p F v → ∀ Q : VK, (∀ F' H' z, Stp M F H F' H' → R.p F' z → Q z H') → r v l h H Q) : Ev X Γ M (.Subscript a (.Slice lo hi none p2) pos) R := fun σ F H eo fh ce Q k => by
  refine wE_of (pe_slice hr pe_w po_w po_w) ?_
  refine ha σ F H eo fh ce _ fun F1 H1 v s1 pv => ?_
  intro pins s I
  obtain ⟨t, ht, q⟩ := hl σ F1 H1 (eo.mono s1.ff) s1.fh s1.ce (fun o H2 => wO X hi σ H2 fun u H3 => r v o u H3 Q) fun F2 H2 s2 => by
    intro pins' s' I'
    obtain ⟨t', ht', q'⟩ := hh σ F2 H2 ((eo.mono s1.ff).mono s2.ff) s2.fh s2.ce (fun u H3 => r v l u H3 Q) fun F3 H3 s3 => op F3 H3 v s3.fh s3.ce (P.mono (s2.ff.trans s3.ff) pv) Q fun F4 H4 z s4 pz => k F4 H4 z (((s1.trans s2).trans s3).trans s4) pz
    exact ht'.run pins' s' σ H2 _ I' q'
  exact ht.run pins s σ H1 _ I q
theorem ev_slL {lo hi : Option Expr} {l h : Option Int} (ha : Ev X Γ M a ((tLst T).is xs)) (hl : EvO X Γ M lo l) (hh : EvO X Γ M hi h) (hc : cutA xs l h = ys) : Ev X Γ M (.Subscript a (.Slice lo hi none p2) pos) ((tLst T).is ys) :=
  ev_sl sl_list ha hl hh fun F H v fh ce pv Q k => by
    subst hc
    obtain ⟨q, vs, rfl, h1, h2⟩ := pv
    refine ⟨q, vs, rfl, SqL.of (fh _ _ h1), fun z hz => ?_⟩
    have st := Stp.new (o := .lst (cutV vs l h)) fh ce hz
    exact k _ _ _ st ⟨z, _, rfl, upd_same, paired_mono st.ff (paired_cut h2 l h)⟩
theorem ev_slT {lo hi : Option Expr} {l h : Option Int} (ha : Ev X Γ M a ((tTup T).is xs)) (hl : EvO X Γ M lo l) (hh : EvO X Γ M hi h) (hc : cutA xs l h = ys) : Ev X Γ M (.Subscript a (.Slice lo hi none p2) pos) ((tTup T).is ys) :=
  ev_sl sl_tupA ha hl hh fun F H v fh ce pv Q k => by
    subst hc
    obtain ⟨q, vs, rfl, h1, h2⟩ := pv
    refine ⟨q, vs, rfl, SqT.of (fh _ _ h1), fun hw => ?_, fun _ z hz => ?_⟩
    · rw [paired_len h2] at hw
      exact k F H _ (Stp.refl fh ce) ⟨q, vs, rfl, h1, by rw [cut_whole hw]; exact h2⟩
    · have st := Stp.new (o := .tup (cutV vs l h)) fh ce hz
      exact k _ _ _ st ⟨z, _, rfl, upd_same, paired_mono st.ff (paired_cut h2 l h)⟩
/-! ### put together, repeated, counted -/
theorem ev_catL (ha : Ev X Γ M a ((tLst T).is xs)) (hb : Ev X Γ M b ((tLst T).is ys)) (hn : xs.length + ys.length ≤ 1000000) : Ev X Γ M (.BinOp a .Add b pos) ((tLst T).is (xs ++ ys)) :=
  ev_op op_cat ha hb fun F H v w fh ce pv pw Q k => by
    obtain ⟨l, vs, rfl, h1, h2⟩ := pv
    obtain ⟨m, ws, rfl, g1, g2⟩ := pw
    refine ⟨l, m, vs, ws, rfl, rfl, fh _ _ h1, fh _ _ g1, by rw [paired_len h2, paired_len g2, sizeLine_eq]; omega, fun z hz => ?_⟩
    have st := Stp.new (o := .lst (vs ++ ws)) fh ce hz
    exact k _ _ _ st ⟨z, _, rfl, upd_same, paired_mono st.ff (paired_app h2 g2)⟩
theorem paired_nil {γ δ : Type} {R : γ → δ → Prop} {l : List γ} {m : List δ} (h : Paired R l m) (e : l = []) : m = [] := by
  subst e
  cases h
  rfl
theorem ev_catT (ha : Ev X Γ M a ((tTup T).is xs)) (hb : Ev X Γ M b ((tTup T).is ys)) (hn : xs.length + ys.length ≤ 1000000) : Ev X Γ M (.BinOp a .Add b pos) ((tTup T).is (xs ++ ys)) :=
  ev_op op_catA ha hb fun F H v w fh ce pv pw Q k => by
    obtain ⟨l, vs, rfl, h1, h2⟩ := pv
    obtain ⟨m, ws, rfl, g1, g2⟩ := pw
    refine ⟨l, m, vs, ws, rfl, rfl, SqT.of (fh _ _ h1), SqT.of (fh _ _ g1), by rw [paired_len h2, paired_len g2, sizeLine_eq]; omega, fun he => ?_, fun _ he => ?_, fun _ _ z hz => ?_⟩
    · have e0 := paired_nil h2 he
      subst e0
      exact k F H _ (Stp.refl fh ce) ⟨m, ws, rfl, g1, g2⟩
    · have e0 := paired_nil g2 he
      subst e0
      rw [List.append_nil] at k
      exact k F H _ (Stp.refl fh ce) ⟨l, vs, rfl, h1, h2⟩
    · have st := Stp.new (o := .tup (vs ++ ws)) fh ce hz
      exact k _ _ _ st ⟨z, _, rfl, upd_same, paired_mono st.ff (paired_app h2 g2)⟩
theorem paired_rep {F : Hp} {v : V} {x : α} (h : T.t F v x) : ∀ n : Nat, Paired (T.t F) (List.replicate n [v]).flatten (List.replicate n x)
  | 0 => .nil
  | n + 1 => by
    rw [List.replicate_succ, List.replicate_succ, List.flatten_cons]
    exact .cons h (paired_rep h n)
theorem paired1a {γ δ : Type} {R : γ → δ → Prop} {l : List γ} {b : δ} (h : Paired R l [b]) : ∃ x, l = [x] ∧ R x b := by
  cases h with
  | cons p q => cases q; exact ⟨_, rfl, p⟩
/-- [x] * n -/
theorem ev_rep1 (ha : Ev X Γ M a ((tLst T).is [x])) (hb : Ev X Γ M b (tInt.is i)) (hn : 0 ≤ i ∧ i ≤ 1000000) : Ev X Γ M (.BinOp a .Mult b pos) ((tLst T).is (List.replicate i.toNat x)) :=
  ev_op op_rep ha hb fun F H v w fh ce pv pw Q k => by
    obtain ⟨l, vs, rfl, h1, h2⟩ := pv
    obtain ⟨u, rfl, p⟩ := paired1a h2
    · refine ⟨l, i, [u], rfl, pw, fh _ _ h1, by omega, by omega, by rw [sizeLine_eq, List.length_singleton]; omega, fun z hz => ?_⟩
      have st := Stp.new (o := .lst (List.replicate i.toNat [u]).flatten) fh ce hz
      exact k _ _ _ st ⟨z, _, rfl, upd_same, paired_mono st.ff (paired_rep p _)⟩
theorem ev_lenL (ha : Ev X Γ M a ((tLst T).is xs)) (hm : X.mg "len" = none) (hg : Gl X "len" := by rfl) (he : starEach [a] X.env = (false, eval a X.env) :: starEach [] X.env := by rfl) (hpl : (backTo pos (starEach [] X.env)).any (·.1) = false := by rfl) :
    Ev X Γ M (.Call (.Name "len" p) [a] [] pos) (tInt.is (xs.length : Int)) :=
  ev_callB call_len_seq (eva_one ha he) (cal1 fun F H v fh ce ⟨l, vs, e1, h1, h2⟩ Q k => ⟨l, vs, by rw [e1], .inl (SqL.of (fh _ _ h1)), k F H _ (Stp.refl fh ce) (by rw [paired_len h2]; rfl)⟩) hg hm PySem.boot_len (by decide) (by decide) he hpl
theorem ev_lenT (ha : Ev X Γ M a ((tTup T).is xs)) (hm : X.mg "len" = none) (hg : Gl X "len" := by rfl) (he : starEach [a] X.env = (false, eval a X.env) :: starEach [] X.env := by rfl) (hpl : (backTo pos (starEach [] X.env)).any (·.1) = false := by rfl) :
    Ev X Γ M (.Call (.Name "len" p) [a] [] pos) (tInt.is (xs.length : Int)) :=
  ev_callB call_len_seq (eva_one ha he) (cal1 fun F H v fh ce ⟨l, vs, e1, h1, h2⟩ Q k => ⟨l, vs, by rw [e1], .inr (SqT.of (fh _ _ h1)), k F H _ (Stp.refl fh ce) (by rw [paired_len h2]; rfl)⟩) hg hm PySem.boot_len (by decide) (by decide) he hpl
theorem ev_lenP {γ δ : Type} {T' : Ty γ} {U' : Ty δ} {y : γ × δ} (ha : Ev X Γ M a ((tPr T' U').is y)) (hm : X.mg "len" = none) (hg : Gl X "len" := by rfl) (he : starEach [a] X.env = (false, eval a X.env) :: starEach [] X.env := by rfl) (hpl : (backTo pos (starEach [] X.env)).any (·.1) = false := by rfl) :
    Ev X Γ M (.Call (.Name "len" p) [a] [] pos) (tInt.is 2) :=
  ev_callB call_len_seq (eva_one ha he) (cal1 fun F H v fh ce ⟨l, v1, v2, e1, h1, h2⟩ Q k => ⟨l, [v1, v2], by rw [e1], .inr (SqT.of (fh _ _ h1)), k F H _ (Stp.refl fh ce) rfl⟩) hg hm PySem.boot_len (by decide) (by decide) he hpl
/-- list(x) of a list, of a tuple; tuple(x) of a list -/
theorem ev_listL (ha : Ev X Γ M a ((tLst T).is xs)) (hm : X.mg "list" = none) (hg : Gl X "list" := by rfl) (he : starEach [a] X.env = (false, eval a X.env) :: starEach [] X.env := by rfl) (hpl : (backTo pos (starEach [] X.env)).any (·.1) = false := by rfl) :
    Ev X Γ M (.Call (.Name "list" p) [a] [] pos) ((tLst T).is xs) :=
  ev_callTy call_list_of (eva_one ha he) (cal1 fun F H v fh ce ⟨l, vs, e1, h1, h2⟩ Q k => ⟨l, vs, by rw [e1], .inl (SqL.of (fh _ _ h1)), fun z hz => by
    have st := Stp.new (o := .lst vs) fh ce hz
    exact k _ _ _ st ⟨z, _, rfl, upd_same, paired_mono st.ff h2⟩⟩) hg hm (by decide +kernel) (by decide) (by decide) he hpl
theorem ev_listT (ha : Ev X Γ M a ((tTup T).is xs)) (hm : X.mg "list" = none) (hg : Gl X "list" := by rfl) (he : starEach [a] X.env = (false, eval a X.env) :: starEach [] X.env := by rfl) (hpl : (backTo pos (starEach [] X.env)).any (·.1) = false := by rfl) :
    Ev X Γ M (.Call (.Name "list" p) [a] [] pos) ((tLst T).is xs) :=
  ev_callTy call_list_of (eva_one ha he) (cal1 fun F H v fh ce ⟨l, vs, e1, h1, h2⟩ Q k => ⟨l, vs, by rw [e1], .inr (SqT.of (fh _ _ h1)), fun z hz => by
    have st := Stp.new (o := .lst vs) fh ce hz
    exact k _ _ _ st ⟨z, _, rfl, upd_same, paired_mono st.ff h2⟩⟩) hg hm (by decide +kernel) (by decide) (by decide) he hpl
theorem ev_tupL (ha : Ev X Γ M a ((tLst T).is xs)) (hm : X.mg "tuple" = none) (hg : Gl X "tuple" := by rfl) (he : starEach [a] X.env = (false, eval a X.env) :: starEach [] X.env := by rfl) (hpl : (backTo pos (starEach [] X.env)).any (·.1) = false := by rfl) :
    Ev X Γ M (.Call (.Name "tuple" p) [a] [] pos) ((tTup T).is xs) :=
  ev_callTy call_tuple_of (eva_one ha he) (cal1 fun F H v fh ce ⟨l, vs, e1, h1, h2⟩ Q k => ⟨l, vs, by rw [e1], .inl ⟨SqL.of (fh _ _ h1), fun z hz => by
    have st := Stp.new (o := .tup vs) fh ce hz
    exact k _ _ _ st ⟨z, _, rfl, upd_same, paired_mono st.ff h2⟩⟩⟩) hg hm (by decide +kernel) (by decide) (by decide) he hpl
theorem paired_map {F : Hp} : ∀ {vs : List V} {xs : List α}, Paired (fun (v : V) (P : MP) => P.p F v) vs (xs.map T.is) → Paired (T.t F) vs xs
  | [], [], _ => .nil
  | _ :: _, [], h => nomatch h
  | [], _ :: _, h => nomatch h
  | _ :: _, _ :: _, .cons p q => .cons p (paired_map q)
/-- [a, b, ..] as a list that stays -/
theorem ev_lst (h : EvA X Γ M es (xs.map T.is)) (hn : xs.length ≤ 1000000) : Ev X Γ M (.List es pos) ((tLst T).is xs) := fun σ F H eo fh ce Q k => by
  refine wE_of (pe_lst pa_w) ?_
  refine h σ F H eo fh ce _ fun F1 H1 vs s1 pvs => ?_
  have h2 := paired_map pvs
  refine ⟨by rw [paired_len h2, sizeLine_eq]; omega, fun z hz => ?_⟩
  have st := Stp.new (o := .lst vs) s1.fh s1.ce hz
  exact k _ _ _ (s1.trans st) ⟨z, vs, rfl, upd_same, paired_mono st.ff h2⟩
/-! ### lists that grow -/
def cLst (T : Ty α) (xs : List α) : CP := ⟨fun F o => ∃ vs, o = .lst vs ∧ Paired (T.t F) vs xs ∧ vs.length ≤ 1000000, fun e ⟨vs, h1, h2, h3⟩ => ⟨vs, h1, paired_mono e h2, h3⟩⟩
/-- x = [..], a list that will grow -/
theorem g_newl {y : Str} {pos' : Pos} (T : Ty α) (i : Nat) (h : EvA X Γ M es (xs.map T.is)) (k : ∀ l, E.H0 l = none → G E X rest (Γ.set i (some (mpRef l))) ((l, cLst T xs) :: M) D) (hN : X.N.Nodup) (hn : xs.length ≤ 1000000 := by decide) (hi : X.N[i]? = some y := by rfl) (hx : Loc X.env.scope y := by first | exact Or.inl rfl | exact Or.inr rfl)
    (hs : swapsWith (.List es p) (some (.Name y pos')) pos.line X.env = pure false := by rfl) (hf : X.fn y = true ∨ X.env.scope.names.lookup y = some .local := by first | exact .inl rfl | exact .inr rfl) : G E X (.Assign [.Name y pos'] (.List es p) pos :: rest) Γ M D := fun σ H F s => by
  refine wSs_of (pss_cons (ps_set hN hi hx (pe_lst pa_w) hs hf) pss_w) ?_
  refine h σ F H s.env s.fh s.ce _ fun F1 H1 vs s1 pvs => ?_
  have h2 := paired_map pvs
  refine ⟨by rw [paired_len h2, sizeLine_eq]; omega, fun z hz => ?_⟩
  have st := (s.step s1).newc (c := cLst T xs) hz ⟨vs, rfl, h2, by rw [paired_len h2]; exact hn⟩
  exact k z ((s.step s1).h0 hz) _ _ F1 (st.set i rfl)
/-- x.append(e) -/
theorem g_app {ap cp : Pos} {o : Expr} (j : Nat) {l : Addr} (ho : Ev X Γ M o (mpRef l)) (he : Ev X Γ M e (T.is x)) (hj : M[j]? = some (l, cLst T xs)) (k : G E X rest Γ (M.set j (l, cLst T (xs ++ [x]))) D) (hn : xs.length < 1000000 := by decide)
    (hs : swapsWith (.Call (.Attribute o "append" ap) [e] [] cp) none pos.line X.env = pure false := by rfl)
    (he2 : starEach [e] X.env = (false, eval e X.env) :: starEach [] X.env := by rfl) (hbase : attributeBase o "append" X.env (eval o X.env) = eval o X.env := by rfl)
    (hfew : ((backTo cp (starEach [e] X.env)).all (fun x => !x.1) && (backToKw cp (keywordEach [] X.env)).all (fun x => x.1.isSome)
      && decide (([e] : List Expr).length + ([] : List Keyword).length + (if ([] : List Keyword).isEmpty then 0 else 1) < 30)) = true := by rfl)
    (hline : (ap.endLine == cp.line) = true := by rfl) (hplain : (backTo cp (starEach [] X.env)).any (·.1) = false := by rfl) : G E X (.Expr (.Call (.Attribute o "append" ap) [e] [] cp) pos :: rest) Γ M D := fun σ H F s => by
  refine wSs_of (pss_cons (ps_expr (pe_bm PySem.F.plainAttrs_list PySem.F.slot_list_append PySem.F.type_list_append mt_append pe_w pa_w hbase hfew hline he2 hplain) hs) pss_w) ?_
  refine ho σ F H s.env s.fh s.ce _ fun F1 H1 v t1 pv => ?_
  have s1 := s.step t1
  cases (show v = V.ref l from pv)
  obtain ⟨f0, ob, hl, vs, rfl, h2, h3⟩ := s1.ce.mem (l, cLst T xs) (List.mem_of_getElem? hj)
  refine ⟨.inl ⟨rfl, vs, SqL.of hl⟩, ?_⟩
  refine (eva_one he he2) σ F1 H1 s1.env s1.fh s1.ce _ fun F2 H2 us t2 pus => ?_
  have s2 := s1.step t2
  obtain ⟨w, rfl, pw⟩ := paired1 pus
  obtain ⟨f0, ob, hl, vs, rfl, h2, h3⟩ := s2.ce.mem (l, cLst T xs) (List.mem_of_getElem? hj)
  refine ⟨l, vs, w, rfl, rfl, hl, by rw [paired_len h2, sizeLine_eq]; omega, ?_⟩
  exact k σ _ F2 (s2.put hj ⟨vs ++ [w], rfl, paired_snoc h2 pw, by rw [List.length_append, paired_len h2, List.length_singleton]; omega⟩)
/-- a list that grows no more -/
theorem g_frzL {sts : List Stmt} (i j : Nat) {l : Addr} (hi : Γ[i]? = some (some (mpRef l))) (hj : M[j]? = some (l, cLst T xs)) (h0 : E.H0 l = none) (hW : l ∉ E.W) (k : G E X sts (Γ.set i (some ((tLst T).is xs))) (M.eraseIdx j) D) : G E X sts Γ M D := fun σ H F s => by
  obtain ⟨o, ho, ⟨vs, rfl, h2, h3⟩, f0, st⟩ := s.frz hj h0 hW
  obtain ⟨v, hv, pv⟩ := s.env.2 i _ hi
  cases (show v = V.ref l from pv)
  have e := st.set (P := (tLst T).is xs) i (v := .ref l) ⟨l, vs, rfl, upd_same, paired_mono (Ext.upd f0) h2⟩
  rw [set_same hv] at e
  exact k σ H _ e
where
  set_same {σ : St} {i : Nat} {v : Option V} (h : σ[i]? = some v) : σ.set i v = σ := by
    apply List.ext_getElem?
    intro n
    by_cases hn : i = n
    · subst hn
      rw [List.getElem?_set_self (List.getElem?_eq_some_iff.mp h).1, h]
    · rw [List.getElem?_set_ne hn]
/-- all([..]) -/
theorem ev_all {bs : List Bool} (ha : Ev X Γ M a ((tLst tBool).is bs)) (hm : X.mg "all" = none) (hc : X.calm = true := by rfl) (hg : Gl X "all" := by rfl) (he : starEach [a] X.env = (false, eval a X.env) :: starEach [] X.env := by rfl) (hpl : (backTo pos (starEach [] X.env)).any (·.1) = false := by rfl) :
    Ev X Γ M (.Call (.Name "all" p) [a] [] pos) (tBool.is (bs.all id)) :=
  ev_callB (cr_all hc) (eva_one ha he) (cal1 fun F H v fh ce ⟨l, vs, e1, h1, h2⟩ Q k => ⟨l, bs, by rw [e1], by rw [← bools h2]; exact SqL.of (fh _ _ h1), k F H _ (Stp.refl fh ce) rfl⟩) hg hm (by decide +kernel) (by decide) (by decide) he hpl
where
  bools {F : Hp} : ∀ {vs : List V} {bs : List Bool}, Paired (tBool.t F) vs bs → vs = bs.map V.bl
    | _, _, .nil => rfl
    | _, _, .cons p q => by rw [List.map_cons, ← bools q, ← (show _ = V.bl _ from p)]
end
end L2.K3
set_option Elab.async false
set_option linter.all false
set_option maxRecDepth 100000
set_option maxHeartbeats 2000001
/-! K3I: while; several names at once; new cells. -/
namespace L2.K3
open PySem PySem.Spec PyProof.Rows
/-- the expression makes a new thing that may still change -/
def EvC (X : Cx) (Γ : Gam) (M : Mem) (e : Expr) (c : Addr → CP) : Prop := ∀ (σ : St) (F H : Hp), EnvOk F σ Γ → Ext F H → Cells F H M → ∀ Q : VK, (∀ F' H' l o, Stp M F H F' H' → H' l = none → (c l).c F' o → Q (.ref l) (upd H' l o)) → wE X e σ H Q
/-- arguments in order, some of them new cells -/
def GA (X : Cx) (E : En) (Γ : Gam) (M : Mem) (es : List Expr) (K : Mem → List MP → Prop) : Prop :=
  ∀ (σ : St) (H F : Hp), Sta E Γ M σ H F → ∀ Q : List V → Hp → Prop, (∀ M' Ps vs H' F', K M' Ps → Ext F F' → Sta E Γ M' σ H' F' → Paired (fun (v : V) (P : MP) => P.p F' v) vs Ps → Q vs H') → wA X es σ H Q
section
variable {X : Cx} {E : En} {D : Ends} {Γ : Gam} {M : Mem} {a b c e : Expr} {es : List Expr} {rest body : List Stmt} {pos : Pos} {P : MP} {K : Mem → List MP → Prop} {cc : Addr → CP}
theorem ga_nil (h : K M []) : GA X E Γ M [] K := fun σ H F s Q q => wA_of pa_nil (q M [] [] H F h Ext.rfl' s .nil)
theorem ga_val (he : Ev X Γ M e P) (hr : GA X E Γ M es fun M' Ps => K M' (P :: Ps)) (hs : starEach (e :: es) X.env = (false, eval e X.env) :: starEach es X.env := by rfl) : GA X E Γ M (e :: es) K := fun σ H F s Q q => by
  refine wA_of (pa_cons pe_w pa_w hs) ?_
  refine he σ F H s.env s.fh s.ce _ fun F1 H1 v t pv => ?_
  refine hr σ H1 F1 (s.step t) _ fun M' Ps vs H' F' k x s' pvs => ?_
  exact q M' (P :: Ps) (v :: vs) H' F' k (t.ff.trans x) s' (.cons (P.mono x pv) pvs)
theorem ga_cell (he : EvC X Γ M e cc) (hr : ∀ l, E.H0 l = none → GA X E Γ ((l, cc l) :: M) es fun M' Ps => K M' (mpRef l :: Ps)) (hs : starEach (e :: es) X.env = (false, eval e X.env) :: starEach es X.env := by rfl) : GA X E Γ M (e :: es) K := fun σ H F s Q q => by
  refine wA_of (pa_cons pe_w pa_w hs) ?_
  refine he σ F H s.env s.fh s.ce _ fun F1 H1 l o t hl hc => ?_
  have s1 := s.step t
  refine hr l (s1.h0 hl) σ _ F1 (s1.newc hl hc) _ fun M' Ps vs H' F' k x s' pvs => ?_
  exact q M' (mpRef l :: Ps) (.ref l :: vs) H' F' k (t.ff.trans x) s' (.cons rfl pvs)
/-- x, y = a, b -/
theorem g_par2 (i j : Nat) {x y : Str} {px py pt : Pos} {kt k2 pt2} (h : GA X E Γ M [a, b] fun M' Ps => ∃ P1 P2, Ps = [P1, P2] ∧ G E X rest ((Γ.set i (some P1)).set j (some P2)) M' D) (hN : X.N.Nodup) (hc : X.calm = true := by rfl) (hi : X.N[i]? = some x := by rfl) (hj : X.N[j]? = some y := by rfl) (hij : i ≠ j := by decide)
    (hx : X.env.scope.names.lookup x = some .local := by rfl) (hy : X.env.scope.names.lookup y = some .local := by rfl)
    (hw : swappedStores [.Tuple [.Name x px, .Name y py] kt pt] (.Tuple [a, b] k2 pt2) X.env = pure (some [x, y]) := by rfl)
    (hs : swapsWithSole [.Tuple [.Name x px, .Name y py] kt pt] (.Tuple [a, b] k2 pt2) pos.line X.env = pure false := by rfl) :
    G E X (.Assign [.Tuple [.Name x px, .Name y py] kt pt] (.Tuple [a, b] k2 pt2) pos :: rest) Γ M D := fun σ H F s => by
  refine wSs_of (pss_cons (ps_par hc hN hi hj hij hx hy pa_w hw hs) pss_w) ?_
  refine h σ H F s _ fun M' Ps vs H' F' k x s' pvs => ?_
  obtain ⟨P1, P2, rfl, k⟩ := k
  obtain ⟨v, w, rfl, pv, pw⟩ := paired2 pvs
  exact ⟨v, w, rfl, k _ H' F' ((s'.set i pv).set j pw)⟩
theorem g_par3 (i j l : Nat) {x y z : Str} {px py pz pt : Pos} {kt k2 pt2} (h : GA X E Γ M [a, b, c] fun M' Ps => ∃ P1 P2 P3, Ps = [P1, P2, P3] ∧ G E X rest (((Γ.set i (some P1)).set j (some P2)).set l (some P3)) M' D) (hN : X.N.Nodup) (hc : X.calm = true := by rfl) (hi : X.N[i]? = some x := by rfl) (hj : X.N[j]? = some y := by rfl) (hl : X.N[l]? = some z := by rfl)
    (hij : i ≠ j := by decide) (hil : i ≠ l := by decide) (hjl : j ≠ l := by decide)
    (hx : X.env.scope.names.lookup x = some .local := by rfl) (hy : X.env.scope.names.lookup y = some .local := by rfl) (hz : X.env.scope.names.lookup z = some .local := by rfl)
    (hw : swappedStores [.Tuple [.Name x px, .Name y py, .Name z pz] kt pt] (.Tuple [a, b, c] k2 pt2) X.env = pure (some [x, y, z]) := by rfl)
    (hs : swapsWithSole [.Tuple [.Name x px, .Name y py, .Name z pz] kt pt] (.Tuple [a, b, c] k2 pt2) pos.line X.env = pure false := by rfl) :
    G E X (.Assign [.Tuple [.Name x px, .Name y py, .Name z pz] kt pt] (.Tuple [a, b, c] k2 pt2) pos :: rest) Γ M D := fun σ H F s => by
  refine wSs_of (pss_cons (ps_par3 hc hN hi hj hl hij hil hjl hx hy hz pa_w hw hs) pss_w) ?_
  refine h σ H F s _ fun M' Ps vs H' F' k x s' pvs => ?_
  obtain ⟨P1, P2, P3, rfl, k⟩ := k
  obtain ⟨u, v, w, rfl, pu, pv, pw⟩ := paired3 pvs
  exact ⟨u, v, w, rfl, k _ H' F' (((s'.set i pu).set j pv).set l pw)⟩
/-- x = e, e a new cell -/
theorem g_setC (i : Nat) {x : Str} {pos' : Pos} (he : EvC X Γ M e cc) (k : ∀ l, E.H0 l = none → G E X rest (Γ.set i (some (mpRef l))) ((l, cc l) :: M) D) (hN : X.N.Nodup) (hi : X.N[i]? = some x := by rfl) (hx : Loc X.env.scope x := by first | exact Or.inl rfl | exact Or.inr rfl)
    (hs : swapsWith e (some (.Name x pos')) pos.line X.env = pure false := by rfl) (hf : X.fn x = true ∨ X.env.scope.names.lookup x = some .local := by first | exact .inl rfl | exact .inr rfl) : G E X (.Assign [.Name x pos'] e pos :: rest) Γ M D := fun σ H F s => by
  refine wSs_of (pss_cons (ps_set hN hi hx pe_w hs hf) pss_w) ?_
  refine he σ F H s.env s.fh s.ce _ fun F1 H1 l o t hl hc => ?_
  have s1 := s.step t
  exact k l (s1.h0 hl) _ _ F1 ((s1.newc hl hc).set i rfl)
/-- a new cell that nobody changes any more -/
theorem EvC.frz (he : EvC X Γ M e cc) (h : ∀ F l o, F l = none → (cc l).c F o → P.p (upd F l o) (.ref l)) : Ev X Γ M e P := fun σ F H eo fh ce Q k => by
  refine he σ F H eo fh ce _ fun F1 H1 l o t hl hc => ?_
  have st := Stp.new (o := o) t.fh t.ce hl
  exact k _ _ _ (t.trans st) (h F1 l o (ext_none t.fh hl) hc)
theorem evc_list {α : Type} {T : Ty α} {xs : List α} {p : Pos} (h : EvA X Γ M es (xs.map T.is)) (hn : xs.length ≤ 1000000 := by decide) : EvC X Γ M (.List es p) (fun _ => cLst T xs) := fun σ F H eo fh ce Q k => by
  refine wE_of (pe_lst pa_w) ?_
  refine h σ F H eo fh ce _ fun F1 H1 vs s1 pvs => ?_
  have h2 := paired_map pvs
  exact ⟨by rw [paired_len h2, sizeLine_eq]; omega, fun z hz => k F1 H1 z _ s1 hz ⟨vs, rfl, h2, by rw [paired_len h2]; exact hn⟩⟩
/-- while c: body -/
theorem g_while (S : Nat → Gam → Mem → Prop) (m : Nat) (h0 : S m Γ M)
    (turn : ∀ (m : Nat) (Γ' : Gam) (M' : Mem), S m Γ' M' → ∃ x, EvT X Γ' M' c x ∧ (x = true → G E X body Γ' M' { D with nx := StaS E (fun Γ2 M2 => ∃ n, n < m ∧ S n Γ2 M2), ct := StaS E (fun Γ2 M2 => ∃ n, n < m ∧ S n Γ2 M2), bk := wSs X rest D }) ∧ (x = false → G E X rest Γ' M' D))
    (hp : PassesOwn (model X.prog X.w) X.A X.env X.xe := by exact PassesOwn.never) : G E X (.While c body [] pos :: rest) Γ M D := fun σ H F s => by
  refine wSs_of (pss_cons (ps_while hp pt_w pss_w) pss_w) ?_
  refine ⟨fun m σ H => StaS E (S m) σ H, ⟨m, Γ, M, F, h0, s⟩, ?_⟩
  rintro m σ2 H2 ⟨Γ', M', F2, hS, q⟩
  obtain ⟨x, hc, ht, hf⟩ := turn m Γ' M' hS
  refine hc σ2 F2 H2 q.env q.fh q.ce _ fun F3 H3 t => ?_
  have q3 := q.step t
  cases x with
  | true =>
    rw [if_pos rfl]
    refine ⟨StaS E (fun Γ2 M2 => ∃ n, n < m ∧ S n Γ2 M2), ?_, ht rfl σ2 H3 F3 q3⟩
    rintro σ' H' ⟨Γ2, M2, F', ⟨n, hn, hS2⟩, q'⟩
    exact ⟨n, hn, Γ2, M2, F', hS2, q'⟩
  | false =>
    rw [if_neg Bool.false_ne_true]
    exact hf rfl σ2 H3 F3 q3
end
end L2.K3
set_option Elab.async false
set_option linter.all false
set_option maxRecDepth 100000
set_option maxHeartbeats 2000001
/-! K3J: dicts whose keys are nested tuples. -/
namespace L2.K3
open PySem PySem.Spec PyProof.Rows

/-! ## keys -/
def KeyR {α : Type} (T : Ty α) (key : α → NestedKey) : Prop := ∀ {P : Program} {w : World} {H F : Hp} {h : Heap} {v : V} {u : Value} {x : α}, HOk P w H h → Ext F H → T.t F v x → RelV v u → NestedIs h (key x) u
theorem keyR_int : KeyR tInt NestedKey.num := fun ok e t r => by
  cases t
  obtain ⟨q, rfl⟩ := r
  exact .int _ _
theorem keyR_all {α : Type} {T : Ty α} {key : α → NestedKey} (kr : KeyR T key) {P : Program} {w : World} {H F : Hp} {h : Heap} (ok : HOk P w H h) (e : Ext F H) : ∀ {vs : List V} {us : List Value} {xs : List α}, Paired (T.t F) vs xs → Vals vs us → NestedAll h (xs.map key) us
  | _, _, _, .nil, .nil => .nil
  | _, _, _, .cons p q, .cons r s => .cons (kr ok e p r) (keyR_all kr ok e q s)
theorem keyR_tup {α : Type} {T : Ty α} {key : α → NestedKey} (kr : KeyR T key) : KeyR (tTup T) (fun xs => .tup (xs.map key)) := fun ok e ⟨a, vs, e1, h1, h2⟩ r => by
  subst e1
  cases r
  obtain ⟨_, its, rv, o, ho, hc, n, hd⟩ := ok a _ (e _ _ h1)
  exact .tup ho hc hd (by simpa using keyR_all kr ok e h2 rv)
theorem keyR_pr {α β : Type} {T : Ty α} {U : Ty β} {k1 : α → NestedKey} {k2 : β → NestedKey} (kr : KeyR T k1) (ks : KeyR U k2) : KeyR (tPr T U) (fun x => .tup [k1 x.1, k2 x.2]) := fun ok e ⟨a, v1, v2, e1, h1, h2, h3⟩ r => by
  subst e1
  cases r
  obtain ⟨_, its, rv, o, ho, hc, n, hd⟩ := ok a _ (e _ _ h1)
  cases rv with
  | cons r1 rv =>
    cases rv with
    | cons r2 rv =>
      cases rv
      exact .tup ho hc hd (by simpa using NestedAll.cons (kr ok e h2 r1) (.cons (ks ok e h3 r2) .nil))
/-- a type whose values may be keys -/
structure KTy (α : Type) where
  T : Ty α
  key : α → NestedKey
  R : KeyR T key
  inj : ∀ x y, key x = key y → x = y
  dep : ∀ x, (key x).depth ≤ 8
  isRef : ∀ {F : Hp} {v : V} {x : α}, T.t F v x → ∃ a, v = .ref a
abbrev Letter := List Int
abbrev Word := List Letter
abbrev tLetter : Ty Letter := tTup tInt
abbrev tWord : Ty Word := tTup tLetter
theorem map_inj {α β : Type} {f : α → β} (h : ∀ x y, f x = f y → x = y) : ∀ {xs ys : List α}, xs.map f = ys.map f → xs = ys
  | [], [], _ => rfl
  | [], _ :: _, e => by simp at e
  | _ :: _, [], e => by simp at e
  | x :: xs, y :: ys, e => by
    rw [List.map_cons, List.map_cons] at e
    injection e with e1 e2
    rw [h x y e1, map_inj h e2]
theorem depthAll_le {α : Type} {f : α → NestedKey} {n : Nat} (h : ∀ x, (f x).depth ≤ n) : ∀ xs : List α, NestedKey.depthAll (xs.map f) ≤ n
  | [] => by simp [NestedKey.depthAll]
  | x :: xs => by
    simp only [List.map_cons, NestedKey.depthAll]
    have := h x
    have := depthAll_le h xs
    omega
def keyL (l : Letter) : NestedKey := .tup (l.map NestedKey.num)
def keyW (x : Word) : NestedKey := .tup (x.map keyL)
theorem keyL_inj (x y : Letter) (h : keyL x = keyL y) : x = y := map_inj (f := NestedKey.num) (fun _ _ e => NestedKey.num.inj e) (NestedKey.tup.inj h)
theorem keyW_inj (x y : Word) (h : keyW x = keyW y) : x = y := map_inj keyL_inj (NestedKey.tup.inj h)
theorem keyL_dep (l : Letter) : (keyL l).depth ≤ 2 := by
  have : NestedKey.depthAll (l.map NestedKey.num) ≤ 1 := depthAll_le (fun x => by simp [NestedKey.depth]) l
  simp only [keyL, NestedKey.depth]
  omega
theorem keyW_dep (x : Word) : (keyW x).depth ≤ 3 := by
  have : NestedKey.depthAll (x.map keyL) ≤ 2 := depthAll_le keyL_dep x
  simp only [keyW, NestedKey.depth]
  omega
def wordK : KTy Word := ⟨tWord, keyW, keyR_tup (keyR_tup keyR_int), keyW_inj, fun x => Nat.le_trans (keyW_dep x) (by decide), fun ⟨a, _, e, _⟩ => ⟨a, e⟩⟩
def aroundK : KTy (Word × Word) := ⟨tPr tWord tWord, fun x => .tup [keyW x.1, keyW x.2], keyR_pr wordK.R wordK.R, fun x y h => by
    have h1 := NestedKey.tup.inj h
    injection h1 with e1 e2
    injection e2 with e2 e3
    exact Prod.ext (keyW_inj _ _ e1) (keyW_inj _ _ e2), fun x => by
    have h1 := keyW_dep x.1
    have h2 := keyW_dep x.2
    simp only [NestedKey.depth, NestedKey.depthAll]
    omega, fun ⟨a, _, _, e, _⟩ => ⟨a, e⟩⟩
theorem KTy.is {α : Type} (K : KTy α) {P : Program} {w : World} {H F : Hp} {h : Heap} {a : Addr} {x : α} (ok : HOk P w H h) (e : Ext F H) (t : K.T.t F (.ref a) x) : (nestedKind P w).is h (K.key x) a := ⟨K.R ok e t rfl, K.dep x⟩

/-! ## the object -/
def entK (w : World) (x : NestedKey × Addr × Value) : DictEntry := ⟨x.1.hash w, .ref x.2.1, x.2.2⟩
theorem entK_eq {P : Program} {w : World} : entK w = entryOfKey (nestedKind P w) := rfl
def IsDob (w : World) (ob : Obj) (xs : List (NestedKey × Addr × Value)) : Prop := ob.ExactDict ∧ (∃ es ep, ob.data = .dict es ep ∧ es.toList = xs.map (entK w)) ∧ (xs.map (·.1)).Nodup
def DicO (a : Addr) (ob : Obj) : HO := .ext fun h => (a == sysModules) = false ∧ h.get? a = some ob
/-- the entries, typed -/
def DPs {α β : Type} (K : KTy α) (U : Ty β) (F : Hp) : List (NestedKey × Addr × Value) → List (α × β) → Prop := Paired fun x kv => x.1 = K.key kv.1 ∧ K.T.t F (.ref x.2.1) kv.1 ∧ ∃ v, RelV v x.2.2 ∧ U.t F v kv.2
theorem DPs.mono {α β : Type} {K : KTy α} {U : Ty β} {F F' : Hp} (e : Ext F F') {xs : List (NestedKey × Addr × Value)} {kvs : List (α × β)} (h : DPs K U F xs kvs) : DPs K U F' xs kvs := Paired.mapP h fun _ _ ⟨a, b, v, c, d⟩ => ⟨a, K.T.mono e b, v, c, U.mono e d⟩
def cDic {α β : Type} (w : World) (K : KTy α) (U : Ty β) (kvs : List (α × β)) (l : Addr) : CP := ⟨fun F o => ∃ ob xs, o = DicO l ob ∧ IsDob w ob xs ∧ DPs K U F xs kvs ∧ kvs.length ≤ 1000000, fun e ⟨ob, xs, h1, h2, h3, h4⟩ => ⟨ob, xs, h1, h2, h3.mono e, h4⟩⟩
def tDic {α β : Type} (w : World) (K : KTy α) (U : Ty β) : Ty (List (α × β)) := ⟨fun F v kvs => ∃ a o, v = .ref a ∧ F a = some o ∧ (cDic w K U kvs a).c F o, fun e ⟨a, o, h1, h2, h3⟩ => ⟨a, o, h1, e _ _ h2, (cDic _ _ _ _ _).mono e h3⟩⟩
/-- v is a dict with kvs, whether it may change or not -/
def RdD {α β : Type} (w : World) (K : KTy α) (U : Ty β) (F H : Hp) (v : V) (kvs : List (α × β)) : Prop := ∃ a ob xs, v = .ref a ∧ H a = some (DicO a ob) ∧ IsDob w ob xs ∧ DPs K U F xs kvs ∧ kvs.length ≤ 1000000
def IsDic {α β : Type} (w : World) (K : KTy α) (U : Ty β) (M : Mem) (P : MP) (kvs : List (α × β)) : Prop := ∀ F H v, Ext F H → Cells F H M → P.p F v → RdD w K U F H v kvs
theorem isDic_frz {α β : Type} {w : World} {K : KTy α} {U : Ty β} {M : Mem} {kvs : List (α × β)} : IsDic w K U M ((tDic w K U).is kvs) kvs := fun F H v e _ ⟨a, o, h1, h2, ob, xs, h3, h4, h5, h6⟩ => ⟨a, ob, xs, h1, by rw [← h3]; exact e _ _ h2, h4, h5, h6⟩
theorem isDic_cell {α β : Type} {w : World} {K : KTy α} {U : Ty β} {M : Mem} {kvs : List (α × β)} {l : Addr} (j : Nat) (hj : M[j]? = some (l, cDic w K U kvs l)) : IsDic w K U M (mpRef l) kvs := fun F H v e c h => by
  obtain ⟨f0, o, ho, ob, xs, h3, h4, h5, h6⟩ := c.mem _ (List.mem_of_getElem? hj)
  exact ⟨l, ob, xs, h, by rw [← h3]; exact ho, h4, h5, h6⟩
theorem dic_obj {P : Program} {w : World} {H : Hp} {h : Heap} {a : Addr} {ob : Obj} (ok : HOk P w H h) (e : H a = some (DicO a ob)) : (a == sysModules) = false ∧ h.get? a = some ob := (ok a _ e).1
theorem dic_of {P : Program} {w : World} {α β : Type} {K : KTy α} {U : Ty β} {F H : Hp} {h : Heap} {a : Addr} {ob : Obj} {xs : List (NestedKey × Addr × Value)} {kvs : List (α × β)} (ok : HOk P w H h) (fe : Ext F H) (e : H a = some (DicO a ob)) (io : IsDob w ob xs) (d : DPs K U F xs kvs) : h.DictOfH (nestedKind P w) a xs := by
  obtain ⟨h1, ⟨es, ep, h2, h3⟩, h4⟩ := io
  refine ⟨ob, es, ep, (dic_obj ok e).2, h1, h2, h3, fun x hx => ?_, h4⟩
  obtain ⟨i, hi, rfl⟩ := List.getElem_of_mem hx
  obtain ⟨kv, _, h5, h6, _⟩ := at_r d (List.getElem?_eq_getElem hi)
  rw [h5]
  exact K.is ok fe h6
where
  at_r {γ δ : Type} {R : γ → δ → Prop} : ∀ {l : List γ} {m : List δ}, Paired R l m → ∀ {i : Nat} {x : γ}, l[i]? = some x → ∃ y, m[i]? = some y ∧ R x y
    | _, _, .cons p q, 0, _, h => ⟨_, rfl, by cases h; exact p⟩
    | _, _, .cons p q, i + 1, _, h => at_r q h
/-! ## lists of pairs -/
section
variable {α β : Type} [DecidableEq α]
def dget (kvs : List (α × β)) (k : α) : Option β := (kvs.find? fun p => decide (p.1 = k)).map (·.2)
def dput (kvs : List (α × β)) (k : α) (v : β) : List (α × β) := if (dget kvs k).isSome = true then kvs.map (fun p => if p.1 = k then (p.1, v) else p) else kvs ++ [(k, v)]
theorem dget_cons (p : α × β) (kvs : List (α × β)) (k : α) : dget (p :: kvs) k = if p.1 = k then some p.2 else dget kvs k := by
  unfold dget
  rw [List.find?_cons]
  by_cases h : p.1 = k
  · rw [if_pos h, decide_eq_true h] <;> rfl
  · rw [if_neg h, decide_eq_false h]
theorem dps_get {K : KTy α} {U : Ty β} {F : Hp} (k : α) : ∀ {xs : List (NestedKey × Addr × Value)} {kvs : List (α × β)}, DPs K U F xs kvs → (atKey xs (K.key k) = none ∧ dget kvs k = none) ∨ ∃ p y v, atKey xs (K.key k) = some p ∧ dget kvs k = some y ∧ RelV v p.2 ∧ U.t F v y
  | _, _, .nil => .inl ⟨rfl, rfl⟩
  | x :: xs, kv :: kvs, .cons ⟨h1, h2, v, h3, h4⟩ q => by
    have e : atKey (x :: xs) (K.key k) = if x.1 = K.key k then some x.2 else atKey xs (K.key k) := by
      unfold atKey
      rw [List.find?_cons]
      by_cases h : x.1 = K.key k
      · rw [if_pos h, decide_eq_true h] <;> rfl
      · rw [if_neg h, decide_eq_false h]
    rw [e, dget_cons, h1]
    by_cases h : kv.1 = k
    · rw [if_pos (by rw [h]), if_pos h]
      exact .inr ⟨_, _, v, rfl, rfl, h3, h4⟩
    · rw [if_neg fun z => h (K.inj _ _ z), if_neg h]
      exact dps_get k q
theorem dps_map {K : KTy α} {U : Ty β} {F : Hp} {k : α} {y : β} {v : V} {u : Value} (rv : RelV v u) (tv : U.t F v y) : ∀ {xs : List (NestedKey × Addr × Value)} {kvs : List (α × β)}, DPs K U F xs kvs → DPs K U F (xs.map (putAt (K.key k) u)) (kvs.map fun p => if p.1 = k then (p.1, y) else p)
  | _, _, .nil => .nil
  | x :: xs, kv :: kvs, .cons ⟨h1, h2, v', h3, h4⟩ q => by
    refine .cons ?_ (dps_map rv tv q)
    unfold putAt
    dsimp only
    by_cases h : kv.1 = k
    · rw [if_pos (by rw [h1, h]), if_pos h]
      exact ⟨h1, h2, v, rv, tv⟩
    · rw [if_neg (by rw [h1]; exact fun z => h (K.inj _ _ z)), if_neg h]
      exact ⟨h1, h2, v', h3, h4⟩
theorem dps_put {K : KTy α} {U : Ty β} {F : Hp} {k : α} {y : β} {b : Addr} {v : V} {u : Value} (kt : K.T.t F (.ref b) k) (rv : RelV v u) (tv : U.t F v y) {xs : List (NestedKey × Addr × Value)} {kvs : List (α × β)} (d : DPs K U F xs kvs) : DPs K U F (storedH xs (K.key k) b u) (dput kvs k y) := by
  rcases dps_get k d with ⟨h1, h2⟩ | ⟨p, y', v', h1, h2, _⟩
  · rw [storedH_new h1, dput, h2]
    exact paired_app d (.cons ⟨rfl, kt, v, rv, tv⟩ .nil)
  · rw [storedH_old h1, dput, h2]
    exact dps_map rv tv d
theorem dput_len (kvs : List (α × β)) (k : α) (v : β) : (dput kvs k v).length ≤ kvs.length + 1 := by
  unfold dput
  split
  · rw [List.length_map]; omega
  · rw [List.length_append, List.length_singleton]; omega
/-! ## rules -/
section
variable {X : Cx} {Γ : Gam} {M : Mem} {d e f : Expr} {K : KTy α} {U : Ty β} {Pd R P : MP} {kvs : List (α × β)} {k : α} {y : β} {pos : Pos}
theorem room8 {k : Nat} {A : Around} (hr : Room k A) : A.in1.units + 8 < cLine := by
  have h : A.in1.units = A.units + 1 := rfl
  have := hr.units
  omega
theorem dict_plain {s : Shared} {a : Addr} {ob : Obj} (hg : s.heap.get? a = some ob) (hc : ob.ExactDict) : s.TypeIs (.ref a) "dict" ∧ ∀ b, Value.ref a = .ref b → ∃ o, s.heap.get? b = some o ∧ o.dict = none := ⟨⟨ob, hg, hc.1⟩, fun b q => by cases q; exact ⟨ob, hg, hc.2.1⟩⟩
theorem d_item {X : Cx} {pins : List (Addr × Obj)} {σ : St} {H F : Hp} {s : Shared} {n : Nat} {x : V} {u v : Value} {Q : VK} {dv : V} (hr : Room n X.A) (I : Inv X pins σ H s) (fe : Ext F H) (hd : RdD X.w K U F H dv kvs) (hk : K.T.t F x k) (hg : dget kvs k = some y) (rd : RelV dv v) (rx : RelV x u) (q : ∀ v, U.t F v y → Q v H) :
    wpAny (model X.prog X.w) X.A (getItem v u) (EP X pins σ Q) X.xe s := by
  obtain ⟨a, ob, xs, rfl, e, io, dp, hl⟩ := hd
  cases rd
  obtain ⟨b, rfl⟩ := K.isRef hk
  cases rx
  have dd := dic_of I.hok fe e io dp
  rcases dps_get k dp with ⟨_, h2⟩ | ⟨p, y', v', h1, h2, h3, h4⟩
  · rw [h2] at hg; cases hg
  · rw [h2] at hg
    cases hg
    exact wpAny_getItem_heap (knd := nestedKind X.prog X.w) (room8 hr) (K.is I.hok fe hk) dd h1 ⟨v', H, I.tok _, h3, q v' h4⟩
theorem dic_type {X : Cx} {pins : List (Addr × Obj)} {σ : St} {H F : Hp} {s : Shared} {v : Value} {dv : V} (I : Inv X pins σ H s) (hd : RdD X.w K U F H dv kvs) (rd : RelV dv v) : s.TypeIs v "dict" ∧ (∀ b, v = .ref b → ∃ o, s.heap.get? b = some o ∧ o.dict = none) := by
  obtain ⟨a, ob, xs, rfl, e, io, dp, hl⟩ := hd
  cases rd
  exact dict_plain (dic_obj I.hok e).2 io.1
/-- d[k] -/
theorem ev_dget (hr : Room 0 X.A) (hd : Ev X Γ M d Pd) (hk : Ev X Γ M e (K.T.is k)) (di : IsDic X.w K U M Pd kvs) (hg : dget kvs k = some y) (hs : NoSl e := by exact fun _ _ => rfl) : Ev X Γ M (.Subscript d e pos) (U.is y) := fun σ F H eo fh ce Q q pins s I => by
  refine subD_of PySem.F.slot_dict_getitem.lookup hs ?_
  refine thn (hd σ F H eo fh ce (fun v H1 => ∃ F1, Stp M F H F1 H1 ∧ Pd.p F1 v) (fun F1 H1 v st p => ⟨F1, st, p⟩) pins s I) fun u s1 ⟨v, H1, I1, rv, F1, st1, pv⟩ => ?_
  refine thn (hk σ F1 H1 (eo.mono st1.ff) st1.fh st1.ce (fun x H2 => ∃ F2, Stp M F1 H1 F2 H2 ∧ (K.T.is k).p F2 x) (fun F2 H2 x st p => ⟨F2, st, p⟩) pins s1 I1) fun u2 s2 ⟨x, H2, I2, rx, F2, st2, px⟩ => ?_
  have rdd := di F2 H2 v st2.fh st2.ce (Pd.mono st2.ff pv)
  exact ⟨(dic_type I2 rdd rv).1, d_item hr I2 st2.fh rdd px hg rv rx fun z hz => q F2 H2 z (st1.trans st2) hz⟩
/-- k in d -/
theorem op_dicIn (hr : Room 0 X.A) : OpR X (compareOp .In) fun x dv H Q => ∃ (F : Hp) (k : α) (kvs : List (α × β)), Ext F H ∧ K.T.t F x k ∧ RdD X.w K U F H dv kvs ∧ Q (.bl (dget kvs k).isSome) H := by
  rintro pins s σ H x dv u v Q I rx rd ⟨F, k, kvs, fe, hk, hd, q⟩
  obtain ⟨a, ob, xs, rfl, e, io, dp, hl⟩ := hd
  cases rd
  obtain ⟨b, rfl⟩ := K.isRef hk
  cases rx
  have dd := dic_of I.hok fe e io dp
  refine wpAny_in_heap (knd := nestedKind X.prog X.w) (room8 hr) (K.is I.hok fe hk) (dic_obj I.hok e).1 dd ⟨.bl (dget kvs k).isSome, H, I.tok _, ?_, q⟩
  rcases dps_get k dp with ⟨h1, h2⟩ | ⟨p, y', v', h1, h2, _⟩
  · rw [h1, h2] <;> rfl
  · rw [h1, h2] <;> rfl
theorem o_dicIn (di : IsDic X.w K U M Pd kvs) : Op2 M (fun x dv H Q => ∃ (F : Hp) (k : α) (kvs : List (α × β)), Ext F H ∧ K.T.t F x k ∧ RdD X.w K U F H dv kvs ∧ Q (.bl (dget kvs k).isSome) H) (K.T.is k) Pd (tBool.is (dget kvs k).isSome) :=
  fun F H v w' fh ce pv pw Q q => ⟨F, k, kvs, fh, pv, di F H w' fh ce pw, q F H _ (Stp.refl fh ce) rfl⟩
theorem et_dicIn (hr : Room 0 X.A) (hk : Ev X Γ M e (K.T.is k)) (hd : Ev X Γ M d Pd) (di : IsDic X.w K U M Pd kvs) (hm : behindInMarks .In d = false := by first | exact nomark _ | rfl) : EvT X Γ M (.Compare e [.In] [d] pos) (dget kvs k).isSome := et_cmp (op_dicIn (U := U) hr) hk hd (o_dicIn di) hm
/-- d.get(k, x) -/
theorem ev_dgetOr {apos : Pos} (hr : Room 0 X.A) (hd : Ev X Γ M d Pd) (hk : Ev X Γ M e (K.T.is k)) (hf : Ev X Γ M f P) (di : IsDic X.w K U M Pd kvs) (hR : ∀ F v, P.p F v → dget kvs k = none → R.p F v) (hR' : ∀ F v y, dget kvs k = some y → U.t F v y → R.p F v)
    (hb : attributeBase d "get" X.env (eval d X.env) = eval d X.env := by rfl)
    (hfew : ((backTo pos (starEach [e, f] X.env)).all (fun x => !x.1) && (backToKw pos (keywordEach [] X.env)).all (fun x => x.1.isSome) && decide (([e, f] : List Expr).length + ([] : List Keyword).length + (if ([] : List Keyword).isEmpty then 0 else 1) < 30)) = true := by rfl)
    (hline : (apos.endLine == pos.line) = true := by rfl) (htr : backTo pos (starEach [e, f] X.env) = [(false, eval e X.env), (false, eval f X.env)] := by rfl) : Ev X Γ M (.Call (.Attribute d "get" apos) [e, f] [] pos) R := fun σ F H eo fh ce Q q pins s I => by
  refine wpAny_Call_method hb hfew hline PySem.F.plainAttrs_dict PySem.F.slot_dict_get PySem.F.type_dict_get ?_
  refine thn (hd σ F H eo fh ce (fun v H1 => ∃ F1, Stp M F H F1 H1 ∧ Pd.p F1 v) (fun F1 H1 v st p => ⟨F1, st, p⟩) pins s I) fun u s1 ⟨v, H1, I1, rv, F1, st1, pv⟩ => ?_
  obtain ⟨t1, t2⟩ := dic_type I1 (di F1 H1 v st1.fh st1.ce pv) rv
  refine ⟨t1, t2, ?_⟩
  rw [htr]
  refine Calls.callWith_builtin rfl (Calls.evalArgs_plain (Calls.spliced_cons ?_))
  refine thn (hk σ F1 H1 (eo.mono st1.ff) st1.fh st1.ce (fun x H2 => ∃ F2, Stp M F1 H1 F2 H2 ∧ (K.T.is k).p F2 x) (fun F2 H2 x st p => ⟨F2, st, p⟩) pins s1 I1) fun u2 s2 ⟨x, H2, I2, rx, F2, st2, px⟩ => ?_
  refine Calls.spliced_cons ?_
  have st12 := st1.trans st2
  refine thn (hf σ F2 H2 (eo.mono st12.ff) st12.fh st12.ce (fun z H3 => ∃ F3, Stp M F2 H2 F3 H3 ∧ P.p F3 z) (fun F3 H3 z st p => ⟨F3, st, p⟩) pins s2 I2) fun u3 s3 ⟨z, H3, I3, rz, F3, st3, pz⟩ => ?_
  refine Calls.spliced_nil ?_
  have rdd := di F3 H3 v st3.fh st3.ce (Pd.mono (st2.ff.trans st3.ff) pv)
  have px3 := K.T.mono st3.ff px
  obtain ⟨a, ob, xs, rfl, e', io, dp, hl⟩ := rdd
  cases rv
  obtain ⟨b, rfl⟩ := K.isRef px3
  cases rx
  have dd := dic_of I3.hok st3.fh e' io dp
  have hsy := (dic_obj I3.hok e').1
  refine call_meetsIn PySem.F.slot_dict_get dd.typeIs PySem.F.entry_dict_get (PySem.F.args_dict_get_3 _ _ _) (meetsH_dict_get_default (nestedKind X.prog X.w) a b hsy u3) ⟨room8 hr, K.key k, xs, K.is I3.hok st3.fh px3, dd, ?_⟩
  rcases dps_get k dp with ⟨h1, h2⟩ | ⟨p, y', v', h1, h2, h3, h4⟩
  · rw [h1]
    exact ⟨z, H3, I3.tok _, rz, q F3 H3 z (st12.trans st3) (hR F3 z pz h2)⟩
  · rw [h1]
    exact ⟨v', H3, I3.tok _, h3, q F3 H3 v' (st12.trans st3) (hR' F3 v' y' h2 h4)⟩
/-- {} -/
theorem dic_empty {P : Program} {w : World} {H : Hp} (h : Heap) (hb : sysModules < h.objs.size) : ObjOk P w H (h.push { cls := .type "dict", data := .dict #[] }) h.objs.size (DicO h.objs.size { cls := .type "dict", data := .dict #[] }) :=
  ⟨⟨beq_eq_false_iff_ne.mpr (Ne.symm (Nat.ne_of_lt hb)), Heap.get?_push_size _ rfl⟩, ⟨_, Heap.get?_push_size _ rfl⟩, fun h1 h2 ⟨a, b⟩ c => ⟨a, c _ b⟩⟩
theorem evc_dic : EvC X Γ M (.Dict [] [] pos) (cDic X.w K U []) := fun σ F H eo fh ce Q q pins s I =>
  wpAny_Dict_empty ⟨.ref s.heap.objs.size, _, I.laid (a := s.heap.objs.size) (o := DicO s.heap.objs.size { cls := .type "dict", data := .dict #[] }) (t' := s.toks) (fun _ _ q => Heap.get?_push_of_some _ q) (Nat.le_refl _) (dic_empty s.heap I.big), rfl,
    q F H s.heap.objs.size _ (Stp.refl fh ce) (I.hok.fresh (Nat.le_refl _)) ⟨_, [], rfl, ⟨⟨rfl, rfl, rfl⟩, ⟨#[], 0, rfl, rfl⟩, List.nodup_nil⟩, .nil, Nat.zero_le _⟩⟩
/-- d[k] = v -/
theorem g_dput {E : En} {D : Ends} {rest : List Stmt} {pos' : Pos} {l : Addr} (j : Nat) (hr : Room 0 X.A) (hf : Ev X Γ M f (U.is y)) (hd : Ev X Γ M d (mpRef l)) (hk : Ev X Γ M e (K.T.is k)) (hj : M[j]? = some (l, cDic X.w K U kvs l)) (kk : G E X rest Γ (M.set j (l, cDic X.w K U (dput kvs k y) l)) D)
    (hn : kvs.length < 1000000) (hs : swapsWith f (some (.Subscript d e pos')) pos.line X.env = pure false := by rfl) : G E X (.Assign [.Subscript d e pos'] f pos :: rest) Γ M D := fun σ H F sta => by
  refine wSs_of (pss_cons ps_w pss_w) ?_
  intro pins s I
  refine wpAny_Assign_Subscript ?_ hs
  refine thn (hf σ F H sta.env sta.fh sta.ce (fun v H1 => ∃ F1, Stp M F H F1 H1 ∧ (U.is y).p F1 v) (fun F1 H1 v st p => ⟨F1, st, p⟩) pins s I) fun u1 s1 ⟨v, H1, I1, rv, F1, st1, pv⟩ => ?_
  have a1 := sta.step st1
  refine thn (hd σ F1 H1 a1.env a1.fh a1.ce (fun v H2 => ∃ F2, Stp M F1 H1 F2 H2 ∧ (mpRef l).p F2 v) (fun F2 H2 v st p => ⟨F2, st, p⟩) pins s1 I1) fun u2 s2 ⟨dv, H2, I2, rd, F2, st2, pd⟩ => ?_
  have a2 := a1.step st2
  refine thn (hk σ F2 H2 a2.env a2.fh a2.ce (fun v H3 => ∃ F3, Stp M F2 H2 F3 H3 ∧ (K.T.is k).p F3 v) (fun F3 H3 v st p => ⟨F3, st, p⟩) pins s2 I2) fun u3 s3 ⟨x, H3, I3, rx, F3, st3, px⟩ => ?_
  have a3 := a2.step st3
  cases (show dv = V.ref l from pd)
  cases rd
  obtain ⟨f0, o, ho, ob, xs, e1, io, dp, hl⟩ := a3.ce.mem _ (List.mem_of_getElem? hj)
  subst e1
  obtain ⟨b, rfl⟩ := K.isRef px
  cases rx
  have dd := dic_of I3.hok a3.fh ho io dp
  obtain ⟨hsy, hgo⟩ := dic_obj I3.hok ho
  have hxl : xs.length = kvs.length := Paired.length dp
  refine wpAny_setItem_heap (knd := nestedKind X.prog X.w) (hsz := by rw [hxl, sizeLine_eq]; omega) (room8 hr) (K.is I3.hok a3.fh px) dd fun h' dd' hs' => ?_
  obtain ⟨ob', es, ep, hq, h2, h3, h4, _, h5⟩ := dd'
  have I4 := I3.write (x := l) (e := l) (o := DicO l ob') (h' := h') (t' := s3.toks + (nestedKind X.prog X.w).draws (K.key k)) (by rw [show H3 l = some (DicO l ob) from ho]; exact True.intro) (.inl rfl) (fun c q hc z => (hs'.2 c hc).trans z) ⟨ob', hq⟩ ⟨⟨hsy, hq⟩, ⟨ob', hq⟩, fun h1 h2 ⟨a, b⟩ c => ⟨a, c _ b⟩⟩
  refine ⟨σ, _, I4, ?_⟩
  have hlen := dput_len kvs k y
  exact kk σ _ F3 (a3.put hj ⟨ob', _, rfl, ⟨h2, ⟨es, ep, h3, h4⟩, h5⟩, dps_put px rv (U.mono (st2.ff.trans st3.ff) pv) dp, by omega⟩)
/-! ### for k in d -/
def ItD (a : Addr) (ob : Obj) (n : Nat) (xs : List (NestedKey × Addr × Value)) : It := ⟨fun i H => H a = some (DicO a ob) ∧ i < n, fun i H v H' => H' = H ∧ ∃ x, xs[i]? = some x ∧ v = .ref x.2.1, fun i H => H a = some (DicO a ob) ∧ n ≤ i⟩
theorem turn_dic {P : Program} {w : World} {Kf : PySem.W.Frag} {tg : Expr} {a it : Addr} {ob : Obj} {xs : List (NestedKey × Addr × Value)} {es : Array DictEntry} {ep : Nat} (ex : ob.ExactDict) (hdt : ob.data = .dict es ep) (hes : es.toList = xs.map (entK w)) (hit : it ≠ a) :
    Turn P w Kf tg (ItD a ob es.size xs) [it] it (fun i h => h.IsKeyIter it a i es.size ep) where
  mem := by simp
  obj := fun i h st b hb => by
    have e : b = it := by simpa using hb
    subst e
    obtain ⟨oi, e, c, dd⟩ := st
    exact ⟨oi, e, fun v z => by rw [dd] at z; cases z⟩
  keep := fun i h h' st k => st.at fun oi e => k it (by simp) oi e
  item := by
    intro X hP hw hK hc i pins s σ H E I hf st hg
    subst hP hw hK
    obtain ⟨hd, hi⟩ := hg
    obtain ⟨f0, f1, f2, f3, f4, f5⟩ := hf it (by simp)
    obtain ⟨hsy, hgo⟩ := dic_obj I.hok hd
    refine wpAny_pyNext_keys_item_raw st ⟨ob, hgo, ex, hdt⟩ hi fun h' st' sb => ?_
    have I1 : Inv X pins σ H { s with heap := h' } := I.turned (t' := s.toks) (fun b ob hb e => (sb.2 b hb).trans e) f0 f1 f3 f4 f5
    obtain ⟨oi, e, c, dd⟩ := id st'
    have hl : xs.length = es.size := by rw [← Array.length_toList, hes, List.length_map]
    have hx : i < xs.length := by omega
    have hk : es[i].key = .ref xs[i].2.1 := by
      have h1 : es.toList[i]? = some es[i] := by rw [Array.getElem?_toList]; exact getElem?_pos es i hi
      rw [hes, List.getElem?_map, List.getElem?_eq_getElem hx] at h1
      have h2 : entK X.w xs[i] = es[i] := Option.some.inj h1
      rw [← h2] <;> rfl
    refine ⟨es[i].key, rfl, go_of (s := { s with heap := h' }) e c dd (by decide) ⟨.ref xs[i].2.1, H, I1, by rw [hk] <;> rfl, ⟨rfl, xs[i], List.getElem?_eq_getElem hx, rfl⟩, st', fun b hb => (hf b hb).1⟩⟩
  done := by
    intro X hP hw hK hc i pins s σ H E I hf st hg
    subst hP hw hK
    obtain ⟨hd, hi⟩ := hg
    obtain ⟨f0, f1, f2, f3, f4, f5⟩ := hf it (by simp)
    obtain ⟨hsy, hgo⟩ := dic_obj I.hok hd
    exact wpAny_pyNext_keys_end_raw (I.ok.hd hc) st ⟨ob, hgo, ex, hdt⟩ hi fun h' eb => ⟨rfl, I.turned (t' := s.toks) (fun b ob hb e => eb b ob hb e) f0 f1 f3 f4 f5⟩
  self := fun A i s Q E st h => wpAny_pyIter_keyiter st h
theorem tw_dic {w : World} {F : Hp} {a : Addr} {ob : Obj} {xs : List (NestedKey × Addr × Value)} {n : Nat} (h : F a = some (DicO a ob)) (d : DPs K U F xs kvs) (hn : xs.length = n) (hz : kvs.length ≤ 1000000) : TW (ItD a ob n xs) F K.T (kvs.map (·.1)) := by
  have hl : xs.length = kvs.length := Paired.length d
  refine ⟨by rw [List.length_map, sizeLine_eq]; omega, fun i F1 H hi e fh => ⟨fh _ _ (e _ _ h), by rw [List.length_map] at hi; omega⟩, fun F1 H e fh => ⟨fh _ _ (e _ _ h), by rw [List.length_map]; omega⟩, fun i F1 H H' v hi e fh y => ?_⟩
  obtain ⟨rfl, x, hx, rfl⟩ := y
  refine ⟨F1, Stp.refl fh Cells.nil, ?_⟩
  obtain ⟨kv, hkv, _, h2, _⟩ := dic_of.at_r d hx
  rw [List.length_map] at hi
  rw [List.getElem?_eq_getElem hi] at hkv
  cases hkv
  rw [List.getElem_map]
  exact K.T.mono e h2
theorem evi_dic {tg : Expr} (h : Ev X Γ M d ((tDic X.w K U).is kvs)) : EvI X Γ M tg d K.T (kvs.map (·.1)) := fun σ F H eo fh ce R q pins s I => by
  refine thn (h σ F H eo fh ce (fun v H1 => ∃ F1, Stp M F H F1 H1 ∧ ((tDic X.w K U).is kvs).p F1 v) (fun F1 H1 v st p => ⟨F1, st, p⟩) pins s I) fun u s1 ⟨v, H1, I1, rv, F1, st1, pv⟩ => ?_
  obtain ⟨a, o, rfl, ho, ob, xs, rfl, io, dp, hl⟩ := pv
  cases rv
  obtain ⟨hx, ⟨es, ep, hdt, hes⟩, hnd⟩ := id io
  have hH := st1.fh _ _ ho
  obtain ⟨hsy, hgo⟩ := dic_obj I1.hok hH
  have hne : s1.heap.objs.size ≠ a := Nat.ne_of_gt (Heap.lt_size hgo)
  have hsz : xs.length = es.size := by rw [← Array.length_toList, hes, List.length_map]
  refine wpAny_pyIter_dict_raw hsy ⟨ob, hgo, hx, hdt⟩ (pi_one (tk := s1.toks) I1 _ (turn_dic hx hdt hes hne) ⟨_, Heap.get?_push_size _ rfl, rfl, rfl⟩ ?_)
  exact q _ F1 H1 st1 (tw_dic (w := X.w) ho dp hsz hl)
end
end
end L2.K3
set_option Elab.async false
set_option linter.all false
set_option maxRecDepth 100000
set_option maxHeartbeats 2000001
/-! K3K: sorting of nested tuples. -/
namespace L2.K3.Sd
open PySem PySem.Calls PyProof.Rows PySem.W PySem.SeqAt SrtO
section
variable {prog : Program} {w : World} {A : Around} {E : Value → Shared → Prop} {s : Shared}
/-- tuples, their items -/
inductive TupsAre (h : Heap) : List Value → List (Array Value) → Prop
  | nil : TupsAre h [] []
  | cons {a : Addr} {it : Array Value} {us : List Value} {its : List (Array Value)} : h.IsTuple a it → TupsAre h us its → TupsAre h (.ref a :: us) (it :: its)
theorem TupsAre.mem {h : Heap} : ∀ {us : List Value} {its : List (Array Value)}, TupsAre h us its → ∀ u ∈ us, ∃ a it, u = .ref a ∧ h.IsTuple a it
  | _, _, .cons p q, u, hu => by
    rcases List.mem_cons.mp hu with e | hu
    · exact ⟨_, _, e, p⟩
    · exact q.mem u hu
theorem looks_tup {a : Addr} {it : Array Value} (h : s.heap.IsTuple a it) : Looks (model prog w) s.heap (typeOf (.ref a)) (.type "tuple") := by
  obtain ⟨o, ho, hc, _⟩ := h
  exact hc ▸ (Looks.ld ho).andThen .now
theorem first_one {a : Addr} {it : Array Value} {Q : Option Value → Shared → Prop} (h : s.heap.IsTuple a it) (hq : Q it[0]? s) : wpAny (model prog w) A (firstOfTuple' (.ref a)) Q E s := by
  rw [kas_first_eq]
  refine wpAny_bind ((looks_tup h).here ?_)
  rw [if_neg (by first | decide | simp)]
  obtain ⟨o, ho, hc, n, hd⟩ := h
  exact wpAny_bind (listItems_at ho hd (wpAny_pure hq))
theorem firsts : ∀ {us : List Value} {its : List (Array Value)} {Q : List (Option Value) → Shared → Prop}, TupsAre s.heap us its → Q (its.map (·[0]?)) s → wpAny (model prog w) A (us.mapM firstOfTuple') Q E s
  | _, _, _, .nil, h => by rw [List.mapM_nil]; exact wpAny_pure h
  | _, _, Q, .cons (it := it) p q, h => by
    rw [List.mapM_cons]
    refine wpAny_bind (first_one p (wpAny_bind (firsts (Q := fun bs s' => wpAny (model prog w) A (pure (it[0]? :: bs)) Q E s') q (wpAny_pure h))))
/-- the kind of tuples, some of them empty -/
theorem kind_mix {us : List Value} {its : List (Array Value)} (t : TupsAre s.heap us its) (hne : us ≠ []) (he : ∃ it ∈ its, it[0]? = none) : ∃ κ, (κ = general' ∨ κ = oneType') ∧ ∀ (E : Value → Shared → Prop) (Q : SortKind → Shared → Prop), Q κ s → wpAny (model prog w) A (keyKind' us.toArray) Q E s := by
  have hall : ((its.map (·[0]?)).toArray.all fun x => x.isSome) = false := by
    obtain ⟨it, hi, e⟩ := he
    rw [List.all_toArray, List.all_eq_false]
    exact ⟨none, List.mem_map.mpr ⟨it, hi, e⟩, by simp⟩
  by_cases hf : (((its.map (·[0]?)).toArray[0]?).bind id).isSome = true
  · refine ⟨general', .inl rfl, fun E Q hq => ?_⟩
    rw [kat_kind_eq, List.mapM_toArray, map_eq_pure_bind]
    refine wpAny_bind (wpAny_bind (firsts t (wpAny_pure ?_)))
    rw [if_neg (by rw [hall]; exact Bool.false_ne_true), if_pos hf]
    exact wpAny_pure hq
  · refine ⟨oneType', .inr rfl, fun E Q hq => ?_⟩
    rw [kat_kind_eq, List.mapM_toArray, map_eq_pure_bind]
    refine wpAny_bind (wpAny_bind (firsts t (wpAny_pure ?_)))
    rw [if_neg (by rw [hall]; exact Bool.false_ne_true), if_neg hf]
    rw [oneTypeOnly'_eq, List.mapM_toArray, map_eq_pure_bind]
    refine wpAny_bind (wpAny_bind (wpAny_bind (kas_mapM (r := Value.type "tuple") _ (fun v hv Q' hq => ?_) (wpAny_pure ?_))))
    · obtain ⟨a, it, rfl, h⟩ := t.mem v hv
      exact (looks_tup h).here hq
    · obtain ⟨v, r, rfl⟩ : ∃ v r, us = v :: r := by
        cases us with
        | nil => exact absurd rfl hne
        | cons v r => exact ⟨v, r, rfl⟩
      have hall : ((List.map (fun _ => Value.type "tuple") (v :: r)).toArray.all fun x => x == Value.type "tuple") = true := by
        simp only [List.all_toArray, List.all_map, List.all_eq_true]
        intro _ _
        rfl
      have h0 : (List.map (fun _ => Value.type "tuple") (v :: r)).toArray[0]? = some (Value.type "tuple") := by simp
      rw [h0]
      simp only [hall, if_true]
      exact wpAny_pure (wpAny_pure hq)
/-- the kind of tuples, none of them empty, their first items tuples -/
theorem kind_full {us : List Value} {its : List (Array Value)} (t : TupsAre s.heap us its) (hne : us ≠ []) (he : ∀ it ∈ its, ∃ b jt, it[0]? = some (.ref b) ∧ s.heap.IsTuple b jt) (Q : SortKind → Shared → Prop) (hq : Q (tuples' false) s) : wpAny (model prog w) A (keyKind' us.toArray) Q E s := by
  obtain ⟨fs, h1, h2, h3⟩ : ∃ fs, KatTups s.heap us fs ∧ fs.length = us.length ∧ ∀ f ∈ fs, ∃ b jt, f = .ref b ∧ s.heap.IsTuple b jt := by
    clear hne hq
    induction t with
    | nil => exact ⟨[], .nil, rfl, fun f h => nomatch h⟩
    | cons p q ih =>
      obtain ⟨fs, a1, a2, a3⟩ := ih fun it hi => he it (List.mem_cons_of_mem _ hi)
      obtain ⟨b, jt, e1, e2⟩ := he _ List.mem_cons_self
      obtain ⟨o, ho, hc, n, hd⟩ := p
      refine ⟨.ref b :: fs, .cons ho hc hd e1 a1, by rw [List.length_cons, List.length_cons, a2], fun f hf => ?_⟩
      rcases List.mem_cons.mp hf with e | hf
      · exact ⟨b, jt, e, e2⟩
      · exact a3 f hf
  refine kat_kind (T := .type "tuple") h1 (by rw [h2]; exact List.length_pos_iff.mpr hne) (fun f hf => ?_) (by rfl) ?_
  · obtain ⟨b, jt, rfl, e⟩ := h3 f hf
    exact looks_tup e
  · have e : (Value.type "tuple" != Value.type "tuple") = false := by simp
    rw [e]
    exact hq
/-- tuple's own __lt__, as sorting calls it -/
theorem call_tuple_lt {Q : Value → Shared → Prop} {l b : Addr} {items items2 : Array Value} {e r : Nat → Bool} (hl : s.heap.IsTuple l items) (hb : s.heap.IsTuple b items2)
    (he : ∀ j (h1 : j < items.size) (h2 : j < items2.size), EqAt A.in1 s items[j] items2[j] (e j)) (hr : ∀ j (h1 : j < items.size) (h2 : j < items2.size), e j = false → RcLt A.in1 s items[j] items2[j] (r j))
    (h : Q (.bool (firstLt e r (decide (items.size < items2.size)) (List.range (min items.size items2.size)))) s) : wpAny (model prog w) A (call (.builtin "tuple.__lt__") [.ref l, .ref b]) Q E s := by
  obtain ⟨⟨cls, dd, data, sl⟩, ho, hc, n, hd⟩ := id hl
  obtain ⟨⟨cls2, dd2, data2, sl2⟩, ho2, hc2, n2, hd2⟩ := id hb
  simp only at hc hd hc2 hd2
  subst hc hd hc2 hd2
  exact call_meets F.slot_tuple_lt ⟨_, ho, rfl⟩ F.entry_tuple_lt (F.args_tuple_lt_2 _ _) (tuple_ltAt l b items items2 n n2 dd dd2 sl sl2 e r) ⟨ho, ho2, he, hr, h⟩
/-- two tuples of data compared, whatever the kind -/
theorem lt_kinds {κ : SortKind} (hκ : κ = general' ∨ κ = oneType' ∨ κ = tuples' false) {xs ys : List PyData} {a b : Value} {as bs : List Addr} {Q : Bool → Shared → Prop} (ra : Reads s.heap a (.tuple xs) as) (rb : Reads s.heap b (.tuple ys) bs) (h : alike (.tuple xs) (.tuple ys) = true)
    (hu : A.units + min (PyData.tuple xs).depth (PyData.tuple ys).depth < cLine) (hq : Q (dataLt (.tuple xs) (.tuple ys)) s) : wpAny (model prog w) A (keyLt' κ a b) Q E s := by
  have hal : alikeAll xs ys = true := by simpa [alike] using h
  rcases hκ with rfl | rfl | rfl
  · exact oneLt_alike (f := false) (fun h => nomatch h) ra rb h (fun h => nomatch h) hu hq
  · cases ra with
    | @tuple l o vs n _ as₁ h1 h2 h3 h4 =>
      cases rb with
      | @tuple l' o' vs' n' _ bs₁ k1 k2 k3 k4 =>
        have n1 : vs.size = xs.length := by simpa using ReadsAll.length _ _ _ h4
        have n2 : vs'.size = ys.length := by simpa using ReadsAll.length _ _ _ k4
        rw [dataLt_tuple, ← firstLt_toks xs ys hal, ← n1, ← n2] at hq
        rw [keyLt'_oneType, oneLt'_eq]
        simp only [if_true]
        refine wpAny_bind (wpAny_cRoomFor (room_here hu) ?_)
        refine wpAny_bind (wpAny_callSpecialIfBound?_slot (T := "tuple") ⟨_, h1, h2⟩ F.slot_tuple_lt (call_tuple_lt (e := pairEq xs ys) (r := fun j => dataLt (xs.getD j .none) (ys.getD j .none)) ⟨_, h1, h2, _, h3⟩ ⟨_, k1, k2, _, k3⟩ (fun j j1 j2 => ?_) (fun j j1 j2 hj => ?_) ?_))
        · have := eqAt_alikeAll xs ys A.in1 s vs.toList vs'.toList _ _ h4 k4 hal (room_in hu) j (by simpa using j1) (by simpa using j2)
          simpa using this
        · have := rcLt_alikeAll xs ys A.in1 s vs.toList vs'.toList _ _ h4 k4 hal (room_in hu) j (by simpa using j1) (by simpa using j2) hj
          simpa using this
        · exact wpAny_truthy_bool hq
  · cases ra with
    | @tuple l o vs n _ as₁ h1 h2 h3 h4 =>
      cases rb with
      | @tuple l' o' vs' n' _ bs₁ k1 k2 k3 k4 =>
        have n1 : vs.size = xs.length := by simpa using ReadsAll.length _ _ _ h4
        have n2 : vs'.size = ys.length := by simpa using ReadsAll.length _ _ _ k4
        rw [dataLt_tuple] at hq
        exact kat_lt h1 h3 k1 k3 (katLex_alike xs ys 0 _ _ _ _ h4 k4 hal (by have q := room_in hu; omega) (fun hb => nomatch hb) (by rw [n1, n2]) hq)
end
end L2.K3.Sd
set_option Elab.async false
set_option linter.all false
set_option maxRecDepth 100000
set_option maxHeartbeats 2000001
/-! K3L: sorted in the typed logic. -/
namespace L2.K3
open PySem PySem.Spec PyProof.Rows PySem.W PySem.SeqAt SrtO
/-! ## orders -/
structure STot {α : Type} (lt : α → α → Bool) : Prop where
  irr : ∀ x, lt x x = false
  tr : ∀ x y z, lt x y = true → lt y z = true → lt x z = true
  tri : ∀ x y, lt x y = true ∨ x = y ∨ lt y x = true
theorem STot.asym {α : Type} {lt : α → α → Bool} (h : STot lt) {x y : α} (q : lt x y = true) : lt y x = false := by
  cases e : lt y x with
  | false => rfl
  | true =>
    have := h.tr x y x q e
    rw [h.irr] at this
    cases this
theorem STot.anti {α : Type} {lt : α → α → Bool} (h : STot lt) {x y : α} (a : lt y x = false) (b : lt x y = false) : x = y := by
  rcases h.tri x y with q | q | q
  · rw [q] at b; cases b
  · exact q
  · rw [q] at a; cases a
theorem STot.swo {α : Type} {lt : α → α → Bool} (h : STot lt) : Swo lt := ⟨fun _ _ q => h.asym q, fun x y z a b => by
  cases e : lt z x with
  | false => rfl
  | true =>
    rcases h.tri x y with q | q | q
    · rw [h.tr z x y e q] at b; cases b
    · subst q; rw [e] at b; cases b
    · rw [q] at a; cases a⟩
theorem swo_on {α β : Type} {lt : β → β → Bool} (h : Swo lt) (f : α → β) : Swo fun x y => lt (f x) (f y) := ⟨fun _ _ q => h.asym _ _ q, fun _ _ _ a b => h.tr _ _ _ a b⟩
theorem stot_int : STot (fun x y : Int => decide (x < y)) := ⟨fun x => decide_eq_false (by omega), fun x y z a b => decide_eq_true (by have := of_decide_eq_true a; have := of_decide_eq_true b; omega), fun x y => by
  rcases Int.lt_trichotomy x y with q | q | q
  · exact .inl (decide_eq_true q)
  · exact .inr (.inl q)
  · exact .inr (.inr (decide_eq_true q))⟩
/-- lexicographic -/
def lexL {α : Type} [DecidableEq α] (lt : α → α → Bool) : List α → List α → Bool
  | [], [] => false
  | [], _ :: _ => true
  | _ :: _, [] => false
  | x :: xs, y :: ys => if x = y then lexL lt xs ys else lt x y
theorem lexL_irr {α : Type} [DecidableEq α] {lt : α → α → Bool} : ∀ xs : List α, lexL lt xs xs = false
  | [] => rfl
  | x :: xs => by unfold lexL; rw [if_pos rfl]; exact lexL_irr xs
theorem lexL_tr {α : Type} [DecidableEq α] {lt : α → α → Bool} (h : STot lt) : ∀ xs ys zs : List α, lexL lt xs ys = true → lexL lt ys zs = true → lexL lt xs zs = true
  | [], [], _, a, _ => by cases a
  | [], _ :: _, [], _, b => by cases b
  | [], _ :: _, _ :: _, _, _ => rfl
  | _ :: _, [], _, a, _ => by cases a
  | _ :: _, _ :: _, [], _, b => by cases b
  | x :: xs, y :: ys, z :: zs, a, b => by
    unfold lexL at a b ⊢
    by_cases e1 : x = y
    · subst e1
      rw [if_pos rfl] at a
      by_cases e2 : x = z
      · rw [if_pos e2] at b ⊢
        exact lexL_tr h xs ys zs a b
      · rw [if_neg e2] at b ⊢
        exact b
    · rw [if_neg e1] at a
      by_cases e2 : y = z
      · subst e2
        rw [if_neg e1]
        exact a
      · rw [if_neg e2] at b
        have q := h.tr _ _ _ a b
        have e3 : ¬ x = z := fun e => by subst e; rw [h.irr] at q; cases q
        rw [if_neg e3]
        exact q
theorem lexL_tri {α : Type} [DecidableEq α] {lt : α → α → Bool} (h : STot lt) : ∀ xs ys : List α, lexL lt xs ys = true ∨ xs = ys ∨ lexL lt ys xs = true
  | [], [] => .inr (.inl rfl)
  | [], _ :: _ => .inl rfl
  | _ :: _, [] => .inr (.inr rfl)
  | x :: xs, y :: ys => by
    unfold lexL
    by_cases e : x = y
    · subst e
      rw [if_pos rfl, if_pos rfl]
      rcases lexL_tri h xs ys with q | q | q
      · exact .inl q
      · exact .inr (.inl (by rw [q]))
      · exact .inr (.inr q)
    · rw [if_neg e, if_neg fun z => e z.symm]
      rcases h.tri x y with q | q | q
      · exact .inl q
      · exact absurd q e
      · exact .inr (.inr q)
theorem stot_lex {α : Type} [DecidableEq α] {lt : α → α → Bool} (h : STot lt) : STot (lexL lt) := ⟨lexL_irr, lexL_tr h, lexL_tri h⟩
def lexP {α β : Type} [DecidableEq α] (lt : α → α → Bool) (lt2 : β → β → Bool) (p q : α × β) : Bool := if p.1 = q.1 then lt2 p.2 q.2 else lt p.1 q.1
theorem stot_lexP {α β : Type} [DecidableEq α] {lt : α → α → Bool} {lt2 : β → β → Bool} (h : STot lt) (h2 : STot lt2) : STot (lexP lt lt2) := by
  refine ⟨fun x => by unfold lexP; rw [if_pos rfl]; exact h2.irr _, fun x y z a b => ?_, fun x y => ?_⟩
  · unfold lexP at a b ⊢
    by_cases e1 : x.1 = y.1
    · rw [if_pos e1] at a
      by_cases e2 : y.1 = z.1
      · rw [if_pos e2] at b
        rw [if_pos (e1.trans e2)]
        exact h2.tr _ _ _ a b
      · rw [if_neg e2] at b
        rw [if_neg (by rw [e1]; exact e2), e1]
        exact b
    · rw [if_neg e1] at a
      by_cases e2 : y.1 = z.1
      · rw [if_neg (by rw [← e2]; exact e1), ← e2]
        exact a
      · rw [if_neg e2] at b
        have q := h.tr _ _ _ a b
        rw [if_neg fun e => by rw [e, h.irr] at q; cases q]
        exact q
  · unfold lexP
    by_cases e : x.1 = y.1
    · rw [if_pos e, if_pos e.symm]
      rcases h2.tri x.2 y.2 with q | q | q
      · exact .inl q
      · exact .inr (.inl (Prod.ext e q))
      · exact .inr (.inr q)
    · rw [if_neg e, if_neg fun z => e z.symm]
      rcases h.tri x.1 y.1 with q | q | q
      · exact .inl q
      · exact absurd q e
      · exact .inr (.inr q)
def letLt : Letter → Letter → Bool := lexL fun x y : Int => decide (x < y)
def wordLt : Word → Word → Bool := lexL letLt
def arLt : Word × Word → Word × Word → Bool := lexP wordLt wordLt
theorem stot_word : STot wordLt := stot_lex (stot_lex stot_int)
theorem stot_ar : STot arLt := stot_lexP stot_word stot_word
/-- the list in order -/
def srt {α : Type} (lt : α → α → Bool) (xs : List α) : List α := xs.mergeSort fun a b => !lt b a
theorem srt_perm {α : Type} {lt : α → α → Bool} (xs : List α) : (srt lt xs).Perm xs := List.mergeSort_perm xs _
theorem srt_pw {α : Type} {lt : α → α → Bool} (h : Swo lt) (xs : List α) : (srt lt xs).Pairwise fun a b => lt b a = false := by
  have := List.pairwise_mergeSort (le := fun a b => !lt b a) (fun a b c h1 h2 => ?_) (fun a b => ?_) xs
  · exact this.imp fun q => by simpa using q
  · simp only [Bool.not_eq_true', Bool.not_eq_eq_eq_not, Bool.not_true] at h1 h2 ⊢
    exact h.tr _ _ _ h1 h2
  · cases e : lt b a with
    | false => rfl
    | true => rw [h.asym _ _ e] <;> rfl
theorem srt_uniq {α : Type} {lt : α → α → Bool} (h : Swo lt) {xs ys : List α} (an : ∀ a b, a ∈ xs → b ∈ xs → lt b a = false → lt a b = false → a = b) (p : ys.Perm xs) (s : ys.Pairwise fun a b => lt b a = false) : ys = srt lt xs :=
  List.Perm.eq_of_pairwise (le := fun a b => lt b a = false) (fun a b ha hb q r => an a b (p.mem_iff.mp ha) ((srt_perm xs).mem_iff.mp hb) q r) s (srt_pw h xs) (p.trans (srt_perm xs).symm)
/-! ## types that tell their values -/
def Fnc {α : Type} (T : Ty α) : Prop := ∀ {F : Hp} {v : V} {x y : α}, T.t F v x → T.t F v y → x = y
theorem fnc_int : Fnc tInt := fun h k => by cases h; cases k; rfl
theorem fnc_all {α : Type} {T : Ty α} (h : Fnc T) {F : Hp} : ∀ {vs : List V} {xs ys : List α}, Paired (T.t F) vs xs → Paired (T.t F) vs ys → xs = ys
  | _, _, _, .nil, .nil => rfl
  | _, _, _, .cons p q, .cons r s => by rw [h p r, fnc_all h q s]
theorem fnc_tup {α : Type} {T : Ty α} (h : Fnc T) : Fnc (tTup T) := fun ⟨a, vs, e, h1, h2⟩ ⟨b, ws, e', k1, k2⟩ => by
  subst e
  cases e'
  rw [h1] at k1
  cases k1
  exact fnc_all h h2 k2
theorem fnc_lst {α : Type} {T : Ty α} (h : Fnc T) : Fnc (tLst T) := fun ⟨a, vs, e, h1, h2⟩ ⟨b, ws, e', k1, k2⟩ => by
  subst e
  cases e'
  rw [h1] at k1
  cases k1
  exact fnc_all h h2 k2
theorem fnc_pr {α β : Type} {T : Ty α} {U : Ty β} (h : Fnc T) (k : Fnc U) : Fnc (tPr T U) := fun ⟨a, v1, v2, e, h1, h2, h3⟩ ⟨b, w1, w2, e', k1, k2, k3⟩ => by
  subst e
  cases e'
  rw [h1] at k1
  cases k1
  exact Prod.ext (h h2 k2) (k h3 k3)
theorem fnc_rat {C : Addr} : Fnc (tRat C) := fun {F v x y} ⟨a, dx, e, h1⟩ ⟨b, dy, e', k1⟩ => by
  subst e
  cases e'
  rw [h1] at k1
  have q := Option.some.inj k1
  injection q with _ _ q
  simp only [ratF, List.cons.injEq, Prod.mk.injEq, true_and, and_true] at q
  obtain ⟨q1, q2⟩ := q
  have e1 : x.num = y.num := V.int.inj q1
  have e2 : (x.den : Int) = y.den := V.int.inj q2
  exact Rat.ext e1 (by omega)
def SRef {α : Type} (T : Ty α) : Prop := ∀ {F : Hp} {v : V} {x : α}, T.t F v x → ∃ a, v = .ref a
theorem sref_tup {α : Type} {T : Ty α} : SRef (tTup T) := fun ⟨a, _, e, _⟩ => ⟨a, e⟩
theorem sref_pr {α β : Type} {T : Ty α} {U : Ty β} : SRef (tPr T U) := fun ⟨a, _, _, e, _⟩ => ⟨a, e⟩
open Classical in
noncomputable def dec {α : Type} [Inhabited α] (T : Ty α) (F : Hp) (u : Value) : α := if h : ∃ x a, u = .ref a ∧ T.t F (.ref a) x then h.choose else default
theorem dec_eq {α : Type} [Inhabited α] {T : Ty α} (fn : Fnc T) {F : Hp} {a : Addr} {x : α} (h : T.t F (.ref a) x) : dec T F (.ref a) = x := by
  have hh : ∃ x b, Value.ref a = .ref b ∧ T.t F (.ref b) x := ⟨x, a, rfl, h⟩
  unfold dec
  rw [dif_pos hh]
  obtain ⟨b, e, q⟩ := hh.choose_spec
  cases e
  exact fn q h
/-- the items of these types can be sorted -/
def SortT {α : Type} (T : Ty α) (lt : α → α → Bool) (xs : List α) : Prop := ∀ {P : Program} {w : World} {A : Around} {s : Shared} {H F : Hp} {vs : List V} {us : List Value}, A.units + 20 < cLine → HOk P w H s.heap → Ext F H → Paired (T.t F) vs xs → Vals vs us → us ≠ [] →
  ∃ κ, (∀ (E : Value → Shared → Prop) (Q : SortKind → Shared → Prop), Q κ s → wpAny (model P w) A (keyKind' us.toArray) Q E s) ∧
    ∀ (i j : Nat) u u' x x', us[i]? = some u → us[j]? = some u' → xs[i]? = some x → xs[j]? = some x' → ∀ (E : Value → Shared → Prop) (Q : Bool → Shared → Prop), Q (lt x x') s → wpAny (model P w) A (keyLt' κ u u') Q E s
section
variable {α : Type} {T : Ty α} {lt : α → α → Bool} {xs : List α} {F H : Hp}
theorem at_both : ∀ {vs : List V} {us : List Value} {xs : List α} {i : Nat} {u : Value}, Paired (T.t F) vs xs → Vals vs us → us[i]? = some u → ∃ v x, vs[i]? = some v ∧ xs[i]? = some x ∧ T.t F v x ∧ RelV v u
  | _, _, _, _, _, .nil, .nil, h => by simp at h
  | _, _, _, 0, u, .cons p q, .cons r s, h => by cases h; exact ⟨_, _, rfl, rfl, p, r⟩
  | _, _, _, i + 1, u, .cons p q, .cons r s, h => at_both (i := i) q s h
theorem dec_all [Inhabited α] (fn : Fnc T) (sr : SRef T) : ∀ {vs : List V} {us : List Value} {xs : List α}, Paired (T.t F) vs xs → Vals vs us → us.map (dec T F) = xs
  | _, _, _, .nil, .nil => rfl
  | _, _, _, .cons p q, .cons r s => by
    obtain ⟨a, rfl⟩ := sr p
    cases r
    rw [List.map_cons, dec_eq fn p, dec_all fn sr q s]
theorem sortable_typed [Inhabited α] {P : Program} {w : World} {A : Around} {s : Shared} {h0 : Heap} {a : Addr} {vs : List V} {us : List Value} (S : SortT T lt xs) (fn : Fnc T) (sr : SRef T) (hu : A.units + 20 < cLine) (ok : HOk P w H h0) (fe : Ext F H) (pv : Paired (T.t F) vs xs) (rv : Vals vs us) (hne : us ≠ [])
    (kk : ∀ b o, h0.get? b = some o → b ≠ a ∧ s.heap.get? b = some o) : SortableO P w A s a us fun u u' => lt (dec T F u) (dec T F u') := by
  intro h' keep
  have ok' : HOk P w H h' := ok.kept fun b u e => keep b u (kk b u e).1 (kk b u e).2
  obtain ⟨κ, h1, h2⟩ := S (s := { s with heap := h' }) hu ok' fe pv rv hne
  refine ⟨κ, fun Q E q => h1 E Q q, fun p q hp hq => ?_⟩
  obtain ⟨i, hi⟩ := List.getElem?_of_mem hp
  obtain ⟨j, hj⟩ := List.getElem?_of_mem hq
  obtain ⟨v, x, _, hx, tv, r⟩ := at_both pv rv hi
  obtain ⟨v', x', _, hx', tv', r'⟩ := at_both pv rv hj
  obtain ⟨b, rfl⟩ := sr tv
  obtain ⟨b', rfl⟩ := sr tv'
  have e1 : p.1 = .ref b := r
  have e2 : q.1 = .ref b' := r'
  refine h2 i j _ _ x x' hi hj hx hx' _ _ ⟨rfl, ?_⟩
  show lt x x' = lt (dec T F p.1) (dec T F q.1)
  rw [e1, e2, dec_eq fn tv, dec_eq fn tv']
def backV : Value → V
  | .ref a => .ref a
  | _ => .non
theorem sorted_back [Inhabited α] {vs : List V} {us out : List Value} (fn : Fnc T) (sr : SRef T) (pv : Paired (T.t F) vs xs) (rv : Vals vs us) (hs : Srtd (fun u u' => lt (dec T F u) (dec T F u')) out) (hb : out.Perm us) :
    ∃ vs' ys, Vals vs' out ∧ Paired (T.t F) vs' ys ∧ ys.Perm xs ∧ ys.Pairwise (fun a b => lt b a = false) ∧ vs'.length = vs.length := by
  have hm : ∀ u ∈ out, ∃ a x, u = .ref a ∧ T.t F (.ref a) x := fun u hu => by
    obtain ⟨i, hi⟩ := List.getElem?_of_mem (hb.mem_iff.mp hu)
    obtain ⟨v, x, _, hx, tv, r⟩ := at_both pv rv hi
    obtain ⟨b, rfl⟩ := sr tv
    exact ⟨b, x, r, tv⟩
  have key : ∀ l : List Value, (∀ u ∈ l, ∃ a x, u = .ref a ∧ T.t F (.ref a) x) → Vals (l.map backV) l ∧ Paired (T.t F) (l.map backV) (l.map (dec T F)) := fun l => by
    induction l with
    | nil => exact fun _ => ⟨.nil, .nil⟩
    | cons u l ih =>
      intro h
      obtain ⟨a, x, rfl, tx⟩ := h u List.mem_cons_self
      obtain ⟨i1, i2⟩ := ih fun z hz => h z (List.mem_cons_of_mem _ hz)
      exact ⟨.cons rfl i1, .cons (by rw [dec_eq fn tx]; exact tx) i2⟩
  obtain ⟨k1, k2⟩ := key out hm
  refine ⟨_, _, k1, k2, ?_, List.pairwise_map.mpr hs, ?_⟩
  · rw [← dec_all fn sr pv rv]
    exact hb.map _
  · rw [List.length_map, hb.length_eq, ← rv.length]
end
/-- sorted(list) -/
theorem cr_sortedT {α : Type} [Inhabited α] {T : Ty α} {lt : α → α → Bool} {X : Cx} {n : Nat} (hr : Room n X.A) (O : Swo lt) (fn : Fnc T) (sr : SRef T) : CallR X (.builtin "sorted") fun xs H Q => ∃ (a : Addr) (F : Hp) (vs : List V) (zs : List α), xs = [.ref a] ∧ Ext F H ∧ H a = some (.lst vs) ∧ Paired (T.t F) vs zs ∧ SortT T lt zs ∧
    ∀ p vs' ys, H p = none → Paired (T.t F) vs' ys → ys.Perm zs → ys.Pairwise (fun a b => lt b a = false) → vs'.length = vs.length → Q (.ref p) (upd H p (.lst vs')) := by
  intro pins s σ H xs us Q I r h
  obtain ⟨a, F, vs, zs, rfl, fe, ha, pv, S, q⟩ := h
  obtain ⟨u, rfl, ru⟩ := vals1 r
  cases ru
  obtain ⟨hz, its, cap, rv, ho⟩ := (show ObjOk X.prog X.w H s.heap a (.lst vs) from I.hok a _ ha)
  have hu : X.A.in1.in1.units + 20 < cLine := by
    have h : X.A.in1.in1.units = X.A.units + 2 := rfl
    have := hr.units
    omega
  refine sorted_ord (swo_on O (dec T F)) ⟨_, ho, rfl, cap, rfl⟩ (by rw [← rv.length]; exact hz) (fun h2 h₁ b hb kk => ?_) fun out hs hb => ?_
  · exact sortable_typed (s := { s with heap := h₁ }) S fn sr hu I.hok fe pv rv (fun e => by rw [e] at h2; simp at h2) kk
  · obtain ⟨vs', ys, h1, h2, h3, h4, h5⟩ := sorted_back fn sr pv rv hs hb.perm
    obtain ⟨e, he⟩ := sortedAll_at s.heap its out.toArray
    have hn : H (s.heap.objs.size + 1) = none := I.hok.fresh (Nat.le_succ _)
    refine ⟨.ref (s.heap.objs.size + 1), _, I.laid (t' := s.toks) (fun b o e => sortedAll_old e) (Nat.le_succ _) (show ObjOk X.prog X.w _ _ _ (.lst vs') from ⟨by rw [h5]; exact hz, out, e, h1, he⟩), rfl, q _ vs' ys hn h2 h3 h4 h5⟩
/-! ## words as data -/
def DatR {α D : Type} [DecidableEq D] [DatumOrd D] (T : Ty α) (dat : α → D) : Prop := ∀ {P : Program} {w : World} {H F : Hp} {h : Heap} {v : V} {u : Value} {x : α}, HOk P w H h → Ext F H → T.t F v x → RelV v u → Holds h u (dat x)
theorem datR_int : DatR tInt (fun x : Int => x) := fun ok e t r => by
  cases t
  obtain ⟨q, rfl⟩ := r
  exact holds_int _ _
theorem datR_all {α D : Type} [DecidableEq D] [DatumOrd D] {T : Ty α} {dat : α → D} (dr : DatR T dat) {P : Program} {w : World} {H F : Hp} {h : Heap} (ok : HOk P w H h) (e : Ext F H) : ∀ {vs : List V} {us : List Value} {xs : List α}, Paired (T.t F) vs xs → Vals vs us → HoldAll h us (xs.map dat)
  | _, _, _, .nil, .nil => HoldAll.nil
  | _, _, _, .cons p q, .cons r s => HoldAll.cons (dr ok e p r) (datR_all dr ok e q s)
theorem datR_tup {α D : Type} [DecidableEq D] [DatumOrd D] {T : Ty α} {dat : α → D} (dr : DatR T dat) : DatR (tTup T) (fun xs => Tup.mk (xs.map dat)) := fun ok e ⟨a, vs, e1, h1, h2⟩ r => by
  subst e1
  cases r
  obtain ⟨_, its, rv, o, ho, hc, n, hd⟩ := ok a _ (e _ _ h1)
  exact holds_tup (vs := its.toArray) ⟨o, ho, hc, n, hd⟩ (by simpa using datR_all dr ok e h2 rv)
theorem datR_pr {α β D D' : Type} [DecidableEq D] [DatumOrd D] [DecidableEq D'] [DatumOrd D'] {T : Ty α} {U : Ty β} {d1 : α → D} {d2 : β → D'} (dr : DatR T d1) (ds : DatR U d2) : DatR (tPr T U) (fun x => (d1 x.1, d2 x.2)) := fun ok e ⟨a, v1, v2, e1, h1, h2, h3⟩ r => by
  subst e1
  cases r
  obtain ⟨_, its, rv, o, ho, hc, n, hd⟩ := ok a _ (e _ _ h1)
  cases rv with
  | cons r1 rv =>
    cases rv with
    | cons r2 rv =>
      cases rv
      exact holds_pair ⟨o, ho, hc, n, hd⟩ (dr ok e h2 r1) (ds ok e h3 r2)
abbrev DW := Tup (Tup Int)
def wd (x : Word) : DW := ⟨x.map fun l => ⟨l.map fun i => i⟩⟩
def ad (x : Word × Word) : DW × DW := (wd x.1, wd x.2)
theorem datR_word : DatR tWord wd := datR_tup (datR_tup datR_int)
theorem datR_ar : DatR (tPr tWord tWord) ad := datR_pr datR_word datR_word
theorem wd_inj {x y : Word} (h : wd x = wd y) : x = y := by
  have h1 : (x.map fun l : Letter => (Tup.mk (l.map fun i => i) : Tup Int)) = y.map fun l : Letter => (Tup.mk (l.map fun i => i) : Tup Int) := congrArg Tup.items h
  refine map_inj (fun a b e => ?_) h1
  have h2 : (a.map fun i : Int => i) = b.map fun i => i := congrArg Tup.items e
  simpa using h2
theorem lex_eq {α : Type} [DecidableEq α] [DatumOrd α] {β : Type} [DecidableEq β] {f : β → α} {lt : β → β → Bool} (fi : ∀ x y, f x = f y → x = y) (hf : ∀ x y, DatumOrd.lt (f x) (f y) = lt x y) : ∀ xs ys : List β, listLt (xs.map f) (ys.map f) = lexL lt xs ys
  | [], [] => rfl
  | [], _ :: _ => rfl
  | _ :: _, [] => rfl
  | x :: xs, y :: ys => by
    rw [List.map_cons, List.map_cons]
    unfold listLt lexL
    by_cases e : x = y
    · rw [if_pos (by rw [e]), if_pos e]
      exact lex_eq fi hf xs ys
    · rw [if_neg fun z => e (fi _ _ z), if_neg e]
      exact hf x y
theorem wd_lt (x y : Word) : DatumOrd.lt (wd x) (wd y) = wordLt x y := by
  refine lex_eq (fun a b e => ?_) (fun a b => ?_) x y
  · have h2 : (a.map fun i : Int => i) = b.map fun i => i := congrArg Tup.items e
    simpa using h2
  · exact lex_eq (fun _ _ e => e) (fun _ _ => rfl) a b
theorem ad_lt (x y : Word × Word) : DatumOrd.lt (ad x) (ad y) = arLt x y := by
  show (if wd x.1 = wd y.1 then DatumOrd.lt (wd x.2) (wd y.2) else DatumOrd.lt (wd x.1) (wd y.1)) = lexP wordLt wordLt x y
  unfold lexP
  rw [wd_lt, wd_lt]
  by_cases e : x.1 = y.1
  · rw [if_pos (by rw [e]), if_pos e]
  · rw [if_neg fun z => e (wd_inj z), if_neg e]
section
variable {α D : Type} [DecidableEq D] [DatumOrd D] {T : Ty α} {dat : α → D} {F H : Hp}
theorem tups_of {P : Program} {w : World} {h : Heap} (dr : DatR T dat) (tp : ∀ x : D, ∃ ds, Datum.toD x = .tuple ds) (hd : ∀ (x : D) d r, Datum.toD x = .tuple (d :: r) → ∃ es, d = .tuple es) (ok : HOk P w H h) (e : Ext F H) : ∀ {vs : List V} {us : List Value} {xs : List α}, Paired (T.t F) vs xs → Vals vs us →
    ∃ its, Sd.TupsAre h us its ∧ ((∃ it ∈ its, it[0]? = none) ∨ ∀ it ∈ its, ∃ b jt, it[0]? = some (.ref b) ∧ h.IsTuple b jt)
  | _, _, _, .nil, .nil => ⟨[], .nil, .inr fun it h => nomatch h⟩
  | _, _, _, .cons (b := x) p q, .cons r s => by
    obtain ⟨its, t, c⟩ := tups_of dr tp hd ok e q s
    obtain ⟨as, rd⟩ := dr ok e p r
    obtain ⟨ds, hds⟩ := tp (dat x)
    have hh := hd (dat x)
    rw [hds] at rd hh
    cases rd with
    | @tuple l o vs n _ as₁ h1 h2 h3 h4 =>
      refine ⟨vs :: its, .cons ⟨o, h1, h2, n, h3⟩ t, ?_⟩
      cases ds with
      | nil =>
        left
        refine ⟨vs, List.mem_cons_self, ?_⟩
        have hz : vs.toList = [] := by
          generalize vs.toList = l at h4
          cases h4
          rfl
        rw [← Array.getElem?_toList, hz] <;> rfl
      | cons d ds =>
        obtain ⟨es, rfl⟩ := hh d ds rfl
        have q2 : ∃ b jt, vs[0]? = some (.ref b) ∧ h.IsTuple b jt := by
          rw [← Array.getElem?_toList]
          generalize vs.toList = l at h4
          cases h4 with
          | cons r1 r2 =>
            cases r1 with
            | @tuple l' o' vs' n' _ as₂ k1 k2 k3 k4 => exact ⟨l', vs', rfl, o', k1, k2, n', k3⟩
        rcases c with ⟨it, hi, hn⟩ | c
        · exact .inl ⟨it, List.mem_cons_of_mem _ hi, hn⟩
        · right
          intro it hi
          rcases List.mem_cons.mp hi with rfl | hi
          · exact q2
          · exact c it hi
theorem sortT_dat {xs : List α} (dr : DatR T dat) (tp : ∀ x : D, ∃ ds, Datum.toD x = .tuple ds) (hd : ∀ (x : D) d r, Datum.toD x = .tuple (d :: r) → ∃ es, d = .tuple es) (dep : Datum.depth D ≤ 10) : SortT T (fun x y => DatumOrd.lt (dat x) (dat y)) xs := by
  intro P w A s H F vs us hu ok fe pv rv hne
  obtain ⟨its, t, c⟩ := tups_of dr tp hd ok fe pv rv
  have cmp : ∀ κ, (κ = general' ∨ κ = oneType' ∨ κ = tuples' false) → ∀ (i j : Nat) u u' x x', us[i]? = some u → us[j]? = some u' → xs[i]? = some x → xs[j]? = some x' → ∀ (E : Value → Shared → Prop) (Q : Bool → Shared → Prop), Q (DatumOrd.lt (dat x) (dat x')) s → wpAny (model P w) A (keyLt' κ u u') Q E s := by
    intro κ hκ i j u u' x x' hi hj hx hx' E Q q
    obtain ⟨v, z, _, hz, tv, r⟩ := at_both pv rv hi
    obtain ⟨v', z', _, hz', tv', r'⟩ := at_both pv rv hj
    rw [hx] at hz
    cases hz
    rw [hx'] at hz'
    cases hz'
    obtain ⟨as, ra⟩ := dr ok fe tv r
    obtain ⟨bs, rb⟩ := dr ok fe tv' r'
    have hal := DatumOrd.alike (dat x) (dat x')
    have hlt := DatumOrd.lt_eq (dat x) (dat x')
    have hdep := Datum.depth_le (dat x)
    obtain ⟨ds, e1⟩ := tp (dat x)
    obtain ⟨ds', e2⟩ := tp (dat x')
    rw [e1] at ra hal hlt hdep
    rw [e2] at rb hal hlt
    refine Sd.lt_kinds hκ ra rb hal (by omega) ?_
    rw [hlt]
    exact q
  rcases c with c | c
  · obtain ⟨κ, h1, h2⟩ := Sd.kind_mix (prog := P) (w := w) (A := A) t hne c
    refine ⟨κ, h2, cmp κ ?_⟩
    rcases h1 with h1 | h1
    · exact .inl h1
    · exact .inr (.inl h1)
  · exact ⟨tuples' false, fun E Q q => Sd.kind_full t hne c Q q, cmp _ (.inr (.inr rfl))⟩
end
theorem toD_tup {D : Type} [DecidableEq D] [Datum D] (x : Tup D) : Datum.toD x = .tuple (x.items.map Datum.toD) := rfl
theorem sortT_word (xs : List Word) : SortT tWord wordLt xs := by
  have h : SortT tWord (fun x y => DatumOrd.lt (wd x) (wd y)) xs := sortT_dat (xs := xs) datR_word (fun x => ⟨_, toD_tup x⟩) (fun x d r e => by
    rw [toD_tup] at e
    have e' := PyData.tuple.inj e
    cases hx : x.items with
    | nil => rw [hx] at e'; simp at e'
    | cons y ys =>
      rw [hx, List.map_cons] at e'
      injection e' with e1 _
      exact ⟨_, e1.symm.trans (toD_tup y)⟩) (by decide)
  have e : (fun x y => DatumOrd.lt (wd x) (wd y)) = wordLt := by funext x y; exact wd_lt x y
  rw [e] at h
  exact @h
theorem sortT_ar (xs : List (Word × Word)) : SortT (tPr tWord tWord) arLt xs := by
  have h : SortT (tPr tWord tWord) (fun x y => DatumOrd.lt (ad x) (ad y)) xs := sortT_dat (xs := xs) datR_ar (fun x => ⟨[Datum.toD x.1, Datum.toD x.2], rfl⟩) (fun x d r e => by
    have e' : Datum.toD x.1 :: [Datum.toD x.2] = d :: r := PyData.tuple.inj e
    injection e' with e1 _
    exact ⟨_, e1.symm.trans (toD_tup x.1)⟩) (by decide)
  have e : (fun x y => DatumOrd.lt (ad x) (ad y)) = arLt := by funext x y; exact ad_lt x y
  rw [e] at h
  exact @h
/-- pairs led by words that differ -/
def hdLt {β : Type} (p q : Word × β) : Bool := wordLt p.1 q.1
theorem swo_hd {β : Type} : Swo (hdLt (β := β)) := swo_on stot_word.swo _
theorem sortT_hd {β : Type} {U : Ty β} {xs : List (Word × β)} (nd : (xs.map (·.1)).Nodup) : SortT (tPr tWord U) hdLt xs := by
  intro P w A s H F vs us hu ok fe pv rv hne
  have hp : ∀ (i : Nat) u, us[i]? = some u → ∃ a o n w1 w2 x, u = .ref a ∧ s.heap.get? a = some o ∧ o.cls = .type "tuple" ∧ o.data = .seq #[w1, w2] n ∧ xs[i]? = some x ∧ Holds s.heap w1 (wd x.1) := fun i u hi => by
    obtain ⟨v, x, _, hx, ⟨a, v1, v2, rfl, h1, h2, h3⟩, r⟩ := at_both pv rv hi
    cases r
    obtain ⟨_, its, rv2, o, ho, hc, n, hd⟩ := ok a _ (fe _ _ h1)
    cases rv2 with
    | cons r1 rv2 =>
      cases rv2 with
      | cons r2 rv2 =>
        cases rv2
        exact ⟨a, o, n, _, _, x, rfl, ho, hc, hd, hx, datR_word ok fe h2 r1⟩
  obtain ⟨its, t, ht⟩ : ∃ its, Sd.TupsAre s.heap us its ∧ ∀ it ∈ its, ∃ b jt, it[0]? = some (.ref b) ∧ s.heap.IsTuple b jt := by
    have : ∀ l : List Value, (∀ u ∈ l, ∃ a o n w1 w2 b jt, u = .ref a ∧ s.heap.get? a = some o ∧ o.cls = .type "tuple" ∧ o.data = .seq #[w1, w2] n ∧ w1 = .ref b ∧ s.heap.IsTuple b jt) → ∃ its, Sd.TupsAre s.heap l its ∧ ∀ it ∈ its, ∃ b jt, it[0]? = some (.ref b) ∧ s.heap.IsTuple b jt := by
      intro l
      induction l with
      | nil => exact fun _ => ⟨[], .nil, fun it h => nomatch h⟩
      | cons u l ih =>
        intro h
        obtain ⟨its, t, c⟩ := ih fun z hz => h z (List.mem_cons_of_mem _ hz)
        obtain ⟨a, o, n, w1, w2, b, jt, rfl, ho, hc, hd, rfl, hj⟩ := h u List.mem_cons_self
        refine ⟨#[.ref b, w2] :: its, .cons ⟨o, ho, hc, n, hd⟩ t, fun it hi => ?_⟩
        rcases List.mem_cons.mp hi with rfl | hi
        · exact ⟨b, jt, rfl, hj⟩
        · exact c it hi
    refine this us fun u hu' => ?_
    obtain ⟨i, hi⟩ := List.getElem?_of_mem hu'
    obtain ⟨a, o, n, w1, w2, x, rfl, ho, hc, hd, hx, hh⟩ := hp i u hi
    obtain ⟨l, vs', rfl, hl, _⟩ := tup_of_holds hh
    exact ⟨a, o, n, _, w2, l, vs', rfl, ho, hc, hd, rfl, hl⟩
  refine ⟨tuples' false, fun E Q q => Sd.kind_full t hne ht Q q, fun i j u u' x x' hi hj hx hx' E Q q => ?_⟩
  obtain ⟨a, o, n, w1, w2, z, rfl, ho, hc, hd, hz, hh⟩ := hp i u hi
  obtain ⟨a', o', n', w1', w2', z', rfl, ho', hc', hd', hz', hh'⟩ := hp j u' hj
  rw [hx] at hz
  cases hz
  rw [hx'] at hz'
  cases hz'
  refine kat_lt ho hd ho' hd' ?_
  show KatLex P w A false (decide (2 < 2)) Q [(w1, w1'), (w2, w2')] 0 s
  have hdp : Datum.depth DW ≤ 10 := by decide
  refine kat_cons (eqAt_datum hh hh' (by omega) P w _ _ ?_)
  refine kat_go (fun e => ?_) (fun e => ?_)
  · have ew : x.1 = x'.1 := wd_inj (of_decide_eq_true e)
    have hij : i = j := by
      have q1 : (xs.map (·.1))[i]? = some x.1 := by rw [List.getElem?_map, hx] <;> rfl
      have q2 : (xs.map (·.1))[j]? = some x.1 := by rw [List.getElem?_map, hx', ew] <;> rfl
      exact (List.getElem_inj nd).mp ((List.getElem?_eq_some_iff.mp q1).2.trans (List.getElem?_eq_some_iff.mp q2).2.symm)
    subst hij
    rw [hi] at hj
    cases hj
    rw [ho] at ho'
    cases ho'
    rw [hd] at hd'
    cases hd'
    have e2 : hdLt x x' = false := by unfold hdLt; rw [ew]; exact stot_word.irr _
    rw [e2] at q
    exact kat_yes (kat_cons (EqAt.same w2 P w _ _ (kat_go (fun _ => kat_yes (kat_nil q)) fun e => by cases e)))
  · refine kat_no (kat_one _ _ (lt_datum hh hh' (by omega) ?_))
    rw [wd_lt]
    exact q
section
variable {X : Cx} {Γ : Gam} {M : Mem} {a : Expr} {α : Type} {T : Ty α} {lt : α → α → Bool} {xs ys : List α} {pos p : Pos}
/-- sorted(a), a a list -/
theorem ev_sorted [Inhabited α] (hr : Room 0 X.A) (O : Swo lt) (fn : Fnc T) (sr : SRef T) (ha : Ev X Γ M a ((tLst T).is xs)) (S : SortT T lt xs) (hu : ∀ zs : List α, zs.Perm xs → zs.Pairwise (fun a b => lt b a = false) → zs = ys) (hm : X.mg "sorted" = none) (hg : Gl X "sorted" := by rfl)
    (he : starEach [a] X.env = (false, eval a X.env) :: starEach [] X.env := by rfl) (hpl : (backTo pos (starEach [] X.env)).any (·.1) = false := by rfl) : Ev X Γ M (.Call (.Name "sorted" p) [a] [] pos) ((tLst T).is ys) :=
  ev_callB (cr_sortedT (T := T) (lt := lt) hr O fn sr) (eva_one ha he) (cal1 fun F H v fh ce ⟨l, vs, e1, h1, h2⟩ Q k => ⟨l, F, vs, xs, by rw [e1], fh, fh _ _ h1, h2, S, fun z vs' zs hz tz hp hs hl => by
    have st := Stp.new (o := .lst vs') fh ce hz
    refine k _ _ _ st ⟨z, vs', rfl, upd_same, ?_⟩
    rw [← hu zs hp hs]
    exact paired_mono st.ff tz⟩) hg hm (by decide +kernel) (by decide) (by decide) he hpl
end
instance : Inhabited Rat := ⟨0⟩
section
variable {X : Cx} {Γ : Gam} {M : Mem} {a : Expr} {pos p : Pos}
theorem ev_sortW {xs : List Word} (hr : Room 0 X.A) (ha : Ev X Γ M a ((tLst tWord).is xs)) (hm : X.mg "sorted" = none) (hg : Gl X "sorted" := by rfl)
    (he : starEach [a] X.env = (false, eval a X.env) :: starEach [] X.env := by rfl) (hpl : (backTo pos (starEach [] X.env)).any (·.1) = false := by rfl) : Ev X Γ M (.Call (.Name "sorted" p) [a] [] pos) ((tLst tWord).is (srt wordLt xs)) :=
  ev_sorted hr stot_word.swo (fnc_tup (fnc_tup fnc_int)) sref_tup ha (sortT_word xs) (fun zs h1 h2 => srt_uniq stot_word.swo (fun a b _ _ q r => stot_word.anti q r) h1 h2) hm hg he hpl
theorem ev_sortA {xs : List (Word × Word)} (hr : Room 0 X.A) (ha : Ev X Γ M a ((tLst (tPr tWord tWord)).is xs)) (hm : X.mg "sorted" = none) (hg : Gl X "sorted" := by rfl)
    (he : starEach [a] X.env = (false, eval a X.env) :: starEach [] X.env := by rfl) (hpl : (backTo pos (starEach [] X.env)).any (·.1) = false := by rfl) : Ev X Γ M (.Call (.Name "sorted" p) [a] [] pos) ((tLst (tPr tWord tWord)).is (srt arLt xs)) :=
  ev_sorted hr stot_ar.swo (fnc_pr (fnc_tup (fnc_tup fnc_int)) (fnc_tup (fnc_tup fnc_int))) sref_pr ha (sortT_ar xs) (fun zs h1 h2 => srt_uniq stot_ar.swo (fun a b _ _ q r => stot_ar.anti q r) h1 h2) hm hg he hpl
theorem hd_anti {β : Type} {xs : List (Word × β)} (nd : (xs.map (·.1)).Nodup) : ∀ a b, a ∈ xs → b ∈ xs → hdLt b a = false → hdLt a b = false → a = b := fun a b ha hb q r => by
  have e : a.1 = b.1 := stot_word.anti q r
  obtain ⟨i, hi⟩ := List.getElem?_of_mem ha
  obtain ⟨j, hj⟩ := List.getElem?_of_mem hb
  have q1 : (xs.map (·.1))[i]? = some a.1 := by rw [List.getElem?_map, hi] <;> rfl
  have q2 : (xs.map (·.1))[j]? = some a.1 := by rw [List.getElem?_map, hj, e] <;> rfl
  have : i = j := (List.getElem_inj nd).mp ((List.getElem?_eq_some_iff.mp q1).2.trans (List.getElem?_eq_some_iff.mp q2).2.symm)
  subst this
  rw [hi] at hj
  exact Option.some.inj hj
theorem ev_sortH {β : Type} [Inhabited β] {U : Ty β} {xs : List (Word × β)} (hr : Room 0 X.A) (fu : Fnc U) (nd : (xs.map (·.1)).Nodup) (ha : Ev X Γ M a ((tLst (tPr tWord U)).is xs)) (hm : X.mg "sorted" = none) (hg : Gl X "sorted" := by rfl)
    (he : starEach [a] X.env = (false, eval a X.env) :: starEach [] X.env := by rfl) (hpl : (backTo pos (starEach [] X.env)).any (·.1) = false := by rfl) : Ev X Γ M (.Call (.Name "sorted" p) [a] [] pos) ((tLst (tPr tWord U)).is (srt hdLt xs)) :=
  ev_sorted hr swo_hd (fnc_pr (fnc_tup (fnc_tup fnc_int)) fu) sref_pr ha (sortT_hd nd) (fun zs h1 h2 => srt_uniq swo_hd (hd_anti nd) h1 h2) hm hg he hpl
end
end L2.K3
set_option Elab.async false
set_option linter.all false
set_option maxRecDepth 100000
set_option maxHeartbeats 2000001
/-! K3M: dicts listed, sorted; the least. -/
namespace L2.K3
open PySem PySem.Spec PyProof.Rows PySem.W PySem.SeqAt SrtO
/-! ## what is collected of a dict -/
section
variable {α β : Type} {K : KTy α} {U : Ty β} {F H : Hp} {kvs : List (α × β)} {xs : List (NestedKey × Addr × Value)}
def keyVs (xs : List (NestedKey × Addr × Value)) : List V := xs.map fun x => .ref x.2.1
theorem keyVs_typed : ∀ {xs : List (NestedKey × Addr × Value)} {kvs : List (α × β)}, DPs K U F xs kvs → Paired (K.T.t F) (keyVs xs) (kvs.map (·.1))
  | _, _, .nil => .nil
  | _, _, .cons ⟨_, p, _⟩ q => .cons p (keyVs_typed q)
theorem keys_of {w : World} {es : Array DictEntry} {xs : List (NestedKey × Addr × Value)} (hes : es.toList = xs.map (entK w)) {acc : Array Value} (h : ItemsOf (fun i v => ∃ hi : i < es.size, v = es[i].key) acc es.size) : Vals (keyVs xs) acc.toList := by
  have hl : xs.length = es.size := by rw [← Array.length_toList, hes, List.length_map]
  have e : acc.toList = xs.map fun x => Value.ref x.2.1 := by
    apply List.ext_getElem?
    intro i
    rw [Array.getElem?_toList]
    by_cases hi : i < es.size
    · have h1 : i < acc.size := by rw [h.1]; exact hi
      obtain ⟨_, h2⟩ := h.2 i acc[i] (Array.getElem?_eq_getElem h1)
      have h3 : es.toList[i]? = some es[i] := by rw [Array.getElem?_toList]; exact Array.getElem?_eq_getElem hi
      rw [hes, List.getElem?_map, List.getElem?_eq_getElem (by omega)] at h3
      have h4 : entK w xs[i] = es[i] := Option.some.inj h3
      rw [Array.getElem?_eq_getElem h1, h2, ← h4, List.getElem?_map, List.getElem?_eq_getElem (by omega)] <;> rfl
    · rw [Array.getElem?_eq_none (by rw [h.1]; omega), List.getElem?_eq_none (by rw [List.length_map]; omega)]
  rw [e]
  unfold keyVs
  clear e h hes hl
  induction xs with
  | nil => exact .nil
  | cons x xs ih => exact .cons rfl ih
end
section
variable {X : Cx} {α β : Type} {K : KTy α} {U : Ty β}
/-- a known dict -/
structure RawD (X : Cx) (h : Heap) (a : Addr) (xs : List (NestedKey × Addr × Value)) (es : Array DictEntry) (ep : Nat) : Prop where
  sys : (a == sysModules) = false
  raw : h.DictRaw a es ep
  ents : es.toList = xs.map (entK X.w)
  len : es.size = xs.length
theorem raw_of {pins : List (Addr × Obj)} {σ : St} {H : Hp} {s : Shared} {a : Addr} {ob : Obj} {xs : List (NestedKey × Addr × Value)} (I : Inv X pins σ H s) (e : H a = some (DicO a ob)) (io : IsDob X.w ob xs) : ∃ es ep, RawD X s.heap a xs es ep := by
  obtain ⟨h1, ⟨es, ep, h2, h3⟩, _⟩ := io
  obtain ⟨hs, hg⟩ := dic_obj I.hok e
  exact ⟨es, ep, hs, ⟨ob, hg, h1, h2⟩, h3, by rw [← Array.length_toList, h3, List.length_map]⟩
/-- list(d) -/
theorem cr_listD (hc : X.calm = true) : CallR X (.type "list") fun zs H Q => ∃ (a : Addr) (ob : Obj) (xs : List (NestedKey × Addr × Value)), zs = [.ref a] ∧ H a = some (DicO a ob) ∧ IsDob X.w ob xs ∧ xs.length ≤ 1000000 ∧ ∀ l, H l = none → Q (.ref l) (upd H l (.lst (keyVs xs))) := by
  intro pins s σ H zs us Q I r h
  obtain ⟨a, ob, xs, rfl, ha, io, hl, q⟩ := h
  obtain ⟨u, rfl, ru⟩ := vals1 r
  cases ru
  obtain ⟨es, ep, R⟩ := raw_of I ha io
  have hlen := R.len
  refine kdl_call (KdlSrc.rawDict R.sys) (I.ok.hd hc) R.raw (by rw [sizeLine_eq]; omega) fun h' tk acc c hk hS hacc => ?_
  have hn := I.hok.fresh (Nat.le_refl s.heap.objs.size)
  refine ⟨.ref s.heap.objs.size, _, I.laid (t' := tk) hk (Nat.le_refl _) (show ObjOk X.prog X.w _ h' _ (.lst (keyVs xs)) from ⟨by unfold keyVs; rw [List.length_map, sizeLine_eq]; omega, acc.toList, c, keys_of R.ents hacc, by simpa using hS⟩), rfl, q _ hn⟩
end
section
variable {X : Cx} {Γ : Gam} {M : Mem} {a d : Expr} {α β : Type} {K : KTy α} {U : Ty β} {kvs : List (α × β)} {pos p : Pos}
theorem ev_listD (hd : Ev X Γ M a ((tDic X.w K U).is kvs)) (hm : X.mg "list" = none) (hc : X.calm = true := by rfl) (hg : Gl X "list" := by rfl) (he : starEach [a] X.env = (false, eval a X.env) :: starEach [] X.env := by rfl) (hpl : (backTo pos (starEach [] X.env)).any (·.1) = false := by rfl) :
    Ev X Γ M (.Call (.Name "list" p) [a] [] pos) ((tLst K.T).is (kvs.map (·.1))) :=
  ev_callTy (cr_listD hc) (eva_one hd he) (cal1 fun F H v fh ce ⟨l, o, e1, h1, ob, xs, e2, io, dp, hl⟩ Q k => ⟨l, ob, xs, by rw [e1], by rw [← e2]; exact fh _ _ h1, io, by rw [show xs.length = kvs.length from Paired.length dp]; exact hl, fun z hz => by
    have st := Stp.new (o := .lst (keyVs xs)) fh ce hz
    exact k _ _ _ st ⟨z, _, rfl, upd_same, paired_mono st.ff (keyVs_typed dp)⟩⟩) hg hm (by decide +kernel) (by decide) (by decide) he hpl
end
/-! ## sorted(d) -/
section
variable {prog : Program} {w : World} {A : Around} {E : Value → Shared → Prop} {s : Shared}
theorem sorted_src {T : String} {r d : Addr} {n : Nat} {P : Nat → Value → Prop} {OK : Heap → Prop} {Q : Value → Shared → Prop} (K : KdlSrc prog w T r d n P OK) (hh : A.handled = none) (hok : OK s.heap) (hn : n ≤ sizeLine)
    (h : ∀ (h' : Heap) (tk : Nat) (acc : Array Value), (∀ b o, s.heap.get? b = some o → h'.get? b = some o) → ItemsOf P acc n → wpAny (model prog w) A.in1 (call (.builtin "list.sort") [.ref h'.objs.size]) (fun _ s' => Q (.ref h'.objs.size) s') E { s with heap := h'.push { cls := .type "list", data := .seq acc.toList.toArray }, toks := tk }) :
    wpAny (model prog w) A (call (.builtin "sorted") [.ref r]) Q E s := by
  refine PySem.Calls.call_function_entry kind_sorted plain_sorted entry_sorted (args_sorted1 _) ?_
  unfold Builtin.«sorted»
  refine wpAny_bind (m := checkCount "sorted" 1 1 _) (wpAny_pure ?_)
  refine wpAny_bind (kdu_collect (A := A.in1) K hh hok hn fun h' tk acc hk hacc => ?_)
  refine wpAny_bind (wpAny_newList ?_ (by rw [Array.length_toList, hacc.1]; exact hn))
  exact wpAny_bind (wpAny_holding (wpAny_mono (h h' tk acc hk hacc) (fun _ s' x => wpAny_pure ⟨_, rfl, x⟩) fun _ _ e => e))
end
/-- the list that sorted makes, sorted: by a state that holds at h' -/
theorem sort_fresh {α : Type} [Inhabited α] {T : Ty α} {lt : α → α → Bool} {X : Cx} {n : Nat} (hr : Room n X.A) (O : Swo lt) (fn : Fnc T) (sr : SRef T) {pins : List (Addr × Obj)} {σ : St} {H F : Hp} {s : Shared} {vs : List V} {us : List Value} {zs : List α} {Q : Value → Shared → Prop} (I : Inv X pins σ H s) (fe : Ext F H) (pv : Paired (T.t F) vs zs) (rv : Vals vs us) (S : SortT T lt zs) (hz : vs.length ≤ sizeLine)
    (q : ∀ s' vs' ys, Inv X pins σ (upd H s.heap.objs.size (.lst vs')) s' → Paired (T.t F) vs' ys → ys.Perm zs → ys.Pairwise (fun a b => lt b a = false) → vs'.length = vs.length → Q (.ref s.heap.objs.size) s') :
    wpAny (model X.prog X.w) X.A.in1 (call (.builtin "list.sort") [.ref s.heap.objs.size]) (fun _ s' => Q (.ref s.heap.objs.size) s') X.xe { s with heap := s.heap.push { cls := .type "list", data := .seq us.toArray } } := by
  have hoL : (s.heap.push { cls := .type "list", data := .seq us.toArray }).get? s.heap.objs.size = some (seqObj "list" us.toArray 0) := Heap.get?_push_size _ rfl
  have hu : X.A.in1.in1.units + 20 < cLine := by
    have h : X.A.in1.in1.units = X.A.units + 2 := rfl
    have := hr.units
    omega
  have keep : ∀ b o, s.heap.get? b = some o → b ≠ s.heap.objs.size ∧ (s.heap.push { cls := .type "list", data := .seq us.toArray }).get? b = some o := fun b o e => ⟨Nat.ne_of_lt (Heap.lt_size e), Heap.get?_push_of_some _ e⟩
  refine wpAny_call_entry slot_list_sort ⟨_, hoL, rfl⟩ entry_list_sort (list_sort_ord (s := { s with heap := s.heap.push { cls := .type "list", data := .seq us.toArray } }) (swo_on O (dec T F)) hoL (by rw [← rv.length]; exact hz) (fun h2 => ?_) fun out hs hb => ⟨_, rfl, ?_⟩) (args_list_sort _)
  · exact sortable_typed (s := { s with heap := s.heap.push { cls := .type "list", data := .seq us.toArray } }) S fn sr hu I.hok fe pv rv (fun e => by rw [e] at h2; simp at h2) keep
  · obtain ⟨vs', ys, h1, h2, h3, h4, h5⟩ := sorted_back fn sr pv rv hs hb.perm
    obtain ⟨e, he⟩ := sortedHeap_at (vs := us) (out := out.toArray) hoL
    refine q _ vs' ys ?_ h2 h3 h4 h5
    refine I.laid (t' := s.toks) (fun b o eb => ?_) (Nat.le_refl _) (show ObjOk X.prog X.w _ _ _ (.lst vs') from ⟨by rw [h5]; exact hz, out, e, h1, he⟩)
    obtain ⟨k1, k2⟩ := keep b o eb
    exact sortedHeap_old k1 (Heap.lt_size k2) |>.trans k2
/-- sorted(d) -/
theorem cr_sortedD {α β : Type} [Inhabited α] {K : KTy α} {U : Ty β} {lt : α → α → Bool} {X : Cx} {n : Nat} (hc : X.calm = true) (hr : Room n X.A) (O : Swo lt) (fn : Fnc K.T) (sr : SRef K.T) : CallR X (.builtin "sorted") fun zs H Q => ∃ (a : Addr) (F : Hp) (ob : Obj) (xs : List (NestedKey × Addr × Value)) (kvs : List (α × β)), zs = [.ref a] ∧ Ext F H ∧ H a = some (DicO a ob) ∧ IsDob X.w ob xs ∧ DPs K U F xs kvs ∧ xs.length ≤ 1000000 ∧ SortT K.T lt (kvs.map (·.1)) ∧
    ∀ p vs' ys, H p = none → Paired (K.T.t F) vs' ys → ys.Perm (kvs.map (·.1)) → ys.Pairwise (fun a b => lt b a = false) → Q (.ref p) (upd H p (.lst vs')) := by
  intro pins s σ H zs us Q I r h
  obtain ⟨a, F, ob, xs, kvs, rfl, fe, ha, io, dp, hl, S, q⟩ := h
  obtain ⟨u, rfl, ru⟩ := vals1 r
  cases ru
  obtain ⟨es, ep, R⟩ := raw_of I ha io
  have hlen := R.len
  have hk2 : (keyVs xs).length = xs.length := by unfold keyVs; rw [List.length_map]
  refine sorted_src (KdlSrc.rawDict R.sys) (I.ok.hd hc) R.raw (by rw [sizeLine_eq]; omega) fun h' tk acc hk hacc => ?_
  have I1 : Inv X pins σ H { s with heap := h', toks := tk } := I.kept hk
  refine sort_fresh (s := { s with heap := h', toks := tk }) hr O fn sr I1 fe (keyVs_typed dp) (keys_of R.ents hacc) S (by rw [hk2, sizeLine_eq]; omega) fun s' vs' ys I2 h1 h2 h3 h4 => ?_
  exact ⟨.ref h'.objs.size, _, I2, rfl, q _ vs' ys (I1.hok.fresh (Nat.le_refl _)) h1 h2 h3⟩
section
variable {X : Cx} {Γ : Gam} {M : Mem} {a d : Expr} {α β : Type} {K : KTy α} {U : Ty β} {kvs : List (α × β)} {pos p : Pos} {lt : α → α → Bool} {ys : List α}
theorem ev_sortedD [Inhabited α] (hr : Room 0 X.A) (O : Swo lt) (fn : Fnc K.T) (sr : SRef K.T) (ha : Ev X Γ M a ((tDic X.w K U).is kvs)) (S : SortT K.T lt (kvs.map (·.1))) (hu : ∀ zs : List α, zs.Perm (kvs.map (·.1)) → zs.Pairwise (fun a b => lt b a = false) → zs = ys) (hm : X.mg "sorted" = none) (hc : X.calm = true := by rfl) (hg : Gl X "sorted" := by rfl)
    (he : starEach [a] X.env = (false, eval a X.env) :: starEach [] X.env := by rfl) (hpl : (backTo pos (starEach [] X.env)).any (·.1) = false := by rfl) : Ev X Γ M (.Call (.Name "sorted" p) [a] [] pos) ((tLst K.T).is ys) :=
  ev_callB (cr_sortedD (K := K) (U := U) (lt := lt) hc hr O fn sr) (eva_one ha he) (cal1 fun F H v fh ce ⟨l, o, e1, h1, ob, xs, e2, io, dp, hl⟩ Q k => ⟨l, F, ob, xs, kvs, by rw [e1], fh, by rw [← e2]; exact fh _ _ h1, io, dp, by rw [show xs.length = kvs.length from Paired.length dp]; exact hl, S, fun z vs' zs hz tz hp hs => by
    have st := Stp.new (o := .lst vs') fh ce hz
    refine k _ _ _ st ⟨z, vs', rfl, upd_same, ?_⟩
    rw [← hu zs hp hs]
    exact paired_mono st.ff tz⟩) hg hm (by decide +kernel) (by decide) (by decide) he hpl
end
section
variable {X : Cx} {Γ : Gam} {M : Mem} {a : Expr} {β : Type} {U : Ty β} {pos p : Pos}
theorem ev_sortDW {kvs : List (Word × β)} (hr : Room 0 X.A) (ha : Ev X Γ M a ((tDic X.w wordK U).is kvs)) (hm : X.mg "sorted" = none) (hc : X.calm = true := by rfl) (hg : Gl X "sorted" := by rfl)
    (he : starEach [a] X.env = (false, eval a X.env) :: starEach [] X.env := by rfl) (hpl : (backTo pos (starEach [] X.env)).any (·.1) = false := by rfl) : Ev X Γ M (.Call (.Name "sorted" p) [a] [] pos) ((tLst tWord).is (srt wordLt (kvs.map (·.1)))) :=
  ev_sortedD hr stot_word.swo (fnc_tup (fnc_tup fnc_int)) sref_tup ha (sortT_word _) (fun zs h1 h2 => srt_uniq stot_word.swo (fun a b _ _ q r => stot_word.anti q r) h1 h2) hm hc hg he hpl
theorem ev_sortDA {kvs : List ((Word × Word) × β)} (hr : Room 0 X.A) (ha : Ev X Γ M a ((tDic X.w aroundK U).is kvs)) (hm : X.mg "sorted" = none) (hc : X.calm = true := by rfl) (hg : Gl X "sorted" := by rfl)
    (he : starEach [a] X.env = (false, eval a X.env) :: starEach [] X.env := by rfl) (hpl : (backTo pos (starEach [] X.env)).any (·.1) = false := by rfl) : Ev X Γ M (.Call (.Name "sorted" p) [a] [] pos) ((tLst (tPr tWord tWord)).is (srt arLt (kvs.map (·.1)))) :=
  ev_sortedD hr stot_ar.swo (fnc_pr (fnc_tup (fnc_tup fnc_int)) (fnc_tup (fnc_tup fnc_int))) sref_pr ha (sortT_ar _) (fun zs h1 h2 => srt_uniq stot_ar.swo (fun a b _ _ q r => stot_ar.anti q r) h1 h2) hm hc hg he hpl
end
end L2.K3
set_option Elab.async false
set_option linter.all false
set_option maxRecDepth 100000
set_option maxHeartbeats 2000001
/-! K3N: the least word; dict of pairs; items. -/
namespace L2.K3
open PySem PySem.Spec PyProof.Rows PySem.W PySem.SeqAt SrtO
def minW : List Word → Word
  | [] => []
  | x :: xs => xs.foldl (fun a y => if wordLt y a = true then y else a) x
section
variable {prog : Program} {w : World} {A : Around}
theorem cmpIn_words {h0 : Heap} {us : List Value} {zs : List Word} (H : HoldAll h0 us (zs.map wd)) (hu : A.units + 10 < cLine) : CmpIn prog w A .Lt h0 (fun i v => us[i]? = some v) (fun i j => wordLt (zs.getD i []) (zs.getD j [])) := fun i j vi vj s' Q E hk hi hj hq => by
  have get : ∀ (k : Nat) v, us[k]? = some v → Holds h0 v (wd (zs.getD k [])) := fun k v hv => by
    obtain ⟨x, hx, hh⟩ := H.at hv
    rw [List.getElem?_map] at hx
    obtain ⟨z, hz, rfl⟩ := Option.map_eq_some_iff.mp hx
    rw [List.getD_eq_getElem?_getD, hz]
    exact hh
  have hd : Datum.depth DW ≤ 10 := by decide
  refine (show wpAny (model prog w) A (compareOp .Lt vi vj) Q E s' from lt_datum ((get i vi hi).keeps hk) ((get j vj hj).keeps hk) (by omega) ?_)
  rw [wd_lt]
  exact hq
theorem best_min (x : Word) (xs : List Word) : (x :: xs).getD (argBest (fun i j => wordLt ((x :: xs).getD i []) ((x :: xs).getD j [])) xs.length) [] = minW (x :: xs) := by
  have e2 := (argBest_fold wordLt ([] : Word) x xs xs.length (Nat.le_refl _)).2
  rw [List.take_length] at e2
  exact e2
theorem best_lt (x : Word) (xs : List Word) : argBest (fun i j => wordLt ((x :: xs).getD i []) ((x :: xs).getD j [])) xs.length < (x :: xs).length := by
  have e2 := (argBest_fold wordLt ([] : Word) x xs xs.length (Nat.le_refl _)).1
  rw [List.length_cons]
  omega
end
section
variable {X : Cx} {β : Type} {U : Ty β}
theorem cr_minL {n : Nat} (hc : X.calm = true) (hr : Room n X.A) : CallR X (.builtin "min") fun zs H Q => ∃ (a : Addr) (F : Hp) (vs : List V) (x : Word) (xs : List Word), zs = [.ref a] ∧ Ext F H ∧ H a = some (.lst vs) ∧ Paired (tWord.t F) vs (x :: xs) ∧ ∀ v, tWord.t F v (minW (x :: xs)) → Q v H := by
  intro pins s σ H zs us Q I r h
  obtain ⟨a, F, vs, x, xs, rfl, fe, ha, pv, q⟩ := h
  obtain ⟨u, rfl, ru⟩ := vals1 r
  cases ru
  obtain ⟨hz, its, cap, rv, ho⟩ := (show ObjOk X.prog X.w H s.heap a (.lst vs) from I.hok a _ ha)
  have hol : HoldAll s.heap its ((x :: xs).map wd) := datR_all datR_word I.hok fe pv rv
  have hn : its.toArray.size = xs.length + 1 := by
    have h1 := Paired.length pv
    have h2 := rv.length
    rw [List.size_toArray, ← h2, h1, List.length_cons]
  have hu : X.A.in1.units + 10 < cLine := by
    have h : X.A.in1.units = X.A.units + 1 := rfl
    have := hr.units
    omega
  refine call_min_walkH (iter_listW (A := X.A.in1) (vs := its.toArray) (I.ok.hd hc) ⟨_, ho, rfl, cap, rfl⟩ fun s₂ e W st hfp hw hk => ?_)
  refine ⟨_, _, _, _, _, _, _, s.heap, (fun i j => wordLt ((x :: xs).getD i []) ((x :: xs).getD j [])), rfl, W, st, hfp, by omega, hw, hk, ?_, fun v s' hP m => ?_⟩
  · have c := cmpIn_words (prog := X.prog) (w := X.w) (A := X.A.in1) hol hu
    simpa using c
  · obtain ⟨h', tk, rfl, hk'⟩ := moved_old e rfl m
    have e1 : its.toArray.size - 1 = xs.length := by omega
    rw [e1] at hP
    have hP' : its[argBest (fun i j => wordLt ((x :: xs).getD i []) ((x :: xs).getD j [])) xs.length]? = some v := by simpa using hP
    obtain ⟨vv, z, _, hz', tv, rr⟩ := at_both pv rv hP'
    have ez : z = minW (x :: xs) := by
      rw [← best_min, List.getD_eq_getElem?_getD, hz'] <;> rfl
    subst ez
    exact ⟨vv, H, I.kept (t' := tk) hk', rr, q vv tv⟩
theorem keyVs_refs : ∀ es : List (NestedKey × Addr × Value), Vals (keyVs es) (es.map fun x => Value.ref x.2.1)
  | [] => .nil
  | _ :: l => .cons rfl (keyVs_refs l)
/-- min(d) -/
theorem cr_minD {n : Nat} (hc : X.calm = true) (hr : Room n X.A) : CallR X (.builtin "min") fun zs H Q => ∃ (a : Addr) (F : Hp) (ob : Obj) (es : List (NestedKey × Addr × Value)) (kvs : List (Word × β)), zs = [.ref a] ∧ Ext F H ∧ H a = some (DicO a ob) ∧ IsDob X.w ob es ∧ DPs wordK U F es kvs ∧ kvs ≠ [] ∧ ∀ v, tWord.t F v (minW (kvs.map (·.1))) → Q v H := by
  intro pins s σ H zs us Q I r h
  obtain ⟨a, F, ob, es, kvs, rfl, fe, ha, io, dp, hne, q⟩ := h
  obtain ⟨u, rfl, ru⟩ := vals1 r
  cases ru
  obtain ⟨en, ep, R⟩ := raw_of I ha io
  have pv := keyVs_typed dp
  obtain ⟨x, xs, hxs⟩ : ∃ x xs, kvs.map (·.1) = x :: xs := by
    cases kvs with
    | nil => exact absurd rfl hne
    | cons p l => exact ⟨_, _, rfl⟩
  rw [hxs] at pv q
  have rv : Vals (keyVs es) (es.map fun x => Value.ref x.2.1) := keyVs_refs es
  have hol : HoldAll s.heap (es.map fun x => Value.ref x.2.1) ((x :: xs).map wd) := datR_all datR_word I.hok fe pv rv
  have hn : en.size = xs.length + 1 := by
    have h1 := Paired.length pv
    unfold keyVs at h1
    rw [List.length_map, List.length_cons] at h1
    rw [R.len, h1]
  have hu : X.A.in1.units + 10 < cLine := by
    have h : X.A.in1.units = X.A.units + 1 := rfl
    have := hr.units
    omega
  have hlt : a < s.heap.objs.size := R.raw.lt_size
  have W := (Walks.rawKeys (prog := X.prog) (w := X.w) (A := X.A.in1) (I.ok.hd hc) s.heap.objs.size a (Nat.ne_of_lt hlt) en ep).toS
  have hP0 : ∀ i v, (∃ hi : i < en.size, v = en[i].key) → (es.map fun x => Value.ref x.2.1)[i]? = some v := fun i v ⟨hi, e⟩ => by
    have h1 : en.toList[i]? = some en[i] := by rw [Array.getElem?_toList]; exact Array.getElem?_eq_getElem hi
    rw [R.ents, List.getElem?_map] at h1
    obtain ⟨z, hz, he⟩ := Option.map_eq_some_iff.mp h1
    rw [List.getElem?_map, hz, e, ← he] <;> rfl
  refine call_min_walkH (wpAny_pyIter_dict_raw R.sys R.raw ?_)
  refine ⟨_, _, _, _, _, _, _, s.heap, (fun i j => wordLt ((x :: xs).getD i []) ((x :: xs).getD j [])), rfl, W, ⟨⟨_, Heap.get?_push_size _ rfl, rfl, rfl⟩, R.raw.push _⟩, fun b hb => ?_, by omega, fun b o e hb => ?_, fun b o e => Heap.get?_push_of_some _ e, ?_, fun v s' hP m => ?_⟩
  · show b < (s.heap.push _).objs.size
    rw [Heap.size_push]
    simp only [List.mem_cons, List.not_mem_nil, or_false] at hb
    rcases hb with rfl | rfl
    · exact Nat.lt_succ_self _
    · exact Nat.lt_succ_of_lt hlt
  · rw [List.mem_singleton.mp hb] at e
    exact absurd (Heap.lt_size e) (Nat.lt_irrefl _)
  · intro i j vi vj s' Q' E' hk hi hj hq
    exact cmpIn_words (prog := X.prog) (w := X.w) (A := X.A.in1) hol hu i j vi vj s' Q' E' hk (hP0 i vi hi) (hP0 j vj hj) hq
  · obtain ⟨h', tk, rfl, hk'⟩ := moved_old (s := s) rfl rfl m
    have e1 : en.size - 1 = xs.length := by omega
    rw [e1] at hP
    obtain ⟨vv, z, _, hz', tv, rr⟩ := at_both pv rv (hP0 _ _ hP)
    have ez : z = minW (x :: xs) := by
      rw [← best_min, List.getD_eq_getElem?_getD, hz'] <;> rfl
    subst ez
    exact ⟨vv, H, I.kept (t' := tk) hk', rr, q vv tv⟩
end
section
variable {X : Cx} {Γ : Gam} {M : Mem} {a : Expr} {β : Type} {U : Ty β} {pos p : Pos}
theorem ev_minL {xs : List Word} (hr : Room 0 X.A) (hne : xs ≠ []) (ha : Ev X Γ M a ((tLst tWord).is xs)) (hm : X.mg "min" = none) (hc : X.calm = true := by rfl) (hg : Gl X "min" := by rfl) (he : starEach [a] X.env = (false, eval a X.env) :: starEach [] X.env := by rfl) (hpl : (backTo pos (starEach [] X.env)).any (·.1) = false := by rfl) :
    Ev X Γ M (.Call (.Name "min" p) [a] [] pos) (tWord.is (minW xs)) := by
  obtain ⟨x, l, rfl⟩ : ∃ x l, xs = x :: l := by
    cases xs with
    | nil => exact absurd rfl hne
    | cons x l => exact ⟨x, l, rfl⟩
  exact ev_callB (cr_minL hc hr) (eva_one ha he) (cal1 fun F H v fh ce ⟨b, vs, e1, h1, h2⟩ Q k => ⟨b, F, vs, x, l, by rw [e1], fh, fh _ _ h1, h2, fun z hz => k F H z (Stp.refl fh ce) hz⟩) hg hm (by decide +kernel) (by decide) (by decide) he hpl
theorem ev_minD {kvs : List (Word × β)} (hr : Room 0 X.A) (hne : kvs ≠ []) (ha : Ev X Γ M a ((tDic X.w wordK U).is kvs)) (hm : X.mg "min" = none) (hc : X.calm = true := by rfl) (hg : Gl X "min" := by rfl) (he : starEach [a] X.env = (false, eval a X.env) :: starEach [] X.env := by rfl) (hpl : (backTo pos (starEach [] X.env)).any (·.1) = false := by rfl) :
    Ev X Γ M (.Call (.Name "min" p) [a] [] pos) (tWord.is (minW (kvs.map (·.1)))) :=
  ev_callB (cr_minD (U := U) hc hr) (eva_one ha he) (cal1 fun F H v fh ce ⟨l, o, e1, h1, ob, xs, e2, io, dp, hl⟩ Q k => ⟨l, F, ob, xs, kvs, by rw [e1], fh, by rw [← e2]; exact fh _ _ h1, io, dp, hne, fun z hz => k F H z (Stp.refl fh ce) hz⟩) hg hm (by decide +kernel) (by decide) (by decide) he hpl
end
/-! ## dict(pairs) -/
def dmerge {α β : Type} [DecidableEq α] (ps : List (α × β)) : List (α × β) := ps.foldl (fun acc p => dput acc p.1 p.2) []
theorem dmerge_len {α β : Type} [DecidableEq α] (ps : List (α × β)) : (dmerge ps).length ≤ ps.length := by
  have : ∀ (l acc : List (α × β)), (l.foldl (fun acc p => dput acc p.1 p.2) acc).length ≤ acc.length + l.length := by
    intro l
    induction l with
    | nil => exact fun acc => Nat.le_refl _
    | cons p l ih =>
      intro acc
      have h1 := ih (dput acc p.1 p.2)
      have h2 := dput_len acc p.1 p.2
      show (l.foldl _ (dput acc p.1 p.2)).length ≤ _
      rw [List.length_cons]
      omega
  have h := this ps []
  rw [List.length_nil, Nat.zero_add] at h
  exact h
theorem dps_merge {α β : Type} [DecidableEq α] {K : KTy α} {U : Ty β} {F : Hp} : ∀ {qs : List (NestedKey × Addr × Value)} {ps : List (α × β)}, DPs K U F qs ps → ∀ {xs : List (NestedKey × Addr × Value)} {kvs : List (α × β)}, DPs K U F xs kvs → DPs K U F (storedAllH xs qs) (ps.foldl (fun acc p => dput acc p.1 p.2) kvs)
  | _, _, .nil, _, _, h => h
  | _, _, .cons ⟨h1, h2, v, h3, h4⟩ q, _, _, h => by
    refine dps_merge q ?_
    dsimp only
    rw [h1]
    exact dps_put h2 h3 h4 h
section
variable {X : Cx} {α β : Type} [DecidableEq α] {K : KTy α} {U : Ty β}
/-- the pairs of a list, as they stand in the heap -/
theorem pairs_there {pins : List (Addr × Obj)} {σ : St} {H F : Hp} {s : Shared} (I : Inv X pins σ H s) (fe : Ext F H) : ∀ {vs : List V} {us : List Value} {ps : List (α × β)}, Paired ((tPr K.T U).t F) vs ps → Vals vs us → ∃ qs : List (NestedKey × Addr × Value), DPs K U F qs ps ∧ qs.length = us.length ∧
    (∀ (j : Nat) k b u, qs[j]? = some (k, b, u) → ∃ t, us[j]? = some (.ref t) ∧ s.heap.IsTuple t #[.ref b, u]) ∧ ∀ h' : Heap, (∀ b o, s.heap.get? b = some o → h'.get? b = some o) → ∀ q ∈ qs, (nestedKind X.prog X.w).is h' q.1 q.2.1
  | _, _, _, .nil, .nil => ⟨[], .nil, rfl, (fun j k b u h => by simp at h), fun _ _ q h => nomatch h⟩
  | _, _, _, .cons (b := x) ⟨a, v1, v2, e, h1, h2, h3⟩ q, .cons r rs => by
    subst e
    cases r
    obtain ⟨qs, i1, i2, i3, i4⟩ := pairs_there I fe q rs
    obtain ⟨_, its, rv, o, ho, hc, n, hd⟩ := I.hok a _ (fe _ _ h1)
    cases rv with
    | @cons _ u1 _ _ r1 rv =>
      cases rv with
      | @cons _ u2 _ _ r2 rv =>
        cases rv
        obtain ⟨b, rfl⟩ := K.isRef h2
        cases r1
        refine ⟨(K.key x.1, b, u2) :: qs, .cons ⟨rfl, h2, v2, r2, h3⟩ i1, by rw [List.length_cons, List.length_cons, i2], fun j k b' u hj => ?_, fun h' hk z hz => ?_⟩
        · cases j with
          | zero =>
            cases hj
            exact ⟨a, rfl, o, ho, hc, n, hd⟩
          | succ j => exact i3 j k b' u hj
        · rcases List.mem_cons.mp hz with rfl | hz
          · exact K.is (I.hok.kept hk) fe h2
          · exact i4 h' hk z hz
theorem cr_dictL {n : Nat} (hc : X.calm = true) (hr : Room n X.A) : CallR X (.type "dict") fun zs H Q => ∃ (a : Addr) (F : Hp) (vs : List V) (ps : List (α × β)), zs = [.ref a] ∧ Ext F H ∧ H a = some (.lst vs) ∧ Paired ((tPr K.T U).t F) vs ps ∧ ps.length ≤ 1000000 ∧ ∀ l ob xs, H l = none → IsDob X.w ob xs → DPs K U F xs (dmerge ps) → Q (.ref l) (upd H l (DicO l ob)) := by
  intro pins s σ H zs us Q I r h
  obtain ⟨a, F, vs, ps, rfl, fe, ha, pv, hl, q⟩ := h
  obtain ⟨u, rfl, ru⟩ := vals1 r
  cases ru
  obtain ⟨hz, its, cap, rv, ho⟩ := (show ObjOk X.prog X.w H s.heap a (.lst vs) from I.hok a _ ha)
  obtain ⟨qs, d1, d2, d3, d4⟩ := pairs_there I fe pv rv
  have hql : qs.length = ps.length := Paired.length d1
  have hu : X.A.in1.in1.units + 8 < cLine := by
    have h : X.A.in1.in1.units = X.A.units + 2 := rfl
    have := hr.units
    omega
  have Pa := PairArg.list (prog := X.prog) (w := X.w) a its.toArray (fun j => match its[j]? with | some (.ref t) => t | _ => 0) (qs.map fun z => (Value.ref z.2.1, z.2.2))
  refine call_dict_pairsH (knd := nestedKind X.prog X.w) (ps := qs) Pa (I.ok.hd hc) hu ⟨⟨_, cap, ho, rfl, rfl, rfl⟩, by simp [d2], fun j k v hj => ?_⟩ ⟨by simp, fun i key v hrel => ?_⟩ (fun h' hk z hz => ?_) (by rw [List.length_map, hql, sizeLine_eq]; omega) fun h' tk dd hk => ?_
  · rw [List.getElem?_map] at hj
    obtain ⟨⟨k', b, u'⟩, hz', e⟩ := Option.map_eq_some_iff.mp hj
    cases e
    obtain ⟨t, ht, hT⟩ := d3 j k' b _ hz'
    exact ⟨by simp [ht], .inl (by simpa [ht] using hT)⟩
  · have hrel' : (qs.map fun z => (Value.ref z.2.1, z.2.2))[i]? = some (key, v) := hrel
    rw [List.getElem?_map] at hrel'
    obtain ⟨⟨k', b, u'⟩, hz', e⟩ := Option.map_eq_some_iff.mp hrel'
    cases e
    exact ⟨k', b, hz', rfl⟩
  · exact d4 h' (fun b o e => hk b o (Nat.ne_of_lt (Heap.lt_size e)) (fun h => nomatch h) e) z hz
  · obtain ⟨ob, es, ep, hq, h2, h3, h4, _, h5⟩ := dd
    have hm : (s.heap.objs.size == sysModules) = false := beq_eq_false_iff_ne.mpr (Nat.ne_of_gt I.big)
    have hn := I.hok.fresh (Nat.le_refl s.heap.objs.size)
    exact ⟨.ref s.heap.objs.size, _, I.laid (t' := tk) (fun b o e => hk b o (fun h => nomatch h) e) (Nat.le_refl _) (show ObjOk X.prog X.w _ _ _ (DicO s.heap.objs.size ob) from ⟨⟨hm, hq⟩, ⟨ob, hq⟩, fun h1 h2 ⟨a, b⟩ c => ⟨a, c _ b⟩⟩), rfl, q _ ob _ hn ⟨h2, ⟨es, ep, h3, h4⟩, h5⟩ (dps_merge d1 .nil)⟩
end
section
variable {X : Cx} {Γ : Gam} {M : Mem} {a : Expr} {α β : Type} [DecidableEq α] {K : KTy α} {U : Ty β} {ps : List (α × β)} {pos p : Pos}
theorem evc_dictL (hr : Room 0 X.A) (ha : Ev X Γ M a ((tLst (tPr K.T U)).is ps)) (hn : ps.length ≤ 1000000) (hm : X.mg "dict" = none) (hc : X.calm = true := by rfl) (hg : Gl X "dict" := by rfl) (he : starEach [a] X.env = (false, eval a X.env) :: starEach [] X.env := by rfl) (hpl : (backTo pos (starEach [] X.env)).any (·.1) = false := by rfl) :
    EvC X Γ M (.Call (.Name "dict" p) [a] [] pos) (cDic X.w K U (dmerge ps)) := fun σ F H eo fh ce Q k => by
  refine wE_of (pe_callTy (cr_dictL (K := K) (U := U) hc hr) hg hm (by decide +kernel) pa_w (by decide) (by decide) he hpl) ?_
  refine (eva_one ha he) σ F H eo fh ce _ fun F1 H1 vs s1 pvs => ?_
  obtain ⟨v, rfl, b, ws, rfl, h1, h2⟩ := paired1 pvs
  exact ⟨b, F1, ws, ps, rfl, s1.fh, s1.fh _ _ h1, h2, hn, fun l ob xs hl io dp => k F1 H1 l _ s1 hl ⟨ob, xs, rfl, io, dp, Nat.le_trans (dmerge_len ps) hn⟩⟩
theorem ev_dictL (hr : Room 0 X.A) (ha : Ev X Γ M a ((tLst (tPr K.T U)).is ps)) (hn : ps.length ≤ 1000000) (hm : X.mg "dict" = none) (hc : X.calm = true := by rfl) (hg : Gl X "dict" := by rfl) (he : starEach [a] X.env = (false, eval a X.env) :: starEach [] X.env := by rfl) (hpl : (backTo pos (starEach [] X.env)).any (·.1) = false := by rfl) :
    Ev X Γ M (.Call (.Name "dict" p) [a] [] pos) ((tDic X.w K U).is (dmerge ps)) :=
  (evc_dictL hr ha hn hm hc hg he hpl).frz fun F l o f0 h => ⟨l, o, rfl, upd_same, (cDic _ _ _ _ _).mono (Ext.upd f0) h⟩
end
end L2.K3
set_option Elab.async false
set_option linter.all false
set_option maxRecDepth 100000
set_option maxHeartbeats 2000001
/-! K3O: a dict against the empty one; the items of a dict. -/
namespace L2.K3
open PySem PySem.Spec PyProof.Rows PySem.W PySem.SeqAt SrtO L2.DX
section
variable {prog : Program} {w : World} {A : Around} {E : Value → Shared → Prop} {s : Shared}
theorem same_void {nm : String} {a b : Addr} {es es' : Array DictEntry} {ep ep' : Nat} {Q : Bool → Shared → Prop} (ha : (a == sysModules) = false) (hb : (b == sysModules) = false) (da : s.heap.DictRaw a es ep) (db : s.heap.DictRaw b es' ep') (h0 : es'.size = 0) (h : Q (es.size == 0) s) :
    wpAny (model prog w) A (Builtin.Dict.samePairs nm a b) Q E s := by
  obtain ⟨oa, hoa, _, hda⟩ := da
  obtain ⟨ob, hob, _, hdb⟩ := db
  unfold Builtin.Dict.samePairs Builtin.Dict.showsAll
  rw [if_neg (show ¬ (a == sysModules) = true by rw [ha]; exact Bool.false_ne_true), if_neg (show ¬ (b == sysModules) = true by rw [hb]; exact Bool.false_ne_true)]
  refine wpAny_bind (wpAny_pure (wpAny_bind (wpAny_pure (wpAny_bind (wpAny_dictEntries hoa hda ?_)))))
  dsimp only
  refine wpAny_bind (wpAny_dictEntries hob hdb ?_)
  by_cases hz : es.size = 0
  · rw [if_neg (by rw [hz, h0]; simp)]
    refine wpAny_bind (wpAny_dictEpoch hoa hda (wpAny_bind ?_))
    rw [Std.Legacy.Range.forIn_eq_forIn_range']
    simp only [Std.Legacy.Range.size, Nat.sub_zero, Nat.add_sub_cancel, Nat.div_one, hz]
    refine wpAny_pure ?_
    have e : (es.size == 0) = true := by rw [hz] <;> rfl
    rw [e] at h
    exact wpAny_pure h
  · rw [if_pos (by rw [h0]; simpa using hz)]
    have e : (es.size == 0) = false := by simpa using hz
    rw [e] at h
    exact wpAny_bind (wpAny_rule (wpAny_pure h))
theorem ne_void {a b : Addr} {es es' : Array DictEntry} {ep ep' : Nat} {Q : Value → Shared → Prop} (ha : (a == sysModules) = false) (hb : (b == sysModules) = false) (da : s.heap.DictRaw a es ep) (db : s.heap.DictRaw b es' ep') (h0 : es'.size = 0) (hu : A.units < cLine) (h : Q (.bool (!(es.size == 0))) s) :
    wpAny (model prog w) A (compareOp .NotEq (.ref a) (.ref b)) Q E s := by
  refine wpAny_richCompare_same_room (op := .NotEq) da.typeIs db.typeIs PySem.F.slot_dict_ne (wpAny_call_entry PySem.F.slot_dict_ne da.typeIs PySem.F.entry_dict_ne ?_ (PySem.F.args_dict_ne_2 _ _)) hu
  show wpAny _ _ (Builtin.Dict.dictSlotArgs "__ne__" ⟨[.ref a, .ref b], []⟩ >>= _) _ _ s
  unfold Builtin.Dict.dictSlotArgs
  refine wpAny_bind (wpAny_bind (wpAny_notOrdered_dict da.typeIs ?_))
  show wpAny _ _ (pure (Value.ref a, Value.ref b)) _ _ s
  refine wpAny_pure (wpAny_bind (wpAny_isInstance (T := "dict") db.typeIs PySem.F.sub_dict_dict ?_))
  simp only [Bool.not_true, Bool.false_eq_true, if_false]
  exact wpAny_bind (wpAny_pure (wpAny_bind (wpAny_pure (wpAny_bind (same_void ha hb da db h0 (wpAny_pure ⟨_, rfl, (fun x => nomatch x), by simpa using h⟩))))))
end
section
variable {X : Cx} {Γ : Gam} {M : Mem} {d e : Expr} {α β : Type} [DecidableEq α] {K : KTy α} {U : Ty β} {kvs : List (α × β)} {pos p2 : Pos}
theorem op_neVoid (hr : Room 0 X.A) : OpR X (compareOp .NotEq) fun x y H Q => ∃ (a b : Addr) (oa ob : Obj) (xs : List (NestedKey × Addr × Value)), x = .ref a ∧ y = .ref b ∧ H a = some (DicO a oa) ∧ H b = some (DicO b ob) ∧ IsDob X.w oa xs ∧ IsDob X.w ob [] ∧ Q (.bl (!(xs.length == 0))) H := by
  rintro pins s σ H x y v u Q I rx ry ⟨a, b, oa, ob, xs, rfl, rfl, ha, hb, ia, ib, q⟩
  cases rx
  cases ry
  obtain ⟨es, ep, R⟩ := raw_of I ha ia
  obtain ⟨es', ep', R'⟩ := raw_of I hb ib
  refine ne_void R.sys R'.sys R.raw R'.raw R'.len hr.units0 ⟨.bl (!(xs.length == 0)), H, I, ?_, q⟩
  rw [R.len]
  rfl
/-- d != {} -/
theorem et_neVoid (hr : Room 0 X.A) (hd : Ev X Γ M d ((tDic X.w K U).is kvs)) (hm : behindInMarks .NotEq (.Dict [] [] p2) = false := by first | exact nomark _ | rfl) : EvT X Γ M (.Compare d [.NotEq] [.Dict [] [] p2] pos) (!(kvs.length == 0)) :=
  et_cmp (P' := (tDic X.w K U).is []) (op_neVoid hr) hd (evc_dic.frz fun F l o f0 h => ⟨l, o, rfl, upd_same, (cDic _ _ _ _ _).mono (Ext.upd f0) h⟩) (fun F H v z fh ce ⟨a, o, e1, h1, oa, xs, e2, io, dp, hl⟩ ⟨b, o', e3, h2, ob, ys, e4, io', dp', hl'⟩ Q k => by
    have hy : ys = [] := by cases dp'; rfl
    subst hy
    refine ⟨a, b, oa, ob, xs, e1, e3, by rw [← e2]; exact fh _ _ h1, by rw [← e4]; exact fh _ _ h2, io, io', k F H _ (Stp.refl fh ce) ?_⟩
    show V.bl _ = V.bl _
    rw [show xs.length = kvs.length from Paired.length dp]) hm
end
/-! ## items -/
def mpVw {α β : Type} (w : World) (K : KTy α) (U : Ty β) (kvs : List (α × β)) : MP := ⟨fun F v => ∃ p a ob xs, v = .ref p ∧ F p = some (itemsO p a) ∧ F a = some (DicO a ob) ∧ IsDob w ob xs ∧ DPs K U F xs kvs ∧ kvs.length ≤ 1000000, fun e ⟨p, a, ob, xs, h1, h2, h3, h4, h5, h6⟩ => ⟨p, a, ob, xs, h1, e _ _ h2, e _ _ h3, h4, h5.mono e, h6⟩⟩
section
variable {X : Cx} {Γ : Gam} {M : Mem} {d : Expr} {α β : Type} {K : KTy α} {U : Ty β} {kvs : List (α × β)} {pos : Pos}
theorem ev_items {apos : Pos} (hd : Ev X Γ M d ((tDic X.w K U).is kvs)) (hb : attributeBase d "items" X.env (eval d X.env) = eval d X.env := by rfl) (hline : (apos.endLine == pos.line) = true := by rfl) : Ev X Γ M (.Call (.Attribute d "items" apos) [] [] pos) (mpVw X.w K U kvs) := fun σ F H eo fh ce Q q pins s I => by
  refine wpAny_Call_method (T := "dict") (id := "dict.items") hb rfl hline PySem.F.plainAttrs_dict PySem.F.slot_dict_items PySem.F.type_dict_items ?_
  refine thn (hd σ F H eo fh ce (fun v H1 => ∃ F1, Stp M F H F1 H1 ∧ ((tDic X.w K U).is kvs).p F1 v) (fun F1 H1 v st p => ⟨F1, st, p⟩) pins s I) fun u s1 ⟨v, H1, I1, rv, F1, st1, pv⟩ => ?_
  obtain ⟨a, o, rfl, ho, ob, xs, rfl, io, dp, hl⟩ := pv
  cases rv
  have hH := st1.fh _ _ ho
  obtain ⟨es, ep, R⟩ := raw_of I1 hH io
  obtain ⟨t1, t2⟩ := dict_plain (dic_obj I1.hok hH).2 io.1
  refine ⟨t1, t2, ?_⟩
  refine Calls.callWith_builtin rfl (PySem.evalArgs_none ?_)
  refine DT.callItems (es := es) (ep := ep) R.sys R.raw ?_
  have hf : H1 s1.heap.objs.size = none := I1.hok.fresh (Nat.le_refl _)
  have st2 := Stp.new (o := itemsO s1.heap.objs.size a) st1.fh st1.ce hf
  refine ⟨.ref s1.heap.objs.size, upd H1 s1.heap.objs.size (itemsO s1.heap.objs.size a), I1.laid (t' := s1.toks) (fun b u e => Heap.get?_push_of_some _ e) (Nat.le_refl _) (itemsO_ok (Heap.get?_push_size _ rfl)), rfl, q _ _ _ (st1.trans st2) ?_⟩
  exact ⟨_, a, ob, xs, rfl, upd_same, st2.ff _ _ ho, io, dp.mono st2.ff, hl⟩
/-- the pairs that a walk over the items has made, tracked -/
theorem made_take {pins : List (Addr × Obj)} {σ : St} {H H1 F : Hp} {s : Shared} {a : Addr} {xs : List (NestedKey × Addr × Value)} {es : Array DictEntry} {ep : Nat} {h' : Heap} {tk : Nat} {as : List Addr} (I0 : Inv X pins σ H s) (I1 : Inv X pins σ H1 { s with heap := h', toks := tk }) (fe : Ext F H) (ex : Ext H H1)
    (R : RawD X s.heap a xs es ep) (dp : DPs K U F xs kvs) (hl : as.length = es.size) (hG : DT.Made es s.heap.objs.size h' as) (hS : ∀ a ∈ as, H1 a = none) :
    ∃ H2 F2, Inv X pins σ H2 { s with heap := h', toks := tk } ∧ Ext H1 H2 ∧ Ext F F2 ∧ Ext F2 H2 ∧ (∀ b o, F2 b = some o → F b ≠ none ∨ b ∈ as) ∧ Paired ((tPr K.T U).t F2) (as.map V.ref) kvs := by
  have hxl : xs.length = kvs.length := Paired.length dp
  have nd : as.Nodup := List.Pairwise.imp (fun h => Nat.ne_of_lt h) hG.rise
  obtain ⟨H2, I2, g, t⟩ := takeT (P := fun b vs => ∃ (j : Nat) (kv : α × β) (k1 v2 : V), as[j]? = some b ∧ kvs[j]? = some kv ∧ vs = [k1, v2] ∧ K.T.t F k1 kv.1 ∧ U.t F v2 kv.2) I0 as H1 I1 nd fun b hb => by
    refine ⟨Nat.le_of_lt (hG.above b hb), hS b hb, ?_⟩
    obtain ⟨j, hj⟩ := List.getElem?_of_mem hb
    obtain ⟨en, he, hg⟩ := hG.pairs j b hj
    have h1 : es.toList[j]? = some en := by rw [Array.getElem?_toList]; exact he
    rw [R.ents, List.getElem?_map] at h1
    obtain ⟨x, hx, e2⟩ := Option.map_eq_some_iff.mp h1
    obtain ⟨kv, hkv, _, kt, v2, rv2, ut⟩ := dic_of.at_r dp hx
    refine ⟨[.ref x.2.1, v2], ⟨j, kv, .ref x.2.1, v2, hj, hkv, rfl, kt, ut⟩, fun H2 => ⟨by show 2 ≤ sizeLine; decide, [.ref x.2.1, x.2.2], .cons rfl (.cons rv2 .nil), ⟨_, hg, rfl, 0, ?_⟩⟩⟩
    rw [← e2]
    rfl
  have f0 : ∀ b ∈ as, F b = none := fun b hb => ext_none fe (I0.hok.fresh (Nat.le_of_lt (hG.above b hb)))
  have eF : Ext F (fun b => if b ∈ as then H2 b else F b) := fun b o e => by
    by_cases hb : b ∈ as
    · rw [f0 b hb] at e; cases e
    · show (if b ∈ as then H2 b else F b) = _
      rw [if_neg hb]; exact e
  refine ⟨H2, fun b => if b ∈ as then H2 b else F b, I2, g, eF, fun b o e => ?_, fun b o e => ?_, ?_⟩
  · by_cases hb : b ∈ as
    · simpa [hb] using e
    · exact g b o (ex b o (fe b o (by simpa [hb] using e)))
  · by_cases hb : b ∈ as
    · exact .inr hb
    · have : F b = some o := by simpa [hb] using e
      exact .inl (by rw [this]; exact fun q => nomatch q)
  · have hlen : as.length = kvs.length := by rw [hl, R.len, hxl]
    have key : ∀ (j : Nat) b kv, as[j]? = some b → kvs[j]? = some kv → (tPr K.T U).t (fun b => if b ∈ as then H2 b else F b) (.ref b) kv := fun j b kv hj hkv => by
      have hb := List.mem_of_getElem? hj
      obtain ⟨vs, ⟨j', kv', k1, v2, hj', hkv', rfl, kt, ut⟩, h2⟩ := t b hb
      have ej : j' = j := (List.getElem_inj nd).mp ((List.getElem?_eq_some_iff.mp hj').2.trans (List.getElem?_eq_some_iff.mp hj).2.symm)
      subst ej
      rw [hkv] at hkv'
      cases hkv'
      exact ⟨b, k1, v2, rfl, by simpa [hb] using h2, K.T.mono eF kt, U.mono eF ut⟩
    exact zipP _ hlen key
where
  zipP {γ : Type} {T : Ty γ} {G : Hp} : ∀ {as : List Addr} (ks : List γ), as.length = ks.length → (∀ (j : Nat) b kv, as[j]? = some b → ks[j]? = some kv → T.t G (.ref b) kv) → Paired (T.t G) (as.map V.ref) ks
    | [], [], _, _ => .nil
    | [], _ :: _, h, _ => by simp at h
    | _ :: _, [], h, _ => by simp at h
    | a :: as, k :: ks, h, q => .cons (q 0 a k rfl rfl) (zipP ks (by simpa using h) fun j b kv hj hk => q (j + 1) b kv hj hk)
end
section
variable {prog : Program} {w : World} {A : Around} {E : Value → Shared → Prop} {s : Shared}
/-- list(d.items()) -/
theorem call_list_items {r d : Addr} {es : Array DictEntry} {ep : Nat} {Q : Value → Shared → Prop} (hh : A.handled = none) (hv : s.heap.IsItemsView r d) (hm : DT.Raw s.heap d es ep) (hn : es.size ≤ sizeLine)
    (hQ : ∀ h' tk c as, (∀ b o, s.heap.get? b = some o → h'.get? b = some o) → h'.get? s.heap.objs.size = some { cls := .type "list", dict := none, data := .seq (as.map Value.ref).toArray c, slots := #[] } → as.length = es.size → DT.Made es s.heap.objs.size h' as → Q (.ref s.heap.objs.size) { s with heap := h', toks := tk }) :
    wpAny (model prog w) A (call (.type "list") [.ref r]) Q E s := by
  refine callType_codes (Q₁ := fun obj s₁ => obj = .ref s.heap.objs.size ∧ s₁ = { s with heap := s.heap.push { cls := .type "list", data := .seq #[] } }) PySem.F.called_list (PySem.F.typeCall_list_1 _) PySem.F.entry_list_init (code_list_new _ ⟨rfl, rfl⟩) fun obj s₁ h₁ => ?_
  obtain ⟨rfl, rfl⟩ := h₁
  have hS : (s.heap.push { cls := .type "list", data := .seq #[] }).get? s.heap.objs.size = some { cls := .type "list", data := .seq #[] } := Heap.get?_push_size _ rfl
  refine ⟨⟨_, hS, rfl⟩, PySem.F.args_list_init_2 _ _, ?_⟩
  show wpAny _ _ (do let old ← Builtin.List.listItems (.ref s.heap.objs.size); Builtin.List.listUpdate (.ref s.heap.objs.size) (fun _ => #[]); letGo old.toList.reverse; Builtin.List.listExtendWith (.ref s.heap.objs.size) (.ref r) .none) _ _ _
  unfold Builtin.List.listItems
  refine wpAny_bind (wpAny_bind (wpAny_seqItems hS rfl (wpAny_pure ?_)))
  show wpAny _ _ (updateSeq s.heap.objs.size (fun _ => #[]) >>= fun _ => letGo (#[] : Array Value).toList.reverse >>= fun _ => Builtin.List.listExtendWith (.ref s.heap.objs.size) (.ref r) .none) _ _ _
  refine wpAny_bind (wpAny_updateSeq hS rfl ?_)
  have hS₂ := Heap.get?_update_self (Obj.mapSeq (fun _ => (#[] : Array Value))) hS rfl
  have oth : ∀ b o, s.heap.get? b = some o → ((s.heap.push { cls := .type "list", data := .seq #[] }).update s.heap.objs.size (Obj.mapSeq (fun _ => (#[] : Array Value)))).get? b = some o :=
    fun b o e => (Heap.get?_update_other _ _ (Ne.symm (Nat.ne_of_lt (Heap.lt_size e)))).trans (Heap.get?_push_of_some _ e)
  have hsz : ((s.heap.push { cls := .type "list", data := .seq #[] }).update s.heap.objs.size (Obj.mapSeq (fun _ => (#[] : Array Value)))).objs.size = s.heap.objs.size + 1 := by rw [Heap.size_update, Heap.size_push]
  refine wpAny_bind (wpAny_letGo ?_)
  have hr : r < s.heap.objs.size := let ⟨_, ho, _⟩ := hv; Heap.lt_size ho
  have hd : d < s.heap.objs.size := hm.lt
  refine DT.extI (A := A.in1) (es := es) (ep := ep) hh (let ⟨o, ho, x⟩ := hv; ⟨o, oth _ _ ho, x⟩) (hm.at' fun o e => oth _ _ e) s.heap.objs.size (Nat.ne_of_gt hr) (Nat.ne_of_lt hd) .none _ hS₂ (fun h' tk acc c as hk hS' hl hG hacc => ?_) hn
  have e : acc = (as.map Value.ref).toArray := by rw [← hacc]
  subst e
  exact ⟨rfl, hQ h' tk c as (fun b o eb => hk b o (Nat.ne_of_lt (Heap.lt_size eb)) (oth b o eb)) hS' hl (hG.low (by show s.heap.objs.size ≤ Array.size _; rw [hsz]; exact Nat.le_succ _))⟩
end
section
variable {X : Cx} {α β : Type} {K : KTy α} {U : Ty β}
theorem view_of {pins : List (Addr × Obj)} {σ : St} {H : Hp} {s : Shared} {p a : Addr} (I : Inv X pins σ H s) (h : H p = some (itemsO p a)) : s.heap.IsItemsView p a := (show ObjOk X.prog X.w H s.heap p (itemsO p a) from I.hok p _ h).1
theorem vals_refs : ∀ as : List Addr, Vals (as.map V.ref) (as.map Value.ref)
  | [] => .nil
  | _ :: as => .cons rfl (vals_refs as)
/-- what the new pairs and the list of them leave -/
def AftV (F H F2 H2 : Hp) : Prop := Ext H H2 ∧ Ext F F2 ∧ Ext F2 H2 ∧ ∀ b o, F2 b = some o → F b ≠ none ∨ H b = none
theorem cr_listV (hc : X.calm = true) : CallR X (.type "list") fun zs H Q => ∃ (p a : Addr) (F : Hp) (ob : Obj) (xs : List (NestedKey × Addr × Value)) (kvs : List (α × β)), zs = [.ref p] ∧ Ext F H ∧ H p = some (itemsO p a) ∧ H a = some (DicO a ob) ∧ IsDob X.w ob xs ∧ DPs K U F xs kvs ∧ xs.length ≤ 1000000 ∧
    ∀ F2 H2 l vs, AftV F H F2 H2 → H l = none → F2 l = none → H2 l = some (.lst vs) → Paired ((tPr K.T U).t F2) vs kvs → Q (.ref l) H2 := by
  intro pins s σ H zs us Q I r h
  obtain ⟨p, a, F, ob, xs, kvs, rfl, fe, hp, ha, io, dp, hl, q⟩ := h
  obtain ⟨u, rfl, ru⟩ := vals1 r
  cases ru
  obtain ⟨es, ep, R⟩ := raw_of I ha io
  have hlen := R.len
  refine call_list_items (I.ok.hd hc) (view_of I hp) R.raw (by rw [sizeLine_eq]; omega) fun h' tk c as hk hS hal hG => ?_
  have hn := I.hok.fresh (Nat.le_refl s.heap.objs.size)
  have I1 := I.laid (t' := tk) (a := s.heap.objs.size) (o := .lst (as.map V.ref)) hk (Nat.le_refl _) (show ObjOk X.prog X.w _ h' _ (.lst (as.map V.ref)) from ⟨by rw [List.length_map, sizeLine_eq]; omega, as.map Value.ref, c, vals_refs as, hS⟩)
  obtain ⟨H2, F2, I2, x1, x2, x3, x4, x5⟩ := made_take I I1 fe (Ext.upd hn) R dp hal hG fun b hb => by
    rw [upd_ne (Nat.ne_of_gt (hG.above b hb))]
    exact I.hok.fresh (Nat.le_of_lt (hG.above b hb))
  refine ⟨.ref s.heap.objs.size, H2, I2, rfl, q F2 H2 _ (as.map V.ref) ⟨(Ext.upd hn).trans x1, x2, x3, fun b o e => (x4 b o e).imp id fun hb => I.hok.fresh (Nat.le_of_lt (hG.above b hb))⟩ hn ?_ (x1 _ _ upd_same) x5⟩
  cases e : F2 s.heap.objs.size with
  | none => rfl
  | some o =>
    rcases x4 _ _ e with z | z
    · exact absurd (ext_none fe hn) z
    · exact absurd (hG.above _ z) (Nat.lt_irrefl _)
theorem cr_sortedV [Inhabited α] [Inhabited β] {lt : α × β → α × β → Bool} (hc : X.calm = true) (hr : Room 0 X.A) (O : Swo lt) (fn : Fnc (tPr K.T U)) : CallR X (.builtin "sorted") fun zs H Q => ∃ (p a : Addr) (F : Hp) (ob : Obj) (xs : List (NestedKey × Addr × Value)) (kvs : List (α × β)), zs = [.ref p] ∧ Ext F H ∧ H p = some (itemsO p a) ∧ H a = some (DicO a ob) ∧ IsDob X.w ob xs ∧ DPs K U F xs kvs ∧ xs.length ≤ 1000000 ∧ SortT (tPr K.T U) lt kvs ∧
    ∀ F2 H2 l vs ys, AftV F H F2 H2 → H2 l = none → Paired ((tPr K.T U).t F2) vs ys → ys.Perm kvs → ys.Pairwise (fun a b => lt b a = false) → Q (.ref l) (upd H2 l (.lst vs)) := by
  intro pins s σ H zs us Q I r h
  obtain ⟨p, a, F, ob, xs, kvs, rfl, fe, hp, ha, io, dp, hl, S, q⟩ := h
  obtain ⟨u, rfl, ru⟩ := vals1 r
  cases ru
  obtain ⟨es, ep, R⟩ := raw_of I ha io
  have hlen := R.len
  refine DT.sortedI (es := es) (ep := ep) (I.ok.hd hc) (view_of I hp) R.raw (by rw [sizeLine_eq]; omega) fun h' tk as hk hlt hal hG => ?_
  have I1 : Inv X pins σ H { s with heap := h', toks := tk } := I.kept hk
  obtain ⟨H2, F2, I2, x1, x2, x3, x4, x5⟩ := made_take I I1 fe Ext.rfl' R dp hal hG fun b hb => I.hok.fresh (Nat.le_of_lt (hG.above b hb))
  refine sort_fresh (s := { s with heap := h', toks := tk }) hr O fn sref_pr I2 x3 x5 (vals_refs as) S (by rw [List.length_map, sizeLine_eq]; omega) fun s' vs' ys I3 h1 h2 h3 h4 => ?_
  exact ⟨.ref h'.objs.size, _, I3, rfl, q F2 H2 _ vs' ys ⟨x1, x2, x3, fun b o e => (x4 b o e).imp id fun hb => I.hok.fresh (Nat.le_of_lt (hG.above b hb))⟩ (I2.hok.fresh (Nat.le_refl _)) h1 h2 h3⟩
end
section
variable {X : Cx} {Γ : Gam} {M : Mem} {a d : Expr} {α β : Type} {K : KTy α} {U : Ty β} {kvs : List (α × β)} {pos p : Pos}
theorem AftV.stp {F H F2 H2 : Hp} (h : AftV F H F2 H2) (ce : Cells F H M) : Stp M F H F2 H2 := ⟨h.2.1, h.2.2.1, fun a o _ e => h.1 a o e, h.2.2.2, ce.up h.2.1 h.1 h.2.2.2⟩
/-- list(d.items()) -/
theorem ev_listV (ha : Ev X Γ M a (mpVw X.w K U kvs)) (hm : X.mg "list" = none) (hc : X.calm = true := by rfl) (hg : Gl X "list" := by rfl) (he : starEach [a] X.env = (false, eval a X.env) :: starEach [] X.env := by rfl) (hpl : (backTo pos (starEach [] X.env)).any (·.1) = false := by rfl) :
    Ev X Γ M (.Call (.Name "list" p) [a] [] pos) ((tLst (tPr K.T U)).is kvs) :=
  ev_callTy (cr_listV (K := K) (U := U) hc) (eva_one ha he) (cal1 fun F H v fh ce ⟨b, l, ob, xs, e1, h1, h2, io, dp, hl⟩ Q k => ⟨b, l, F, ob, xs, kvs, by rw [e1], fh, fh _ _ h1, fh _ _ h2, io, dp, by rw [show xs.length = kvs.length from Paired.length dp]; exact hl, fun F2 H2 l vs af hl0 fl0 hl2 pv => by
    have st := af.stp ce
    have st2 : Stp M F H (upd F2 l (.lst vs)) H2 := by
      have nw : ∀ b o, upd F2 l (.lst vs) b = some o → F b ≠ none ∨ H b = none := fun b o e => by
        by_cases hb : b = l
        · rw [hb]; exact .inr hl0
        · rw [upd_ne hb] at e; exact st.nw b o e
      refine ⟨st.ff.trans (Ext.upd fl0), fun b o e => ?_, st.hh, nw, ce.up (st.ff.trans (Ext.upd fl0)) af.1 nw⟩
      by_cases hb : b = l
      · rw [hb, upd_same] at e
        cases e
        rw [hb]; exact hl2
      · rw [upd_ne hb] at e; exact st.fh b o e
    exact k _ _ _ st2 ⟨l, vs, rfl, upd_same, paired_mono (Ext.upd fl0) pv⟩⟩) hg hm (by decide +kernel) (by decide) (by decide) he hpl
end
section
variable {X : Cx} {Γ : Gam} {M : Mem} {a : Expr} {β : Type} {U : Ty β} {kvs : List (Word × β)} {pos p : Pos}
/-- sorted(d.items()) -/
theorem ev_sortV [Inhabited β] (hr : Room 0 X.A) (fu : Fnc U) (nd : (kvs.map (·.1)).Nodup) (ha : Ev X Γ M a (mpVw X.w wordK U kvs)) (hm : X.mg "sorted" = none) (hc : X.calm = true := by rfl) (hg : Gl X "sorted" := by rfl) (he : starEach [a] X.env = (false, eval a X.env) :: starEach [] X.env := by rfl) (hpl : (backTo pos (starEach [] X.env)).any (·.1) = false := by rfl) :
    Ev X Γ M (.Call (.Name "sorted" p) [a] [] pos) ((tLst (tPr tWord U)).is (srt hdLt kvs)) :=
  ev_callB (cr_sortedV (K := wordK) (U := U) (lt := hdLt) hc hr swo_hd (fnc_pr (fnc_tup (fnc_tup fnc_int)) fu)) (eva_one ha he) (cal1 fun F H v fh ce ⟨b, l, ob, xs, e1, h1, h2, io, dp, hl⟩ Q k => ⟨b, l, F, ob, xs, kvs, by rw [e1], fh, fh _ _ h1, fh _ _ h2, io, dp, by rw [show xs.length = kvs.length from Paired.length dp]; exact hl, sortT_hd nd, fun F2 H2 l vs ys af hl0 pv hp hs => by
    have st := af.stp ce
    have st2 := Stp.new (o := .lst vs) st.fh st.ce hl0
    refine k _ _ _ (st.trans st2) ⟨l, vs, rfl, upd_same, ?_⟩
    rw [← srt_uniq swo_hd (hd_anti nd) hp hs]
    exact paired_mono st2.ff pv⟩) hg hm (by decide +kernel) (by decide) (by decide) he hpl
end
end L2.K3
set_option Elab.async false
set_option linter.all false
set_option maxRecDepth 100000
set_option maxHeartbeats 4000001
/-! FnF: tables. -/
namespace L2.K3
open PySem PySem.Spec PyProof.Rows
def tV : Ty V := ⟨fun _ v x => v = x, fun _ h => h⟩
theorem ty_lst {K : PySem.W.Frag} {α : Type} {T : Ty α} {F H : Hp} {v : V} {xs : List α} (e : Ext F H) (h : (tLst T).t F v xs) : TyX K H v (.type "list") := by
  obtain ⟨a, vs, rfl, h1, _⟩ := h
  exact .base (.lst (e _ _ h1))
theorem ty_tup {K : PySem.W.Frag} {α : Type} {T : Ty α} {F H : Hp} {v : V} {xs : List α} (e : Ext F H) (h : (tTup T).t F v xs) : TyX K H v (.type "tuple") := by
  obtain ⟨a, vs, rfl, h1, _⟩ := h
  exact .base (.tup (e _ _ h1))
theorem ty_pr {K : PySem.W.Frag} {α β : Type} {T : Ty α} {U : Ty β} {F H : Hp} {v : V} {x : α × β} (e : Ext F H) (h : (tPr T U).t F v x) : TyX K H v (.type "tuple") := by
  obtain ⟨a, v1, v2, rfl, h1, _⟩ := h
  exact .base (.tup (e _ _ h1))
section
variable {X : Cx} {Γ : Gam} {M : Mem} {a b c : Expr} {P : MP} {pos p p2 : Pos} {x : Bool} {k0 : Nat}
/-- isinstance(x, (list, tuple)) -/
theorem ev_isiLT {t : Value} (ha : Ev X Γ M a P) (hb : Ev X Γ M b (mpV (.ty "list"))) (hc : Ev X Γ M c (mpV (.ty "tuple"))) (ht : ∀ F H v, Ext F H → P.p F v → TyX X.K H v t) (hx : PySem.W.kitAny X.K t [.type "list", .type "tuple"] = some x) (hm : X.mg "isinstance" = none) (hg : Gl X "isinstance" := by rfl)
    (he : starEach [a, .Tuple [b, c] k0 p2] X.env = (false, eval a X.env) :: starEach [.Tuple [b, c] k0 p2] X.env := by rfl) (hpl : (backTo pos (starEach [.Tuple [b, c] k0 p2] X.env)).any (·.1) = false := by rfl) (he2 : starEach [.Tuple [b, c] k0 p2] X.env = (false, eval (.Tuple [b, c] k0 p2) X.env) :: starEach [] X.env := by rfl)
    (h3 : starEach [b, c] X.env = (false, eval b X.env) :: starEach [c] X.env := by rfl) (h4 : starEach [c] X.env = (false, eval c X.env) :: starEach [] X.env := by rfl) :
    Ev X Γ M (.Call (.Name "isinstance" p) [a, .Tuple [b, c] k0 p2] [] pos) (tBool.is x) :=
  ev_callB call_isiT (eva_cons ha (eva_one (ev_pr (T := tV) (U := tV) (x := .ty "list") (y := .ty "tuple") hb hc h3 h4) he2) he) (cal2 fun F H v w fh ce pv ⟨tp, v1, v2, e1, h1, e2, e3⟩ Q q => by
    cases (show v1 = V.ty "list" from e2)
    cases (show v2 = V.ty "tuple" from e3)
    exact ⟨v, tp, _, t, _, x, by rw [e1], fh _ _ h1, .cons (.ty "list") (.cons (.ty "tuple") .nil), ht F H v fh pv, hx, q F H _ (Stp.refl fh ce) rfl⟩) hg hm (by decide +kernel) (by decide) (by decide) he hpl
end
section
variable {P : Program} {w : World} {K : PySem.W.Frag} {mg : Str → Option Value} {base : Heap} {CR CT CY : Addr}
/-! ### is_list, want_at_most, want_columns, want_like -/
def spIsList (x : Option Unit) : Prop := True
theorem kitLT_l : PySem.W.kitAny K (.type "list") [.type "list", .type "tuple"] = some true := kitAny_cons (b := true) (kit_ty (by decide +kernel)) (fun h => by cases h) (fun _ => rfl)
theorem kitLT_t : PySem.W.kitAny K (.type "tuple") [.type "list", .type "tuple"] = some true := kitAny_cons (b := false) (kit_ty (by decide +kernel)) (fun _ => kitAny_cons (b := true) (kit_ty (by decide +kernel)) (fun h => by cases h) (fun _ => rfl)) (fun h => by cases h)
/-- a list or a tuple of anything -/
def tSeq {α : Type} (T : Ty α) : Ty (Bool × List α) := ⟨fun F v x => if x.1 = true then (tLst T).t F v x.2 else (tTup T).t F v x.2, fun {F F' v x} e h => by
    obtain ⟨b, l⟩ := x
    cases b with
    | true => exact (tLst T).mono e h
    | false => exact (tTup T).mono e h⟩
def tVs : Ty (List V) := ⟨fun F v vs => ∃ a, v = .ref a ∧ (F a = some (.lst vs) ∨ F a = some (.tup vs)), fun e ⟨a, h1, h2⟩ => ⟨a, h1, h2.imp (e _ _) (e _ _)⟩⟩
theorem vs_lst {α : Type} {T : Ty α} {F : Hp} {v : V} {xs : List α} (h : (tLst T).t F v xs) : ∃ vs, vs.length = xs.length ∧ tVs.t F v vs := by
  obtain ⟨a, vs, e, h1, h2⟩ := h
  exact ⟨vs, Paired.length h2, a, e, .inl h1⟩
theorem vs_tup {α : Type} {T : Ty α} {F : Hp} {v : V} {xs : List α} (h : (tTup T).t F v xs) : ∃ vs, vs.length = xs.length ∧ tVs.t F v vs := by
  obtain ⟨a, vs, e, h1, h2⟩ := h
  exact ⟨vs, Paired.length h2, a, e, .inr h1⟩
/-- anything that is a list or a tuple -/
def mpSeq : MP := ⟨fun F v => ∃ a vs, v = .ref a ∧ (F a = some (.lst vs) ∨ F a = some (.tup vs)), fun e ⟨a, vs, h1, h2⟩ => ⟨a, vs, h1, h2.imp (e _ _) (e _ _)⟩⟩
theorem seq_lst {α : Type} {T : Ty α} {xs : List α} : ∀ F v, ((tLst T).is xs).p F v → mpSeq.p F v := fun F v ⟨a, vs, e, h1, _⟩ => ⟨a, vs, e, .inl h1⟩
theorem seq_tup {α : Type} {T : Ty α} {xs : List α} : ∀ F v, ((tTup T).is xs).p F v → mpSeq.p F v := fun F v ⟨a, vs, e, h1, _⟩ => ⟨a, vs, e, .inr h1⟩
abbrev sp_is_listL {α : Type} (T : Ty α) : Sp := spT (fun _ => True) (fun _ => []) (fun xs : List α => [(tLst T).is xs]) fun _ => tBool.is true
abbrev sp_is_listT {α : Type} (T : Ty α) : Sp := spT (fun _ => True) (fun _ => []) (fun xs : List α => [(tTup T).is xs]) fun _ => tBool.is true
theorem sc_is_list : FnScope ["value"] ["value"] (defScope (top 19)) := ⟨rfl, rfl, rfl, by decide +kernel, rfl, by decide +kernel, by decide +kernel⟩
theorem ok_is_listL {α : Type} (U : Ty α) {f : Addr} {fd : FuncData} (Fd : FnP K "is_list" (top 19) f fd) (hm : mg "is_list" = some (.ref f)) (T : Tx K mg CR CT CY) : Cal P w K mg base "is_list" 1 ["value"] [] (sp_is_listL U) := by
  refine cal_mk Fd hm (fn_mk Fd sc_is_list (fun _ => rfl) fun cdv A outer s H E xs F hr hp ce => ?_) fun _ _ _ _ _ _ us hl => match us, hl with | [_], _ => rfl
  exact g_ret (ev_isiLT (ev_name 0 rfl) (ev_ty T.f (by decide +kernel)) (ev_ty T.f (by decide +kernel)) (fun F H v e h => ty_lst (T := U) (xs := xs) e h) kitLT_l T.f)
theorem ok_is_listT {α : Type} (U : Ty α) {f : Addr} {fd : FuncData} (Fd : FnP K "is_list" (top 19) f fd) (hm : mg "is_list" = some (.ref f)) (T : Tx K mg CR CT CY) : Cal P w K mg base "is_list" 1 ["value"] [] (sp_is_listT U) := by
  refine cal_mk Fd hm (fn_mk Fd sc_is_list (fun _ => rfl) fun cdv A outer s H E xs F hr hp ce => ?_) fun _ _ _ _ _ _ us hl => match us, hl with | [_], _ => rfl
  exact g_ret (ev_isiLT (ev_name 0 rfl) (ev_ty T.f (by decide +kernel)) (ev_ty T.f (by decide +kernel)) (fun F H v e h => ty_tup (T := U) (xs := xs) e h) kitLT_t T.f)
def tStr : Ty Str := ⟨fun _ v x => v = .str x, fun _ h => h⟩
abbrev sp_want_at_most : Sp := spT (fun x : Str × Int × Int => x.2.2 ≤ x.2.1) (fun _ => []) (fun x => [tStr.is x.1, tInt.is x.2.1, tInt.is x.2.2]) fun _ => mpV .non
theorem g_fallD {E : En} {X : Cx} {Γ : Gam} {M : Mem} (h : E.R = mpV .non) (hM : E.M1 = []) : G E X [] Γ M (Dret E) := g_fall (by rw [h]) (by rw [hM]; exact fun p hp => nomatch hp) (by rw [hM]; exact List.nodup_nil)
theorem sc_want_at_most : FnScope ["what", "limit", "number"] ["what", "limit", "number"] (defScope (top 20)) := ⟨rfl, rfl, rfl, by decide +kernel, rfl, by decide +kernel, by decide +kernel⟩
theorem ok_want_at_most {f : Addr} {fd : FuncData} (Fd : FnP K "want_at_most" (top 20) f fd) (hm : mg "want_at_most" = some (.ref f)) : Cal P w K mg base "want_at_most" 1 ["what", "limit", "number"] [] sp_want_at_most := by
  refine cal_mk Fd hm (fn_mk Fd sc_want_at_most (fun _ => rfl) fun cdv A outer s H E x F hr hp ce => ?_) fun _ _ _ _ _ _ us hl => match us, hl with | [_, _, _], _ => rfl
  refine g_if (x := false) (EvT.to (et_gt (ev_name 2 rfl) (ev_name 1 rfl)) (decide_eq_false (by have := hp; omega))) (fun h => by cases h) fun _ => g_end ?_
  exact g_fallD rfl rfl
abbrev sp_want_columns : Sp := spT (fun n : Int => 0 ≤ n ∧ n ≤ 3) (fun _ => []) (fun n => [tInt.is n]) fun _ => mpV .non
theorem sc_want_columns : FnScope ["value"] ["value"] (defScope (top 45)) := ⟨rfl, rfl, rfl, by decide +kernel, rfl, by decide +kernel, by decide +kernel⟩
theorem ok_want_columns {f : Addr} {fd : FuncData} (Fd : FnP K "want_columns" (top 45) f fd) (hm : mg "want_columns" = some (.ref f)) (T : Tx K mg CR CT CY) (c1 : Cal P w K mg base "is_count" 2 ["value"] [] sp_is_count) : Cal P w K mg base "want_columns" 3 ["value"] [] sp_want_columns := by
  refine cal_mk Fd hm (fn_mk Fd sc_want_columns (fun _ => rfl) fun cdv A outer s H E n F hr hp ce => ?_) fun _ _ _ _ _ _ us hl => match us, hl with | [_], _ => rfl
  refine g_if (x := false) (EvT.to (EvW.t (ew_or (et_not (et_val (ev_callI c1 hr n (eva_one (ev_name 0 rfl)) trivial))) fun _ => ew_or1 (et_gt (ev_name 0 rfl) (ev_gint T.n3)))) (by
    rw [decide_eq_true hp.1, decide_eq_false (show ¬ (3 : Int) < n by have := hp.2; omega)] <;> rfl)) (fun h => by cases h) fun _ => g_end ?_
  exact g_fallD rfl rfl
abbrev sp_want_like : Sp := spT (fun x : Int × Int => x.1 = x.2) (fun _ => []) (fun x => [tInt.is x.1, tInt.is x.2]) fun _ => mpV .non
theorem sc_want_like : FnScope ["near", "far"] ["near", "far"] (defScope (top 51)) := ⟨rfl, rfl, rfl, by decide +kernel, rfl, by decide +kernel, by decide +kernel⟩
theorem ok_want_like {f : Addr} {fd : FuncData} (Fd : FnP K "want_like" (top 51) f fd) (hm : mg "want_like" = some (.ref f)) : Cal P w K mg base "want_like" 1 ["near", "far"] [] sp_want_like := by
  refine cal_mk Fd hm (fn_mk Fd sc_want_like (fun _ => rfl) fun cdv A outer s H E x F hr hp ce => ?_) fun _ _ _ _ _ _ us hl => match us, hl with | [_, _], _ => rfl
  refine g_if (x := false) (EvT.to (et_neI (ev_name 0 rfl) (ev_name 1 rfl)) (by rw [decide_eq_true hp] <;> rfl)) (fun h => by cases h) fun _ => g_end ?_
  exact g_fallD rfl rfl
/-! ### is_row, told_row -/
abbrev tRrow (CR : Addr) : Ty (List Rat) := tLst (tRat CR)
abbrev sp_is_row (CR : Addr) : Sp := spT (fun x : Int × List Rat => x.1 = x.2.length) (fun _ => []) (fun x => [tInt.is x.1, (tRrow CR).is x.2]) fun _ => tBool.is true
theorem sc_is_row : FnScope ["columns", "value", "number"] ["columns", "value"] (defScope (top 46)) := ⟨rfl, rfl, rfl, by decide +kernel, rfl, by decide +kernel, by decide +kernel⟩
theorem all_true {α : Type} (xs : List α) : (xs.map fun _ => true).all id = true := by simp
theorem ok_is_row {f : Addr} {fd : FuncData} (Fd : FnP K "is_row" (top 46) f fd) (hm : mg "is_row" = some (.ref f)) (T : Tx K mg CR CT CY) (c1 : Cal P w K mg base "is_list" 1 ["value"] [] (sp_is_listL (tRat CR))) (c2 : Cal P w K mg base "is_number" 2 ["value"] [] (sp_is_number CR)) : Cal P w K mg base "is_row" 3 ["columns", "value"] [] (sp_is_row CR) := by
  refine cal_mk Fd hm (fn_mk Fd sc_is_row (fun _ => rfl) fun cdv A outer s H E x F hr hp ce => ?_) fun _ _ _ _ _ _ us hl => match us, hl with | [_, _], _ => rfl
  refine g_ret (Ev.tob (ev_and (x := true) (ev_callI c1 (hr.mono (by decide)) x.2 (eva_one (ev_name 1 rfl)) trivial) fun _ => ev_and (x := true) (Ev.tob (ev_eqI (ev_lenL (ev_name 1 rfl) T.f) (ev_name 0 rfl)) (decide_eq_true hp.symm)) fun _ => ev_one (Ev.tob (ev_all (ev_lc [("number", 2)] (evi_list (ev_name 1 rfl)) (U := tBool) (f := fun _ => true) (fun i h => ?_) sc_is_row.nd (defScope (top 46)) (N := ["columns", "value", "number"])) T.g) (all_true _))) rfl)
  exact ⟨_, _, by decide, fun s H C cl fp => bd_name 2 sc_is_row.nd, tYes_ok, fun _ s H C cl fp => ev_callI c2 hr (Sum.inr x.2[i]) (eva_one (ev_name 2 rfl)) trivial⟩
abbrev sp_told_row (CR : Addr) : Sp := spT (fun _ : List Rat => True) (fun _ => []) (fun x => [(tRrow CR).is x]) fun x => (tTup (tRat CR)).is x
theorem sc_told_row : FnScope ["row", "number"] ["row"] (defScope (top 47)) := ⟨rfl, rfl, rfl, by decide +kernel, rfl, by decide +kernel, by decide +kernel⟩
theorem Ev.tol {X : Cx} {Γ : Gam} {M : Mem} {e : Expr} {α : Type} {T : Ty α} {xs ys : α} (h : Ev X Γ M e (T.is xs)) (q : xs = ys) : Ev X Γ M e (T.is ys) := q ▸ h
theorem ok_told_row {f : Addr} {fd : FuncData} (Fd : FnP K "told_row" (top 47) f fd) (hm : mg "told_row" = some (.ref f)) (T : Tx K mg CR CT CY) (c1 : Cal P w K mg base "ratio_of" 4 ["number"] [] (sp_ratio_of CR)) : Cal P w K mg base "told_row" 5 ["row"] [] (sp_told_row CR) := by
  refine cal_mk Fd hm (fn_mk Fd sc_told_row (fun _ => rfl) fun cdv A outer s H E x F hr hp ce => ?_) fun _ _ _ _ _ _ us hl => match us, hl with | [_], _ => rfl
  refine g_ret (ev_tupL (Ev.tol (ev_lc [("number", 1)] (evi_list (ev_name 0 rfl)) (U := tRat CR) (f := fun q => q) (fun i h => ?_) sc_told_row.nd (defScope (top 47)) (N := ["row", "number"])) (List.map_id' x)) T.f)
  exact ⟨_, _, by decide, fun s H C cl fp => bd_name 1 sc_told_row.nd, tYes_ok, fun _ s H C cl fp => ev_callI (R := (tRat CR).is x[i]) c1 hr (Sum.inr x[i]) (eva_one (ev_name 1 rfl)) trivial⟩
end
end L2.K3
set_option Elab.async false
set_option linter.all false
set_option maxRecDepth 100000
set_option maxHeartbeats 4000001
/-! FnG: the class Table; words. -/
namespace L2.K3
open PySem PySem.Spec PyProof.Rows
theorem look_ins {F : Hp} {f : Str} {P : MP} : ∀ {fs : List (Str × V)} {fts : List (Str × MP)}, Paired (fun (p : Str × V) (q : Str × MP) => p.1 = q.1 ∧ q.2.p F p.2) fs fts → fts.lookup f = some P → ∃ w, fs.lookup f = some w ∧ P.p F w
  | _, _, .nil, h => by cases h
  | p :: fs, q :: fts, .cons ⟨e, h1⟩ t, h => by
    obtain ⟨g, v⟩ := p
    obtain ⟨g', Q⟩ := q
    cases (show g = g' from e)
    rw [List.lookup_cons] at h ⊢
    cases hb : f == g with
    | true => rw [hb] at h; cases h; exact ⟨v, rfl, h1⟩
    | false => rw [hb] at h; exact look_ins t h
section
variable {X : Cx} {Γ : Gam} {M : Mem} {e : Expr} {P : MP} {C : Addr} {fts : List (Str × MP)} {f : Str} {pos : Pos}
theorem ev_fldI (ha : Ev X Γ M e (mpIns C fts)) (cl : Cls X.K C) (na : NoAttr X.K C f) (h : fts.lookup f = some P) (hb : attributeBase e f X.env (eval e X.env) = eval e X.env := by rfl) : Ev X Γ M (.Attribute e f pos) P :=
  ev_fld ha (fun F v ⟨a, o, e1, h1, dx, fs, e2, hp⟩ => by
    obtain ⟨w, h2, h3⟩ := look_ins hp h
    exact ⟨a, C, dx, fs, w, e1, by rw [← e2]; exact h1, cl, na, h2, h3⟩) hb
end
abbrev ftsT (CR : Addr) (x : Int × List (List Rat)) : List (Str × MP) := [("own_columns", tInt.is x.1), ("own_rows", (tTup (tTup (tRat CR))).is x.2)]
def tTab (CR CT : Addr) : Ty (Int × List (List Rat)) := ⟨fun F v x => (mpIns CT (ftsT CR x)).p F v, fun {F F' v x} e h => (mpIns CT (ftsT CR x)).mono e h⟩
theorem ty_mpIns {K : PySem.W.Frag} {mg : Str → Option Value} {CR CT CY C : Addr} (T : Tx K mg CR CT CY) (cl : ClT K C) {fts : List (Str × MP)} {F H : Hp} {v : V} (e : Ext F H) (h : (mpIns C fts).p F v) : TyX K H v (.ref C) := by
  obtain ⟨a, o, rfl, h1, dx, fs, rfl, _⟩ := h
  exact ty_ins T cl e h1
section
variable {P : Program} {w : World} {K : PySem.W.Frag} {mg : Str → Option Value} {base : Heap} {CR CT CY : Addr}
structure preT (x : Int × List (List Rat)) : Prop where
  a : 0 ≤ x.1 ∧ x.1 ≤ 3
  b : x.2.length ≤ 40
  c : ∀ r ∈ x.2, x.1 = r.length
abbrev sp_Table (CR CT : Addr) : Sp := spI CT preT (fun x => [tInt.is x.1, (tLst (tRrow CR)).is x.2]) (ftsT CR)
theorem sc_Table : FnScope ["self", "columns", "rows", "row"] ["self", "columns", "rows"] (defScope (sT 0)) := ⟨rfl, rfl, rfl, by decide +kernel, rfl, by decide +kernel, by decide +kernel⟩
theorem ok_Table {f : Addr} {fd : FuncData} {dvs : List V} (Fd : FunD K "__init__" "Table.__init__" (defArgs (sT 0)) (defBody (sT 0)) (defScope (sT 0)) dvs [] f fd) (T : Tx K mg CR CT CY)
    (c1 : Cal P w K mg base "want_columns" 3 ["value"] [] sp_want_columns) (c2 : Cal P w K mg base "is_list" 1 ["value"] [] (sp_is_listL (tRrow CR))) (c3 : Cal P w K mg base "is_row" 3 ["columns", "value"] [] (sp_is_row CR)) (c4 : Cal P w K mg base "told_row" 5 ["row"] [] (sp_told_row CR)) : FnOk P w K mg base CX0 6 f fd ["self", "columns", "rows"] (sp_Table CR CT) := by
  refine fn_mkI Fd sc_Table (fun _ => rfl) fun cdv A outer s H E i F x hr hp => ?_
  obtain ⟨n, rows⟩ := i
  refine g_expr (ev_callI c1 (hr.mono (by decide)) n (eva_one (ev_name 1 rfl)) hp.a) ?_
  refine g_if (x := false) (EvT.to (EvW.t (ew_or (et_not (et_val (ev_callI c2 (hr.mono (by decide)) rows (eva_one (ev_name 2 rfl)) trivial))) fun _ => ew_or (et_gt (ev_lenL (ev_name 2 rfl) T.f) (ev_gint T.n40)) fun _ => ew_or1 (et_not (et_val (ev_all (ev_lc [("row", 3)] (evi_list (ev_name 2 rfl)) (U := tBool) (f := fun _ => true) (fun i h => ?_) sc_Table.nd (defScope (sT 0)) (N := ["self", "columns", "rows", "row"])) T.g))))) ?_) (fun h => by cases h) fun _ => g_end ?_
  · exact ⟨_, _, by decide, fun s H C cl fp => bd_name 3 sc_Table.nd, tYes_ok, fun _ s H C cl fp => ev_callI c3 (hr.mono (by decide)) (n, rows[i]) (eva_cons (ev_name 1 rfl) (eva_one (ev_name 3 rfl))) (hp.c _ (List.getElem_mem h))⟩
  · have hb : rows.length ≤ 40 := hp.b
    rw [all_true, decide_eq_false (show ¬ (40 : Int) < (((n, rows).2.length : Nat) : Int) by show ¬ (40 : Int) < (rows.length : Int); omega)] <;> rfl
  refine g_fld 0 [] (ev_name 0 rfl) (ev_name 1 rfl) rfl T.T.cl T.Tc ?_
  refine g_fld 0 ["own_columns"] (ev_name 0 rfl) (ev_tupL (Ev.tol (ev_lc [("row", 3)] (evi_list (ev_name 2 rfl)) (U := tTup (tRat CR)) (f := fun q => q) (fun i h => ?_) sc_Table.nd (defScope (sT 0)) (N := ["self", "columns", "rows", "row"])) (List.map_id' rows)) T.f) rfl T.T.cl T.Tr ?_
  · exact ⟨_, _, by decide, fun s H C cl fp => bd_name 3 sc_Table.nd, tYes_ok, fun _ s H C cl fp => ev_callI (R := (tTup (tRat CR)).is rows[i]) c4 hr rows[i] (eva_one (ev_name 3 rfl)) trivial⟩
  · exact g_fall rfl (fun p hp => hp) (by simp)
abbrev CalT (P : Program) (w : World) (K : PySem.W.Frag) (mg : Str → Option Value) (base : Heap) (CR CT : Addr) : Prop := CalC P w K mg base "Table" CT 6 ["self", "columns", "rows"] [] (sp_Table CR CT)
section
variable {X : Cx} {Γ : Gam} {M : Mem} {a b e : Expr} {pos p : Pos} {n : Int} {rows : List (List Rat)} {x : Int × List (List Rat)}
theorem ev_table (c : CalT X.prog X.w X.K X.mg X.base CR CT) (hr : Room 7 X.A) (ha : Ev X Γ M a (tInt.is n)) (hb : Ev X Γ M b ((tLst (tRrow CR)).is rows)) (hp : preT (n, rows)) (hg : Gl X "Table" := by rfl)
    (he : starEach [a, b] X.env = (false, eval a X.env) :: starEach [b] X.env := by rfl) (hpl : (backTo pos (starEach [b] X.env)).any (·.1) = false := by rfl) (he2 : starEach [b] X.env = (false, eval b X.env) :: starEach [] X.env := by rfl) :
    Ev X Γ M (.Call (.Name "Table" p) [a, b] [] pos) ((tTab CR CT).is (n, rows)) :=
  ev_make (Pd := []) (R := (tTab CR CT).is (n, rows)) c hr (n, rows) (eva_cons ha (eva_one hb he2) he) hp (fun _ => .nil) rfl rfl hg (by decide) he hpl
theorem ev_tcols (T : Tx X.K mg CR CT CY) (h : Ev X Γ M e ((tTab CR CT).is x)) (hb : attributeBase e "own_columns" X.env (eval e X.env) = eval e X.env := by rfl) : Ev X Γ M (.Attribute e "own_columns" pos) (tInt.is x.1) := ev_fldI (fts := ftsT CR x) h T.T.cl T.Tc rfl hb
theorem ev_trows (T : Tx X.K mg CR CT CY) (h : Ev X Γ M e ((tTab CR CT).is x)) (hb : attributeBase e "own_rows" X.env (eval e X.env) = eval e X.env := by rfl) : Ev X Γ M (.Attribute e "own_rows" pos) ((tTup (tTup (tRat CR))).is x.2) := ev_fldI (fts := ftsT CR x) h T.T.cl T.Tr rfl hb
end
abbrev sp_table_of (CR CT : Addr) : Sp := spT preT (fun _ => []) (fun x => [tInt.is x.1, (tTup (tTup (tRat CR))).is x.2]) fun x => (tTab CR CT).is x
theorem sc_table_of : FnScope ["columns", "rows", "row"] ["columns", "rows"] (defScope (top 49)) := ⟨rfl, rfl, rfl, by decide +kernel, rfl, by decide +kernel, by decide +kernel⟩
theorem ok_table_of {f : Addr} {fd : FuncData} (Fd : FnP K "table_of" (top 49) f fd) (hm : mg "table_of" = some (.ref f)) (T : Tx K mg CR CT CY) (c1 : CalT P w K mg base CR CT) : Cal P w K mg base "table_of" 8 ["columns", "rows"] [] (sp_table_of CR CT) := by
  refine cal_mk Fd hm (fn_mk Fd sc_table_of (fun _ => rfl) fun cdv A outer s H E x F hr hp ce => ?_) fun _ _ _ _ _ _ us hl => match us, hl with | [_, _], _ => rfl
  refine g_ret (ev_table c1 hr (ev_name 0 rfl) (Ev.tol (ev_lc [("row", 2)] (evi_tup (ev_name 1 rfl)) (U := tRrow CR) (f := fun q => q) (fun i h => ?_) sc_table_of.nd (defScope (top 49)) (N := ["columns", "rows", "row"])) (List.map_id' x.2)) hp)
  exact ⟨_, _, by decide, fun s H C cl fp => bd_name 2 sc_table_of.nd, tYes_ok, fun _ s H C cl fp => ev_listT (ev_name 2 rfl) T.f⟩
abbrev sp_want_table (CR CT : Addr) : Sp := spT (fun _ => True) (fun _ => []) (fun x => [(tTab CR CT).is x]) fun x => (tTab CR CT).is x
theorem sc_want_table : FnScope ["value"] ["value"] (defScope (top 50)) := ⟨rfl, rfl, rfl, by decide +kernel, rfl, by decide +kernel, by decide +kernel⟩
theorem ok_want_table {f : Addr} {fd : FuncData} (Fd : FnP K "want_table" (top 50) f fd) (hm : mg "want_table" = some (.ref f)) (T : Tx K mg CR CT CY) : Cal P w K mg base "want_table" 1 ["value"] [] (sp_want_table CR CT) := by
  refine cal_mk Fd hm (fn_mk Fd sc_want_table (fun _ => rfl) fun cdv A outer s H E x F hr hp ce => ?_) fun _ _ _ _ _ _ us hl => match us, hl with | [_], _ => rfl
  refine g_if (x := false) (et_not (x := true) (et_val (ev_isi (ev_name 0 rfl) (ev_cls T.gT) (.own CT) (fun F H v e h => ty_mpIns T T.T (fts := ftsT CR x) e h) kit_self T.f))) (fun h => by cases h) fun _ => g_end ?_
  exact g_ret (ev_name 0 rfl)
structure preJ (x : (Int × List (List Rat)) × (Int × List (List Rat))) : Prop where
  c : x.1.1 = x.2.1
  t : preT (x.1.1, x.1.2 ++ x.2.2)
abbrev sp_joined (CR CT : Addr) : Sp := spT preJ (fun _ => []) (fun x => [(tTab CR CT).is x.1, (tTab CR CT).is x.2]) fun x => (tTab CR CT).is (x.1.1, x.1.2 ++ x.2.2)
theorem sc_joined : FnScope ["table", "other", "near", "far"] ["table", "other"] (defScope (top 52)) := ⟨rfl, rfl, rfl, by decide +kernel, rfl, by decide +kernel, by decide +kernel⟩
theorem ok_joined {f : Addr} {fd : FuncData} (Fd : FnP K "joined" (top 52) f fd) (hm : mg "joined" = some (.ref f)) (T : Tx K mg CR CT CY) (c1 : Cal P w K mg base "want_table" 1 ["value"] [] (sp_want_table CR CT)) (c2 : Cal P w K mg base "want_like" 1 ["near", "far"] [] sp_want_like) (c3 : Cal P w K mg base "want_at_most" 1 ["what", "limit", "number"] [] sp_want_at_most) (c4 : Cal P w K mg base "table_of" 8 ["columns", "rows"] [] (sp_table_of CR CT)) : Cal P w K mg base "joined" 9 ["table", "other"] [] (sp_joined CR CT) := by
  refine cal_mk Fd hm (fn_mk Fd sc_joined (fun _ => rfl) fun cdv A outer s H E x F hr hp ce => ?_) fun _ _ _ _ _ _ us hl => match us, hl with | [_, _], _ => rfl
  obtain ⟨x, y⟩ := x
  refine g_set 2 (ev_callI (R := (tTab CR CT).is x) c1 (hr.mono (by decide)) x (eva_one (ev_name 0 rfl)) trivial) ?_ sc_joined.nd
  refine g_set 3 (ev_callI (R := (tTab CR CT).is y) c1 (hr.mono (by decide)) y (eva_one (ev_name 1 rfl)) trivial) ?_ sc_joined.nd
  refine g_expr (ev_callI c2 (hr.mono (by decide)) (x.1, y.1) (eva_cons (ev_tcols T (ev_name 2 rfl)) (eva_one (ev_tcols T (ev_name 3 rfl)))) hp.c) ?_
  have hb := hp.t.b
  simp only [List.length_append] at hb
  refine g_expr (ev_callI c3 (hr.mono (by decide)) ("rows", 40, (x.2.length : Int) + (y.2.length : Int)) (eva_cons (ev_const pe_str) (eva_cons (ev_gint T.n40) (eva_one (ev_add (ev_lenT (ev_trows T (x := x) (ev_name 2 rfl)) T.f) (ev_lenT (ev_trows T (x := y) (ev_name 3 rfl)) T.f))))) (by show (x.2.length : Int) + y.2.length ≤ 40; omega)) ?_
  exact g_ret (ev_callI (R := (tTab CR CT).is (x.1, x.2 ++ y.2)) c4 hr (x.1, x.2 ++ y.2) (eva_cons (ev_tcols T (x := x) (ev_name 2 rfl)) (eva_one (ev_catT (ev_trows T (x := x) (ev_name 2 rfl)) (ev_trows T (x := y) (ev_name 3 rfl)) (by omega)))) hp.t)
end
end L2.K3
set_option Elab.async false
set_option linter.all false
set_option maxHeartbeats 2000001
/-! MS: what solved.py computes. -/
namespace Sol
def gcdN (row : List Int) : Nat := row.foldl (fun c n => Nat.gcd c n.natAbs) 0
def bareRow (row : List Int) : List Int := if 1 < gcdN row then row.map (fun n => n.fdiv (gcdN row : Int)) else row
def SzI (n : Nat) (row : List Int) : Prop := ∀ x ∈ row, x.natAbs < 2 ^ n
theorem take_succ {α : Type} {xs : List α} {i : Nat} (h : i < xs.length) : xs.take (i + 1) = xs.take i ++ [xs[i]] := by
  rw [List.take_succ, List.getElem?_eq_getElem h] <;> rfl
theorem gcdN_take {row : List Int} {i : Nat} (h : i < row.length) : gcdN (row.take (i + 1)) = Nat.gcd (gcdN (row.take i)) row[i].natAbs := by
  unfold gcdN
  rw [take_succ h, List.foldl_append] <;> rfl
theorem gcdN_lt {n : Nat} {row : List Int} (h : SzI n row) : gcdN row < 2 ^ n := by
  have : ∀ (l : List Int) (c : Nat), c < 2 ^ n → (∀ x ∈ l, x.natAbs < 2 ^ n) → l.foldl (fun c n => Nat.gcd c n.natAbs) c < 2 ^ n := by
    intro l
    induction l with
    | nil => exact fun c h _ => h
    | cons a l ih =>
      intro c hc hl
      refine ih _ ?_ fun x hx => hl x (List.mem_cons_of_mem _ hx)
      by_cases h0 : c = 0
      · subst h0
        show Nat.gcd 0 a.natAbs < _
        rw [Nat.gcd_zero_left]
        exact hl a List.mem_cons_self
      · exact Nat.lt_of_le_of_lt (Nat.le_of_dvd (by omega) (Nat.gcd_dvd_left _ _)) hc
  exact this row 0 (Nat.two_pow_pos n) h
def clearedM (row head : List Int) (p : Nat) : List Int := if row.getD p 0 = 0 then row else bareRow ((row.zip head).map fun x => head.getD p 0 * x.1 - row.getD p 0 * x.2)
def firstIx (rows : List (List Int)) (p : Nat) : Option Nat := rows.findIdx? fun r => decide (r.getD p 0 ≠ 0)
def ixI : Option Nat → Int
  | some i => (i : Int)
  | none => -1
def headedM (row : List Int) (p : Nat) : List Int := if 0 < (bareRow row).getD p 0 then bareRow row else (bareRow row).map fun n => 0 - n
abbrev Rows := List (List Int)
def stepM (s : Rows × Rows) (p : Nat) : Rows × Rows := match firstIx s.1 p with
  | none => s
  | some i => ((s.1.take i ++ s.1.drop (i + 1)).map fun r => clearedM r (headedM (s.1.getD i []) p) p, (s.2.map fun r => clearedM r (headedM (s.1.getD i []) p) p) ++ [headedM (s.1.getD i []) p])
def stepN (rows : Rows) (k : Nat) : Rows × Rows := (List.range k).foldl stepM (rows, [])
theorem stepN_succ (rows : Rows) (k : Nat) : stepN rows (k + 1) = stepM (stepN rows k) k := by
  unfold stepN
  rw [List.range_succ, List.foldl_append] <;> rfl
def widthM (rows : Rows) : Nat := (rows.getD 0 []).length
def stepsM (rows : Rows) : Rows := (stepN rows (widthM rows)).2
def headM (row : List Int) : Nat := row.findIdx fun n => decide (n ≠ 0)
def toldM (row : List Int) : List Rat := row.map fun n => Rat.divInt n (row.getD (headM row) 0)
theorem bareRow_len (row : List Int) : (bareRow row).length = row.length := by
  unfold bareRow
  split
  · rw [List.length_map]
  · rfl
theorem headedM_len (row : List Int) (p : Nat) : (headedM row p).length = row.length := by
  unfold headedM
  split
  · exact bareRow_len row
  · rw [List.length_map, bareRow_len]
theorem clearedM_len {row head : List Int} (p : Nat) (h : head.length = row.length) : (clearedM row head p).length = row.length := by
  unfold clearedM
  split
  · rfl
  · rw [bareRow_len, List.length_map, List.length_zip, h, Nat.min_self]
/-- rows of width n, m of them in all, entries below 2 ^ 3900 -/
structure Ok (n m : Nat) (s : Rows × Rows) : Prop where
  l1 : ∀ r ∈ s.1, r.length = n
  l2 : ∀ r ∈ s.2, r.length = n
  cnt : s.1.length + s.2.length = m
theorem firstIx_some {rows : Rows} {p i : Nat} (h : firstIx rows p = some i) : i < rows.length ∧ (rows.getD i []).getD p 0 ≠ 0 := by
  obtain ⟨h1, h2, _⟩ := List.findIdx?_eq_some_iff_getElem.mp h
  have e : rows.getD i [] = rows[i] := by rw [List.getD_eq_getElem?_getD, List.getElem?_eq_getElem h1] <;> rfl
  exact ⟨h1, by rw [e]; exact of_decide_eq_true h2⟩
theorem Ok.step {n m : Nat} {s : Rows × Rows} (h : Ok n m s) (p : Nat) : Ok n m (stepM s p) := by
  unfold stepM
  split
  · exact h
  · rename_i i hi
    obtain ⟨h1, _⟩ := firstIx_some hi
    have hg : s.1.getD i [] = s.1[i] := by rw [List.getD_eq_getElem?_getD, List.getElem?_eq_getElem h1] <;> rfl
    have hl : (headedM (s.1.getD i []) p).length = n := by rw [headedM_len, hg]; exact h.l1 _ (List.getElem_mem h1)
    refine ⟨fun r hr => ?_, fun r hr => ?_, ?_⟩
    · obtain ⟨r', hr', rfl⟩ := List.mem_map.mp hr
      have : r' ∈ s.1 := by
        rcases List.mem_append.mp hr' with q | q
        · exact List.mem_of_mem_take q
        · exact List.mem_of_mem_drop q
      rw [clearedM_len _ (by rw [hl, h.l1 _ this]), h.l1 _ this]
    · rcases List.mem_append.mp hr with q | q
      · obtain ⟨r', hr', rfl⟩ := List.mem_map.mp q
        rw [clearedM_len _ (by rw [hl, h.l2 _ hr']), h.l2 _ hr']
      · rw [List.mem_singleton.mp q, hl]
    · have := h.cnt
      simp only [List.length_map, List.length_append, List.length_take, List.length_drop, List.length_cons, List.length_nil]
      omega
theorem Ok.all {n m : Nat} {rows : Rows} (h : Ok n m (rows, [])) (k : Nat) : Ok n m (stepN rows k) := by
  induction k with
  | zero => exact h
  | succ k ih => rw [stepN_succ]; exact ih.step k
end Sol
set_option Elab.async false
set_option linter.all false
set_option maxHeartbeats 2000001
/-! MA: worths, sums over the rows ahead. -/
namespace RM
open Sol (take_succ)
def worthR (letter : List Int) (row : List Rat) : Rat := (letter.zip row).foldl (fun q x => q * x.2 ^ x.1.toNat) 1
def wTop (l : List (Int × Rat)) : Int := l.foldl (fun t x => t * x.2.num ^ x.1.toNat) 1
def wBot (l : List (Int × Rat)) : Int := l.foldl (fun t x => t * (x.2.den : Int) ^ x.1.toNat) 1
theorem wTop_take {l : List (Int × Rat)} {i : Nat} (h : i < l.length) : wTop (l.take (i + 1)) = wTop (l.take i) * l[i].2.num ^ l[i].1.toNat := by
  unfold wTop
  rw [take_succ h, List.foldl_append] <;> rfl
theorem wBot_take {l : List (Int × Rat)} {i : Nat} (h : i < l.length) : wBot (l.take (i + 1)) = wBot (l.take i) * (l[i].2.den : Int) ^ l[i].1.toNat := by
  unfold wBot
  rw [take_succ h, List.foldl_append] <;> rfl
theorem div_mul {a b c d : Int} (hb : b ≠ 0) (hd : d ≠ 0) : Rat.divInt (a * c) (b * d) = Rat.divInt a b * Rat.divInt c d := (Rat.divInt_mul_divInt ..).symm
theorem div_pow (q : Rat) : ∀ n : Nat, Rat.divInt (q.num ^ n) ((q.den : Int) ^ n) = q ^ n
  | 0 => by
    rw [Int.pow_zero, Int.pow_zero, Rat.pow_zero]
    exact whole 1
  | n + 1 => by
    have h : ((q.den : Nat) : Int) ≠ 0 := by have := den_pos q; omega
    rw [Int.pow_succ, Int.pow_succ, div_mul (Int.pow_ne_zero h) h, div_pow q n, Rat.num_divInt_den, Rat.pow_succ]
theorem wBot_ne (l : List (Int × Rat)) : wBot l ≠ 0 := by
  have : ∀ (l : List (Int × Rat)) (b : Int), b ≠ 0 → l.foldl (fun t x => t * (x.2.den : Int) ^ x.1.toNat) b ≠ 0 := by
    intro l
    induction l with
    | nil => exact fun b h => h
    | cons x l ih =>
      intro b h
      refine ih _ (Int.mul_ne_zero h (Int.pow_ne_zero ?_))
      have := den_pos x.2
      omega
  exact this l 1 (by decide)
theorem w_div (l : List (Int × Rat)) : Rat.divInt (wTop l) (wBot l) = l.foldl (fun q x => q * x.2 ^ x.1.toNat) 1 := by
  have : ∀ (l : List (Int × Rat)) (a b : Int) (q : Rat), b ≠ 0 → Rat.divInt a b = q → Rat.divInt (l.foldl (fun t x => t * x.2.num ^ x.1.toNat) a) (l.foldl (fun t x => t * (x.2.den : Int) ^ x.1.toNat) b) = l.foldl (fun q x => q * x.2 ^ x.1.toNat) q := by
    intro l
    induction l with
    | nil => exact fun a b q _ h => h
    | cons x l ih =>
      intro a b q hb h
      have hd : ((x.2.den : Nat) : Int) ≠ 0 := by have := den_pos x.2; omega
      refine ih _ _ _ (Int.mul_ne_zero hb (Int.pow_ne_zero hd)) ?_
      rw [div_mul hb (Int.pow_ne_zero hd), h, div_pow]
  exact this l 1 1 1 (by decide) (whole 1)
/-- at most 2 ^ n -/
def PB (n : Nat) (x : Int) : Prop := x.natAbs ≤ 2 ^ n
theorem PB.mul {n m : Nat} {x y : Int} (h : PB n x) (k : PB m y) : PB (n + m) (x * y) := by
  unfold PB
  rw [Int.natAbs_mul, Nat.pow_add]
  exact Nat.mul_le_mul h k
theorem PB.mono {n m : Nat} {x : Int} (h : PB n x) (k : n ≤ m) : PB m x := Nat.le_trans h (Nat.pow_le_pow_right (by decide) k)
theorem PB.lt {n : Nat} {x : Int} (h : PB n x) : x.natAbs < 2 ^ (n + 1) := Nat.lt_of_le_of_lt h (Nat.pow_lt_pow_right (by decide) (Nat.lt_succ_self n))
theorem PB.pow {n : Nat} {x : Int} (h : PB n x) : ∀ k : Nat, PB (n * k) (x ^ k)
  | 0 => by show (x ^ 0).natAbs ≤ 2 ^ (n * 0); rw [Int.pow_zero]; exact Nat.one_le_two_pow
  | k + 1 => by rw [Int.pow_succ, Nat.mul_succ]; exact (PB.pow h k).mul h
theorem PB.mulW {n m : Nat} {x y : Int} (h : PB n x) (k : PB m y) (q : n + m ≤ 899998) : L2.CMulW x y := RM.mulW h.lt k.lt (by omega)
theorem wTop_le {l : List (Int × Rat)} (h : ∀ x ∈ l, x.1 ≤ 8 ∧ PB 16 x.2.num) : ∀ i, i ≤ l.length → PB (128 * i) (wTop (l.take i))
  | 0, _ => by show (1 : Int).natAbs ≤ 2 ^ (128 * 0); decide
  | i + 1, hi => by
    have ih := wTop_le h i (Nat.le_of_succ_le hi)
    rw [wTop_take hi]
    obtain ⟨h1, h2⟩ := h _ (List.getElem_mem hi)
    exact (ih.mul (h2.pow _)).mono (by omega)
theorem wBot_le {l : List (Int × Rat)} (h : ∀ x ∈ l, x.1 ≤ 8 ∧ PB 16 (x.2.den : Int)) : ∀ i, i ≤ l.length → PB (128 * i) (wBot (l.take i))
  | 0, _ => by show (1 : Int).natAbs ≤ 2 ^ (128 * 0); decide
  | i + 1, hi => by
    have ih := wBot_le h i (Nat.le_of_succ_le hi)
    rw [wBot_take hi]
    obtain ⟨h1, h2⟩ := h _ (List.getElem_mem hi)
    exact (ih.mul (h2.pow _)).mono (by omega)
end RM
namespace RM
open Sol (take_succ)
/-! ## sums over the rows ahead -/
section
variable {R : Type} [Add R] [Mul R]
def sumsG (z : R) (l : List (R × R)) (k : Nat) : R := (l.take k).foldl (fun s x => s + x.1 * x.2) z
def stepG (z : R) (found ws : List R) : List R := (List.range ((found.zip ws).length + 1)).map (sumsG z (found.zip ws))
theorem sumsG_succ {z : R} {l : List (R × R)} {k : Nat} (h : k < l.length) : sumsG z l (k + 1) = sumsG z l k + l[k].1 * l[k].2 := by
  unfold sumsG
  rw [take_succ h, List.foldl_append] <;> rfl
theorem stepG_len {z : R} {found ws : List R} : (stepG z found ws).length = (found.zip ws).length + 1 := by
  unfold stepG
  rw [List.length_map, List.length_range]
end
def aheadW (found : List Rat) (worths : List (List Rat)) : List Rat := worths.foldl (stepG 0) found
def aheadR (rows : List (List Rat)) (word : List (List Int)) : List Rat := aheadW (List.replicate (rows.length + 1) 1) (word.map fun letter => rows.map (worthR letter))
end RM
set_option Elab.async false
set_option linter.all false
set_option maxRecDepth 100000
set_option maxHeartbeats 4000001
/-! FnH: words. -/
namespace L2.K3
open PySem PySem.Spec PyProof.Rows RM
def LetOk (c : Int) (l : Letter) : Prop := (l.length : Int) = c ∧ ∀ p ∈ l, 0 ≤ p ∧ p ≤ 8
def WordOk (c : Int) (x : Word) : Prop := x.length ≤ 8 ∧ ∀ l ∈ x, LetOk c l
section
variable {P : Program} {w : World} {K : PySem.W.Frag} {mg : Str → Option Value} {base : Heap} {CR CT CY : Addr}
theorem kit_tt : PySem.W.kitOne K (.type "tuple") (.type "tuple") = some true := kit_ty (by decide +kernel)
abbrev sp_is_letter_of : Sp := spT (fun x : Int × Letter => LetOk x.1 x.2) (fun _ => []) (fun x => [tInt.is x.1, tLetter.is x.2]) fun _ => tBool.is true
theorem sc_is_letter_of : FnScope ["columns", "value", "power"] ["columns", "value"] (defScope (top 56)) := ⟨rfl, rfl, rfl, by decide +kernel, rfl, by decide +kernel, by decide +kernel⟩
theorem ok_is_letter_of {f : Addr} {fd : FuncData} (Fd : FnP K "is_letter_of" (top 56) f fd) (hm : mg "is_letter_of" = some (.ref f)) (T : Tx K mg CR CT CY) (c1 : Cal P w K mg base "is_count" 2 ["value"] [] sp_is_count) : Cal P w K mg base "is_letter_of" 3 ["columns", "value"] [] sp_is_letter_of := by
  refine cal_mk Fd hm (fn_mk Fd sc_is_letter_of (fun _ => rfl) fun cdv A outer s H E x F hr hp ce => ?_) fun _ _ _ _ _ _ us hl => match us, hl with | [_, _], _ => rfl
  obtain ⟨c, l⟩ := x
  obtain ⟨hl, hq⟩ := hp
  refine g_if (x := false) (EvT.to (EvW.t (ew_or (et_not (et_val (ev_isi (ev_name 1 rfl) (ev_ty T.f (by decide +kernel)) (.ty "tuple") (fun F H v e h => ty_tup (T := tInt) (xs := l) e h) kit_tt T.f))) fun _ => ew_or1 (et_neI (ev_lenT (xs := l) (ev_name 1 rfl) T.f) (ev_name 0 rfl)))) (by
    rw [decide_eq_true hl] <;> rfl)) (fun h => by cases h) fun _ => g_end ?_
  refine g_ret (Ev.tob (ev_all (ev_lc [("power", 2)] (evi_tup (ev_name 1 rfl)) (U := tBool) (f := fun _ => true) (fun i h => ?_) sc_is_letter_of.nd (defScope (top 56)) (N := ["columns", "value", "power"])) T.g) (all_true _))
  obtain ⟨q1, q2⟩ := hq _ (List.getElem_mem h)
  refine ⟨_, _, by decide, fun s H C cl fp => bd_name 2 sc_is_letter_of.nd, tYes_ok, fun _ s H C cl fp => ?_⟩
  refine Ev.tob (ev_and (ev_callI (R := tBool.is (decide (0 ≤ l[i]))) c1 hr l[i] (eva_one (ev_name 2 rfl)) trivial) fun _ => ev_one (ev_le (ev_name 2 rfl) (ev_gint T.n8p))) ?_
  rw [decide_eq_true q1, decide_eq_true q2] <;> rfl
abbrev sp_is_word_of : Sp := spT (fun x : Int × Word => WordOk x.1 x.2) (fun _ => []) (fun x => [tInt.is x.1, tWord.is x.2]) fun _ => tBool.is true
theorem sc_is_word_of : FnScope ["columns", "value", "letter"] ["columns", "value"] (defScope (top 57)) := ⟨rfl, rfl, rfl, by decide +kernel, rfl, by decide +kernel, by decide +kernel⟩
theorem ok_is_word_of {f : Addr} {fd : FuncData} (Fd : FnP K "is_word_of" (top 57) f fd) (hm : mg "is_word_of" = some (.ref f)) (T : Tx K mg CR CT CY) (c1 : Cal P w K mg base "is_letter_of" 3 ["columns", "value"] [] sp_is_letter_of) : Cal P w K mg base "is_word_of" 4 ["columns", "value"] [] sp_is_word_of := by
  refine cal_mk Fd hm (fn_mk Fd sc_is_word_of (fun _ => rfl) fun cdv A outer s H E x F hr hp ce => ?_) fun _ _ _ _ _ _ us hl => match us, hl with | [_, _], _ => rfl
  obtain ⟨c, x⟩ := x
  obtain ⟨hl, hq⟩ := hp
  refine g_if (x := false) (EvT.to (EvW.t (ew_or (et_not (et_val (ev_isi (ev_name 1 rfl) (ev_ty T.f (by decide +kernel)) (.ty "tuple") (fun F H v e h => ty_tup (T := tLetter) (xs := x) e h) kit_tt T.f))) fun _ => ew_or1 (et_gt (ev_lenT (xs := x) (ev_name 1 rfl) T.f) (ev_gint T.n8l)))) (by
    rw [decide_eq_false (show ¬ (8 : Int) < (x.length : Int) by have h : x.length ≤ 8 := hl; omega)] <;> rfl)) (fun h => by cases h) fun _ => g_end ?_
  refine g_ret (Ev.tob (ev_all (ev_lc [("letter", 2)] (evi_tup (ev_name 1 rfl)) (U := tBool) (f := fun _ => true) (fun i h => ?_) sc_is_word_of.nd (defScope (top 57)) (N := ["columns", "value", "letter"])) T.g) (all_true _))
  exact ⟨_, _, by decide, fun s H C cl fp => bd_name 2 sc_is_word_of.nd, tYes_ok, fun _ s H C cl fp => ev_callI (R := tBool.is true) c1 hr (c, x[i]) (eva_cons (ev_name 0 rfl) (eva_one (ev_name 2 rfl))) (hq _ (List.getElem_mem h))⟩
/-! ### worth_at -/
structure preWo (x : Letter × List Rat) : Prop where
  l : x.1.length ≤ 3
  p : ∀ q ∈ x.1, 0 ≤ q ∧ q ≤ 8
  r : ∀ q ∈ x.2, PB 16 q.num ∧ PB 16 (q.den : Int)
abbrev sp_worth_at (CR : Addr) : Sp := spT preWo (fun _ => []) (fun x => [tLetter.is x.1, (tTup (tRat CR)).is x.2]) fun x => (tRat CR).is (worthR x.1 x.2)
theorem sc_worth_at : FnScope ["letter", "row", "top", "bottom", "power", "number", "turn"] ["letter", "row"] (defScope (top 58)) := ⟨rfl, rfl, rfl, by decide +kernel, rfl, by decide +kernel, by decide +kernel⟩
theorem ok_worth_at {f : Addr} {fd : FuncData} (Fd : FnP K "worth_at" (top 58) f fd) (hm : mg "worth_at" = some (.ref f)) (T : Tx K mg CR CT CY) (c1 : CalR2 P w K mg base CR) : Cal P w K mg base "worth_at" 4 ["letter", "row"] [] (sp_worth_at CR) := by
  refine cal_mk Fd hm (fn_mk Fd sc_worth_at (fun _ => rfl) fun cdv A outer s H E x F hr hp ce => ?_) fun _ _ _ _ _ _ us hl => match us, hl with | [_, _], _ => rfl
  obtain ⟨l, r⟩ := x
  have hz : ∀ x ∈ l.zip r, (0 ≤ x.1 ∧ x.1 ≤ 8) ∧ PB 16 x.2.num ∧ PB 16 (x.2.den : Int) := fun x hx => by
    obtain ⟨h1, h2⟩ := List.of_mem_zip (a := x.1) (b := x.2) hx
    exact ⟨hp.p _ h1, hp.r _ h2⟩
  have hlen : (l.zip r).length ≤ 3 := by
    have hl : l.length ≤ 3 := hp.l
    rw [List.length_zip]
    omega
  refine g_asg (ev_pr (ev_int (n := 1)) (ev_int (n := 1))) (bd_two (bd_name 2 sc_worth_at.nd) (bd_name 3 sc_worth_at.nd)) ?_
  refine g_for (evi_zipT (ev_name 0 rfl) (ev_name 1 rfl) T.f) (fun i Γ' M' => Γ' = [some (tLetter.is l), some ((tTup (tRat CR)).is r), some (tInt.is (wTop ((l.zip r).take i))), some (tInt.is (wBot ((l.zip r).take i))), none, none, none] ∧ M' = []) ⟨rfl, rfl⟩ ?_ ?_
  · rintro B i h _ _ ⟨rfl, rfl⟩
    have ht := wTop_le (fun x hx => ⟨(hz x hx).1.2, (hz x hx).2.1⟩) i (Nat.le_of_lt h)
    have hb := wBot_le (fun x hx => ⟨(hz x hx).1.2, (hz x hx).2.2⟩) i (Nat.le_of_lt h)
    obtain ⟨q1, q2, q3⟩ := hz _ (List.getElem_mem h)
    refine ⟨_, _, bd_two (bd_name 4 sc_worth_at.nd) (bd_name 5 sc_worth_at.nd), ?_⟩
    generalize hx : (l.zip r)[i] = x at q1 q2 q3
    refine g_for (evi_range1 (n := x.1) (ev_name 4 rfl) T.f ?_) (fun j Γ' M' => Γ' = [some (tLetter.is l), some ((tTup (tRat CR)).is r), some (tInt.is (wTop ((l.zip r).take i) * x.2.num ^ j)), some (tInt.is (wBot ((l.zip r).take i) * (x.2.den : Int) ^ j)), some (tInt.is x.1), some ((tRat CR).is x.2), none] ∧ M' = []) ⟨?_, rfl⟩ ?_ ?_
    · omega
    · show [some (tLetter.is l), some ((tTup (tRat CR)).is r), some (tInt.is (wTop ((l.zip r).take i))), some (tInt.is (wBot ((l.zip r).take i))), some (tInt.is x.1), some ((tRat CR).is x.2), none] = _
      rw [Int.pow_zero, Int.pow_zero, Int.mul_one, Int.mul_one]
    · rintro B j hj _ _ ⟨rfl, rfl⟩
      have hj' : j < x.1.toNat := by rw [upF_len] at hj; exact hj
      have h' : i < (l.zip r).length := h
      have hj2 : j < 8 := by omega
      refine ⟨_, _, bd_name 6 sc_worth_at.nd, ?_⟩
      refine g_par2 2 3 (ga_val (ev_mul (ev_name 2 rfl) (ev_top T (q := x.2) (ev_name 5 rfl)) ((ht.mul (q2.pow j)).mulW q2 (by omega))) (ga_val (ev_mul (ev_name 3 rfl) (ev_bot T (q := x.2) (ev_name 5 rfl)) ((hb.mul (q3.pow j)).mulW q3 (by omega))) (ga_nil ⟨_, _, rfl, ?_⟩))) sc_worth_at.nd
      refine g_turn ?_ (.keep (.keep (.keep (.keep (.keep (.keep (.drop .nil)))))))
      rw [Int.pow_succ, Int.pow_succ, Int.mul_assoc, Int.mul_assoc]
      exact ⟨rfl, rfl⟩
    · rintro _ _ ⟨rfl, rfl⟩
      rw [upF_len]
      refine g_turn ?_ (.keep (.keep (.keep (.keep (.drop (.drop (.drop .nil)))))))
      rw [wTop_take h, wBot_take h, hx]
      exact ⟨rfl, rfl⟩
  · rintro _ _ ⟨rfl, rfl⟩
    rw [List.take_length]
    have hb := wBot_le (fun x hx => ⟨(hz x hx).1.2, (hz x hx).2.2⟩) _ (Nat.le_refl _)
    rw [List.take_length] at hb
    exact g_ret (ev_ratio2 c1 hr (ev_name 2 rfl) (ev_name 3 rfl) (wBot_ne _) (Nat.lt_of_lt_of_le hb.lt (Nat.pow_le_pow_right (by decide) (by omega))) (w_div _))
end
end L2.K3
set_option Elab.async false
set_option linter.all false
set_option maxRecDepth 100000
set_option maxHeartbeats 4000001
/-! FnE: solved.py. -/
namespace L2.K3
open PySem PySem.Spec PyProof.Rows Sol
theorem enum_at {α : Type} {xs : List α} {i : Nat} (h : i < ((upF 0 xs.length).zip xs).length) : ((upF 0 xs.length).zip xs)[i] = ((i : Int), xs[i]'(by rw [List.length_zip, upF_len] at h; omega)) := by
  rw [getElem_zip']
  simp [upF]
theorem upF_at {n i : Nat} (h : i < (upF 0 n).length) : (upF 0 n)[i] = (i : Int) := by simp [upF]
theorem at_getD {row : List Int} {p : Nat} (h : p < row.length) : row[p]? = some (row.getD p 0) := by
  rw [List.getD_eq_getElem?_getD, List.getElem?_eq_getElem h] <;> rfl
theorem szI_log {n : Nat} (h : n < 2 ^ 8990) : ((n : Nat) : Int).natAbs.log2 < 9000 := by
  rw [Int.natAbs_natCast]
  exact RM.log2_lt (Nat.lt_of_lt_of_le h (Nat.pow_le_pow_right (by decide) (by decide))) (by decide)
theorem log_of {x : Int} {n : Nat} (h : x.natAbs < 2 ^ n) (hn : n < 9000) : x.natAbs.log2 < 9000 := by
  refine RM.log2_lt (Nat.lt_of_lt_of_le h (Nat.pow_le_pow_right (by decide) (by omega))) (by decide)
section
variable {P : Program} {w : World} {K : PySem.W.Frag} {mg : Str → Option Value} {base : Heap} {CR CT CY : Addr}
abbrev tRow : Ty (List Int) := tLst tInt
abbrev tRows : Ty (List (List Int)) := tLst (tLst tInt)
/-! ### ints_of -/
abbrev sp_ints_of (CR : Addr) : Sp := spT (fun rows : List (List Rat) => ∀ r ∈ rows, preW r) (fun _ => []) (fun rows => [(tLst (tLst (tRat CR))).is rows]) fun rows => tRows.is (rows.map whol)
theorem sc_ints_of : FnScope ["rows", "row"] ["rows"] (defScope (top 33)) := ⟨rfl, rfl, rfl, by decide +kernel, rfl, by decide +kernel, by decide +kernel⟩
theorem ok_ints_of {f : Addr} {fd : FuncData} (Fd : FnP K "ints_of" (top 33) f fd) (hm : mg "ints_of" = some (.ref f)) (c1 : Cal P w K mg base "wholes" 1 ["ratios"] [] (sp_wholes CR)) : Cal P w K mg base "ints_of" 2 ["rows"] [] (sp_ints_of CR) := by
  refine cal_mk Fd hm (fn_mk Fd sc_ints_of (fun _ => rfl) fun cdv A outer s H E rows F hr hp ce => ?_) fun _ _ _ _ _ _ us hl => match us, hl with | [_], _ => rfl
  refine g_ret (ev_lc [("row", 1)] (evi_list (ev_name 0 rfl)) (f := whol) (fun i h => ?_) sc_ints_of.nd (defScope (top 33)) (N := ["rows", "row"]))
  refine ⟨_, _, by decide, fun s H C cl fp => bd_name 1 sc_ints_of.nd, tYes_ok, fun _ s H C cl fp => ?_⟩
  exact ev_snd (ev_callI (R := (tPr tInt tRow).is (lcms rows[i], whol rows[i])) c1 hr rows[i] (eva_one (ev_name 1 rfl)) (hp _ (List.getElem_mem h)))
/-! ### bare_row -/
abbrev sp_bare_row : Sp := spT (fun row : List Int => SzI 8900 row) (fun _ => []) (fun row => [tRow.is row]) fun row => tRow.is (bareRow row)
theorem sc_bare_row : FnScope ["row", "common", "number"] ["row"] (defScope (top 34)) := ⟨rfl, rfl, rfl, by decide +kernel, rfl, by decide +kernel, by decide +kernel⟩
theorem ok_bare_row {f : Addr} {fd : FuncData} (Fd : FnP K "bare_row" (top 34) f fd) (hm : mg "bare_row" = some (.ref f)) (c1 : Cal P w K mg base "divisor_of" 1 ["one", "other"] [] sp_divisor_of) : Cal P w K mg base "bare_row" 2 ["row"] [] sp_bare_row := by
  refine cal_mk Fd hm (fn_mk Fd sc_bare_row (fun _ => rfl) fun cdv A outer s H E row F hr hp ce => ?_) fun _ _ _ _ _ _ us hl => match us, hl with | [_], _ => rfl
  refine g_set 1 ev_int ?_ sc_bare_row.nd
  refine g_for (evi_list (ev_name 0 rfl)) (fun i Γ' M' => Γ' = [some (tRow.is row), some (tInt.is ((gcdN (row.take i) : Nat) : Int)), none] ∧ M' = []) ⟨rfl, rfl⟩ ?_ ?_
  · rintro B i h _ _ ⟨rfl, rfl⟩
    refine ⟨_, _, bd_name 2 sc_bare_row.nd, ?_⟩
    refine g_if (et_neI (ev_name 2 rfl) ev_int) (fun hx => ?_) (fun hx => ?_)
    · refine g_set 1 (ev_callI c1 hr (((gcdN (row.take i) : Nat) : Int), row[i]) (eva_cons (ev_name 1 rfl) (eva_one (ev_name 2 rfl))) trivial) ?_ sc_bare_row.nd
      refine g_end ?_
      show G _ _ _ [some (tRow.is row), some (tInt.is ((Nat.gcd ((gcdN (row.take i) : Nat) : Int).natAbs row[i].natAbs : Nat) : Int)), some (tInt.is row[i])] [] _
      rw [Int.natAbs_natCast, ← gcdN_take h]
      exact g_turn ⟨rfl, rfl⟩ (.keep (.keep (.drop .nil)))
    · refine g_end ?_
      have e : row[i] = 0 := by simpa using hx
      have e2 : gcdN (row.take i) = gcdN (row.take (i + 1)) := by rw [gcdN_take h, e]; exact (Nat.gcd_zero_right _).symm
      rw [e2]
      exact g_turn ⟨rfl, rfl⟩ (.keep (.keep (.drop .nil)))
  · rintro _ _ ⟨rfl, rfl⟩
    rw [List.take_length]
    refine g_ret (ev_if (P := tRow.is (bareRow row)) (et_gt (ev_name 1 rfl) ev_int) (fun h => ?_) fun h => ?_)
    · have h1 : 1 < gcdN row := by have := of_decide_eq_true h; omega
      rw [bareRow, if_pos h1]
      refine ev_lc [("number", 2)] (evi_list (ev_name 0 rfl)) (f := fun n : Int => n.fdiv (gcdN row : Int)) (fun i h => ?_) sc_bare_row.nd (defScope (top 34)) (N := ["row", "common", "number"])
      refine ⟨_, _, by decide, fun s H C cl fp => bd_name 2 sc_bare_row.nd, tYes_ok, fun _ s H C cl fp => ?_⟩
      exact ev_fdiv (ev_name 2 rfl) (ev_name 1 rfl) (by omega) (log_of (n := 8900) (by rw [Int.natAbs_natCast]; exact gcdN_lt hp) (by decide))
    · have h1 : ¬ 1 < gcdN row := by have := of_decide_eq_false h; omega
      rw [bareRow, if_neg h1]
      exact ev_name 0 rfl
/-! ### cleared -/
def preC (x : List Int × List Int × Nat) : Prop := SzI 3900 x.1 ∧ SzI 3900 x.2.1 ∧ x.2.1.length = x.1.length ∧ x.2.2 < x.1.length
abbrev sp_cleared : Sp := spT preC (fun _ => []) (fun x => [tRow.is x.1, tRow.is x.2.1, tInt.is (x.2.2 : Int)]) fun x => tRow.is (clearedM x.1 x.2.1 x.2.2)
theorem sc_cleared : FnScope ["row", "head", "place", "near", "far"] ["row", "head", "place"] (defScope (top 35)) := ⟨rfl, rfl, rfl, by decide +kernel, rfl, by decide +kernel, by decide +kernel⟩
theorem szI_getD {n p : Nat} {row : List Int} (h : SzI n row) (hp : p < row.length) : (row.getD p 0).natAbs < 2 ^ n := by
  rw [List.getD_eq_getElem?_getD, List.getElem?_eq_getElem hp]
  exact h _ (List.getElem_mem hp)
theorem ok_cleared {f : Addr} {fd : FuncData} (Fd : FnP K "cleared" (top 35) f fd) (hm : mg "cleared" = some (.ref f)) (T : Tx K mg CR CT CY) (c1 : Cal P w K mg base "bare_row" 2 ["row"] [] sp_bare_row) : Cal P w K mg base "cleared" 3 ["row", "head", "place"] [] sp_cleared := by
  refine cal_mk Fd hm (fn_mk Fd sc_cleared (fun _ => rfl) fun cdv A outer s H E x F hr hp ce => ?_) fun _ _ _ _ _ _ us hl => match us, hl with | [_, _, _], _ => rfl
  obtain ⟨row, head, p⟩ := x
  obtain ⟨h1, h2, hl, hpl⟩ := hp
  have hpl2 : p < head.length := by rw [hl]; exact hpl
  have ix : ∀ {X : Cx} {Γ : Gam} {M : Mem} {a b : Expr} {pos : Pos} {r : List Int}, Ev X Γ M a (tRow.is r) → Ev X Γ M b (tInt.is (p : Int)) → p < r.length → PlainIx b → Ev X Γ M (.Subscript a b pos) (tInt.is (r.getD p 0)) := fun ha hb h hs => ev_ixL ha hb (atI_nat (at_getD h)) hs
  refine g_if (et_eqI (ix (ev_name 0 rfl) (ev_name 2 rfl) hpl (fun _ _ => rfl)) ev_int) (fun h => ?_) (fun h => g_end ?_)
  · refine g_ret (ev_name 0 rfl) (fun F v q => ?_)
    show (tRow.is (clearedM row head p)).p F v
    rw [clearedM, if_pos (of_decide_eq_true h)]
    exact q
  · have e : clearedM row head p = bareRow ((row.zip head).map fun x => head.getD p 0 * x.1 - row.getD p 0 * x.2) := by rw [clearedM, if_neg (of_decide_eq_false h)]
    refine g_ret (ev_callI (RR := fun row => tRow.is (bareRow row)) c1 hr ((row.zip head).map fun x => head.getD p 0 * x.1 - row.getD p 0 * x.2) (eva_one (ev_lc [("near", 3), ("far", 4)] (evi_zip (ev_name 0 rfl) (ev_name 1 rfl) T.f) (f := fun x => head.getD p 0 * x.1 - row.getD p 0 * x.2) (fun i h => ?_) sc_cleared.nd (defScope (top 35)) (N := ["row", "head", "place", "near", "far"]))) ?_)
      (fun F v q => ?_)
    · refine ⟨_, _, by decide, fun s H C cl fp => bd_two (bd_name 3 sc_cleared.nd) (bd_name 4 sc_cleared.nd), tYes_ok, fun _ s H C cl fp => ?_⟩
      have hz := getElem_zip' h
      have hm := List.getElem_mem h
      rw [hz]
      have h' : i < (row.zip head).length := h
      rw [List.length_zip] at h'
      have hi : i < row.length := by omega
      have hi2 : i < head.length := by omega
      exact ev_sub (ev_mul (ix (ev_name 1 rfl) (ev_name 2 rfl) hpl2 (fun _ _ => rfl)) (ev_name 3 rfl) (RM.mulW (szI_getD h2 hpl2) (h1 _ (List.getElem_mem hi)) (by decide)))
        (ev_mul (ix (ev_name 0 rfl) (ev_name 2 rfl) hpl (fun _ _ => rfl)) (ev_name 4 rfl) (RM.mulW (szI_getD h1 hpl) (h2 _ (List.getElem_mem hi2)) (by decide)))
    · intro y hy
      obtain ⟨q, hq, rfl⟩ := List.mem_map.mp hy
      obtain ⟨m1, m2⟩ := List.of_mem_zip (a := q.1) (b := q.2) hq
      refine Nat.lt_of_lt_of_le (RM.sub_lt (a := 3900 + 3900) (RM.mul_lt (szI_getD h2 hpl2) (h1 _ m1)) (RM.mul_lt (szI_getD h1 hpl) (h2 _ m2))) (Nat.pow_le_pow_right (by decide) (by decide))
    · show (tRow.is (clearedM row head p)).p F v
      rw [e]
      exact q
/-! ### first_at -/
abbrev sp_first_at : Sp := spT (fun x : Rows × Nat => ∀ r ∈ x.1, x.2 < r.length) (fun _ => []) (fun x => [tRows.is x.1, tInt.is (x.2 : Int)]) fun x => tInt.is (ixI (firstIx x.1 x.2))
theorem sc_first_at : FnScope ["rows", "place", "at", "row"] ["rows", "place"] (defScope (top 36)) := ⟨rfl, rfl, rfl, by decide +kernel, rfl, by decide +kernel, by decide +kernel⟩
theorem ok_first_at {f : Addr} {fd : FuncData} (Fd : FnP K "first_at" (top 36) f fd) (hm : mg "first_at" = some (.ref f)) (T : Tx K mg CR CT CY) : Cal P w K mg base "first_at" 1 ["rows", "place"] [] sp_first_at := by
  refine cal_mk Fd hm (fn_mk Fd sc_first_at (fun _ => rfl) fun cdv A outer s H E x F hr hp ce => ?_) fun _ _ _ _ _ _ us hl => match us, hl with | [_, _], _ => rfl
  obtain ⟨rows, p⟩ := x
  refine g_for (evi_enum (ev_name 0 rfl) T.g) (fun i Γ' M' => (Γ' = [some (tRows.is rows), some (tInt.is (p : Int)), none, none] ∧ M' = []) ∧ ∀ j (h : j < rows.length), j < i → rows[j].getD p 0 = 0) ⟨⟨rfl, rfl⟩, fun j _ h => absurd h (Nat.not_lt_zero _)⟩ ?_ ?_
  · rintro B i h _ _ ⟨⟨rfl, rfl⟩, hz⟩
    refine ⟨_, _, bd_two (bd_name 2 sc_first_at.nd) (bd_name 3 sc_first_at.nd), ?_⟩
    have h' : i < ((upF 0 rows.length).zip rows).length := h
    have hi : i < rows.length := by rw [List.length_zip, upF_len] at h'; omega
    rw [enum_at]
    refine g_if (et_neI (ev_ixL (ev_name 3 rfl) (ev_name 1 rfl) (atI_nat (at_getD (hp _ (List.getElem_mem hi))))) ev_int) (fun hx => ?_) (fun hx => g_end ?_)
    · refine g_ret (ev_name 2 rfl) fun F v q => ?_
      have e : firstIx rows p = some i := List.findIdx?_eq_some_iff_getElem.mpr ⟨hi, by simpa using hx, fun j hj => by simpa using hz j (by omega) hj⟩
      show (tInt.is (ixI (firstIx rows p))).p F v
      rw [e]
      exact q
    · refine g_turn (Γ' := [some (tRows.is rows), some (tInt.is (p : Int)), none, none]) ⟨⟨rfl, rfl⟩, fun j hj hji => ?_⟩ (.keep (.keep (.drop (.drop .nil))))
      by_cases hq : j = i
      · subst hq
        simpa using hx
      · exact hz j hj (by omega)
  · rintro _ _ ⟨⟨rfl, rfl⟩, hz⟩
    refine g_ret (ev_neg ev_int) fun F v q => ?_
    have hl : ((upF 0 rows.length).zip rows).length = rows.length := by rw [List.length_zip, upF_len, Nat.min_self]
    have e : firstIx rows p = none := List.findIdx?_eq_none_iff.mpr fun r hr => by
      obtain ⟨j, hj, rfl⟩ := List.getElem_of_mem hr
      simpa using hz j hj (by rw [hl]; exact hj)
    show (tInt.is (ixI (firstIx rows p))).p F v
    rw [e]
    exact q
/-! ### headed_row -/
abbrev sp_headed_row : Sp := spT (fun x : List Int × Nat => SzI 3900 x.1 ∧ x.2 < x.1.length) (fun _ => []) (fun x => [tRow.is x.1, tInt.is (x.2 : Int)]) fun x => tRow.is (headedM x.1 x.2)
theorem sc_headed_row : FnScope ["row", "place", "found", "number"] ["row", "place"] (defScope (top 37)) := ⟨rfl, rfl, rfl, by decide +kernel, rfl, by decide +kernel, by decide +kernel⟩
theorem ok_headed_row {f : Addr} {fd : FuncData} (Fd : FnP K "headed_row" (top 37) f fd) (hm : mg "headed_row" = some (.ref f)) (c1 : Cal P w K mg base "bare_row" 2 ["row"] [] sp_bare_row) : Cal P w K mg base "headed_row" 3 ["row", "place"] [] sp_headed_row := by
  refine cal_mk Fd hm (fn_mk Fd sc_headed_row (fun _ => rfl) fun cdv A outer s H E x F hr hp ce => ?_) fun _ _ _ _ _ _ us hl => match us, hl with | [_, _], _ => rfl
  obtain ⟨row, p⟩ := x
  obtain ⟨h1, h2⟩ := hp
  refine g_set 2 (ev_callI (RR := fun row => tRow.is (bareRow row)) c1 hr row (eva_one (ev_name 0 rfl)) fun y hy => Nat.lt_of_lt_of_le (h1 y hy) (Nat.pow_le_pow_right (by decide) (by decide))) ?_ sc_headed_row.nd
  have hl : p < (bareRow row).length := by rw [bareRow_len]; exact h2
  refine g_ret (ev_if (P := tRow.is (headedM row p)) (et_gt (ev_ixL (ev_name 2 rfl) (ev_name 1 rfl) (atI_nat (at_getD hl))) ev_int) (fun h => ?_) fun h => ?_)
  · rw [headedM, if_pos (of_decide_eq_true h)]
    exact ev_name 2 rfl
  · rw [headedM, if_neg (of_decide_eq_false h)]
    refine ev_lc [("number", 3)] (evi_list (ev_name 2 rfl)) (f := fun n : Int => 0 - n) (fun i h => ?_) sc_headed_row.nd (defScope (top 37)) (N := ["row", "place", "found", "number"])
    exact ⟨_, _, by decide, fun s H C cl fp => bd_name 3 sc_headed_row.nd, tYes_ok, fun _ s H C cl fp => ev_sub ev_int (ev_name 3 rfl)⟩
/-! ### int_steps -/
def SzR (rows : Rows) : Prop := ∀ r ∈ rows, SzI 3900 r
structure preInt (rows : Rows) : Prop where
  wd : ∀ r ∈ rows, r.length = widthM rows
  wz : widthM rows ≤ 1000
  cz : rows.length ≤ 1000
  sz : ∀ k, k ≤ widthM rows → SzR (stepN rows k).1 ∧ SzR (stepN rows k).2
  sh : ∀ k, k < widthM rows → ∀ i, firstIx (stepN rows k).1 k = some i → SzI 3900 (headedM ((stepN rows k).1.getD i []) k)
abbrev sp_int_steps : Sp := spT preInt (fun _ => []) (fun rows => [tRows.is rows]) fun rows => tRows.is (stepsM rows)
theorem sc_int_steps : FnScope ["rows", "left", "found", "place", "at", "head", "others", "row"] ["rows"] (defScope (top 38)) := ⟨rfl, rfl, rfl, by decide +kernel, rfl, by decide +kernel, by decide +kernel⟩
theorem ok_int_steps {f : Addr} {fd : FuncData} (Fd : FnP K "int_steps" (top 38) f fd) (hm : mg "int_steps" = some (.ref f)) (T : Tx K mg CR CT CY) (c1 : Cal P w K mg base "first_at" 1 ["rows", "place"] [] sp_first_at)
    (c2 : Cal P w K mg base "headed_row" 3 ["row", "place"] [] sp_headed_row) (c3 : Cal P w K mg base "cleared" 3 ["row", "head", "place"] [] sp_cleared) : Cal P w K mg base "int_steps" 4 ["rows"] [] sp_int_steps := by
  refine cal_mk Fd hm (fn_mk Fd sc_int_steps (fun _ => rfl) fun cdv A outer s H E rows F hr hp ce => ?_) fun _ _ _ _ _ _ us hl => match us, hl with | [_], _ => rfl
  have ok := Ok.all (n := widthM rows) (m := rows.length) (rows := rows) ⟨hp.wd, (fun r h => by cases h), rfl⟩
  refine g_par2 1 2 (ga_val (ev_name 0 rfl) (ga_val (ev_lst (T := tRow) (xs := []) eva_nil (by decide)) (ga_nil ⟨_, _, rfl, ?_⟩))) sc_int_steps.nd
  have hw : Ev (bX P w K mg base ["rows", "left", "found", "place", "at", "head", "others", "row"] "int_steps" (defScope (top 38)) f cdv A outer s H E) [some (tRows.is rows), some (tRows.is rows), some (tRows.is []), none, none, none, none, none] [] (match (defBody (top 38)).getD 1 (.Pass ⟨0, 0, 0, 0⟩) with | .For _ (.Call _ [e] _ _) _ _ _ => e | _ => .Constant .none 0 ⟨0, 0, 0, 0⟩) (tInt.is (widthM rows : Int)) := by
    refine ev_if (et_gt (ev_lenL (ev_name 0 rfl) T.f) ev_int) (fun h => ?_) fun h => ?_
    · have h0 : 0 < rows.length := by have := of_decide_eq_true h; omega
      refine (ev_lenL (xs := rows.getD 0 []) (ev_ixL (ev_name 0 rfl) ev_int (x := rows.getD 0 []) ?_) T.f)
      show atI rows ((0 : Nat) : Int) = _
      refine atI_nat ?_
      rw [List.getD_eq_getElem?_getD, List.getElem?_eq_getElem h0] <;> rfl
    · have h0 : rows = [] := List.length_eq_zero_iff.mp (by have := of_decide_eq_false h; omega)
      subst h0
      exact ev_int
  refine g_for (evi_range1 hw T.f (by have := hp.wz; omega)) (fun i Γ' M' => Γ' = [some (tRows.is rows), some (tRows.is (stepN rows i).1), some (tRows.is (stepN rows i).2), none, none, none, none, none] ∧ M' = []) ⟨rfl, rfl⟩ ?_ ?_
  · rintro B i h _ _ ⟨rfl, rfl⟩
    have hi : i < widthM rows := by rw [upF_len] at h; omega
    have hok := ok i
    have hlen : (stepN rows i).1.length ≤ 1000 := by have := hok.cnt; have := hp.cz; omega
    have hlen2 : (stepN rows i).2.length ≤ 1000 := by have := hok.cnt; have := hp.cz; omega
    refine ⟨_, _, bd_name 3 sc_int_steps.nd, ?_⟩
    rw [upF_at]
    refine g_set 4 (ev_callI c1 (hr.mono (by decide)) ((stepN rows i).1, i) (eva_cons (ev_name 1 rfl) (eva_one (ev_name 3 rfl))) fun r hr' => by show i < r.length; rw [hok.l1 r hr']; exact hi) ?_ sc_int_steps.nd
    show G _ _ _ [some (tRows.is rows), some (tRows.is (stepN rows i).1), some (tRows.is (stepN rows i).2), some (tInt.is (i : Int)), some (tInt.is (ixI (firstIx (stepN rows i).1 i))), none, none, none] [] _
    cases hx : firstIx (stepN rows i).1 i with
    | none =>
      refine g_if (x := false) (EvT.to (et_ge (ev_name 4 rfl) ev_int) (by decide)) (fun h => by cases h) fun _ => g_end ?_
      have e : stepN rows (i + 1) = stepN rows i := by rw [stepN_succ, stepM, hx]
      refine g_turn ?_ (.keep (.keep (.keep (.drop (.drop (.drop (.drop (.drop .nil))))))))
      rw [e]
      exact ⟨rfl, rfl⟩
    | some j =>
      obtain ⟨hj, _⟩ := firstIx_some hx
      have hg : (stepN rows i).1.getD j [] = (stepN rows i).1[j] := by rw [List.getD_eq_getElem?_getD, List.getElem?_eq_getElem hj] <;> rfl
      obtain ⟨sz1, sz2⟩ := hp.sz i (by omega)
      have szh := hp.sh i hi j hx
      refine g_if (x := true) (EvT.to (et_ge (ev_name 4 rfl) ev_int) (by show decide ((0 : Int) ≤ (j : Int)) = true; exact decide_eq_true (by omega))) (fun _ => ?_) fun h => by cases h
      refine g_set 5 (ev_callI (R := tRow.is (headedM ((stepN rows i).1.getD j []) i)) c2 hr ((stepN rows i).1.getD j [], i) (eva_cons (ev_ixL (x := (stepN rows i).1.getD j []) (ev_name 1 rfl) (ev_name 4 rfl) (atI_nat (by rw [List.getElem?_eq_getElem hj, hg]))) (eva_one (ev_name 3 rfl))) ⟨by show SzI 3900 ((stepN rows i).1.getD j []); rw [hg]; exact sz1 _ (List.getElem_mem hj), by show i < ((stepN rows i).1.getD j []).length; rw [hg, hok.l1 _ (List.getElem_mem hj)]; exact hi⟩) ?_ sc_int_steps.nd
      refine g_set 6 (ev_catL (ev_slL (ev_name 1 rfl) eo_none (eo_some (ev_name 4 rfl)) (cut_to (Nat.le_of_lt hj))) (ev_slL (ev_name 1 rfl) (eo_some (ev_add (ev_name 4 rfl) ev_int)) eo_none (by show cutA _ (some ((j : Int) + 1)) none = _; exact cut_from (k := j + 1) hj)) (by rw [List.length_take, List.length_drop]; omega)) ?_ sc_int_steps.nd
      have hl : (headedM ((stepN rows i).1.getD j []) i).length = widthM rows := by rw [headedM_len, hg]; exact hok.l1 _ (List.getElem_mem hj)
      refine g_set 2 (ev_catL (ev_lc [("row", 7)] (evi_list (ev_name 2 rfl)) (f := fun r => clearedM r (headedM ((stepN rows i).1.getD j []) i) i) (fun q h => ?_) sc_int_steps.nd (defScope (top 38)) (N := ["rows", "left", "found", "place", "at", "head", "others", "row"])) (ev_lst (eva_one (ev_name 5 rfl)) (xs := [headedM ((stepN rows i).1.getD j []) i]) (by show 1 ≤ 1000000; decide)) ?_) ?_ sc_int_steps.nd
      · refine ⟨_, _, by decide, fun s H C cl fp => bd_name 7 sc_int_steps.nd, tYes_ok, fun _ s H C cl fp => ?_⟩
        have hm := List.getElem_mem h
        exact ev_callI (R := tRow.is (clearedM (stepN rows i).2[q] (headedM ((stepN rows i).1.getD j []) i) i)) c3 hr ((stepN rows i).2[q], headedM ((stepN rows i).1.getD j []) i, i) (eva_cons (ev_name 7 rfl) (eva_cons (ev_name 5 rfl) (eva_one (ev_name 3 rfl)))) ⟨sz2 _ hm, szh, by show _ = ((stepN rows i).2[q]).length; rw [hl, hok.l2 _ hm], by show i < ((stepN rows i).2[q]).length; rw [hok.l2 _ hm]; exact hi⟩
      · rw [List.length_map, List.length_singleton]; omega
      refine g_setLc (U := tRow) 1 [("row", 7)] (evi_list (ev_name 6 rfl)) (f := fun r => clearedM r (headedM ((stepN rows i).1.getD j []) i) i) (fun q h => ?_) ?_ sc_int_steps.nd (defScope (top 38)) (N := ["rows", "left", "found", "place", "at", "head", "others", "row"])
      · refine ⟨_, _, by decide, fun s H C cl fp => bd_name 7 sc_int_steps.nd, tYes_ok, fun _ s H C cl fp => ?_⟩
        have hm : ((stepN rows i).1.take j ++ (stepN rows i).1.drop (j + 1))[q] ∈ (stepN rows i).1 := by
          rcases List.mem_append.mp (List.getElem_mem h) with z | z
          · exact List.mem_of_mem_take z
          · exact List.mem_of_mem_drop z
        exact ev_callI (R := tRow.is (clearedM ((stepN rows i).1.take j ++ (stepN rows i).1.drop (j + 1))[q] (headedM ((stepN rows i).1.getD j []) i) i)) c3 hr (((stepN rows i).1.take j ++ (stepN rows i).1.drop (j + 1))[q], headedM ((stepN rows i).1.getD j []) i, i) (eva_cons (ev_name 7 rfl) (eva_cons (ev_name 5 rfl) (eva_one (ev_name 3 rfl)))) ⟨sz1 _ hm, szh, by show _ = (((stepN rows i).1.take j ++ (stepN rows i).1.drop (j + 1))[q]).length; rw [hl, hok.l1 _ hm], by show i < (((stepN rows i).1.take j ++ (stepN rows i).1.drop (j + 1))[q]).length; rw [hok.l1 _ hm]; exact hi⟩
      · refine g_end ?_
        refine g_turn ?_ (.keep (.keep (.keep (.drop (.drop (.drop (.drop (.drop .nil))))))))
        have e : stepN rows (i + 1) = (((stepN rows i).1.take j ++ (stepN rows i).1.drop (j + 1)).map fun r => clearedM r (headedM ((stepN rows i).1.getD j []) i) i, ((stepN rows i).2.map fun r => clearedM r (headedM ((stepN rows i).1.getD j []) i) i) ++ [headedM ((stepN rows i).1.getD j []) i]) := by rw [stepN_succ, stepM, hx]
        rw [e]
        exact ⟨rfl, rfl⟩
  · rintro _ _ ⟨rfl, rfl⟩
    rw [upF_len, Int.toNat_natCast]
    exact g_ret (ev_name 2 rfl)
/-! ### head_of -/
abbrev sp_head_of : Sp := spT (fun row : List Int => headM row < row.length) (fun _ => []) (fun row => [tRow.is row]) fun row => tInt.is (headM row : Int)
theorem sc_head_of : FnScope ["row", "place"] ["row"] (defScope (top 39)) := ⟨rfl, rfl, rfl, by decide +kernel, rfl, by decide +kernel, by decide +kernel⟩
theorem ok_head_of {f : Addr} {fd : FuncData} (Fd : FnP K "head_of" (top 39) f fd) (hm : mg "head_of" = some (.ref f)) : Cal P w K mg base "head_of" 1 ["row"] [] sp_head_of := by
  refine cal_mk Fd hm (fn_mk Fd sc_head_of (fun _ => rfl) fun cdv A outer s H E row F hr hp ce => ?_) fun _ _ _ _ _ _ us hl => match us, hl with | [_], _ => rfl
  refine g_set 1 ev_int ?_ sc_head_of.nd
  refine g_while (fun m Γ' M' => ∃ j : Nat, Γ' = [some (tRow.is row), some (tInt.is (j : Int))] ∧ M' = [] ∧ j + m = headM row) (headM row) ⟨0, rfl, rfl, Nat.zero_add _⟩ ?_
  rintro m _ _ ⟨j, rfl, rfl, hj⟩
  have hjl : j < row.length := by omega
  have ev0 := row[j]
  refine ⟨_, et_eqI (ev_ixL (ev_name 0 rfl) (ev_name 1 rfl) (atI_nat (at_getD hjl))) ev_int, fun h => ?_, fun h => ?_⟩
  · have h0 : row.getD j 0 = 0 := of_decide_eq_true h
    have hm : m ≠ 0 := fun e => by
      subst e
      have h1 : j = headM row := by omega
      have h2 := List.findIdx_getElem (w := hp)
      subst h1
      rw [List.getD_eq_getElem?_getD, List.getElem?_eq_getElem hp] at h0
      exact of_decide_eq_true h2 h0
    refine g_set 1 (ev_add (ev_name 1 rfl) ev_int) ?_ sc_head_of.nd
    exact g_turn ⟨m - 1, by omega, j + 1, rfl, rfl, by omega⟩ (.keep (.keep .nil))
  · refine g_ret (ev_name 1 rfl) fun F v q => ?_
    have h0 : row.getD j 0 ≠ 0 := of_decide_eq_false h
    have h1 : headM row = j := by
      rcases Nat.lt_or_ge j (headM row) with q | q
      · have h2 := List.not_of_lt_findIdx (p := fun n : Int => decide (n ≠ 0)) (xs := row) (i := j) q
        rw [List.getD_eq_getElem?_getD, List.getElem?_eq_getElem hjl] at h0
        exact absurd h0 (by simpa using h2)
      · omega
    show (tInt.is (headM row : Int)).p F v
    rw [h1]
    exact q
/-! ### told_rows -/
def preTold (rows : Rows) : Prop := rows.length ≤ 1000 ∧ ∀ r ∈ rows, SzI 3900 r ∧ headM r < r.length
abbrev sp_told_rows (CR : Addr) : Sp := spT preTold (fun _ => []) (fun rows => [tRows.is rows]) fun rows => (tLst (tLst (tRat CR))).is (rows.map toldM)
theorem sc_told_rows : FnScope ["steps_now", "found", "row", "head", "number"] ["steps_now"] (defScope (top 40)) := ⟨rfl, rfl, rfl, by decide +kernel, rfl, by decide +kernel, by decide +kernel⟩
theorem head_ne {row : List Int} (h : headM row < row.length) : row.getD (headM row) 0 ≠ 0 := by
  have h2 := List.findIdx_getElem (w := h)
  rw [List.getD_eq_getElem?_getD, List.getElem?_eq_getElem h]
  exact of_decide_eq_true h2
theorem ok_told_rows {f : Addr} {fd : FuncData} (Fd : FnP K "told_rows" (top 40) f fd) (hm : mg "told_rows" = some (.ref f)) (c1 : Cal P w K mg base "head_of" 1 ["row"] [] sp_head_of) (c2 : CalR2 P w K mg base CR) : Cal P w K mg base "told_rows" 4 ["steps_now"] [] (sp_told_rows CR) := by
  refine cal_mk Fd hm (fn_mk Fd sc_told_rows (fun _ => rfl) fun cdv A outer s H E rows F hr hp ce => ?_) fun _ _ _ _ _ _ us hl => match us, hl with | [_], _ => rfl
  refine g_newl (tLst (tRat CR)) (xs := []) 1 eva_nil (fun l hl => ?_) sc_told_rows.nd
  refine g_for (evi_list (ev_name 0 rfl)) (fun i Γ' M' => Γ' = [some (tRows.is rows), some (mpRef l), none, none, none] ∧ M' = [(l, cLst (tLst (tRat CR)) ((rows.take i).map toldM))]) ⟨rfl, rfl⟩ ?_ ?_
  · rintro B i h _ _ ⟨rfl, rfl⟩
    refine ⟨_, _, bd_name 2 sc_told_rows.nd, ?_⟩
    obtain ⟨h1, h2⟩ := hp.2 _ (List.getElem_mem h)
    refine g_set 3 (ev_ixL (x := rows[i].getD (headM rows[i]) 0) (ev_name 2 rfl) (ev_callI (R := tInt.is (headM rows[i] : Int)) c1 (hr.mono (by decide)) rows[i] (eva_one (ev_name 2 rfl)) h2) (atI_nat (at_getD h2))) ?_ sc_told_rows.nd
    refine g_app (T := tLst (tRat CR)) (x := toldM rows[i]) 0 (ev_name 1 rfl) (ev_lc [("number", 4)] (evi_list (ev_name 2 rfl)) (f := fun n => Rat.divInt n (rows[i].getD (headM rows[i]) 0)) (fun q h => ?_) sc_told_rows.nd (defScope (top 40)) (N := ["steps_now", "found", "row", "head", "number"])) rfl ?_ ?_
    · refine ⟨_, _, by decide, fun s H C cl fp => bd_name 4 sc_told_rows.nd, tYes_ok, fun _ s H C cl fp => ?_⟩
      exact ev_ratio2 c2 hr (ev_name 4 rfl) (ev_name 3 rfl) (head_ne h2) (Nat.lt_of_lt_of_le (szI_getD h1 h2) (Nat.pow_le_pow_right (by decide) (by decide))) rfl
    · refine g_turn ⟨rfl, ?_⟩ (.keep (.keep (.drop (.drop (.drop .nil)))))
      rw [take_succ' h, List.map_append]
      rfl
    · rw [List.length_map, List.length_take]
      have := hp.1
      omega
  · rintro _ _ ⟨rfl, rfl⟩
    rw [List.take_length]
    exact g_frzL 1 0 rfl rfl hl (fun h => nomatch h) (g_ret (ev_name 1 rfl))
/-! ### steps_of -/
structure preSteps (rows : List (List Rat)) : Prop where
  a : ∀ r ∈ rows, preW r
  b : preInt (rows.map whol)
  c : preTold (stepsM (rows.map whol))
abbrev sp_steps_of (CR : Addr) : Sp := spT preSteps (fun _ => []) (fun rows => [(tLst (tLst (tRat CR))).is rows]) fun rows => (tLst (tLst (tRat CR))).is ((stepsM (rows.map whol)).map toldM)
theorem sc_steps_of : FnScope ["rows"] ["rows"] (defScope (top 41)) := ⟨rfl, rfl, rfl, by decide +kernel, rfl, by decide +kernel, by decide +kernel⟩
theorem ok_steps_of {f : Addr} {fd : FuncData} (Fd : FnP K "steps_of" (top 41) f fd) (hm : mg "steps_of" = some (.ref f)) (c1 : Cal P w K mg base "ints_of" 2 ["rows"] [] (sp_ints_of CR)) (c2 : Cal P w K mg base "int_steps" 4 ["rows"] [] sp_int_steps) (c3 : Cal P w K mg base "told_rows" 4 ["steps_now"] [] (sp_told_rows CR)) : Cal P w K mg base "steps_of" 5 ["rows"] [] (sp_steps_of CR) := by
  refine cal_mk Fd hm (fn_mk Fd sc_steps_of (fun _ => rfl) fun cdv A outer s H E rows F hr hp ce => ?_) fun _ _ _ _ _ _ us hl => match us, hl with | [_], _ => rfl
  exact g_ret (ev_callI c3 hr (stepsM (rows.map whol)) (eva_one (ev_callI (R := tRows.is (stepsM (rows.map whol))) c2 hr (rows.map whol) (eva_one (ev_callI (R := tRows.is (rows.map whol)) c1 (hr.mono (by decide)) rows (eva_one (ev_name 0 rfl)) hp.a)) hp.b)) hp.c)
end
end L2.K3
set_option Elab.async false
set_option linter.all false
set_option maxRecDepth 100000
set_option maxHeartbeats 2000001
/-! K3P: a tuple of names takes a tuple of values, by way of the tuple. -/
namespace L2.K3
open PySem PySem.Spec PyProof.Rows
section
variable {X : Cx} {E : En} {D : Ends} {Γ : Gam} {M : Mem} {es ts : List Expr} {rest : List Stmt} {pos pt pt2 : Pos} {kt k2 : Nat}
theorem g_tupA (h : GA X E Γ M es fun M' Ps => ∃ Γ' sl, Ps.length = ts.length ∧ Bds X ts Ps Γ Γ' sl ∧ G E X rest Γ' M' D) (hz : ts.length ≤ 1000 := by decide) (hc : X.calm = true := by rfl)
    (hs : swapsWithSole [.Tuple ts kt pt] (.Tuple es k2 pt2) pos.line X.env = pure false := by rfl) (hw : swappedStores [.Tuple ts kt pt] (.Tuple es k2 pt2) X.env = pure none := by rfl)
    (h1 : (assignEach [.Tuple ts kt pt] X.env).map (·.2) = [assign (.Tuple ts kt pt) X.env] := by rfl) (hn : (assignEach ts X.env).length = ts.length := by rfl) (hst : (assignEach ts X.env).findIdx? (·.1) = none := by rfl) :
    G E X (.Assign [.Tuple ts kt pt] (.Tuple es k2 pt2) pos :: rest) Γ M D := fun σ H F s => by
  refine wSs_of (pss_cons (ps_asg pe_w pg_w hs hw h1) pss_w) ?_
  refine wE_of (pe_tup pa_w) ?_
  refine h σ H F s _ fun M' Ps vs H' F' k x s' pvs => ?_
  obtain ⟨Γ', sl, hl, hb, k⟩ := k
  have hvl : vs.length = ts.length := (Paired.length pvs).trans hl
  refine ⟨by rw [hvl, sizeLine_eq]; omega, fun p hp => ?_⟩
  have st := Stp.new (o := .tup vs) s'.fh s'.ce hp
  have s2 := s'.step st
  refine wG_of (pg_tup (n := ts.length) hc pgs_w hn hst) ⟨p, vs, rfl, SqT.of upd_same, hvl, ?_⟩
  refine hb σ _ _ vs s2.env s2.fh (Paired.mapP pvs fun v P q => P.mono st.ff q) _ fun σ' eo' _ => ?_
  exact k σ' _ _ ⟨eo', s2.fh, s2.ce, s2.st, s2.own, s2.wm, s2.bs⟩
end
section
variable {X : Cx} {Γ Γ1 Γ2 Γ3 : Gam} {P1 P2 P3 : MP} {e1 e2 e3 : Expr} {s1 s2 s3 : List Nat}
theorem bds2 (h1 : Bd X e1 P1 Γ Γ1 s1) (h2 : Bd X e2 P2 Γ1 Γ2 s2) (a : (assignEach [e1, e2] X.env).map (·.2) = assign e1 X.env :: (assignEach [e2] X.env).map (·.2) := by rfl) (b : (assignEach [e2] X.env).map (·.2) = assign e2 X.env :: (assignEach [] X.env).map (·.2) := by rfl) : Bds X [e1, e2] [P1, P2] Γ Γ2 (s1 ++ (s2 ++ [])) := bds_cons h1 (bds_cons h2 bds_nil b) a
theorem bds3 (h1 : Bd X e1 P1 Γ Γ1 s1) (h2 : Bd X e2 P2 Γ1 Γ2 s2) (h3 : Bd X e3 P3 Γ2 Γ3 s3) (a : (assignEach [e1, e2, e3] X.env).map (·.2) = assign e1 X.env :: (assignEach [e2, e3] X.env).map (·.2) := by rfl) (b : (assignEach [e2, e3] X.env).map (·.2) = assign e2 X.env :: (assignEach [e3] X.env).map (·.2) := by rfl) (c : (assignEach [e3] X.env).map (·.2) = assign e3 X.env :: (assignEach [] X.env).map (·.2) := by rfl) : Bds X [e1, e2, e3] [P1, P2, P3] Γ Γ3 (s1 ++ (s2 ++ (s3 ++ []))) := bds_cons h1 (bds_cons h2 (bds_cons h3 bds_nil c) b) a
end
end L2.K3
set_option Elab.async false
set_option linter.all false
set_option maxRecDepth 100000
set_option maxHeartbeats 4000001
/-! FnI: the sums over the rows ahead. -/
namespace L2.K3
open PySem PySem.Spec PyProof.Rows RM
/-! ### whole numbers over a common bottom -/
theorem lcms_dvd (xs : List Rat) : ∀ q ∈ xs, (q.den : Int) ∣ lcms xs := by
  have : ∀ (l : List Rat) (b : Int), (∀ d : Nat, (d : Int) ∣ b → (d : Int) ∣ l.foldl (fun b q => ((Nat.lcm b.natAbs q.den : Nat) : Int)) b) ∧ ∀ q ∈ l, (q.den : Int) ∣ l.foldl (fun b q => ((Nat.lcm b.natAbs q.den : Nat) : Int)) b := by
    intro l
    induction l with
    | nil => exact fun b => ⟨fun d h => h, fun q h => nomatch h⟩
    | cons a l ih =>
      intro b
      obtain ⟨i1, i2⟩ := ih ((Nat.lcm b.natAbs a.den : Nat) : Int)
      refine ⟨fun d h => i1 d ?_, fun q hq => ?_⟩
      · have h1 : d ∣ b.natAbs := by have h2 := Int.natAbs_dvd_natAbs.mpr h; rwa [Int.natAbs_natCast] at h2
        exact Int.natCast_dvd_natCast.mpr (Nat.dvd_trans h1 (Nat.dvd_lcm_left _ _))
      · rcases List.mem_cons.mp hq with rfl | hq
        · exact i1 _ (Int.natCast_dvd_natCast.mpr (Nat.dvd_lcm_right _ _))
        · exact i2 q hq
  exact (this xs 1).2
theorem lcms_ne (xs : List Rat) : lcms xs ≠ 0 := by
  have : ∀ (l : List Rat) (b : Int), b ≠ 0 → l.foldl (fun b q => ((Nat.lcm b.natAbs q.den : Nat) : Int)) b ≠ 0 := by
    intro l
    induction l with
    | nil => exact fun b h => h
    | cons a l ih =>
      intro b h
      refine ih _ ?_
      have h1 : 0 < Nat.lcm b.natAbs a.den := Nat.lcm_pos (by omega) a.den_pos
      show ((Nat.lcm b.natAbs a.den : Nat) : Int) ≠ 0
      omega
  exact this xs 1 (by decide)
theorem whol_at {L : Int} {q : Rat} (h : (q.den : Int) ∣ L) : ((q.num * L.fdiv q.den : Int) : Rat) = q * (L : Rat) := by
  obtain ⟨k, rfl⟩ := h
  have hd : ((q.den : Nat) : Int) ≠ 0 := den_ne q
  rw [Int.mul_fdiv_cancel_left _ hd]
  have e : q = (q.num : Rat) / ((q.den : Int) : Rat) := by rw [← Rat.divInt_eq_div, Rat.num_divInt_den]
  have hd' : ((q.den : Int) : Rat) ≠ 0 := by exact_mod_cast hd
  rw [Rat.intCast_mul, Rat.intCast_mul]
  generalize hn : (q.num : Rat) = n at e ⊢
  generalize ((q.den : Int) : Rat) = d at e hd' ⊢
  rw [e]
  grind
/-- X holds Q's numbers, all over B -/
def Over (B : Int) (X : List Int) (Q : List Rat) : Prop := X.map (fun x : Int => (x : Rat)) = Q.map fun q => q * (B : Rat)
theorem Over.len {B : Int} {X : List Int} {Q : List Rat} (h : Over B X Q) : X.length = Q.length := by
  have := congrArg List.length h
  simpa using this
theorem Over.at {B : Int} {X : List Int} {Q : List Rat} (h : Over B X Q) {i : Nat} (hi : i < X.length) (hq : i < Q.length) : (X[i] : Rat) = Q[i] * (B : Rat) := by
  have e := congrArg (fun l => l[i]?) h
  simp only [List.getElem?_map, List.getElem?_eq_getElem hi, List.getElem?_eq_getElem hq] at e
  exact Option.some.inj e
theorem over_whol (ws : List Rat) : Over (lcms ws) (whol ws) ws := by
  unfold Over whol
  rw [List.map_map]
  exact List.map_congr_left fun q hq => whol_at (lcms_dvd ws q hq)
theorem over_sums {B L : Int} {X W : List Int} {Q R : List Rat} (h : Over B X Q) (k : Over L W R) : ∀ n, n ≤ (X.zip W).length → ((sumsG 0 (X.zip W) n : Int) : Rat) = sumsG 0 (Q.zip R) n * ((B * L : Int) : Rat)
  | 0, _ => by show ((0 : Int) : Rat) = (0 : Rat) * _; rw [Rat.zero_mul] <;> rfl
  | n + 1, hn => by
    have e1 : (X.zip W).length = (Q.zip R).length := by rw [List.length_zip, List.length_zip, h.len, k.len]
    have ih := over_sums h k n (Nat.le_of_succ_le hn)
    have hx : n < X.length := by rw [List.length_zip] at hn; omega
    have hw : n < W.length := by rw [List.length_zip] at hn; omega
    rw [sumsG_succ hn, sumsG_succ (by omega), Rat.intCast_add, Rat.intCast_mul, ih, List.getElem_zip, List.getElem_zip]
    rw [h.at hx (by rw [← h.len]; exact hx), k.at hw (by rw [← k.len]; exact hw), Rat.intCast_mul]
    grind
theorem over_step {B L : Int} {X W : List Int} {Q R : List Rat} (h : Over B X Q) (k : Over L W R) : Over (B * L) (stepG 0 X W) (stepG 0 Q R) := by
  have e1 : (X.zip W).length = (Q.zip R).length := by rw [List.length_zip, List.length_zip, h.len, k.len]
  unfold Over stepG
  rw [List.map_map, List.map_map, e1]
  exact List.map_congr_left fun n hn => over_sums h k n (by have := List.mem_range.mp hn; omega)
def stepI (s : List Int × Int) (ws : List Rat) : List Int × Int := (stepG 0 s.1 (whol ws), s.2 * lcms ws)
def aheadI (n : Nat) (worths : List (List Rat)) : List Int × Int := worths.foldl stepI (List.replicate (n + 1) 1, 1)
theorem aheadI_take {n : Nat} {W : List (List Rat)} {i : Nat} (h : i < W.length) : aheadI n (W.take (i + 1)) = stepI (aheadI n (W.take i)) W[i] := by
  unfold aheadI
  rw [take_succ' h, List.foldl_append] <;> rfl
theorem aheadW_take {f : List Rat} {W : List (List Rat)} {i : Nat} (h : i < W.length) : aheadW f (W.take (i + 1)) = stepG 0 (aheadW f (W.take i)) W[i] := by
  unfold aheadW
  rw [take_succ' h, List.foldl_append] <;> rfl
theorem aheadI_over (n : Nat) (W : List (List Rat)) : ∀ i, i ≤ W.length → Over (aheadI n (W.take i)).2 (aheadI n (W.take i)).1 (aheadW (List.replicate (n + 1) 1) (W.take i)) ∧ (aheadI n (W.take i)).2 ≠ 0
  | 0, _ => ⟨by show List.map _ (List.replicate (n + 1) (1 : Int)) = List.map _ (List.replicate (n + 1) (1 : Rat)); rw [List.map_replicate, List.map_replicate, Rat.one_mul] <;> rfl, by show (1 : Int) ≠ 0; decide⟩
  | i + 1, hi => by
    obtain ⟨h1, h2⟩ := aheadI_over n W i (Nat.le_of_succ_le hi)
    rw [aheadI_take hi, aheadW_take hi]
    exact ⟨over_step h1 (over_whol _), Int.mul_ne_zero h2 (lcms_ne _)⟩
theorem over_div {B x : Int} {q : Rat} (h : (x : Rat) = q * (B : Rat)) (hb : B ≠ 0) : Rat.divInt x B = q := by
  rw [Rat.divInt_eq_div, h]
  have : (B : Rat) ≠ 0 := by exact_mod_cast hb
  grind
theorem PB.add {n m : Nat} {x y : Int} (h : PB n x) (k : PB m y) (e : m ≤ n) : (x + y).natAbs ≤ 2 ^ n + 2 ^ n := by
  have h1 : x.natAbs ≤ 2 ^ n := h
  have h2 : y.natAbs ≤ 2 ^ n := k.mono e
  omega
theorem sums_le {l : List (Int × Int)} {m : Nat} (h : ∀ x ∈ l, PB m (x.1 * x.2)) : ∀ k, k ≤ l.length → (sumsG 0 l k).natAbs ≤ k * 2 ^ m
  | 0, _ => by show (0 : Int).natAbs ≤ _; simp
  | k + 1, hk => by
    have ih := sums_le h k (Nat.le_of_succ_le hk)
    have q : (l[k].1 * l[k].2).natAbs ≤ 2 ^ m := h _ (List.getElem_mem hk)
    rw [sumsG_succ hk, Nat.succ_mul]
    omega
theorem whol_le {ws : List Rat} (h : preW ws) : ∀ x ∈ whol ws, PB 4064 x := fun x hx => by
  unfold whol at hx
  obtain ⟨q, hq, rfl⟩ := List.mem_map.mp hx
  obtain ⟨h1, h2⟩ := h.1 q hq
  have hb : (lcms ws).natAbs < 2 ^ 64 := by have := h.2 _ (Nat.le_refl _); rw [List.take_length] at this; exact this
  have e1 : PB 4000 q.num := Nat.le_of_lt h1
  have e2 : PB 64 ((lcms ws).fdiv q.den) := Nat.le_of_lt (fdiv_le hb (RM.den_pos _) (lcms_nn ws))
  exact e1.mul e2
theorem aheadI_le (n : Nat) (hn : n ≤ 40) {W : List (List Rat)} (h : ∀ ws ∈ W, preW ws ∧ ws.length = n) : ∀ i, i ≤ W.length → (∀ x ∈ (aheadI n (W.take i)).1, PB (4100 * i) x) ∧ PB (64 * i) (aheadI n (W.take i)).2 ∧ (aheadI n (W.take i)).1.length = n + 1
  | 0, _ => ⟨fun x hx => by
      have e : x = 1 := (List.mem_replicate.mp hx).2
      subst e
      show (1 : Int).natAbs ≤ 2 ^ (4100 * 0)
      decide, by show (1 : Int).natAbs ≤ 2 ^ (64 * 0); decide, by show (List.replicate (n + 1) (1 : Int)).length = _; rw [List.length_replicate]⟩
  | i + 1, hi => by
    obtain ⟨h1, h2, h3⟩ := aheadI_le n hn h i (Nat.le_of_succ_le hi)
    obtain ⟨hw, hl⟩ := h _ (List.getElem_mem hi)
    rw [aheadI_take hi]
    have hL : PB 64 (lcms W[i]) := by have := hw.2 _ (Nat.le_refl _); rw [List.take_length] at this; exact Nat.le_of_lt this
    have hwl : (whol W[i]).length = n := by unfold whol; rw [List.length_map, hl]
    have hz : ((aheadI n (W.take i)).1.zip (whol W[i])).length = n := by rw [List.length_zip, h3, hwl]; omega
    refine ⟨fun x hx => ?_, h2.mul hL |>.mono (by omega), ?_⟩
    · have hx' : x ∈ stepG 0 (aheadI n (W.take i)).1 (whol W[i]) := hx
      unfold stepG at hx'
      obtain ⟨k, hk, rfl⟩ := List.mem_map.mp hx'
      have hk' : k ≤ ((aheadI n (W.take i)).1.zip (whol W[i])).length := by have := List.mem_range.mp hk; omega
      have q := sums_le (m := 4100 * i + 4064) (fun y hy => ?_) k hk'
      · have hk6 : k ≤ 2 ^ 6 := by rw [hz] at hk'; omega
        show _ ≤ 2 ^ (4100 * (i + 1))
        calc _ ≤ k * 2 ^ (4100 * i + 4064) := q
          _ ≤ 2 ^ 6 * 2 ^ (4100 * i + 4064) := Nat.mul_le_mul_right _ hk6
          _ = 2 ^ (6 + (4100 * i + 4064)) := (Nat.pow_add 2 6 _).symm
          _ ≤ 2 ^ (4100 * (i + 1)) := Nat.pow_le_pow_right (by decide) (by omega)
      · obtain ⟨m1, m2⟩ := List.of_mem_zip (a := y.1) (b := y.2) hy
        exact (h1 _ m1).mul (whol_le hw _ m2)
    · show (stepG 0 (aheadI n (W.take i)).1 (whol W[i])).length = n + 1
      rw [stepG_len, hz]
section
variable {P : Program} {w : World} {K : PySem.W.Frag} {mg : Str → Option Value} {base : Heap} {CR CT CY : Addr}
abbrev sp_worths_at (CR : Addr) : Sp := spT (fun x : Letter × List (List Rat) => ∀ r ∈ x.2, preWo (x.1, r)) (fun _ => []) (fun x => [tLetter.is x.1, (tTup (tTup (tRat CR))).is x.2]) fun x => (tRrow CR).is (x.2.map (worthR x.1))
theorem sc_worths_at : FnScope ["letter", "rows", "row"] ["letter", "rows"] (defScope (top 59)) := ⟨rfl, rfl, rfl, by decide +kernel, rfl, by decide +kernel, by decide +kernel⟩
theorem ok_worths_at {f : Addr} {fd : FuncData} (Fd : FnP K "worths_at" (top 59) f fd) (hm : mg "worths_at" = some (.ref f)) (c1 : Cal P w K mg base "worth_at" 4 ["letter", "row"] [] (sp_worth_at CR)) : Cal P w K mg base "worths_at" 5 ["letter", "rows"] [] (sp_worths_at CR) := by
  refine cal_mk Fd hm (fn_mk Fd sc_worths_at (fun _ => rfl) fun cdv A outer s H E x F hr hp ce => ?_) fun _ _ _ _ _ _ us hl => match us, hl with | [_, _], _ => rfl
  obtain ⟨l, rows⟩ := x
  refine g_ret (ev_lc [("row", 2)] (evi_tup (ev_name 1 rfl)) (U := tRat CR) (f := worthR l) (fun i h => ?_) sc_worths_at.nd (defScope (top 59)) (N := ["letter", "rows", "row"]))
  exact ⟨_, _, by decide, fun s H C cl fp => bd_name 2 sc_worths_at.nd, tYes_ok, fun _ s H C cl fp => ev_callI (R := (tRat CR).is (worthR l rows[i])) c1 hr (l, rows[i]) (eva_cons (ev_name 0 rfl) (eva_one (ev_name 2 rfl))) (hp _ (List.getElem_mem h))⟩
structure preAh (x : List (List Rat) × Word) : Prop where
  n : x.1.length ≤ 40
  m : x.2.length ≤ 8
  wo : ∀ l ∈ x.2, ∀ r ∈ x.1, preWo (l, r)
  pw : ∀ l ∈ x.2, preW (x.1.map (worthR l))
abbrev sp_ahead_sums (CR : Addr) : Sp := spT preAh (fun _ => []) (fun x => [(tTup (tTup (tRat CR))).is x.1, tWord.is x.2]) fun x => (tRrow CR).is (aheadR x.1 x.2)
abbrev nAh : List Str := ["rows", "word", "found", "below", "letter", "bottom", "worths", "total", "late", "before", "worth", "number"]
theorem sc_ahead_sums : FnScope nAh ["rows", "word"] (defScope (top 60)) := ⟨rfl, rfl, rfl, by decide +kernel, rfl, by decide +kernel, by decide +kernel⟩
theorem range_snoc {α : Type} (f : Nat → α) (k : Nat) : (List.range (k + 1)).map f ++ [f (k + 1)] = (List.range (k + 1 + 1)).map f := by
  rw [List.range_succ (n := k + 1), List.map_append] <;> rfl
theorem ok_ahead_sums {f : Addr} {fd : FuncData} (Fd : FnP K "ahead_sums" (top 60) f fd) (hm : mg "ahead_sums" = some (.ref f)) (T : Tx K mg CR CT CY) (c1 : Cal P w K mg base "worths_at" 5 ["letter", "rows"] [] (sp_worths_at CR)) (c2 : Cal P w K mg base "wholes" 1 ["ratios"] [] (sp_wholes CR)) (c3 : CalR2 P w K mg base CR) : Cal P w K mg base "ahead_sums" 6 ["rows", "word"] [] (sp_ahead_sums CR) := by
  refine cal_mk Fd hm (fn_mk Fd sc_ahead_sums (fun _ => rfl) fun cdv A outer s H E x F hr hp ce => ?_) fun _ _ _ _ _ _ us hl => match us, hl with | [_, _], _ => rfl
  obtain ⟨rows, word⟩ := x
  have hn : rows.length ≤ 40 := hp.n
  have hwl : word.length ≤ 8 := hp.m
  have nd := sc_ahead_sums.nd
  let W : List (List Rat) := word.map fun l => rows.map (worthR l)
  have hW : ∀ ws ∈ W, preW ws ∧ ws.length = rows.length := fun ws hws => by
    obtain ⟨l, hl, rfl⟩ := List.mem_map.mp hws
    exact ⟨hp.pw l hl, by rw [List.length_map]⟩
  have hWl : W.length = word.length := List.length_map ..
  refine g_tupA (ga_val (ev_rep1 (ev_lst (T := tInt) (xs := [1]) (eva_one ev_int) (by decide)) (ev_add (ev_lenT (ev_name 0 rfl) T.f) ev_int) (by simp only; omega)) (ga_val ev_int (ga_nil ⟨_, _, rfl, bds2 (bd_name 2 nd) (bd_name 3 nd), ?_⟩)))
  refine g_for (evi_tup (ev_name 1 rfl)) (fun i Γ' M' => Γ' = [some ((tTup (tTup (tRat CR))).is rows), some (tWord.is word), some ((tLst tInt).is (aheadI rows.length (W.take i)).1), some (tInt.is (aheadI rows.length (W.take i)).2), none, none, none, none, none, none, none, none] ∧ M' = []) ⟨?_, rfl⟩ ?_ ?_
  · show [some ((tTup (tTup (tRat CR))).is rows), some (tWord.is word), some ((tLst tInt).is (List.replicate ((rows.length : Int) + 1).toNat 1)), some (tInt.is 1), none, none, none, none, none, none, none, none] = _
    have e : ((rows.length : Int) + 1).toNat = rows.length + 1 := by omega
    rw [e]
    rfl
  · rintro B i h _ _ ⟨rfl, rfl⟩
    have h' : i < W.length := by rw [hWl]; exact h
    have hWi : W[i] = rows.map (worthR word[i]) := by simp only [W, List.getElem_map]
    obtain ⟨b1, b2, b3⟩ := aheadI_le rows.length hn hW i (Nat.le_of_lt h')
    obtain ⟨w1, w2⟩ := hW _ (List.getElem_mem h')
    have hx := aheadI_take (n := rows.length) h'
    generalize hs : aheadI rows.length (W.take i) = st at b1 b2 b3 hx
    obtain ⟨X, Bq⟩ := st
    have hwz : ∀ y ∈ whol W[i], PB 4064 y := whol_le w1
    have hwlen : (whol W[i]).length = rows.length := by unfold whol; rw [List.length_map, w2]
    have hz : (X.zip (whol W[i])).length = rows.length := by rw [List.length_zip, hwlen]; have : X.length = rows.length + 1 := b3; omega
    refine ⟨_, _, bd_name 4 nd, ?_⟩
    refine g_asg (ev_callI (R := (tPr tInt tRow).is (lcms W[i], whol W[i])) c2 (hr.mono (by decide)) W[i] (eva_one (ev_callI (R := (tRrow CR).is W[i]) c1 hr (word[i], rows) (eva_cons (ev_name 4 rfl) (eva_one (ev_name 0 rfl))) (fun r hr' => hp.wo _ (List.getElem_mem h) r hr') rfl (by rw [hWi]))) w1) (bd_two (bd_name 5 nd) (bd_name 6 nd)) ?_
    refine g_par2 7 8 (ga_val ev_int (ga_cell (cc := fun _ => cLst tInt [0]) (evc_list (T := tInt) (xs := [0]) (eva_one ev_int)) fun l hl => ga_nil ⟨_, _, rfl, ?_⟩)) nd
    refine g_for (evi_zip (ev_name 2 rfl) (ev_name 6 rfl) T.f) (fun k Γ' M' => Γ' = [some ((tTup (tTup (tRat CR))).is rows), some (tWord.is word), some ((tLst tInt).is X), some (tInt.is Bq), some (tLetter.is word[i]), some (tInt.is (lcms W[i])), some (tRow.is (whol W[i])), some (tInt.is (sumsG 0 (X.zip (whol W[i])) k)), some (mpRef l), none, none, none] ∧ M' = [(l, cLst tInt ((List.range (k + 1)).map (sumsG 0 (X.zip (whol W[i])))))]) ⟨rfl, rfl⟩ ?_ ?_
    · rintro B2 k hk _ _ ⟨rfl, rfl⟩
      have hk' : k < (X.zip (whol W[i])).length := hk
      refine ⟨_, _, bd_two (bd_name 9 nd) (bd_name 10 nd), ?_⟩
      obtain ⟨m1, m2⟩ := List.of_mem_zip (a := (X.zip (whol W[i]))[k].1) (b := (X.zip (whol W[i]))[k].2) (List.getElem_mem hk')
      refine g_set 7 (ev_add (ev_name 7 rfl) (ev_mul (ev_name 9 rfl) (ev_name 10 rfl) ((b1 _ m1).mulW (hwz _ m2) (by omega)))) ?_ nd
      rw [← sumsG_succ hk']
      refine g_app (T := tInt) (x := sumsG 0 (X.zip (whol W[i])) (k + 1)) 0 (ev_name 8 rfl) (ev_name 7 rfl) rfl ?_ (by rw [List.length_map, List.length_range]; omega)
      refine g_turn ⟨rfl, ?_⟩ (.keep (.keep (.keep (.keep (.keep (.keep (.keep (.keep (.keep (.drop (.drop (.drop .nil))))))))))))
      rw [range_snoc]
      rfl
    · rintro _ _ ⟨rfl, rfl⟩
      refine g_frzL 8 0 rfl rfl hl (fun h => nomatch h) ?_
      have hB : PB 64 (lcms W[i]) := by have := w1.2 _ (Nat.le_refl _); rw [List.take_length] at this; exact Nat.le_of_lt this
      refine g_tupA (ga_val (ev_name 8 rfl) (ga_val (ev_mul (ev_name 3 rfl) (ev_name 5 rfl) (b2.mulW hB (by omega))) (ga_nil ⟨_, _, rfl, bds2 (bd_name 2 nd) (bd_name 3 nd), ?_⟩)))
      refine g_turn ?_ (.keep (.keep (.keep (.keep (.drop (.drop (.drop (.drop (.drop (.drop (.drop (.drop .nil))))))))))))
      rw [hx]
      exact ⟨rfl, rfl⟩
  · rintro _ _ ⟨rfl, rfl⟩
    rw [← hWl, List.take_length]
    obtain ⟨o1, o2⟩ := aheadI_over rows.length W W.length (Nat.le_refl _)
    obtain ⟨b1, b2, b3⟩ := aheadI_le rows.length hn hW W.length (Nat.le_refl _)
    rw [List.take_length] at o1 o2 b1 b2 b3
    refine g_ret (Ev.tol (ev_lc [("number", 11)] (evi_list (ev_name 2 rfl)) (U := tRat CR) (f := fun x => Rat.divInt x (aheadI rows.length W).2) (fun k hk => ?_) nd (defScope (top 60)) (N := nAh)) ?_)
    · exact ⟨_, _, by decide, fun s H C cl fp => bd_name 11 nd, tYes_ok, fun _ s H C cl fp => ev_ratio2 c3 (hr.mono (by decide)) (ev_name 11 rfl) (ev_name 3 rfl) o2 (Nat.lt_of_lt_of_le b2.lt (Nat.pow_le_pow_right (by decide) (by omega))) rfl⟩
    · apply List.ext_getElem
      · rw [List.length_map, o1.len]
        rfl
      · intro k h1 h2
        rw [List.getElem_map]
        exact over_div (o1.at (by simpa using h1) h2) o2
end
end L2.K3
set_option Elab.async false
set_option linter.all false
set_option maxRecDepth 100000
set_option maxHeartbeats 2000001
/-! K3Q: defs that change a cell. -/
namespace L2.K3
open PySem PySem.Spec PyProof.Rows
/-- a promise that turns the cells M0 into M1 -/
def spC {ι : Type} (pre : ι → Prop) (M0 M1 : ι → Mem) (As : ι → List MP) (R : ι → MP) : Sp := fun vs H Q _ => ∃ (i : ι) (F : Hp), pre i ∧ Paired (fun (v : V) (P : MP) => P.p F v) vs (As i) ∧ Ext F H ∧ Cells F H (M0 i) ∧
  ∀ F' H' v, Ext F F' → Ext F' H' → (∀ a o, a ∉ (M0 i).map (·.1) → H a = some o → H' a = some o) → (∀ a o, F' a = some o → F a ≠ none ∨ H a = none) → Cells F' H' (M1 i) → (R i).p F' v → Q v H'
section
variable {P : Program} {w : World} {K : PySem.W.Frag} {mg : Str → Option Value} {base : Heap}
theorem fn_mkC {ι : Type} {pre : ι → Prop} {M0 M1 : ι → Mem} {As : ι → List MP} {R : ι → MP} {x qual : Str} {params : Arguments} {body : List Stmt} {scope : Scope} {dvs : List V} {kws : List (Str × V)} {f : Addr} {fd : FuncData} {N ps : List Str} {k : Nat}
    (Fd : FunD K x qual params body scope dvs kws f fd) (S : FnScope N ps scope) (hl : ∀ i, (As i).length = ps.length) (hMM : ∀ i, (M1 i).map (·.1) = (M0 i).map (·.1))
    (hb : ∀ (cdv : Value) (A : Around) (outer : List Env) (s : Shared) (H : Hp) (E : XK) (i : ι) (F : Hp), Room k (A.deeper (envOfC qual scope s.heap.objs.size f cdv)) → pre i → Cells F H (M0 i) →
      G ⟨F, H, M1 i, R i, F⟩ (bX P w K mg base N qual scope f cdv A outer s H E) body ((As i).map some ++ List.replicate (N.length - ps.length) none) (M0 i) (Dret ⟨F, H, M1 i, R i, F⟩)) :
    FnOk P w K mg base CX0 (k + 1) f fd ps (spC pre M0 M1 As R) := by
  refine Fd.ok S (fun vs H Q E h => ?_) fun cdv A outer s H vs Q E hr h => ?_
  · obtain ⟨i, F, hp, hA, _⟩ := h
    rw [← hl i]
    exact Paired.length hA
  · obtain ⟨i, F, hp, hA, fh, ce, hq⟩ := h
    refine ⟨wSs (bX P w K mg base N qual scope f cdv A outer s H E) body, pss_w.nox, ?_⟩
    have hlen : vs.length = ps.length := (Paired.length hA).trans (hl i)
    have sta : Sta ⟨F, H, M1 i, R i, F⟩ ((As i).map some ++ List.replicate (N.length - ps.length) none) (M0 i) (start N vs) H F := by
      refine ⟨?_, fh, ce, ⟨Ext.rfl', fun _ _ _ h => h, fun a o h => .inl (by show F a ≠ none; rw [h]; exact fun q => nomatch q)⟩, fun p hp => .inl ?_, fun a ha => ?_, Ext.rfl'⟩
      · show EnvOk F (vs.map some ++ List.replicate (N.length - vs.length) none) _
        rw [hlen]
        exact paired_env hA _
      · show p.1 ∈ (M1 i).map (·.1)
        rw [hMM]
        exact List.mem_map.mpr ⟨p, hp, rfl⟩
      · have ha' : a ∈ (M1 i).map (·.1) := ha
        rw [hMM] at ha'
        exact ha'
    have fin : ∀ v H', retOk ⟨F, H, M1 i, R i, F⟩ v H' → Q v H' := fun v H' ⟨F', f1, f2, f3, f4⟩ => hq F' H' v f2.ff f1 (fun a o ha h => f2.hh a o (by show a ∉ (M1 i).map (·.1); rw [hMM]; exact ha) h) f2.nw f3 f4
    exact wSs_mono (hb cdv A outer s H E i F hr hp ce _ _ _ sta) (fun _ H' z => fin _ H' z) (fun v H' z => fin v H' z) (fun _ _ z => z.elim) fun _ _ z => z.elim
end
theorem Sta.chg {E : En} {Γ : Gam} {M : Mem} {σ : St} {H F F' H' : Hp} {j : Nat} {l : Addr} {c c' : CP} (s : Sta E Γ M σ H F) (hj : M[j]? = some (l, c)) (ff : Ext F F') (fh : Ext F' H') (hh : ∀ a o, a ≠ l → H a = some o → H' a = some o) (nw : ∀ a o, F' a = some o → F a ≠ none ∨ H a = none) (ce : Cells F' H' [(l, c')]) : Sta E Γ (M.set j (l, c')) σ H' F' := by
  have hm := s.ce.mem (l, c) (List.mem_of_getElem? hj)
  have hjl : j < M.length := (List.getElem?_eq_some_iff.mp hj).1
  refine ⟨s.env.mono ff, fh, ⟨by rw [map_fst_set hj]; exact s.ce.nd, fun p hp => ?_⟩, ⟨s.st.ff.trans ff, fun a o ha h => ?_, fun a o h => ?_⟩, fun p hp => ?_, by rw [map_fst_set hj]; exact s.wm, s.bs.trans ff⟩
  · obtain ⟨k, hk⟩ := List.getElem?_of_mem hp
    by_cases hjk : j = k
    · subst hjk
      rw [List.getElem?_set_self hjl] at hk
      cases hk
      exact ce.mem (l, c') List.mem_cons_self
    · rw [List.getElem?_set_ne hjk] at hk
      obtain ⟨f0, o, h1, h2⟩ := s.ce.mem p (List.mem_of_getElem? hk)
      have hne : p.1 ≠ l := fun e => by
        have q1 : (M.map (·.1))[k]? = some l := by rw [List.getElem?_map, hk, ← e] <;> rfl
        have q2 : (M.map (·.1))[j]? = some l := by rw [List.getElem?_map, hj] <;> rfl
        exact hjk ((List.getElem_inj s.ce.nd).mp ((List.getElem?_eq_some_iff.mp q2).2.trans (List.getElem?_eq_some_iff.mp q1).2.symm))
      refine ⟨?_, o, hh _ _ hne h1, p.2.mono ff h2⟩
      cases e : F' p.1 with
      | none => rfl
      | some u =>
        rcases nw _ _ e with q | q
        · exact absurd f0 q
        · rw [q] at h1; cases h1
  · refine hh a o (fun e => ?_) (s.st.hh a o ha h)
    subst e
    rcases s.own (a, c) (List.mem_of_getElem? hj) with q | q
    · exact ha q
    · rw [q] at h; cases h
  · rcases nw a o h with q | q
    · cases e : F a with
      | none => exact absurd e q
      | some u => exact s.st.nw a u e
    · right
      exact s.h0 q
  · have h1 : p.1 ∈ (M.set j (l, c')).map (·.1) := List.mem_map.mpr ⟨p, hp, rfl⟩
    rw [map_fst_set hj] at h1
    obtain ⟨q, hq, e⟩ := List.mem_map.mp h1
    rw [← e]
    exact s.own q hq
section
variable {X : Cx} {E : En} {Γ : Gam} {M : Mem} {D : Ends} {e : Expr} {es : List Expr} {rest sts : List Stmt} {Ps : List MP} {pos p spos : Pos} {l : Addr} {c c' : CP}
/-- f(e, ..) as a statement that turns the cell l from c to c' -/
theorem g_callC {ι : Type} {pre : ι → Prop} {M0 M1 : ι → Mem} {As : ι → List MP} {RR : ι → MP} {x : Str} {k : Nat} {ps : List Str} (j : Nat) (cl : Cal X.prog X.w X.K X.mg X.base x k ps [] (spC pre M0 M1 As RR)) (hr : Room k X.A) (i : ι) (ha : EvA X Γ M (e :: es) Ps) (hp : pre i) (hj : M[j]? = some (l, c)) (hA : As i = Ps) (h0 : M0 i = [(l, c)]) (h1 : M1 i = [(l, c')])
    (kk : G E X rest Γ (M.set j (l, c')) D) (hg : Gl X x := by rfl) (hdb : (x == ("__debug__" : Str)) = false := by decide) (he : starEach (e :: es) X.env = (false, eval e X.env) :: starEach es X.env := by rfl)
    (hpl : (backTo pos (starEach es X.env)).any (·.1) = false := by rfl) (hs : swapsWith (.Call (.Name x p) (e :: es) [] pos) none spos.line X.env = pure false := by rfl) : G E X (.Expr (.Call (.Name x p) (e :: es) [] pos) spos :: rest) Γ M D := fun σ H F s => by
  obtain ⟨f, fd, ds, Gf, hm, kp, b, hd⟩ := cl.ex
  refine wSs_of (pss_cons (ps_expr pe_w hs) pss_w) ?_
  refine wE_of (pe_call Gf hr hg hm kp b hd pass0 pa_w hdb he hpl) ?_
  refine ha σ F H s.env s.fh s.ce _ fun F1 H1 vs t pvs => ?_
  have s1 := s.step t
  rw [List.append_nil]
  refine ⟨i, F1, hp, by rw [hA]; exact pvs, s1.fh, by rw [h0]; exact ⟨by simp, fun q hq => by rw [List.mem_singleton.mp hq]; exact s1.ce.mem _ (List.mem_of_getElem? hj)⟩, fun F' H' v ff fh hh nw ce _ => ?_⟩
  rw [h0] at hh
  rw [h1] at ce
  exact kk σ H' F' (s1.chg hj ff fh (fun a o ha h => hh a o (by simpa using ha) h) nw ce)
/-- a cell seen otherwise -/
theorem g_seeC (j : Nat) (hj : M[j]? = some (l, c)) (h : ∀ F o, c.c F o → c'.c F o) (k : G E X sts Γ (M.set j (l, c')) D) : G E X sts Γ M D := fun σ H F s => by
  have hm := s.ce.mem (l, c) (List.mem_of_getElem? hj)
  obtain ⟨f0, o, ho, hc⟩ := hm
  exact k σ H F (s.chg hj Ext.rfl' s.fh (fun _ _ _ h => h) (fun a o h => .inl (by rw [h]; exact fun q => nomatch q)) ⟨by simp, fun q hq => by rw [List.mem_singleton.mp hq]; exact ⟨f0, o, ho, h F o hc⟩⟩)
/-- a cell of one of two kinds -/
theorem g_caseC {c1 c2 : CP} (j : Nat) (hj : M[j]? = some (l, c)) (h : ∀ F o, c.c F o → c1.c F o ∨ c2.c F o) (k1 : G E X sts Γ (M.set j (l, c1)) D) (k2 : G E X sts Γ (M.set j (l, c2)) D) : G E X sts Γ M D := fun σ H F s => by
  obtain ⟨f0, o, ho, hc⟩ := s.ce.mem (l, c) (List.mem_of_getElem? hj)
  rcases h F o hc with q | q
  · exact k1 σ H F (s.chg hj Ext.rfl' s.fh (fun _ _ _ h => h) (fun a o h => .inl (by rw [h]; exact fun q => nomatch q)) ⟨by simp, fun z hz => by rw [List.mem_singleton.mp hz]; exact ⟨f0, o, ho, q⟩⟩)
  · exact k2 σ H F (s.chg hj Ext.rfl' s.fh (fun _ _ _ h => h) (fun a o h => .inl (by rw [h]; exact fun q => nomatch q)) ⟨by simp, fun z hz => by rw [List.mem_singleton.mp hz]; exact ⟨f0, o, ho, q⟩⟩)
/-- a dict that changes no more -/
theorem g_frzD {α β : Type} {K : KTy α} {U : Ty β} {kvs : List (α × β)} (i j : Nat) (hi : Γ[i]? = some (some (mpRef l))) (hj : M[j]? = some (l, cDic X.w K U kvs l)) (h0 : E.H0 l = none) (hW : l ∉ E.W) (k : G E X sts (Γ.set i (some ((tDic X.w K U).is kvs))) (M.eraseIdx j) D) : G E X sts Γ M D := fun σ H F s => by
  obtain ⟨o, ho, hc, f0, st⟩ := s.frz hj h0 hW
  obtain ⟨v, hv, pv⟩ := s.env.2 i _ hi
  cases (show v = V.ref l from pv)
  have e := st.set (P := (tDic X.w K U).is kvs) i (v := .ref l) ⟨l, o, rfl, upd_same, (cDic _ _ _ _ _).mono (Ext.upd f0) hc⟩
  rw [g_frzL.set_same hv] at e
  exact k σ H _ e
end
end L2.K3
set_option Elab.async false
set_option linter.all false
set_option maxRecDepth 100000
set_option maxHeartbeats 2000001
/-! K3R: instances that own a dict that changes later. -/
namespace L2.K3
open PySem PySem.Spec PyProof.Rows
/-- a value of P k, beside it a new cell k -/
def EvK (X : Cx) (Γ : Gam) (M : Mem) (e : Expr) (P : Addr → MP) (c : Addr → CP) : Prop := ∀ (σ : St) (F H : Hp), EnvOk F σ Γ → Ext F H → Cells F H M → ∀ Q : VK,
  (∀ F1 H1 k v, Ext F F1 → Ext F1 H1 → (∀ a o, a ∉ M.map (·.1) → H a = some o → H1 a = some o) → (∀ a o, F1 a = some o → F a ≠ none ∨ H a = none) → H k = none → Cells F1 H1 ((k, c k) :: M) → (P k).p F1 v → Q v H1) → wE X e σ H Q
theorem Sta.grow {E : En} {Γ : Gam} {M : Mem} {σ : St} {H F F1 H1 : Hp} {k : Addr} {c : CP} (s : Sta E Γ M σ H F) (ff : Ext F F1) (fh : Ext F1 H1) (hh : ∀ a o, a ∉ M.map (·.1) → H a = some o → H1 a = some o) (nw : ∀ a o, F1 a = some o → F a ≠ none ∨ H a = none) (hk : H k = none) (ce : Cells F1 H1 ((k, c) :: M)) : Sta E Γ ((k, c) :: M) σ H1 F1 := by
  refine ⟨s.env.mono ff, fh, ce, ⟨s.st.ff.trans ff, fun a o ha h => hh a o (fun q => ?_) (s.st.hh a o ha h), fun a o h => ?_⟩, fun p hp => ?_, fun a ha => List.mem_cons_of_mem _ (s.wm a ha), s.bs.trans ff⟩
  · obtain ⟨p, hp, rfl⟩ := List.mem_map.mp q
    rcases s.own p hp with z | z
    · exact ha z
    · rw [z] at h; cases h
  · rcases nw a o h with q | q
    · cases e : F a with
      | none => exact absurd e q
      | some u => exact s.st.nw a u e
    · exact .inr (s.h0 q)
  · rcases List.mem_cons.mp hp with e | hp
    · subst e; exact .inr (s.h0 hk)
    · exact s.own p hp
section
variable {X : Cx} {E : En} {D : Ends} {Γ : Gam} {M : Mem} {e o : Expr} {es : List Expr} {rest : List Stmt} {pos pos' p : Pos} {K : Mem → List MP → Prop} {Pk : Addr → MP} {cc : Addr → CP}
theorem ga_valK (he : EvK X Γ M e Pk cc) (hr : ∀ k, E.H0 k = none → GA X E Γ ((k, cc k) :: M) es fun M' Ps => K M' (Pk k :: Ps)) (hs : starEach (e :: es) X.env = (false, eval e X.env) :: starEach es X.env := by rfl) : GA X E Γ M (e :: es) K := fun σ H F s Q q => by
  refine wA_of (pa_cons pe_w pa_w hs) ?_
  refine he σ F H s.env s.fh s.ce _ fun F1 H1 k v ff fh hh nw hk ce pv => ?_
  refine hr k (s.h0 hk) σ H1 F1 (s.grow ff fh hh nw hk ce) _ fun M' Ps vs H' F' kk x s' pvs => ?_
  exact q M' (Pk k :: Ps) (v :: vs) H' F' kk (ff.trans x) s' (.cons ((Pk k).mono x pv) pvs)
/-- {} with texts for keys, empty -/
def cDK0 : CP := ⟨fun _ o => o = .dK [], fun _ h => h⟩
theorem evc_dk : EvC X Γ M (.Dict [] [] pos) (fun _ => cDK0) := fun σ F H eo fh ce Q q => wE_of pe_dnewK fun l hl => q F H l _ (Stp.refl fh ce) hl rfl
/-- self.f = e, e a new cell -/
theorem g_fldC {C x : Addr} {fts : List (Str × MP)} {f : Str} (j : Nat) (ks : List Str) (he : EvC X Γ M e cc) (ho : ∀ k, Ev X Γ ((k, cc k) :: M) o (mpRef x)) (hj : M[j]? = some (x, cIns C fts)) (c : Cls X.K C) (n : NoAttr X.K C f) (kk : ∀ k, E.H0 k = none → G E X rest Γ ((k, cc k) :: M.set j (x, cIns C (fts ++ [(f, mpRef k)]))) D)
    (hk : fts.map (·.1) = ks := by rfl) (hn' : f ∉ ks := by decide +kernel) (hl' : ks.length < 1000 := by decide +kernel)
    (hs : swapsWith e (some (.Attribute o f pos')) pos.line X.env = pure false := by rfl) : G E X (.Assign [.Attribute o f pos'] e pos :: rest) Γ M D := fun σ H F s => by
  have hn : ∀ q ∈ fts, q.1 ≠ f := fun q hq e => hn' (by rw [← hk, ← e]; exact List.mem_map.mpr ⟨q, hq, rfl⟩)
  have hl : fts.length < 1000 := by rw [← hk, List.length_map] at hl'; exact hl'
  refine wSs_of (pss_cons (ps_fld pe_w pe_w hs) pss_w) ?_
  refine he σ F H s.env s.fh s.ce _ fun F1 H1 k u t hku hcu => ?_
  have s1 := (s.step t).newc hku hcu
  refine ho k σ F1 _ s1.env s1.fh s1.ce _ fun F2 H2 v t2 pw => ?_
  have s2 := s1.step t2
  have hj2 : ((k, cc k) :: M)[j + 1]? = some (x, cIns C fts) := hj
  obtain ⟨f0, ob, hx, dx, fs, rfl, hp⟩ := s2.ce.mem (x, cIns C fts) (List.mem_of_getElem? hj2)
  cases (show v = V.ref x from pw)
  refine ⟨x, C, dx, fs, rfl, hx, c, n, by rw [Paired.length hp]; exact hl, ?_⟩
  have e1 : putF f (.ref k) fs = fs ++ [(f, .ref k)] := putF_new fun q hq => by
    obtain ⟨z, hz, e⟩ := paired_keys hp q hq
    rw [← e]
    exact hn z hz
  rw [e1]
  exact kk k ((s.step t).h0 hku) σ _ F2 (s2.put (c' := cIns C (fts ++ [(f, mpRef k)])) hj2 ⟨dx, fs ++ [(f, .ref k)], rfl, paired_app hp (.cons ⟨rfl, show (mpRef k).p F2 (.ref k) from rfl⟩ .nil)⟩)
end
/-- what an __init__ promises that leaves a cell behind -/
def spK {ι : Type} (C : Addr) (pre : ι → Prop) (As : ι → List MP) (fts : ι → Addr → List (Str × MP)) (cc : ι → Addr → CP) : Sp := fun vs H Q _ => ∃ (i : ι) (F : Hp) (x : Addr) (us : List V), vs = .ref x :: us ∧ pre i ∧ Paired (fun (v : V) (P : MP) => P.p F v) us (As i) ∧ Ext F H ∧ F x = none ∧ (∃ dx, H x = some (.ins C dx [])) ∧
  ∀ F' H' k, Ext F F' → Ext F' H' → (∀ a o, a ≠ x → H a = some o → H' a = some o) → (∀ a o, F' a = some o → F a ≠ none ∨ H a = none) → H k = none → Cells F' H' [(k, cc i k), (x, cIns C (fts i k))] → Q .non H'
/-- the ends of such a body -/
def DK (E : En) (C x : Addr) (fts : Addr → List (Str × MP)) (cc : Addr → CP) : Ends := { nx := fun _ H' => ∃ k F', E.H0 k = none ∧ Ext F' H' ∧ StW E.F0 E.H0 E.W F' H' ∧ Cells F' H' [(k, cc k), (x, cIns C (fts k))], rt := fun _ _ => False }
theorem g_fallK {E : En} {X : Cx} {Γ : Gam} {M : Mem} {C x k : Addr} {fts : Addr → List (Str × MP)} {cc : Addr → CP} (hk : E.H0 k = none) (hM : M = [(k, cc k), (x, cIns C (fts k))]) : G E X [] Γ M (DK E C x fts cc) := fun σ H F s => by
  subst hM
  exact wSs_of pss_nil ⟨k, F, hk, s.fh, s.st, s.ce⟩
section
variable {P : Program} {w : World} {K : PySem.W.Frag} {mg : Str → Option Value} {base : Heap}
theorem fn_mkK {ι : Type} {C : Addr} {pre : ι → Prop} {As : ι → List MP} {fts : ι → Addr → List (Str × MP)} {cc : ι → Addr → CP} {x qual : Str} {params : Arguments} {body : List Stmt} {scope : Scope} {dvs : List V} {kws : List (Str × V)} {f : Addr} {fd : FuncData} {N ps : List Str} {k : Nat}
    (Fd : FunD K x qual params body scope dvs kws f fd) (S : FnScope N ps scope) (hl : ∀ i, (As i).length + 1 = ps.length)
    (hb : ∀ (cdv : Value) (A : Around) (outer : List Env) (s : Shared) (H : Hp) (E : XK) (i : ι) (F : Hp) (x : Addr), Room k (A.deeper (envOfC qual scope s.heap.objs.size f cdv)) → pre i →
      G ⟨F, H, [(x, cIns C [])], mpV .non, F⟩ (bX P w K mg base N qual scope f cdv A outer s H E) body ((mpRef x :: As i).map some ++ List.replicate (N.length - ps.length) none) [(x, cIns C [])] (DK ⟨F, H, [(x, cIns C [])], mpV .non, F⟩ C x (fts i) (cc i))) :
    FnOk P w K mg base CX0 (k + 1) f fd ps (spK C pre As fts cc) := by
  refine Fd.ok S (fun vs H Q E h => ?_) fun cdv A outer s H vs Q E hr h => ?_
  · obtain ⟨i, F, x, us, rfl, hp, hA, _⟩ := h
    rw [← hl i, ← Paired.length hA] <;> rfl
  · obtain ⟨i, F, x, us, rfl, hp, hA, fh, f0, ⟨dx, hx⟩, hq⟩ := h
    refine ⟨wSs (bX P w K mg base N qual scope f cdv A outer s H E) body, pss_w.nox, ?_⟩
    have hlen : (V.ref x :: us).length = ps.length := by rw [← hl i, ← Paired.length hA] <;> rfl
    have ce : Cells F H [(x, cIns C [])] := ⟨by simp, fun p hp => by rw [List.mem_singleton.mp hp]; exact ⟨f0, _, hx, dx, [], rfl, .nil⟩⟩
    have sta : Sta ⟨F, H, [(x, cIns C [])], mpV .non, F⟩ ((mpRef x :: As i).map some ++ List.replicate (N.length - ps.length) none) [(x, cIns C [])] (start N (V.ref x :: us)) H F := by
      refine ⟨?_, fh, ce, ⟨Ext.rfl', fun _ _ _ h => h, fun a o h => .inl (by show F a ≠ none; rw [h]; exact fun q => nomatch q)⟩, fun p hp => .inl (List.mem_map.mpr ⟨p, hp, rfl⟩), fun a ha => ha, Ext.rfl'⟩
      show EnvOk F ((V.ref x :: us).map some ++ List.replicate (N.length - (V.ref x :: us).length) none) _
      rw [hlen]
      exact paired_env (.cons rfl hA) _
    refine wSs_mono (hb cdv A outer s H E i F x hr hp _ _ _ sta) (fun _ H' z => ?_) (fun v H' z => z.elim) (fun _ _ z => z.elim) fun _ _ z => z.elim
    obtain ⟨k, F', h1, h2, h3, h4⟩ := z
    exact hq F' H' k h3.ff h2 (fun a o ha h => h3.hh a o (fun q => ha (by simpa using (show a ∈ [x] from q))) h) h3.nw h1 h4
end
section
variable {X : Cx} {Γ : Gam} {M : Mem} {e : Expr} {es : List Expr} {Ps Pd : List MP} {pos p : Pos} {C : Addr}
theorem ev_makeK {ι : Type} {pre : ι → Prop} {As : ι → List MP} {fts : ι → Addr → List (Str × MP)} {cc : ι → Addr → CP} {x : Str} {k : Nat} {ps : List Str} {dvs : List V} (c : CalC X.prog X.w X.K X.mg X.base x C k ps dvs (spK C pre As fts cc)) (hr : Room (k + 1) X.A) (i : ι) (ha : EvA X Γ M (e :: es) Ps)
    (hp : pre i) (hd : ∀ F, Paired (fun (v : V) (P : MP) => P.p F v) dvs Pd) (hA : As i = Ps ++ Pd := by rfl) (hg : Gl X x := by rfl)
    (hdb : (x == ("__debug__" : Str)) = false := by decide) (he : starEach (e :: es) X.env = (false, eval e X.env) :: starEach es X.env := by rfl)
    (hpl : (backTo pos (starEach es X.env)).any (·.1) = false := by rfl) : EvK X Γ M (.Call (.Name x p) (e :: es) [] pos) (fun k => mpIns C (fts i k)) (cc i) := fun σ F H eo fh ce Q kk => by
  obtain ⟨f, fd, ds, Gf, hm, mk, b, hds⟩ := c.ex
  refine wE_of (pe_make mk Gf hr hg hm b hds pass0 pa_w hdb he hpl) ?_
  refine ha σ F H eo fh ce _ fun F1 H1 vs s1 pvs => ?_
  intro y dy hy hdy hne
  have hH : ∀ a o, H1 a = some o → upd (upd H1 dy (.own y)) y (.ins C dy []) a = some o := fun a o h => by
    rw [upd_ne (ne_of_none h hy), upd_ne (ne_of_none h hdy)]
    exact h
  refine ⟨i, F1, y, vs ++ dvs, rfl, hp, by rw [hA]; exact paired_app pvs (hd F1), fun a o h => hH a o (s1.fh a o h), ext_none s1.fh hy, ⟨dy, upd_same⟩, fun F' H' q h1 h2 h3 h4 hq h5 => ⟨rfl, ?_⟩⟩
  have my : (y, cIns C (fts i q)) ∈ [(q, cc i q), (y, cIns C (fts i q))] := List.mem_cons_of_mem _ List.mem_cons_self
  obtain ⟨f0, o, ho, hc⟩ := h5.mem _ my
  have hqy : q ≠ y := by
    have := h5.nd
    simpa using this
  have fe : Ext F' (upd F' y o) := Ext.upd f0
  have hh : ∀ a u, H1 a = some u → H' a = some u := fun a u h => h3 a u (ne_of_none h hy) (hH a u h)
  have hq1 : H1 q = none := by
    cases e : H1 q with
    | none => rfl
    | some z => rw [hH q z e] at hq; cases hq
  have nw : ∀ a u, upd F' y o a = some u → F1 a ≠ none ∨ H1 a = none := fun a u h => by
    by_cases ha : a = y
    · rw [ha]; exact .inr hy
    · rw [upd_ne ha] at h
      rcases h4 a u h with z | z
      · exact .inl z
      · right
        cases e : H1 a with
        | none => rfl
        | some v => rw [hH a v e] at z; cases z
  have fh2 : Ext (upd F' y o) H' := fun a u h => by
    by_cases ha : a = y
    · subst ha
      rw [upd_same] at h
      cases h
      exact ho
    · rw [upd_ne ha] at h
      exact h2 a u h
  have ceM := s1.ce.up (h1.trans fe) hh nw
  have hqM : ∀ p ∈ M, p.1 ≠ q := fun p hp e => by
    obtain ⟨_, u, hu, _⟩ := s1.ce.mem p hp
    rw [e, hq1] at hu
    cases hu
  refine kk _ H' q _ (s1.ff.trans (h1.trans fe)) fh2 (fun a u ha h => hh a u (s1.hh a u ha h)) (fun a u h => ?_) ?_ ⟨?_, fun p hp => ?_⟩ ⟨y, o, rfl, upd_same, (cIns C (fts i q)).mono fe hc⟩
  · rcases nw a u h with z | z
    · cases e : F1 a with
      | none => exact absurd e z
      | some v => exact s1.nw a v e
    · right
      cases e : H a with
      | none => rfl
      | some v =>
        by_cases ha : a ∈ M.map (·.1)
        · obtain ⟨p, hp, rfl⟩ := List.mem_map.mp ha
          obtain ⟨_, u', hu', _⟩ := s1.ce.mem p hp
          rw [z] at hu'; cases hu'
        · rw [s1.hh a v ha e] at z; cases z
  · cases e : H q with
    | none => rfl
    | some v =>
      by_cases ha : q ∈ M.map (·.1)
      · obtain ⟨p, hp, e2⟩ := List.mem_map.mp ha
        exact absurd e2 (hqM p hp)
      · rw [s1.hh q v ha e] at hq1; cases hq1
  · rw [List.map_cons, List.nodup_cons]
    exact ⟨fun z => by obtain ⟨p, hp, e2⟩ := List.mem_map.mp z; exact hqM p hp e2, ceM.nd⟩
  · rcases List.mem_cons.mp hp with e | hp
    · subst e
      obtain ⟨g0, u, hu, hcu⟩ := h5.mem (q, cc i q) List.mem_cons_self
      exact ⟨by show upd F' y o q = none; rw [upd_ne hqy]; exact g0, u, hu, (cc i q).mono fe hcu⟩
    · exact ceM.mem p hp
end
end L2.K3
set_option Elab.async false
set_option linter.all false
set_option maxRecDepth 100000
set_option maxHeartbeats 4000001
/-! FnJ: tallies. -/
namespace L2.K3
open PySem PySem.Spec PyProof.Rows RM
def lastR (xs : List Rat) : Rat := xs.getLastD 0
theorem at_last {xs : List Rat} (h : xs ≠ []) : atI xs (-1) = some (lastR xs) := by
  have e : xs = xs.dropLast ++ [xs.getLast h] := (List.dropLast_concat_getLast h).symm
  have e2 : lastR xs = xs.getLast h := by
    unfold lastR
    rw [List.getLastD_eq_getLast?, List.getLast?_eq_some_getLast h] <;> rfl
  rw [e2]
  conv => lhs; rw [e]
  exact atI_last _ _
theorem ahead_ne (rows : List (List Rat)) (x : Word) : aheadR rows x ≠ [] := by
  have : ∀ (W : List (List Rat)) (f : List Rat), f ≠ [] → aheadW f W ≠ [] := by
    intro W
    induction W with
    | nil => exact fun f h => h
    | cons a W ih =>
      intro f _
      refine ih _ fun e => ?_
      have := congrArg List.length e
      rw [stepG_len] at this
      simp at this
  exact this _ _ (by simp)
def putM (acc : List (Word × Int)) (x : (Word × Rat) × Int) : List (Word × Int) := dput acc x.1.1 ((dget acc x.1.1).getD 0 + x.2)
def sumsM (l : List ((Word × Rat) × Int)) (i : Nat) : List (Word × Int) := (l.take i).foldl putM []
theorem sumsM_succ {l : List ((Word × Rat) × Int)} {i : Nat} (h : i < l.length) : sumsM l (i + 1) = putM (sumsM l i) l[i] := by
  unfold sumsM
  rw [take_succ' h, List.foldl_append] <;> rfl
theorem sumsM_len (l : List ((Word × Rat) × Int)) : ∀ i, i ≤ l.length → (sumsM l i).length ≤ i
  | 0, _ => Nat.le_refl _
  | i + 1, h => by
    rw [sumsM_succ h]
    have h1 := sumsM_len l i (Nat.le_of_succ_le h)
    have h2 := dput_len (sumsM l i) l[i].1.1 ((dget (sumsM l i) l[i].1.1).getD 0 + l[i].2)
    unfold putM
    omega
def toldP (bottom : Int) (kvs : List (Word × Int)) : List (Word × Rat) := ((srt wordLt (kvs.map (·.1))).filter fun k => !decide ((dget kvs k).getD 0 = 0)).map fun k => (k, Rat.divInt ((dget kvs k).getD 0) bottom)
def joinP (parts : List (Word × Rat)) : List (Word × Rat) := toldP (lcms (parts.map (·.2))) (sumsM (parts.zip (whol (parts.map (·.2)))) (parts.zip (whol (parts.map (·.2)))).length)
theorem dget_mem {α β : Type} [DecidableEq α] {kvs : List (α × β)} {k : α} (h : k ∈ kvs.map (·.1)) : ∃ y, dget kvs k = some y := by
  induction kvs with
  | nil => simp at h
  | cons p l ih =>
    rw [dget_cons]
    by_cases e : p.1 = k
    · rw [if_pos e]; exact ⟨_, rfl⟩
    · rw [if_neg e]
      refine ih ?_
      rw [List.map_cons] at h
      rcases List.mem_cons.mp h with q | q
      · exact absurd q.symm e
      · exact q
section
variable {P : Program} {w : World} {K : PySem.W.Frag} {mg : Str → Option Value} {base : Heap} {CR CT CY : Addr}
abbrev tPart (CR : Addr) : Ty (Word × Rat) := tPr tWord (tRat CR)
abbrev sp_put_more (w : World) : Sp := spC (fun x : Addr × List (Word × Int) × Word × Int => x.2.1.length < 1000000) (fun x => [(x.1, cDic w wordK tInt x.2.1 x.1)]) (fun x => [(x.1, cDic w wordK tInt (dput x.2.1 x.2.2.1 ((dget x.2.1 x.2.2.1).getD 0 + x.2.2.2)) x.1)])
  (fun x => [mpRef x.1, tWord.is x.2.2.1, tInt.is x.2.2.2]) fun _ => mpV .non
theorem sc_put_more : FnScope ["sums", "key", "number"] ["sums", "key", "number"] (defScope (top 63)) := ⟨rfl, rfl, rfl, by decide +kernel, rfl, by decide +kernel, by decide +kernel⟩
theorem ok_put_more {f : Addr} {fd : FuncData} (Fd : FnP K "put_more" (top 63) f fd) (hm : mg "put_more" = some (.ref f)) : Cal P w K mg base "put_more" 1 ["sums", "key", "number"] [] (sp_put_more w) := by
  refine cal_mk Fd hm (fn_mkC Fd sc_put_more (fun _ => rfl) (fun _ => rfl) fun cdv A outer s H E x F hr hp ce => ?_) fun _ _ _ _ _ _ us hl => match us, hl with | [_, _, _], _ => rfl
  obtain ⟨l, kvs, k, n⟩ := x
  refine g_dput (K := wordK) (U := tInt) 0 hr (ev_add (ev_dgetOr (K := wordK) (U := tInt) (P := tInt.is 0) (R := tInt.is ((dget kvs k).getD 0)) hr (ev_name 0 rfl) (ev_name 1 rfl) ev_int (isDic_cell 0 rfl) (fun F v h e => by rw [e]; exact h) (fun F v y e h => by rw [e]; exact h)) (ev_name 2 rfl)) (ev_name 0 rfl) (ev_name 1 rfl) rfl ?_ hp
  exact g_fall rfl (fun p hp => hp) (by simp)
abbrev sp_sums_told (w : World) (CR : Addr) : Sp := spT (fun x : Int × List (Word × Int) => x.1 ≠ 0 ∧ x.1.natAbs < 2 ^ 8990) (fun _ => []) (fun x => [tInt.is x.1, (tDic w wordK tInt).is x.2]) fun x => (tLst (tPart CR)).is (toldP x.1 x.2)
theorem sc_sums_told : FnScope ["bottom", "sums", "key"] ["bottom", "sums"] (defScope (top 64)) := ⟨rfl, rfl, rfl, by decide +kernel, rfl, by decide +kernel, by decide +kernel⟩
theorem ok_sums_told {f : Addr} {fd : FuncData} (Fd : FnP K "sums_told" (top 64) f fd) (hm : mg "sums_told" = some (.ref f)) (T : Tx K mg CR CT CY) (c1 : CalR2 P w K mg base CR) : Cal P w K mg base "sums_told" 4 ["bottom", "sums"] [] (sp_sums_told w CR) := by
  refine cal_mk Fd hm (fn_mk Fd sc_sums_told (fun _ => rfl) fun cdv A outer s H E x F hr hp ce => ?_) fun _ _ _ _ _ _ us hl => match us, hl with | [_, _], _ => rfl
  obtain ⟨b, kvs⟩ := x
  refine g_ret (ev_lcIf [("key", 2)] (evi_list (ev_sortW (hr.mono (by decide)) (ev_listD (K := wordK) (U := tInt) (ev_name 1 rfl) T.f) T.g)) (U := tPart CR) (f := fun k => (k, Rat.divInt ((dget kvs k).getD 0) b)) (b := fun k => !decide ((dget kvs k).getD 0 = 0)) (fun i h => ?_) sc_sums_told.nd (defScope (top 64)) (N := ["bottom", "sums", "key"]))
  have hk : (srt wordLt (kvs.map (·.1)))[i] ∈ kvs.map (·.1) := (srt_perm _).mem_iff.mp (List.getElem_mem h)
  obtain ⟨y, hy⟩ := dget_mem hk
  have e : (dget kvs (srt wordLt (kvs.map (·.1)))[i]).getD 0 = y := by rw [hy] <;> rfl
  refine ⟨_, _, by decide, fun s H C cl fp => bd_name 2 sc_sums_told.nd, ttB_ok fun s H C cl fp => ?_, fun _ s H C cl fp => ?_⟩
  · rw [e]
    exact et_neI (ev_dget (K := wordK) (U := tInt) (hr.mono (by decide)) (ev_name 1 rfl) (ev_name 2 rfl) isDic_frz hy) ev_int
  · rw [e]
    exact ev_pr (ev_name 2 rfl) (ev_ratio2 c1 hr (ev_dget (K := wordK) (U := tInt) (hr.mono (by decide)) (ev_name 1 rfl) (ev_name 2 rfl) isDic_frz hy) (ev_name 0 rfl) hp.1 hp.2 rfl)
structure prePj (parts : List (Word × Rat)) : Prop where
  w : preW (parts.map (·.2))
  n : parts.length ≤ 400
abbrev sp_parts_joined (CR : Addr) : Sp := spT prePj (fun _ => []) (fun x => [(tLst (tPart CR)).is x]) fun x => (tLst (tPart CR)).is (joinP x)
abbrev nPj : List Str := ["parts", "bottom", "factors", "sums", "key", "number", "factor"]
theorem sc_parts_joined : FnScope nPj ["parts"] (defScope (top 65)) := ⟨rfl, rfl, rfl, by decide +kernel, rfl, by decide +kernel, by decide +kernel⟩
theorem ok_parts_joined {f : Addr} {fd : FuncData} (Fd : FnP K "parts_joined" (top 65) f fd) (hm : mg "parts_joined" = some (.ref f)) (T : Tx K mg CR CT CY) (c1 : Cal P w K mg base "wholes" 1 ["ratios"] [] (sp_wholes CR)) (c2 : Cal P w K mg base "ratio_of" 4 ["number"] [] (sp_ratio_of CR)) (c3 : Cal P w K mg base "put_more" 1 ["sums", "key", "number"] [] (sp_put_more w)) (c4 : Cal P w K mg base "sums_told" 4 ["bottom", "sums"] [] (sp_sums_told w CR)) : Cal P w K mg base "parts_joined" 5 ["parts"] [] (sp_parts_joined CR) := by
  refine cal_mk Fd hm (fn_mk Fd sc_parts_joined (fun _ => rfl) fun cdv A outer s H E parts F hr hp ce => ?_) fun _ _ _ _ _ _ us hl => match us, hl with | [_], _ => rfl
  have nd := sc_parts_joined.nd
  have hn := hp.n
  have hW : (lcms (parts.map (·.2))).natAbs < 2 ^ 64 := by have := hp.w.2 _ (Nat.le_refl _); rw [List.take_length] at this; exact this
  refine g_asg (ev_callI (R := (tPr tInt tRow).is (lcms (parts.map (·.2)), whol (parts.map (·.2)))) c1 (hr.mono (by decide)) (parts.map (·.2)) (eva_one (ev_lc [("key", 4), ("number", 5)] (evi_list (ev_name 0 rfl)) (U := tRat CR) (f := fun p => p.2) (fun i h => ?_) nd (defScope (top 65)) (N := nPj))) hp.w) (bd_two (bd_name 1 nd) (bd_name 2 nd)) ?_
  · exact ⟨_, _, by decide, fun s H C cl fp => bd_two (bd_name 4 nd) (bd_name 5 nd), tYes_ok, fun _ s H C cl fp => ev_callI (R := (tRat CR).is parts[i].2) c2 hr (Sum.inr parts[i].2) (eva_one (ev_name 5 rfl)) trivial⟩
  refine g_setC 3 (evc_dic (K := wordK) (U := tInt)) (fun l hl => ?_) nd
  have hz : (parts.zip (whol (parts.map (·.2)))).length ≤ 400 := by rw [List.length_zip]; omega
  refine g_for (evi_zip (ev_name 0 rfl) (ev_name 2 rfl) T.f) (fun i Γ' M' => Γ' = [some ((tLst (tPart CR)).is parts), some (tInt.is (lcms (parts.map (·.2)))), some (tRow.is (whol (parts.map (·.2)))), some (mpRef l), none, none, none] ∧ M' = [(l, cDic w wordK tInt (sumsM (parts.zip (whol (parts.map (·.2)))) i) l)]) ⟨rfl, rfl⟩ ?_ ?_
  · rintro B i h _ _ ⟨rfl, rfl⟩
    have h' : i < (parts.zip (whol (parts.map (·.2)))).length := h
    refine ⟨_, _, bd_two (bd_two (bd_name 4 nd) (bd_name 5 nd)) (bd_name 6 nd), ?_⟩
    have hl2 := sumsM_len _ i (Nat.le_of_lt h')
    refine g_callC 0 c3 (hr.mono (by decide)) (l, sumsM (parts.zip (whol (parts.map (·.2)))) i, (parts.zip (whol (parts.map (·.2))))[i].1.1, (parts.zip (whol (parts.map (·.2))))[i].2) (eva_cons (ev_name 3 rfl) (eva_cons (ev_name 4 rfl) (eva_one (ev_name 6 rfl)))) (by show (sumsM _ i).length < 1000000; omega) rfl rfl rfl rfl ?_
    refine g_turn ⟨rfl, ?_⟩ (.keep (.keep (.keep (.keep (.drop (.drop (.drop .nil)))))))
    rw [sumsM_succ h']
    rfl
  · rintro _ _ ⟨rfl, rfl⟩
    refine g_frzD 3 0 rfl rfl hl (fun h => nomatch h) ?_
    exact g_ret (ev_callI (R := (tLst (tPart CR)).is (joinP parts)) c4 hr (lcms (parts.map (·.2)), sumsM (parts.zip (whol (parts.map (·.2)))) (parts.zip (whol (parts.map (·.2)))).length) (eva_cons (ev_name 1 rfl) (eva_one (ev_name 3 rfl))) ⟨lcms_ne _, Nat.lt_of_lt_of_le hW (Nat.pow_le_pow_right (by decide) (by decide))⟩)
abbrev sp_is_word_part (CR : Addr) : Sp := spT (fun x : Int × (Word × Rat) => WordOk x.1 x.2.1) (fun _ => []) (fun x => [tInt.is x.1, (tPart CR).is x.2]) fun _ => tBool.is true
theorem sc_is_word_part : FnScope ["columns", "value"] ["columns", "value"] (defScope (top 66)) := ⟨rfl, rfl, rfl, by decide +kernel, rfl, by decide +kernel, by decide +kernel⟩
theorem ok_is_word_part {f : Addr} {fd : FuncData} (Fd : FnP K "is_word_part" (top 66) f fd) (hm : mg "is_word_part" = some (.ref f)) (T : Tx K mg CR CT CY) (c1 : Cal P w K mg base "is_word_of" 4 ["columns", "value"] [] sp_is_word_of) (c2 : Cal P w K mg base "is_number" 2 ["value"] [] (sp_is_number CR)) : Cal P w K mg base "is_word_part" 5 ["columns", "value"] [] (sp_is_word_part CR) := by
  refine cal_mk Fd hm (fn_mk Fd sc_is_word_part (fun _ => rfl) fun cdv A outer s H E x F hr hp ce => ?_) fun _ _ _ _ _ _ us hl => match us, hl with | [_, _], _ => rfl
  obtain ⟨c, x⟩ := x
  exact g_ret (Ev.tob (ev_and (x := true) (ev_isi (ev_name 1 rfl) (ev_ty T.f (by decide +kernel)) (.ty "tuple") (fun F H v e h => ty_pr (T := tWord) (U := tRat CR) (x := x) e h) kit_tt T.f) fun _ => ev_and (x := true) (Ev.tob (ev_eqI (ev_lenP (T' := tWord) (U' := tRat CR) (y := x) (ev_name 1 rfl) T.f) ev_int) (by decide)) fun _ => ev_and (x := true) (ev_callI (R := tBool.is true) c1 hr (c, x.1) (eva_cons (ev_name 0 rfl) (eva_one (ev_fst (U := tRat CR) (y := x) (ev_name 1 rfl)))) hp) fun _ => ev_one (ev_callI (R := tBool.is true) c2 (hr.mono (by decide)) (Sum.inr x.2) (eva_one (ev_snd (T := tWord) (y := x) (ev_name 1 rfl))) trivial)) rfl)
end
end L2.K3
set_option Elab.async false
set_option linter.all false
set_option maxRecDepth 100000
set_option maxHeartbeats 4000001
/-! FnK: the class Tally, its worth. -/
namespace L2.K3
open PySem PySem.Spec PyProof.Rows RM
section
variable {P : Program} {w : World} {K : PySem.W.Frag} {mg : Str → Option Value} {base : Heap} {CR CT CY : Addr}
abbrev Tal : Type := Int × List (Word × Rat) × Addr
abbrev ftsY (CR : Addr) (x : Tal) : List (Str × MP) := [("own_columns", tInt.is x.1), ("own_parts", (tLst (tPart CR)).is x.2.1), ("own_kept", mpRef x.2.2)]
abbrev mpTal (CR CY : Addr) (x : Tal) : MP := mpIns CY (ftsY CR x)
structure preY (x : Int × List (Word × Rat)) : Prop where
  a : 0 ≤ x.1 ∧ x.1 ≤ 3
  b : prePj x.2
  c : ∀ p ∈ x.2, WordOk x.1 p.1
abbrev sp_Tally (CR CY : Addr) : Sp := spK CY preY (fun x => [tInt.is x.1, (tLst (tPart CR)).is x.2]) (fun x k => ftsY CR (x.1, joinP x.2, k)) (fun _ _ => cDK0)
theorem sc_Tally : FnScope ["self", "columns", "parts", "one"] ["self", "columns", "parts"] (defScope (sY 0)) := ⟨rfl, rfl, rfl, by decide +kernel, rfl, by decide +kernel, by decide +kernel⟩
theorem ok_Tally {f : Addr} {fd : FuncData} {dvs : List V} (Fd : FunD K "__init__" "Tally.__init__" (defArgs (sY 0)) (defBody (sY 0)) (defScope (sY 0)) dvs [] f fd) (T : Tx K mg CR CT CY)
    (c1 : Cal P w K mg base "want_columns" 3 ["value"] [] sp_want_columns) (c2 : Cal P w K mg base "is_list" 1 ["value"] [] (sp_is_listL (tPart CR))) (c3 : Cal P w K mg base "is_word_part" 5 ["columns", "value"] [] (sp_is_word_part CR)) (c4 : Cal P w K mg base "parts_joined" 5 ["parts"] [] (sp_parts_joined CR)) : FnOk P w K mg base CX0 6 f fd ["self", "columns", "parts"] (sp_Tally CR CY) := by
  refine fn_mkK Fd sc_Tally (fun _ => rfl) fun cdv A outer s H E i F x hr hp => ?_
  obtain ⟨n, parts⟩ := i
  refine g_expr (ev_callI c1 (hr.mono (by decide)) n (eva_one (ev_name 1 rfl)) hp.a) ?_
  refine g_if (x := false) (EvT.to (EvW.t (ew_or (et_not (et_val (ev_callI c2 (hr.mono (by decide)) parts (eva_one (ev_name 2 rfl)) trivial))) fun _ => ew_or (et_gt (ev_lenL (xs := parts) (ev_name 2 rfl) T.f) (ev_gint T.n400)) fun _ => ew_or1 (et_not (et_val (ev_all (ev_lc [("one", 3)] (evi_list (ev_name 2 rfl)) (U := tBool) (f := fun _ => true) (fun i h => ?_) sc_Tally.nd (defScope (sY 0)) (N := ["self", "columns", "parts", "one"])) T.g))))) ?_) (fun h => by cases h) fun _ => g_end ?_
  · exact ⟨_, _, by decide, fun s H C cl fp => bd_name 3 sc_Tally.nd, tYes_ok, fun _ s H C cl fp => ev_callI c3 hr (n, parts[i]) (eva_cons (ev_name 1 rfl) (eva_one (ev_name 3 rfl))) (hp.c _ (List.getElem_mem h))⟩
  · have hb : parts.length ≤ 400 := hp.b.n
    rw [all_true, decide_eq_false (show ¬ (400 : Int) < (parts.length : Int) by omega)] <;> rfl
  refine g_fld 0 [] (ev_name 0 rfl) (ev_name 1 rfl) rfl T.Y.cl T.Yc ?_
  refine g_fld 0 ["own_columns"] (ev_name 0 rfl) (ev_callI (R := (tLst (tPart CR)).is (joinP parts)) c4 hr parts (eva_one (ev_name 2 rfl)) hp.b) rfl T.Y.cl T.Yp ?_
  refine g_fldC 0 ["own_columns", "own_parts"] evc_dk (fun k => ev_name 0 rfl) rfl T.Y.cl T.Yk fun k hk => ?_
  exact g_fallK hk rfl
abbrev CalY (P : Program) (w : World) (K : PySem.W.Frag) (mg : Str → Option Value) (base : Heap) (CR CY : Addr) : Prop := CalC P w K mg base "Tally" CY 6 ["self", "columns", "parts"] [] (sp_Tally CR CY)
section
variable {X : Cx} {Γ : Gam} {M : Mem} {a b e : Expr} {pos p : Pos} {n : Int} {parts : List (Word × Rat)} {x : Tal}
theorem ek_tally (c : CalY X.prog X.w X.K X.mg X.base CR CY) (hr : Room 7 X.A) (ha : Ev X Γ M a (tInt.is n)) (hb : Ev X Γ M b ((tLst (tPart CR)).is parts)) (hp : preY (n, parts)) (hg : Gl X "Tally" := by rfl)
    (he : starEach [a, b] X.env = (false, eval a X.env) :: starEach [b] X.env := by rfl) (hpl : (backTo pos (starEach [b] X.env)).any (·.1) = false := by rfl) (he2 : starEach [b] X.env = (false, eval b X.env) :: starEach [] X.env := by rfl) :
    EvK X Γ M (.Call (.Name "Tally" p) [a, b] [] pos) (fun k => mpTal CR CY (n, joinP parts, k)) (fun _ => cDK0) :=
  ev_makeK (Pd := []) c hr (n, parts) (eva_cons ha (eva_one hb he2) he) hp (fun _ => .nil) rfl hg (by decide) he hpl
theorem ev_ycols (T : Tx X.K mg CR CT CY) (h : Ev X Γ M e (mpTal CR CY x)) (hb : attributeBase e "own_columns" X.env (eval e X.env) = eval e X.env := by rfl) : Ev X Γ M (.Attribute e "own_columns" pos) (tInt.is x.1) := ev_fldI (fts := ftsY CR x) h T.Y.cl T.Yc rfl hb
theorem ev_yparts (T : Tx X.K mg CR CT CY) (h : Ev X Γ M e (mpTal CR CY x)) (hb : attributeBase e "own_parts" X.env (eval e X.env) = eval e X.env := by rfl) : Ev X Γ M (.Attribute e "own_parts" pos) ((tLst (tPart CR)).is x.2.1) := ev_fldI (fts := ftsY CR x) h T.Y.cl T.Yp rfl hb
theorem ev_ykept (T : Tx X.K mg CR CT CY) (h : Ev X Γ M e (mpTal CR CY x)) (hb : attributeBase e "own_kept" X.env (eval e X.env) = eval e X.env := by rfl) : Ev X Γ M (.Attribute e "own_kept" pos) (mpRef x.2.2) := ev_fldI (fts := ftsY CR x) h T.Y.cl T.Yk rfl hb
end
abbrev sp_want_tally (CR CY : Addr) : Sp := spT (fun _ : Tal => True) (fun _ => []) (fun x => [mpTal CR CY x]) fun x => mpTal CR CY x
theorem sc_want_tally : FnScope ["value"] ["value"] (defScope (top 68)) := ⟨rfl, rfl, rfl, by decide +kernel, rfl, by decide +kernel, by decide +kernel⟩
theorem ok_want_tally {f : Addr} {fd : FuncData} (Fd : FnP K "want_tally" (top 68) f fd) (hm : mg "want_tally" = some (.ref f)) (T : Tx K mg CR CT CY) : Cal P w K mg base "want_tally" 1 ["value"] [] (sp_want_tally CR CY) := by
  refine cal_mk Fd hm (fn_mk Fd sc_want_tally (fun _ => rfl) fun cdv A outer s H E x F hr hp ce => ?_) fun _ _ _ _ _ _ us hl => match us, hl with | [_], _ => rfl
  refine g_if (x := false) (et_not (x := true) (et_val (ev_isi (ev_name 0 rfl) (ev_cls T.gY) (.own CY) (fun F H v e h => ty_mpIns T T.Y (fts := ftsY CR x) e h) kit_self T.f))) (fun h => by cases h) fun _ => g_end ?_
  exact g_ret (ev_name 0 rfl)
/-- the worth of parts over rows -/
def worthP (parts : List (Word × Rat)) (rows : List (List Rat)) : Rat := rsum (parts.map fun p => p.2 * lastR (aheadR rows p.1))
structure preWt (parts : List (Word × Rat)) (rows : List (List Rat)) : Prop where
  a : ∀ p ∈ parts, preAh (rows, p.1) ∧ Sz 4400 p.2 ∧ Sz 4400 (lastR (aheadR rows p.1))
  s : preSum (parts.map fun p => p.2 * lastR (aheadR rows p.1))
abbrev sp_worth_of_tally (CR CY : Addr) : Sp := spT (fun x : Tal × List (List Rat) => preWt x.1.2.1 x.2) (fun _ => []) (fun x => [mpTal CR CY x.1, (tTup (tTup (tRat CR))).is x.2]) fun x => (tRat CR).is (worthP x.1.2.1 x.2)
theorem sc_worth_of_tally : FnScope ["tally", "rows", "word", "factor"] ["tally", "rows"] (defScope (top 69)) := ⟨rfl, rfl, rfl, by decide +kernel, rfl, by decide +kernel, by decide +kernel⟩
theorem ok_worth_of_tally {f : Addr} {fd : FuncData} (Fd : FnP K "worth_of_tally" (top 69) f fd) (hm : mg "worth_of_tally" = some (.ref f)) (T : Tx K mg CR CT CY) (c1 : Cal P w K mg base "ahead_sums" 6 ["rows", "word"] [] (sp_ahead_sums CR)) (c2 : Cal P w K mg base "total_of" 5 ["ratios"] [] (sp_total_of CR)) (c3 : CalB P w K mg base CR "__mul__" (· * ·)) : Cal P w K mg base "worth_of_tally" 7 ["tally", "rows"] [] (sp_worth_of_tally CR CY) := by
  refine cal_mk Fd hm (fn_mk Fd sc_worth_of_tally (fun _ => rfl) fun cdv A outer s H E x F hr hp ce => ?_) fun _ _ _ _ _ _ us hl => match us, hl with | [_, _], _ => rfl
  obtain ⟨x, rows⟩ := x
  have nd := sc_worth_of_tally.nd
  refine g_ret (ev_callI (R := (tRat CR).is (worthP x.2.1 rows)) c2 (hr.mono (by decide)) (x.2.1.map fun p => p.2 * lastR (aheadR rows p.1)) (eva_one (ev_lc [("word", 2), ("factor", 3)] (evi_list (ev_yparts T (x := x) (ev_name 0 rfl))) (U := tRat CR) (f := fun p => p.2 * lastR (aheadR rows p.1)) (fun i h => ?_) nd (defScope (top 69)) (N := ["tally", "rows", "word", "factor"]))) hp.s)
  obtain ⟨h1, h2, h3⟩ := hp.a _ (List.getElem_mem h)
  exact ⟨_, _, by decide, fun s H C cl fp => bd_two (bd_name 2 nd) (bd_name 3 nd), tYes_ok, fun _ s H C cl fp => ev_rmul T c3 (hr.mono (by decide)) (ev_name 3 rfl) (ev_ixL (ev_callI (R := (tRrow CR).is (aheadR rows x.2.1[i].1)) c1 hr (rows, x.2.1[i].1) (eva_cons (ev_name 1 rfl) (eva_one (ev_name 2 rfl))) h1) (ev_neg ev_int) (at_last (ahead_ne _ _))) h2 h3⟩
structure preTw (x : Tal × Int × List (List Rat)) : Prop where
  c : x.1.1 = x.2.1
  w : preWt x.1.2.1 x.2.2
abbrev sp_tally_worth (CR CT CY : Addr) : Sp := spT preTw (fun _ => []) (fun x => [mpTal CR CY x.1, (tTab CR CT).is x.2]) fun x => (tRat CR).is (worthP x.1.2.1 x.2.2)
theorem sc_tally_worth : FnScope ["tally", "table", "near", "far"] ["tally", "table"] (defScope (top 70)) := ⟨rfl, rfl, rfl, by decide +kernel, rfl, by decide +kernel, by decide +kernel⟩
theorem ok_tally_worth {f : Addr} {fd : FuncData} (Fd : FnP K "tally_worth" (top 70) f fd) (hm : mg "tally_worth" = some (.ref f)) (T : Tx K mg CR CT CY) (c1 : Cal P w K mg base "want_tally" 1 ["value"] [] (sp_want_tally CR CY)) (c2 : Cal P w K mg base "want_table" 1 ["value"] [] (sp_want_table CR CT)) (c3 : Cal P w K mg base "want_like" 1 ["near", "far"] [] sp_want_like) (c4 : Cal P w K mg base "worth_of_tally" 7 ["tally", "rows"] [] (sp_worth_of_tally CR CY)) : Cal P w K mg base "tally_worth" 8 ["tally", "table"] [] (sp_tally_worth CR CT CY) := by
  refine cal_mk Fd hm (fn_mk Fd sc_tally_worth (fun _ => rfl) fun cdv A outer s H E x F hr hp ce => ?_) fun _ _ _ _ _ _ us hl => match us, hl with | [_, _], _ => rfl
  obtain ⟨x, y⟩ := x
  have nd := sc_tally_worth.nd
  refine g_set 2 (ev_callI (R := mpTal CR CY x) c1 (hr.mono (by decide)) x (eva_one (ev_name 0 rfl)) trivial) ?_ nd
  refine g_set 3 (ev_callI (R := (tTab CR CT).is y) c2 (hr.mono (by decide)) y (eva_one (ev_name 1 rfl)) trivial) ?_ nd
  refine g_expr (ev_callI c3 (hr.mono (by decide)) (x.1, y.1) (eva_cons (ev_ycols T (x := x) (ev_name 2 rfl)) (eva_one (ev_tcols T (x := y) (ev_name 3 rfl)))) hp.c) ?_
  exact g_ret (ev_callI (R := (tRat CR).is (worthP x.2.1 y.2)) c4 hr (x, y.2) (eva_cons (ev_name 2 rfl) (eva_one (ev_trows T (x := y) (ev_name 3 rfl)))) hp.w)
end
end L2.K3
set_option Elab.async false
set_option linter.all false
set_option maxRecDepth 100000
set_option maxHeartbeats 2000001
/-! K3S: dicts within dicts; the dict that a tally keeps. -/
namespace L2.K3
open PySem PySem.Spec PyProof.Rows
def tAddr : Ty Addr := ⟨fun _ v l => v = .ref l, fun _ h => h⟩
section
variable {X : Cx} {Γ : Gam} {M : Mem} {d e f : Expr} {α β γ δ : Type} [DecidableEq α] {K : KTy α} {U : Ty β} {Pd : MP} {kvs : List (α × β)} {k : α} {y : β} {pos : Pos}
/-- d.get(k, x) where x is a new cell and k is not in d -/
theorem evc_dgetNew {apos : Pos} {cc : Addr → CP} (hr : Room 0 X.A) (hd : Ev X Γ M d Pd) (hk : Ev X Γ M e (K.T.is k)) (hf : EvC X Γ M f cc) (di : ∀ l, IsDic X.w K U ((l, cc l) :: M) Pd kvs) (di0 : IsDic X.w K U M Pd kvs) (hg : dget kvs k = none)
    (hb : attributeBase d "get" X.env (eval d X.env) = eval d X.env := by rfl)
    (hfew : ((backTo pos (starEach [e, f] X.env)).all (fun x => !x.1) && (backToKw pos (keywordEach [] X.env)).all (fun x => x.1.isSome) && decide (([e, f] : List Expr).length + ([] : List Keyword).length + (if ([] : List Keyword).isEmpty then 0 else 1) < 30)) = true := by rfl)
    (hline : (apos.endLine == pos.line) = true := by rfl) (htr : backTo pos (starEach [e, f] X.env) = [(false, eval e X.env), (false, eval f X.env)] := by rfl) : EvC X Γ M (.Call (.Attribute d "get" apos) [e, f] [] pos) cc := fun σ F H eo fh ce Q q pins s I => by
  refine wpAny_Call_method hb hfew hline PySem.F.plainAttrs_dict PySem.F.slot_dict_get PySem.F.type_dict_get ?_
  refine thn (hd σ F H eo fh ce (fun v H1 => ∃ F1, Stp M F H F1 H1 ∧ Pd.p F1 v) (fun F1 H1 v st p => ⟨F1, st, p⟩) pins s I) fun u s1 ⟨v, H1, I1, rv, F1, st1, pv⟩ => ?_
  obtain ⟨t1, t2⟩ := dic_type I1 (di0 F1 H1 v st1.fh st1.ce pv) rv
  refine ⟨t1, t2, ?_⟩
  rw [htr]
  refine Calls.callWith_builtin rfl (Calls.evalArgs_plain (Calls.spliced_cons ?_))
  refine thn (hk σ F1 H1 (eo.mono st1.ff) st1.fh st1.ce (fun x H2 => ∃ F2, Stp M F1 H1 F2 H2 ∧ (K.T.is k).p F2 x) (fun F2 H2 x st p => ⟨F2, st, p⟩) pins s1 I1) fun u2 s2 ⟨x, H2, I2, rx, F2, st2, px⟩ => ?_
  refine Calls.spliced_cons ?_
  have st12 := st1.trans st2
  refine thn (hf σ F2 H2 (eo.mono st12.ff) st12.fh st12.ce (fun z H3 => ∃ F3 l o H', Stp M F2 H2 F3 H' ∧ H' l = none ∧ (cc l).c F3 o ∧ z = .ref l ∧ H3 = upd H' l o) (fun F3 H' l o st hl hc => ⟨F3, l, o, H', st, hl, hc, rfl, rfl⟩) pins s2 I2) fun u3 s3 ⟨z, H3, I3, rz, F3, l, o, H', st3, hl, hc, ez, eH⟩ => ?_
  subst ez eH
  refine Calls.spliced_nil ?_
  have fh3 : Ext F3 (upd H' l o) := fun a ob h => Ext.upd hl a ob (st3.fh a ob h)
  have ce3 : Cells F3 (upd H' l o) ((l, cc l) :: M) := by
    refine ⟨?_, fun p hp => ?_⟩
    · rw [List.map_cons, List.nodup_cons]
      refine ⟨fun z => ?_, st3.ce.nd⟩
      obtain ⟨p, hp, e2⟩ := List.mem_map.mp z
      obtain ⟨_, ob, ho, _⟩ := st3.ce.mem p hp
      have e2' : p.1 = l := e2
      rw [e2', hl] at ho
      cases ho
    · rcases List.mem_cons.mp hp with e2 | hp
      · subst e2; exact ⟨ext_none st3.fh hl, o, upd_same, hc⟩
      · obtain ⟨f0, ob, ho, h2⟩ := st3.ce.mem p hp
        exact ⟨f0, ob, Ext.upd hl _ _ ho, h2⟩
  have rdd := di l F3 _ v fh3 ce3 (Pd.mono (st2.ff.trans st3.ff) pv)
  have px3 := K.T.mono st3.ff px
  obtain ⟨a, ob, xs, rfl, e', io, dp, hlen⟩ := rdd
  cases rv
  obtain ⟨b, rfl⟩ := K.isRef px3
  cases rx
  have dd := dic_of I3.hok fh3 e' io dp
  have hsy := (dic_obj I3.hok e').1
  refine call_meetsIn PySem.F.slot_dict_get dd.typeIs PySem.F.entry_dict_get (PySem.F.args_dict_get_3 _ _ _) (meetsH_dict_get_default (nestedKind X.prog X.w) a b hsy u3) ⟨room8 hr, K.key k, xs, K.is I3.hok fh3 px3, dd, ?_⟩
  rcases dps_get k dp with ⟨h1, h2⟩ | ⟨p, y', v', h1, h2, h3, h4⟩
  · rw [h1]
    exact ⟨.ref l, _, I3.tok _, rz, q F3 H' l o (st12.trans st3) hl hc⟩
  · rw [h2] at hg; cases hg
/-- d[k] = x, x a new cell -/
theorem g_dputC {E : En} {D : Ends} {rest : List Stmt} {pos' : Pos} {l : Addr} {cc : Addr → CP} {kvs : List (α × Addr)} (j : Nat) (hr : Room 0 X.A) (hf : EvC X Γ M f cc) (hd : ∀ n, Ev X Γ ((n, cc n) :: M) d (mpRef l)) (hk : ∀ n, Ev X Γ ((n, cc n) :: M) e (K.T.is k)) (hj : M[j]? = some (l, cDic X.w K tAddr kvs l))
    (kk : ∀ n, E.H0 n = none → G E X rest Γ ((n, cc n) :: M.set j (l, cDic X.w K tAddr (dput kvs k n) l)) D) (hn : kvs.length < 1000000) (hs : swapsWith f (some (.Subscript d e pos')) pos.line X.env = pure false := by rfl) : G E X (.Assign [.Subscript d e pos'] f pos :: rest) Γ M D := fun σ H F sta => by
  refine wSs_of (pss_cons ps_w pss_w) ?_
  intro pins s I
  refine wpAny_Assign_Subscript ?_ hs
  refine thn (hf σ F H sta.env sta.fh sta.ce (fun z H3 => ∃ F3 n o H', Stp M F H F3 H' ∧ H' n = none ∧ (cc n).c F3 o ∧ z = .ref n ∧ H3 = upd H' n o) (fun F3 H' n o st hl hc => ⟨F3, n, o, H', st, hl, hc, rfl, rfl⟩) pins s I) fun u1 s1 ⟨v, H1, I1, rv, F1, n, o1, H', st1, hn1, hc1, ev, eH⟩ => ?_
  subst ev eH
  have a0 := sta.step st1
  have a1 := a0.newc hn1 hc1
  refine thn (hd n σ F1 _ a1.env a1.fh a1.ce (fun v H2 => ∃ F2, Stp ((n, cc n) :: M) F1 (upd H' n o1) F2 H2 ∧ (mpRef l).p F2 v) (fun F2 H2 v st p => ⟨F2, st, p⟩) pins s1 I1) fun u2 s2 ⟨dv, H2, I2, rd, F2, st2, pd⟩ => ?_
  have a2 := a1.step st2
  refine thn (hk n σ F2 H2 a2.env a2.fh a2.ce (fun v H3 => ∃ F3, Stp ((n, cc n) :: M) F2 H2 F3 H3 ∧ (K.T.is k).p F3 v) (fun F3 H3 v st p => ⟨F3, st, p⟩) pins s2 I2) fun u3 s3 ⟨x, H3, I3, rx, F3, st3, px⟩ => ?_
  have a3 := a2.step st3
  cases (show dv = V.ref l from pd)
  cases rd
  have hj2 : ((n, cc n) :: M)[j + 1]? = some (l, cDic X.w K tAddr kvs l) := hj
  obtain ⟨f0, o, ho, ob, xs, e1, io, dp, hl⟩ := a3.ce.mem _ (List.mem_of_getElem? hj2)
  subst e1
  obtain ⟨b, rfl⟩ := K.isRef px
  cases rx
  have dd := dic_of I3.hok a3.fh ho io dp
  obtain ⟨hsy, hgo⟩ := dic_obj I3.hok ho
  have hxl : xs.length = kvs.length := Paired.length dp
  refine wpAny_setItem_heap (knd := nestedKind X.prog X.w) (hsz := by rw [hxl, sizeLine_eq]; omega) (room8 hr) (K.is I3.hok a3.fh px) dd fun h' dd' hs' => ?_
  obtain ⟨ob', es, ep, hq, h2, h3, h4, _, h5⟩ := dd'
  have I4 := I3.write (x := l) (e := l) (o := DicO l ob') (h' := h') (t' := s3.toks + (nestedKind X.prog X.w).draws (K.key k)) (by rw [show H3 l = some (DicO l ob) from ho]; exact True.intro) (.inl rfl) (fun c q hc z => (hs'.2 c hc).trans z) ⟨ob', hq⟩ ⟨⟨hsy, hq⟩, ⟨ob', hq⟩, fun h1 h2 ⟨a, b⟩ c => ⟨a, c _ b⟩⟩
  refine ⟨σ, _, I4, ?_⟩
  have hlen := dput_len kvs k n
  exact kk n (a0.h0 hn1) σ _ F3 (a3.put (c' := cDic X.w K tAddr (dput kvs k n) l) hj2 ⟨ob', _, rfl, ⟨h2, ⟨es, ep, h3, h4⟩, h5⟩, dps_put px rv (show tAddr.t F3 (.ref n) n from rfl) dp, by omega⟩)
end
section
variable {X : Cx} {E : En} {Γ : Gam} {M M' : Mem} {D : Ends} {sts : List Stmt}
/-- the cells in another order -/
theorem g_perm (h : M.Perm M') (k : G E X sts Γ M' D) : G E X sts Γ M D := fun σ H F s => k σ H F
  ⟨s.env, s.fh, ⟨(h.map _).nodup_iff.mp s.ce.nd, fun p hp => s.ce.mem p (h.mem_iff.mpr hp)⟩, s.st, fun p hp => s.own p (h.mem_iff.mpr hp), fun a ha => (h.map _).mem_iff.mp (s.wm a ha), s.bs⟩
/-- a dict of dicts that change no more -/
theorem g_frzAll {α β γ : Type} {K : KTy α} {K2 : KTy β} {U : Ty γ} {l : Addr} (L : List (α × Addr × List (β × γ))) (hM : M = (l, cDic X.w K tAddr (L.map fun x => (x.1, x.2.1)) l) :: L.map fun x => (x.2.1, cDic X.w K2 U x.2.2 x.2.1)) (h0 : ∀ x ∈ L, E.H0 x.2.1 = none) (hW : E.M1 = [])
    (k : G E X sts Γ [(l, cDic X.w K (tDic X.w K2 U) (L.map fun x => (x.1, x.2.2)) l)] D) : G E X sts Γ M D := fun σ H F s => by
  subst hM
  have nd := s.ce.nd
  rw [List.map_cons, List.nodup_cons] at nd
  have hin : ∀ x ∈ L, F x.2.1 = none ∧ ∃ o, H x.2.1 = some o ∧ (cDic X.w K2 U x.2.2 x.2.1).c F o := fun x hx => s.ce.mem (x.2.1, cDic X.w K2 U x.2.2 x.2.1) (List.mem_cons_of_mem _ (List.mem_map.mpr ⟨x, hx, rfl⟩))
  have hlA : ∀ x ∈ L, x.2.1 ≠ l := fun x hx e => nd.1 (List.mem_map.mpr ⟨_, List.mem_map.mpr ⟨x, hx, rfl⟩, e⟩)
  have inA : ∀ a, a ∈ L.map (·.2.1) → ∃ x ∈ L, x.2.1 = a := fun a ha => by
    obtain ⟨x, hx, e⟩ := List.mem_map.mp ha
    exact ⟨x, hx, e⟩
  obtain ⟨F2, hF2⟩ : ∃ F2 : Hp, ∀ a, F2 a = if a ∈ L.map (·.2.1) then H a else F a := ⟨fun a => if a ∈ L.map (·.2.1) then H a else F a, fun _ => rfl⟩
  have eF : Ext F F2 := fun a o h => by
    rw [hF2]
    by_cases ha : a ∈ L.map (·.2.1)
    · obtain ⟨x, hx, rfl⟩ := inA a ha
      rw [(hin x hx).1] at h; cases h
    · rw [if_neg ha]; exact h
  have eH : Ext F2 H := fun a o h => by
    rw [hF2] at h
    by_cases ha : a ∈ L.map (·.2.1)
    · rw [if_pos ha] at h; exact h
    · rw [if_neg ha] at h; exact s.fh a o h
  obtain ⟨f0, o, ho, ob, xs, rfl, io, dp, hl⟩ := s.ce.mem _ List.mem_cons_self
  have dp2 : DPs K (tDic X.w K2 U) F2 xs (L.map fun x => (x.1, x.2.2)) := by
    have key : ∀ (L' : List (α × Addr × List (β × γ))) (ys : List (NestedKey × Addr × Value)), (∀ x ∈ L', x ∈ L) → DPs K tAddr F ys (L'.map fun x => (x.1, x.2.1)) → DPs K (tDic X.w K2 U) F2 ys (L'.map fun x => (x.1, x.2.2)) := by
      intro L'
      induction L' with
      | nil => intro ys _ h; cases h; exact .nil
      | cons x L' ih =>
        intro ys hs h
        cases h with
        | cons p q =>
          obtain ⟨h1, h2, v, h3, h4⟩ := p
          refine .cons ⟨h1, K.T.mono eF h2, v, h3, ?_⟩ (ih _ (fun z hz => hs z (List.mem_cons_of_mem _ hz)) q)
          have hx := hs x List.mem_cons_self
          obtain ⟨_, o', ho', hc'⟩ := hin x hx
          refine ⟨x.2.1, o', h4, ?_, (cDic X.w K2 U x.2.2 x.2.1).mono eF hc'⟩
          rw [hF2, if_pos (List.mem_map.mpr ⟨x, hx, rfl⟩)]
          exact ho'
    exact key L xs (fun _ h => h) dp
  have fl : F2 l = none := by
    rw [hF2, if_neg fun ha => ?_]
    · exact f0
    · obtain ⟨x, hx, e⟩ := inA l ha
      exact hlA x hx e
  refine k σ H F2 ⟨s.env.mono eF, eH, ⟨by simp, fun p hp => by rw [List.mem_singleton.mp hp]; exact ⟨fl, _, ho, ob, xs, rfl, io, dp2, by rw [List.length_map] at hl ⊢; exact hl⟩⟩, ⟨s.st.ff.trans eF, s.st.hh, fun a u h => ?_⟩, fun p hp => ?_, fun a ha => ?_, s.bs.trans eF⟩
  · rw [hF2] at h
    by_cases ha : a ∈ L.map (·.2.1)
    · obtain ⟨x, hx, rfl⟩ := inA a ha
      exact .inr (h0 x hx)
    · rw [if_neg ha] at h
      exact s.st.nw a u h
  · have q := s.own (l, cDic X.w K tAddr (L.map fun x => (x.1, x.2.1)) l) List.mem_cons_self
    rw [List.mem_singleton.mp hp]
    exact q
  · have : a ∈ E.M1.map (·.1) := ha
    rw [hW] at this
    cases this
end
/-! ## the kept room -/
def cDK1 {α : Type} (T : Ty α) (x : α) : CP := ⟨fun F o => ∃ v, o = .dK [(Sum.inr "room", v)] ∧ T.t F v x, fun e ⟨v, h1, h2⟩ => ⟨v, h1, T.mono e h2⟩⟩
def cKept {α : Type} (T : Ty α) (x : α) : CP := ⟨fun F o => cDK0.c F o ∨ (cDK1 T x).c F o, fun e h => h.elim (fun h => .inl (cDK0.mono e h)) fun h => .inr ((cDK1 T x).mono e h)⟩
section
variable {X : Cx} {E : En} {Γ : Gam} {M : Mem} {D : Ends} {a b e o : Expr} {rest : List Stmt} {pos pos' : Pos} {α : Type} {T : Ty α} {x : α} {l : Addr}
theorem op_kNot (hr : Room 0 X.A) : OpR X (compareOp .NotIn) fun y d H Q => ∃ (a : Addr) (ov : Option V), d = .ref a ∧ DGet H a y ov ∧ Q (.bl (!ov.isSome)) H := by
  rintro pins s σ H y d u v Q I ry rd ⟨a, ov, rfl, g, q⟩
  cases rd
  exact d_notIn (hu_of hr) I g ry fun s' I' => ⟨.bl (!ov.isSome), H, I', rfl, q⟩
theorem et_kNot0 (j : Nat) (hr : Room 0 X.A) (ha : Ev X Γ M a (mpV (.str "room"))) (hb : Ev X Γ M b (mpRef l)) (hj : M[j]? = some (l, cDK0)) (hm : behindInMarks .NotIn b = false := by first | exact nomark _ | rfl) : EvT X Γ M (.Compare a [.NotIn] [b] pos) true :=
  et_cmp (op_kNot hr) ha hb (fun F H v w fh ce pv pw Q k => by
    obtain ⟨f0, o, ho, e1⟩ := ce.mem _ (List.mem_of_getElem? hj)
    cases (show v = V.str "room" from pv)
    exact ⟨l, none, pw, DGet.k (k := Sum.inr "room") (kvs := []) (by rw [← (show o = HO.dK [] from e1)]; exact ho), k F H _ (Stp.refl fh ce) rfl⟩) hm
theorem et_kNot1 (j : Nat) (hr : Room 0 X.A) (ha : Ev X Γ M a (mpV (.str "room"))) (hb : Ev X Γ M b (mpRef l)) (hj : M[j]? = some (l, cDK1 T x)) (hm : behindInMarks .NotIn b = false := by first | exact nomark _ | rfl) : EvT X Γ M (.Compare a [.NotIn] [b] pos) false :=
  et_cmp (op_kNot hr) ha hb (fun F H v w fh ce pv pw Q k => by
    obtain ⟨f0, o, ho, z, rfl, tz⟩ := ce.mem _ (List.mem_of_getElem? hj)
    cases (show v = V.str "room" from pv)
    have g := DGet.k (k := Sum.inr "room") ho
    rw [valV_pos rfl] at g
    exact ⟨l, some z, pw, g, k F H _ (Stp.refl fh ce) rfl⟩) hm
theorem ev_kget (j : Nat) (hr : Room 0 X.A) (ho : Ev X Γ M o (mpRef l)) (ha : Ev X Γ M a (mpV (.str "room"))) (hj : M[j]? = some (l, cDK1 T x)) (hs : NoSl a := by exact fun _ _ => rfl) : Ev X Γ M (.Subscript o a pos) (T.is x) := fun σ F H eo fh ce Q k => by
  refine wE_of (pe_dget (hu_of hr) pe_w pe_w hs) ?_
  refine ho σ F H eo fh ce _ fun F1 H1 v st1 pv => ?_
  refine ha σ F1 H1 (eo.mono st1.ff) st1.fh st1.ce _ fun F2 H2 y st2 py => ?_
  obtain ⟨f0, ob, hob, z, rfl, tz⟩ := st2.ce.mem _ (List.mem_of_getElem? hj)
  cases (show y = V.str "room" from py)
  have g := DGet.k (k := Sum.inr "room") hob
  rw [valV_pos rfl] at g
  exact ⟨l, z, pv, g, k F2 H2 z (st1.trans st2) tz⟩
theorem g_kput (j : Nat) (hr : Room 0 X.A) (he : Ev X Γ M e (T.is x)) (ho : Ev X Γ M o (mpRef l)) (ha : Ev X Γ M a (mpV (.str "room"))) (hj : M[j]? = some (l, cDK0)) (kk : G E X rest Γ (M.set j (l, cDK1 T x)) D) (hs : swapsWith e (some (.Subscript o a pos')) pos.line X.env = pure false := by rfl) : G E X (.Assign [.Subscript o a pos'] e pos :: rest) Γ M D := fun σ H F s => by
  refine wSs_of (pss_cons (ps_dput (hu_of hr) pe_w pe_w pe_w hs) pss_w) ?_
  refine he σ F H s.env s.fh s.ce _ fun F1 H1 v t1 pv => ?_
  have s1 := s.step t1
  refine ho σ F1 H1 s1.env s1.fh s1.ce _ fun F2 H2 u t2 pu => ?_
  have s2 := s1.step t2
  refine ha σ F2 H2 s2.env s2.fh s2.ce _ fun F3 H3 y t3 py => ?_
  have s3 := s2.step t3
  obtain ⟨f0, ob, hob, e1⟩ := s3.ce.mem _ (List.mem_of_getElem? hj)
  cases (show y = V.str "room" from py)
  refine ⟨l, _, pu, DPut.k (k := Sum.inr "room") (kvs := []) (v := v) (by rw [← (show ob = HO.dK [] from e1)]; exact hob) (by show 0 < sizeLine; decide), ?_⟩
  exact kk σ _ F3 (s3.put (c' := cDK1 T x) hj ⟨v, rfl, T.mono (t2.ff.trans t3.ff) pv⟩)
end
end L2.K3
set_option Elab.async false
set_option linter.all false
set_option maxRecDepth 100000
set_option maxHeartbeats 4000001
/-! FnL: the middles of a tally. -/
namespace L2.K3
open PySem PySem.Spec PyProof.Rows RM
section
variable {α β : Type} [DecidableEq α]
theorem dget_none {kvs : List (α × β)} {k : α} : dget kvs k = none ↔ k ∉ kvs.map (·.1) := by
  induction kvs with
  | nil => simp [dget]
  | cons p l ih =>
    rw [dget_cons, List.map_cons, List.mem_cons, not_or]
    by_cases e : p.1 = k
    · rw [if_pos e]
      exact ⟨(fun h => by cases h), fun h => absurd e.symm h.1⟩
    · rw [if_neg e, ih]
      exact ⟨fun h => ⟨fun q => e q.symm, h⟩, fun h => h.2⟩
theorem dget_at {kvs : List (α × β)} {k : α} {y : β} (h : dget kvs k = some y) : ∃ i : Nat, kvs[i]? = some (k, y) := by
  induction kvs with
  | nil => simp [dget] at h
  | cons p l ih =>
    rw [dget_cons] at h
    by_cases e : p.1 = k
    · rw [if_pos e] at h
      cases h
      exact ⟨0, by rw [← e] <;> rfl⟩
    · rw [if_neg e] at h
      obtain ⟨i, hi⟩ := ih h
      exact ⟨i + 1, hi⟩
theorem dget_of {kvs : List (α × β)} (nd : (kvs.map (·.1)).Nodup) {i : Nat} {k : α} {y : β} (h : kvs[i]? = some (k, y)) : dget kvs k = some y := by
  induction kvs generalizing i with
  | nil => simp at h
  | cons p l ih =>
    rw [List.map_cons, List.nodup_cons] at nd
    rw [dget_cons]
    cases i with
    | zero => cases h; rw [if_pos rfl]
    | succ i =>
      have hm : k ∈ l.map (·.1) := List.mem_map.mpr ⟨_, List.mem_of_getElem? h, rfl⟩
      rw [if_neg fun e => nd.1 (by rw [e]; exact hm)]
      exact ih nd.2 h
theorem dput_new {kvs : List (α × β)} {k : α} {y : β} (h : dget kvs k = none) : dput kvs k y = kvs ++ [(k, y)] := by
  unfold dput
  rw [h] <;> rfl
/-- at a place that is known -/
theorem dput_at {kvs : List (α × β)} (nd : (kvs.map (·.1)).Nodup) {i : Nat} {k : α} {y z : β} (h : kvs[i]? = some (k, y)) : dput kvs k z = kvs.set i (k, z) := by
  unfold dput
  rw [dget_of nd h]
  have e : (some y).isSome = true := rfl
  rw [if_pos e]
  apply List.ext_getElem?
  intro j
  rw [List.getElem?_map]
  by_cases hij : i = j
  · subst hij
    rw [h, List.getElem?_set_self (List.getElem?_eq_some_iff.mp h).1]
    show some (if k = k then (k, z) else (k, y)) = _
    rw [if_pos rfl]
  · rw [List.getElem?_set_ne hij]
    cases hj : kvs[j]? with
    | none => rfl
    | some p =>
      show some (if p.1 = k then (p.1, z) else p) = some p
      rw [if_neg fun e => hij ?_]
      have q1 : (kvs.map (·.1))[i]? = some k := by rw [List.getElem?_map, h] <;> rfl
      have q2 : (kvs.map (·.1))[j]? = some k := by rw [List.getElem?_map, hj, ← e] <;> rfl
      exact (List.getElem_inj nd).mp ((List.getElem?_eq_some_iff.mp q1).2.trans (List.getElem?_eq_some_iff.mp q2).2.symm)
theorem dput_keys {kvs : List (α × β)} (k : α) (y : β) (nd : (kvs.map (·.1)).Nodup) : ((dput kvs k y).map (·.1)).Nodup := by
  unfold dput
  cases h : dget kvs k with
  | none =>
    have e : (none : Option β).isSome = false := rfl
    rw [if_neg (by rw [e]; exact Bool.false_ne_true), List.map_append]
    refine List.nodup_append.mpr ⟨nd, by simp, fun a ha b hb => ?_⟩
    have : b = k := by simpa using hb
    subst this
    intro q
    subst q
    exact dget_none.mp h ha
  | some z =>
    have e : (some z).isSome = true := rfl
    rw [if_pos e, List.map_map]
    have e2 : (kvs.map ((fun p : α × β => p.1) ∘ fun p => if p.1 = k then (p.1, y) else p)) = kvs.map (·.1) := List.map_congr_left fun p _ => by
      show (if p.1 = k then (p.1, y) else p).1 = p.1
      split <;> rfl
    rw [e2]
    exact nd
end
abbrev Mids : Type := List ((Word × Word) × List (Word × Rat))
def midPut (A : Mids) (a : Word × Word) (u : Word) (f : Rat) : Mids := dput A a (dput ((dget A a).getD []) u f)
def midHigh (A : Mids) (x : Word) (f : Rat) (low n : Nat) : Mids := (List.range n).foldl (fun A h => midPut A (x.take low, x.drop (low + h)) ((x.drop low).take h) f) A
def midLow (A : Mids) (x : Word) (f : Rat) (n : Nat) : Mids := (List.range n).foldl (fun A low => midHigh A x f low (x.length + 1 - low)) A
def midM (parts : List (Word × Rat)) : Mids := parts.foldl (fun A p => midLow A p.1 p.2 (p.1.length + 1)) []
theorem midHigh_succ (A : Mids) (x : Word) (f : Rat) (low n : Nat) : midHigh A x f low (n + 1) = midPut (midHigh A x f low n) (x.take low, x.drop (low + n)) ((x.drop low).take n) f := by
  unfold midHigh
  rw [List.range_succ, List.foldl_append] <;> rfl
theorem midLow_succ (A : Mids) (x : Word) (f : Rat) (n : Nat) : midLow A x f (n + 1) = midHigh (midLow A x f n) x f n (x.length + 1 - n) := by
  unfold midLow
  rw [List.range_succ, List.foldl_append] <;> rfl
theorem midM_succ {parts : List (Word × Rat)} {i : Nat} (h : i < parts.length) : midM (parts.take (i + 1)) = midLow (midM (parts.take i)) parts[i].1 parts[i].2 (parts[i].1.length + 1) := by
  unfold midM
  rw [take_succ' h, List.foldl_append] <;> rfl
structure Sm (n : Nat) (A : Mids) : Prop where
  l : A.length ≤ n
  v : ∀ x ∈ A, x.2.length ≤ n
  nd : (A.map (·.1)).Nodup
theorem Sm.get {n : Nat} {A : Mids} (h : Sm n A) (a : Word × Word) : ((dget A a).getD []).length ≤ n := by
  cases e : dget A a with
  | none => exact Nat.zero_le _
  | some y =>
    obtain ⟨i, hi⟩ := dget_at e
    exact h.v _ (List.mem_of_getElem? hi)
theorem Sm.put {n : Nat} {A : Mids} (h : Sm n A) (a : Word × Word) (u : Word) (f : Rat) : Sm (n + 1) (midPut A a u f) := by
  have h1 := h.l
  have h2 := dput_len A a (dput ((dget A a).getD []) u f)
  have h3 := dput_len ((dget A a).getD []) u f
  have h4 := h.get a
  refine ⟨by unfold midPut; omega, fun x hx => ?_, dput_keys _ _ h.nd⟩
  unfold midPut dput at hx
  split at hx
  · obtain ⟨p, hp, e⟩ := List.mem_map.mp hx
    split at e
    · subst e
      show (dput ((dget A a).getD []) u f).length ≤ n + 1
      omega
    · subst e
      exact Nat.le_succ_of_le (h.v _ hp)
  · rcases List.mem_append.mp hx with q | q
    · exact Nat.le_succ_of_le (h.v _ q)
    · rw [List.mem_singleton.mp q]
      show (dput ((dget A a).getD []) u f).length ≤ n + 1
      omega
theorem Sm.mono {n m : Nat} {A : Mids} (h : Sm n A) (e : n ≤ m) : Sm m A := ⟨Nat.le_trans h.l e, fun x hx => Nat.le_trans (h.v x hx) e, h.nd⟩
theorem Sm.high {n : Nat} {A : Mids} (h : Sm n A) (x : Word) (f : Rat) (low : Nat) : ∀ k, Sm (n + k) (midHigh A x f low k)
  | 0 => h
  | k + 1 => by rw [midHigh_succ]; exact (Sm.high h x f low k).put _ _ _
theorem Sm.low {n : Nat} {A : Mids} (h : Sm n A) {x : Word} (hx : x.length ≤ 8) (f : Rat) : ∀ k, Sm (n + 9 * k) (midLow A x f k)
  | 0 => h
  | k + 1 => by rw [midLow_succ]; exact ((Sm.low h hx f k).high x f k _).mono (by omega)
theorem Sm.all {parts : List (Word × Rat)} (hw : ∀ p ∈ parts, p.1.length ≤ 8) : ∀ i, i ≤ parts.length → Sm (81 * i) (midM (parts.take i))
  | 0, _ => ⟨Nat.le_refl _, (fun x h => by cases h), List.nodup_nil⟩
  | i + 1, hi => by
    have hx := hw _ (List.getElem_mem hi)
    rw [midM_succ hi]
    exact ((Sm.all hw i (Nat.le_of_succ_le hi)).low hx parts[i].2 _).mono (by omega)
/-- the mutable picture of the middles -/
abbrev LL : Type := List ((Word × Word) × Addr × List (Word × Rat))
abbrev outL (L : LL) : List ((Word × Word) × Addr) := L.map fun x => (x.1, x.2.1)
abbrev prjL (L : LL) : Mids := L.map fun x => (x.1, x.2.2)
abbrev memL (w : World) (CR : Addr) (l : Addr) (L : LL) : Mem := (l, cDic w aroundK tAddr (outL L) l) :: L.map fun x => (x.2.1, cDic w wordK (tRat CR) x.2.2 x.2.1)
theorem keys_L (L : LL) : (outL L).map (·.1) = L.map (·.1) ∧ (prjL L).map (·.1) = L.map (·.1) := by
  rw [List.map_map, List.map_map]
  exact ⟨rfl, rfl⟩
section
variable {X : Cx} {E : En} {Γ : Gam} {D : Ends} {rest : List Stmt} {CR l : Addr} {a : Word × Word} {u : Word} {f : Rat}
/-- found[around] = found.get(around, {}); found[around][..] = factor -/
theorem g_mid (L : LL) {n : Nat} (fo1 fo2 fo3 ar1 ar2 ar3 sl fa : Expr) {p1 p2 p3 p4 p5 p6 p7 p8 : Pos} (hr : Room 0 X.A) (hS : Sm n (prjL L)) (hn : n < 1000000)
    (h1 : ∀ M, Ev X Γ M fo1 (mpRef l)) (h2 : ∀ M, Ev X Γ M fo2 (mpRef l)) (h3 : ∀ M, Ev X Γ M fo3 (mpRef l)) (k1 : ∀ M, Ev X Γ M ar1 (aroundK.T.is a)) (k2 : ∀ M, Ev X Γ M ar2 (aroundK.T.is a)) (k3 : ∀ M, Ev X Γ M ar3 (aroundK.T.is a))
    (ks : ∀ M, Ev X Γ M sl (wordK.T.is u)) (kf : ∀ M, Ev X Γ M fa ((tRat CR).is f)) (h0 : ∀ x ∈ L, E.H0 x.2.1 = none)
    (kk : ∀ L2 : LL, prjL L2 = midPut (prjL L) a u f → (∀ x ∈ L2, E.H0 x.2.1 = none) → G E X rest Γ (memL X.w CR l L2) D)
    (s1 : swapsWith (.Call (.Attribute fo2 "get" p3) [ar2, .Dict [] [] p4] [] p5) (some (.Subscript fo1 ar1 p1)) p2.line X.env = pure false) (b1 : attributeBase fo2 "get" X.env (eval fo2 X.env) = eval fo2 X.env)
    (b2 : ((backTo p5 (starEach [ar2, .Dict [] [] p4] X.env)).all (fun x => !x.1) && (backToKw p5 (keywordEach [] X.env)).all (fun x => x.1.isSome) && decide (([ar2, .Dict [] [] p4] : List Expr).length + ([] : List Keyword).length + (if ([] : List Keyword).isEmpty then 0 else 1) < 30)) = true)
    (b3 : (p3.endLine == p5.line) = true) (b4 : backTo p5 (starEach [ar2, .Dict [] [] p4] X.env) = [(false, eval ar2 X.env), (false, eval (.Dict [] [] p4) X.env)]) (s2 : swapsWith fa (some (.Subscript (.Subscript fo3 ar3 p6) sl p7)) p8.line X.env = pure false) (ns : NoSl ar3) :
    G E X (.Assign [.Subscript fo1 ar1 p1] (.Call (.Attribute fo2 "get" p3) [ar2, .Dict [] [] p4] [] p5) p2 :: .Assign [.Subscript (.Subscript fo3 ar3 p6) sl p7] fa p8 :: rest) Γ (memL X.w CR l L) D := by
  have hlen : (outL L).length ≤ n := by have := hS.l; rw [List.length_map] at this ⊢; exact this
  -- the second row, at a place that is known
  have second : ∀ (L2 : LL) (i : Nat) (li : Addr) (v : List (Word × Rat)), ((L2.map (·.1)).Nodup) → L2[i]? = some (a, li, v) → v.length < 1000000 → (∀ x ∈ L2, E.H0 x.2.1 = none) → dput (prjL L2) a (dput v u f) = midPut (prjL L) a u f → G E X (.Assign [.Subscript (.Subscript fo3 ar3 p6) sl p7] fa p8 :: rest) Γ (memL X.w CR l L2) D := by
    intro L2 i li v nd hi hv h02 hp
    have ho : (outL L2)[i]? = some (a, li) := by rw [List.getElem?_map, hi] <;> rfl
    have hpj : (prjL L2)[i]? = some (a, v) := by rw [List.getElem?_map, hi] <;> rfl
    have hg : dget (outL L2) a = some li := dget_of (by rw [(keys_L L2).1]; exact nd) ho
    have hMi : (memL X.w CR l L2)[i + 1]? = some (li, cDic X.w wordK (tRat CR) v li) := by
      show (L2.map fun x => (x.2.1, cDic X.w wordK (tRat CR) x.2.2 x.2.1))[i]? = _
      rw [List.getElem?_map, hi] <;> rfl
    refine g_dput (K := wordK) (U := tRat CR) (k := u) (y := f) (kvs := v) (i + 1) hr (kf _) (ev_dget (K := aroundK) (U := tAddr) hr (h3 _) (k3 _) (isDic_cell 0 rfl) hg ns) (ks _) hMi ?_ hv s2
    have e : (memL X.w CR l L2).set (i + 1) (li, cDic X.w wordK (tRat CR) (dput v u f) li) = memL X.w CR l (L2.set i (a, li, dput v u f)) := by
      show (l, _) :: (L2.map _).set i _ = (l, _) :: _
      have e1 : outL (L2.set i (a, li, dput v u f)) = outL L2 := by
        show List.map _ (L2.set i _) = _
        rw [List.map_set]
        exact set_same' ho
      rw [e1, List.map_set]
    rw [e]
    refine kk _ ?_ fun x hx => ?_
    · rw [← hp, dput_at (by rw [(keys_L L2).2]; exact nd) hpj]
      show List.map _ (L2.set i _) = _
      rw [List.map_set]
    · rcases List.mem_or_eq_of_mem_set hx with q | q
      · exact h02 x q
      · subst q
        exact (h02 (a, li, v) (List.mem_of_getElem? hi) : E.H0 li = none)
  cases hd : dget (outL L) a with
  | some li =>
    obtain ⟨i, hi⟩ := dget_at hd
    rw [List.getElem?_map] at hi
    obtain ⟨⟨a', li', v⟩, hLi, e⟩ := Option.map_eq_some_iff.mp hi
    have q1 : a = a' := (congrArg Prod.fst e).symm
    have q2 : li = li' := (congrArg Prod.snd e).symm
    subst q1 q2
    have ndk : (L.map (·.1)).Nodup := by rw [← (keys_L L).2]; exact hS.nd
    have ho : (outL L)[i]? = some (a, li) := by rw [List.getElem?_map, hLi] <;> rfl
    have hpj : (prjL L)[i]? = some (a, v) := by rw [List.getElem?_map, hLi] <;> rfl
    have hg : dget (prjL L) a = some v := dget_of hS.nd hpj
    refine g_dput (K := aroundK) (U := tAddr) (k := a) (y := li) (kvs := outL L) 0 hr (ev_dgetOr (K := aroundK) (U := tAddr) (P := (tDic X.w wordK (tRat CR)).is []) hr (h2 _) (k2 _) (evc_dic.frz fun F l o f0 h => ⟨l, o, rfl, upd_same, (cDic _ _ _ _ _).mono (Ext.upd f0) h⟩) (isDic_cell 0 rfl) (fun F v _ e => by rw [hd] at e; cases e) (fun F v y e h => by rw [hd] at e; cases e; exact h) b1 b2 b3 b4) (h1 _) (k1 _) rfl ?_ (by omega) s1
    have e : (memL X.w CR l L).set 0 (l, cDic X.w aroundK tAddr (dput (outL L) a li) l) = memL X.w CR l L := by
      rw [dput_at (by rw [(keys_L L).1]; exact ndk) ho, set_same' ho] <;> rfl
    rw [e]
    have hv : v.length ≤ n := hS.v (a, v) (List.mem_of_getElem? hpj)
    refine second L i li v ndk hLi (by omega) h0 ?_
    unfold midPut
    rw [hg] <;> rfl
  | none =>
    have hna : a ∉ L.map (·.1) := by rw [← (keys_L L).1]; exact dget_none.mp hd
    have hg : dget (prjL L) a = none := dget_none.mpr (by rw [(keys_L L).2]; exact hna)
    refine g_dputC (K := aroundK) (k := a) (kvs := outL L) (cc := cDic X.w wordK (tRat CR) []) 0 hr (evc_dgetNew (K := aroundK) (U := tAddr) hr (h2 _) (k2 _) evc_dic (fun q => isDic_cell 1 rfl) (isDic_cell 0 rfl) hd b1 b2 b3 b4) (fun q => h1 _) (fun q => k1 _) rfl (fun q hq => ?_) (by omega) s1
    have ndk : (L.map (·.1)).Nodup := by rw [← (keys_L L).2]; exact hS.nd
    have e : (q, cDic X.w wordK (tRat CR) [] q) :: (memL X.w CR l L).set 0 (l, cDic X.w aroundK tAddr (dput (outL L) a q) l) = (q, cDic X.w wordK (tRat CR) [] q) :: (l, cDic X.w aroundK tAddr (outL (L ++ [(a, q, [])])) l) :: L.map fun x => (x.2.1, cDic X.w wordK (tRat CR) x.2.2 x.2.1) := by
      have e2 : outL (L ++ [(a, q, [])]) = outL L ++ [(a, q)] := by
        show List.map _ _ = _
        rw [List.map_append] <;> rfl
      rw [dput_new hd, e2] <;> rfl
    rw [e]
    refine g_perm (M' := memL X.w CR l (L ++ [(a, q, [])])) ?_ ?_
    · show List.Perm (_ :: _ :: _) (_ :: List.map _ (L ++ _))
      rw [List.map_append]
      refine (List.Perm.swap _ _ _).trans (List.Perm.cons _ ?_)
      exact (List.perm_append_singleton _ _).symm
    · refine second (L ++ [(a, q, [])]) L.length q [] ?_ (by simp) (by decide) (fun x hx => ?_) ?_
      · rw [List.map_append]
        refine List.nodup_append.mpr ⟨ndk, by simp, fun b hb c hc => ?_⟩
        have : c = a := by simpa using hc
        subst this
        intro z
        subst z
        exact hna hb
      · rcases List.mem_append.mp hx with z | z
        · exact h0 x z
        · rw [List.mem_singleton.mp z]; exact hq
      · have e3 : prjL (L ++ [(a, q, [])]) = prjL L ++ [(a, [])] := by
          show List.map _ _ = _
          rw [List.map_append] <;> rfl
        have nd3 : ((prjL L ++ [(a, ([] : List (Word × Rat)))]).map (·.1)).Nodup := by
          rw [List.map_append, (keys_L L).2]
          refine List.nodup_append.mpr ⟨ndk, by simp, fun b hb c hc => ?_⟩
          have : c = a := by simpa using hc
          subst this
          intro z
          subst z
          exact hna hb
        rw [e3, dput_at nd3 (i := (prjL L).length) (y := []) (by simp)]
        unfold midPut
        rw [hg, dput_new hg]
        simp
where
  set_same' {γ : Type} {l : List γ} {i : Nat} {x : γ} (h : l[i]? = some x) : l.set i x = l := by
    apply List.ext_getElem?
    intro n
    by_cases hn : i = n
    · subst hn
      rw [List.getElem?_set_self (List.getElem?_eq_some_iff.mp h).1, h]
    · rw [List.getElem?_set_ne hn]
end
end L2.K3
set_option Elab.async false
set_option linter.all false
set_option maxRecDepth 100000
set_option maxHeartbeats 4000001
/-! FnM: middle_parts. -/
namespace L2.K3
open PySem PySem.Spec PyProof.Rows RM
structure preMp (parts : List (Word × Rat)) : Prop where
  n : parts.length ≤ 400
  w : ∀ p ∈ parts, p.1.length ≤ 8
def midsV (A : Mids) : List (List (Word × Rat)) := (srt arLt (A.map (·.1))).map fun a => (dget A a).getD []
abbrev tKv (w : World) (CR : Addr) : Ty (List (Word × Rat)) := tDic w wordK (tRat CR)
section
variable {P : Program} {w : World} {K : PySem.W.Frag} {mg : Str → Option Value} {base : Heap} {CR CT CY : Addr}
abbrev sp_middle_parts (w : World) (CR CY : Addr) : Sp := spT (fun x : Tal => preMp x.2.1) (fun _ => []) (fun x => [mpTal CR CY x]) fun x => (tLst (tKv w CR)).is (midsV (midM x.2.1))
abbrev nMp : List Str := ["tally", "found", "word", "factor", "low", "high", "around"]
theorem sc_middle_parts : FnScope nMp ["tally"] (defScope (top 72)) := ⟨rfl, rfl, rfl, by decide +kernel, rfl, by decide +kernel, by decide +kernel⟩
theorem upF_get {lo : Int} {n i : Nat} (h : i < (upF lo n).length) : (upF lo n)[i] = lo + (i : Int) := by simp [upF]
theorem ok_middle_parts {f : Addr} {fd : FuncData} (Fd : FnP K "middle_parts" (top 72) f fd) (hm : mg "middle_parts" = some (.ref f)) (T : Tx K mg CR CT CY) : Cal P w K mg base "middle_parts" 1 ["tally"] [] (sp_middle_parts w CR CY) := by
  refine cal_mk Fd hm (fn_mk Fd sc_middle_parts (fun _ => rfl) fun cdv A outer s H E x F hr hp ce => ?_) fun _ _ _ _ _ _ us hl => match us, hl with | [_], _ => rfl
  have nd := sc_middle_parts.nd
  obtain ⟨c, parts, kk⟩ := x
  have hpn : parts.length ≤ 400 := hp.n
  have hpw : ∀ p ∈ parts, p.1.length ≤ 8 := hp.w
  refine g_setC 1 (evc_dic (K := aroundK) (U := tAddr)) (fun l hl => ?_) nd
  refine g_for (evi_list (ev_yparts T (x := (c, parts, kk)) (ev_name 0 rfl))) (fun i Γ' M' => Γ' = [some (mpTal CR CY (c, parts, kk)), some (mpRef l), none, none, none, none, none] ∧ ∃ L : LL, M' = memL w CR l L ∧ prjL L = midM (parts.take i) ∧ ∀ x ∈ L, H x.2.1 = none) ⟨rfl, [], rfl, rfl, fun x h => nomatch h⟩ ?_ ?_
  · rintro B i h _ _ ⟨rfl, L, rfl, hL, h0⟩
    have hi : i < parts.length := h
    have hxl := hpw _ (List.getElem_mem hi)
    refine ⟨_, _, bd_two (bd_name 2 nd) (bd_name 3 nd), ?_⟩
    generalize hpi : parts[i] = pt at hxl
    obtain ⟨x, q⟩ := pt
    have hxl' : x.length ≤ 8 := hxl
    refine g_for (evi_range1 (n := (x.length : Int) + 1) (ev_add (ev_lenT (xs := x) (ev_name 2 rfl) T.f) ev_int) T.f (by omega)) (fun j Γ' M' => Γ' = [some (mpTal CR CY (c, parts, kk)), some (mpRef l), some (tWord.is x), some ((tRat CR).is q), none, none, none] ∧ ∃ L : LL, M' = memL w CR l L ∧ prjL L = midLow (midM (parts.take i)) x q j ∧ ∀ x ∈ L, H x.2.1 = none) ⟨rfl, L, rfl, hL, h0⟩ ?_ ?_
    · rintro B2 j hj _ _ ⟨rfl, L2, rfl, hL2, h02⟩
      have hj' : j < x.length + 1 := by rw [upF_len] at hj; omega
      refine ⟨_, _, bd_name 4 nd, ?_⟩
      rw [upF_at]
      refine g_for (evi_range2 (m := (j : Int)) (n := (x.length : Int) + 1) (ev_name 4 rfl) (ev_add (ev_lenT (xs := x) (ev_name 2 rfl) T.f) ev_int) T.f (by omega) (by omega)) (fun k Γ' M' => Γ' = [some (mpTal CR CY (c, parts, kk)), some (mpRef l), some (tWord.is x), some ((tRat CR).is q), some (tInt.is (j : Int)), none, none] ∧ ∃ L : LL, M' = memL w CR l L ∧ prjL L = midHigh (midLow (midM (parts.take i)) x q j) x q j k ∧ ∀ x ∈ L, H x.2.1 = none) ⟨rfl, L2, rfl, hL2, h02⟩ ?_ ?_
      · rintro B3 k hk _ _ ⟨rfl, L3, rfl, hL3, h03⟩
        have hk' : k < x.length + 1 - j := by rw [upF_len] at hk; omega
        refine ⟨_, _, bd_name 5 nd, ?_⟩
        rw [upF_get]
        have ej : ((j : Int) + (k : Int)) = ((j + k : Nat) : Int) := by omega
        rw [ej]
        refine g_set 6 (ev_pr (T := tWord) (U := tWord) (ev_slT (ev_name 2 rfl) eo_none (eo_some (ev_name 4 rfl)) (cut_to (show j ≤ x.length by omega))) (ev_slT (ev_name 2 rfl) (eo_some (ev_name 5 rfl)) eo_none (cut_from (show j + k ≤ x.length by omega)))) ?_ nd
        have hS : Sm (81 * i + 9 * j + k) (prjL L3) := by
          rw [hL3]
          exact ((Sm.all hpw i (Nat.le_of_lt hi)).low hxl' q j).high x q j k
        refine g_mid (a := (x.take j, x.drop (j + k))) (u := (x.drop j).take k) (f := q) L3 _ _ _ _ _ _ _ _ (hr.mono (Nat.zero_le _)) hS (by omega) (fun M => ev_name 1 rfl) (fun M => ev_name 1 rfl) (fun M => ev_name 1 rfl) (fun M => ev_name 6 rfl) (fun M => ev_name 6 rfl) (fun M => ev_name 6 rfl) (fun M => ev_slT (ev_name 2 rfl) (eo_some (ev_name 4 rfl)) (eo_some (ev_name 5 rfl)) ?_) (fun M => ev_name 3 rfl) h03 (fun L4 hL4 h04 => ?_) rfl rfl rfl rfl rfl rfl (fun _ _ => rfl)
        · rw [cut_mid (show j ≤ x.length by omega) (show j + k ≤ x.length by omega), Nat.add_sub_cancel_left]
        · refine g_turn ⟨rfl, L4, rfl, ?_, h04⟩ (.keep (.keep (.keep (.keep (.keep (.drop (.drop .nil)))))))
          rw [hL4, hL3, midHigh_succ]
      · rintro _ _ ⟨rfl, L3, rfl, hL3, h03⟩
        refine g_turn ⟨rfl, L3, rfl, ?_, h03⟩ (.keep (.keep (.keep (.keep (.drop (.drop (.drop .nil)))))))
        rw [hL3, upF_len, midLow_succ]
        have e : ((x.length : Int) + 1 - (j : Int)).toNat = x.length + 1 - j := by omega
        rw [e]
    · rintro _ _ ⟨rfl, L2, rfl, hL2, h02⟩
      refine g_turn ⟨rfl, L2, rfl, ?_, h02⟩ (.keep (.keep (.drop (.drop (.drop (.drop (.drop .nil)))))))
      rw [hL2, upF_len, midM_succ hi, hpi]
      have e : ((x.length : Int) + 1).toNat = x.length + 1 := by omega
      rw [e]
  · rintro _ _ ⟨rfl, L, rfl, hL, h0⟩
    rw [List.take_length] at hL
    refine g_frzAll (K := aroundK) (K2 := wordK) (U := tRat CR) L rfl h0 rfl ?_
    refine g_frzD (K := aroundK) (U := tKv w CR) (kvs := prjL L) 1 0 rfl rfl hl (fun h => nomatch h) ?_
    rw [hL]
    refine g_ret (ev_lc [("around", 6)] (evi_list (ev_sortA (xs := (midM parts).map (·.1)) (hr.mono (Nat.zero_le _)) (ev_listD (K := aroundK) (U := tKv w CR) (ev_name 1 rfl) T.f) T.g)) (U := tKv w CR) (f := fun a => (dget (midM parts) a).getD []) (fun i h => ?_) nd (defScope (top 72)) (N := nMp))
    have hk : (srt arLt ((midM parts).map (·.1)))[i] ∈ (midM parts).map (·.1) := (srt_perm _).mem_iff.mp (List.getElem_mem h)
    obtain ⟨y, hy⟩ := dget_mem hk
    have e : (dget (midM parts) (srt arLt ((midM parts).map (·.1)))[i]).getD [] = y := by rw [hy] <;> rfl
    rw [e]
    exact ⟨_, _, by decide, fun s H C cl fp => bd_name 6 nd, tYes_ok, fun _ s H C cl fp => ev_dget (K := aroundK) (U := tKv w CR) (hr.mono (Nat.zero_le _)) (ev_name 1 rfl) (ev_name 6 rfl) isDic_frz hy⟩
end
end L2.K3
set_option Elab.async false
set_option linter.all false
set_option maxRecDepth 100000
set_option maxHeartbeats 4000001
/-! FnN: the room of a tally. -/
namespace L2.K3
open PySem PySem.Spec PyProof.Rows RM Sol
/-- a property of Ratio as its users see it -/
structure CalPr (P : Program) (w : World) (K : PySem.W.Frag) (mg : Str → Option Value) (base : Heap) (C : Addr) (f : Str) (k : Nat) (sp : Sp) : Prop where
  ex : ∃ (p g : Addr) (fd : FuncData), PropOf K C f p g ∧ FnOk P w K mg base CX0 k g fd ["self"] sp ∧ Binds K fd ["self"] []
section
variable {X : Cx} {Γ : Gam} {M : Mem} {e : Expr} {pos : Pos} {q : Rat} {mg : Str → Option Value} {CR CT CY : Addr}
theorem rat_isI {F : Hp} {v : V} (h : ((tRat CR).is q).p F v) : ∃ a dx fs, v = .ref a ∧ F a = some (.ins CR dx fs) := let ⟨a, dx, e1, e2⟩ := h; ⟨a, dx, _, e1, e2⟩
theorem ev_sign (T : Tx X.K mg CR CT CY) (c : CalPr X.prog X.w X.K X.mg X.base CR "sign" 1 (sp_sign CR)) (hr : Room 2 X.A) (ha : Ev X Γ M e ((tRat CR).is q)) (hb : attributeBase e "sign" X.env (eval e X.env) = eval e X.env := by rfl) : Ev X Γ M (.Attribute e "sign" pos) (tInt.is (sgn q)) := by
  obtain ⟨p, g, fd, pr, G, b⟩ := c.ex
  exact ev_prop (R := tInt.is (sgn q)) pr G b hr T.R.cl q ha trivial (fun F v h => rat_isI h) rfl rfl hb
theorem ev_pwhole (T : Tx X.K mg CR CT CY) (c : CalPr X.prog X.w X.K X.mg X.base CR "is_whole" 1 (sp_whole CR)) (hr : Room 2 X.A) (ha : Ev X Γ M e ((tRat CR).is q)) (hb : attributeBase e "is_whole" X.env (eval e X.env) = eval e X.env := by rfl) : Ev X Γ M (.Attribute e "is_whole" pos) (tBool.is (decide ((q.den : Int) = 1))) := by
  obtain ⟨p, g, fd, pr, G, b⟩ := c.ex
  exact ev_prop (R := tBool.is (decide ((q.den : Int) = 1))) pr G b hr T.R.cl q ha trivial (fun F v h => rat_isI h) rfl rfl hb
theorem ev_ptop (T : Tx X.K mg CR CT CY) (c : CalPr X.prog X.w X.K X.mg X.base CR "top" 1 (sp_top CR)) (hr : Room 2 X.A) (ha : Ev X Γ M e ((tRat CR).is q)) (hb : attributeBase e "top" X.env (eval e X.env) = eval e X.env := by rfl) : Ev X Γ M (.Attribute e "top" pos) (tInt.is q.num) := by
  obtain ⟨p, g, fd, pr, G, b⟩ := c.ex
  exact ev_prop (R := tInt.is q.num) pr G b hr T.R.cl q ha trivial (fun F v h => rat_isI h) rfl rfl hb
end
theorem sgn_ne (q : Rat) : (!decide (sgn q = 0)) = decide (q ≠ 0) := by
  have h0 : q = 0 ↔ q.num = 0 := Rat.num_eq_zero.symm
  unfold sgn
  rcases Int.lt_trichotomy q.num 0 with h | h | h
  · have e1 : q ≠ 0 := fun e => by rw [h0] at e; omega
    rw [decide_eq_false (show ¬ 0 < q.num by omega), decide_eq_true h, decide_eq_true e1] <;> rfl
  · have e1 : ¬ q ≠ 0 := fun e => e (h0.mpr h)
    rw [h, decide_eq_false e1] <;> rfl
  · have e1 : q ≠ 0 := fun e => by rw [h0] at e; omega
    rw [decide_eq_false (show ¬ q.num < 0 by omega), decide_eq_true h, decide_eq_true e1] <;> rfl
def lcSc : Expr → Scope
  | .ListComp _ _ s _ => s
  | _ => defScope (top 0)
/-- a block's scope as it stands within out -/
def relS (sc out : Scope) : Scope := { sc with names := sc.names.map fun (n, k) => if (k == NameKind.free && out.kind == .function && out.names.lookup n == some .cell) = true then (n, NameKind.cell) else (n, k) }
def lcEl : Expr → Expr
  | .ListComp e _ _ _ => e
  | e => e
def arg0 : Expr → Expr
  | .Call _ (e :: _) _ _ => e
  | e => e
def forIt : Stmt → Expr
  | .For _ e _ _ _ => e
  | _ => .Constant .none 0 ⟨0, 0, 0, 0⟩
def rhs : Stmt → Expr
  | .Assign _ e _ => e
  | .Return (some e) _ => e
  | .Expr e _ => e
  | _ => .Constant .none 0 ⟨0, 0, 0, 0⟩
def bodyAt (i j : Nat) : Stmt := (defBody (top i)).getD j (.Pass ⟨0, 0, 0, 0⟩)
/-- the words of all middles, in order -/
def wordsM (ms : List (List (Word × Rat))) : List (Word × Bool) := ms.foldl (fun acc m => m.foldl (fun acc p => dput acc p.1 true) acc) []
def someM (ms : List (List (Word × Rat))) : List Word := srt wordLt ((wordsM ms).map (·.1))
def gridM (ms : List (List (Word × Rat))) : List (List Rat) := ms.map fun m => (someM ms).map fun x => (dget m x).getD 0
def rowD (some_ : List Word) (row : List Rat) : List (Word × Rat) := dmerge ((some_.zip row).filter fun p => decide (p.2 ≠ 0))
/-- the room of the package -/
def roomM (ms : List (List (Word × Rat))) : List (List (Word × Rat)) := ((stepsM ((gridM ms).map whol)).map toldM).map (rowD (someM ms))
structure preFr (parts : List (Word × Rat)) : Prop where
  a : preMp parts
  b : preSteps (gridM (midsV (midM parts)))
  n : (midsV (midM parts)).length ≤ 1000
  m : ∀ m ∈ midsV (midM parts), m.length ≤ 1000
section
variable {P : Program} {w : World} {K : PySem.W.Frag} {mg : Str → Option Value} {base : Heap} {CR CT CY : Addr}
theorem wordsM_take {ms : List (List (Word × Rat))} {i : Nat} (h : i < ms.length) : wordsM (ms.take (i + 1)) = ms[i].foldl (fun acc p => dput acc p.1 true) (wordsM (ms.take i)) := by
  unfold wordsM
  rw [take_succ' h, List.foldl_append] <;> rfl
theorem putT_take {m : List (Word × Rat)} {acc : List (Word × Bool)} {i : Nat} (h : i < m.length) : (m.take (i + 1)).foldl (fun acc p => dput acc p.1 true) acc = dput ((m.take i).foldl (fun acc p => dput acc p.1 true) acc) m[i].1 true := by
  rw [take_succ' h, List.foldl_append] <;> rfl
theorem putT_len (acc : List (Word × Bool)) (m : List (Word × Rat)) : (m.foldl (fun acc p => dput acc p.1 true) acc).length ≤ acc.length + m.length := by
  induction m generalizing acc with
  | nil => exact Nat.le_refl _
  | cons p m ih =>
    have h1 := ih (dput acc p.1 true)
    have h2 := dput_len acc p.1 true
    show (m.foldl _ (dput acc p.1 true)).length ≤ _
    rw [List.length_cons]
    omega
theorem wordsM_len {ms : List (List (Word × Rat))} (h : ∀ m ∈ ms, m.length ≤ 1000) : ∀ i, i ≤ ms.length → (wordsM (ms.take i)).length ≤ 1000 * i
  | 0, _ => Nat.le_refl _
  | i + 1, hi => by
    rw [wordsM_take hi]
    have h1 := wordsM_len h i (Nat.le_of_succ_le hi)
    have h2 := putT_len (wordsM (ms.take i)) ms[i]
    have h3 := h _ (List.getElem_mem hi)
    omega
abbrev sp_found_room (w : World) (CR CY : Addr) : Sp := spT (fun x : Tal => preFr x.2.1) (fun _ => []) (fun x => [mpTal CR CY x]) fun x => (tLst (tKv w CR)).is (roomM (midsV (midM x.2.1)))
abbrev nFr : List Str := ["tally", "middles", "words", "nought", "middle", "word", "some", "found", "row", "factor"]
theorem sc_found_room : FnScope nFr ["tally"] (defScope (top 73)) := ⟨rfl, rfl, rfl, by decide +kernel, rfl, by decide +kernel, by decide +kernel⟩
theorem ok_found_room {f : Addr} {fd : FuncData} (Fd : FnP K "found_room" (top 73) f fd) (hm : mg "found_room" = some (.ref f)) (T : Tx K mg CR CT CY) (c1 : Cal P w K mg base "middle_parts" 1 ["tally"] [] (sp_middle_parts w CR CY)) (c2 : CalR1 P w K mg base CR) (c3 : Cal P w K mg base "steps_of" 5 ["rows"] [] (sp_steps_of CR)) (c4 : CalPr P w K mg base CR "sign" 1 (sp_sign CR)) : Cal P w K mg base "found_room" 6 ["tally"] [] (sp_found_room w CR CY) := by
  refine cal_mk Fd hm (fn_mk Fd sc_found_room (fun _ => rfl) fun cdv A outer s H E x F hr hp ce => ?_) fun _ _ _ _ _ _ us hl => match us, hl with | [_], _ => rfl
  have nd := sc_found_room.nd
  obtain ⟨c, parts, kk⟩ := x
  have hp1 : preMp parts := hp.a
  have hp2 : preSteps (gridM (midsV (midM parts))) := hp.b
  have hn : (midsV (midM parts)).length ≤ 1000 := hp.n
  have hml : ∀ m ∈ midsV (midM parts), m.length ≤ 1000 := hp.m
  show G ⟨F, H, [], (tLst (tKv w CR)).is (roomM (midsV (midM parts))), F⟩ _ _ _ _ _
  generalize hms : midsV (midM parts) = ms at hp2 hn hml
  refine g_tupA (ga_val (ev_callI (R := (tLst (tKv w CR)).is ms) c1 (hr.mono (by decide)) (c, parts, kk) (eva_one (ev_name 0 rfl)) hp1 rfl (by rw [← hms])) (ga_cell (cc := cDic w wordK tBool []) evc_dic fun l hl => ga_val (ev_ratio1 c2 (hr.mono (by decide)) ev_int (q := 0) rfl) (ga_nil ⟨_, _, rfl, bds3 (bd_name 1 nd) (bd_name 2 nd) (bd_name 3 nd), ?_⟩)))
  refine g_for (evi_list (ev_name 1 rfl)) (fun i Γ' M' => Γ' = [some (mpTal CR CY (c, parts, kk)), some ((tLst (tKv w CR)).is ms), some (mpRef l), some ((tRat CR).is 0), none, none, none, none, none, none] ∧ M' = [(l, cDic w wordK tBool (wordsM (ms.take i)) l)]) ⟨rfl, rfl⟩ ?_ ?_
  · rintro B i h _ _ ⟨rfl, rfl⟩
    refine ⟨_, _, bd_name 4 nd, ?_⟩
    have hlen := wordsM_len hml i (Nat.le_of_lt h)
    have hmi := hml _ (List.getElem_mem h)
    refine g_for (evi_dic (K := wordK) (U := tRat CR) (ev_name 4 rfl)) (fun j Γ' M' => Γ' = [some (mpTal CR CY (c, parts, kk)), some ((tLst (tKv w CR)).is ms), some (mpRef l), some ((tRat CR).is 0), some ((tKv w CR).is ms[i]), none, none, none, none, none] ∧ M' = [(l, cDic w wordK tBool ((ms[i].take j).foldl (fun acc p => dput acc p.1 true) (wordsM (ms.take i))) l)]) ⟨rfl, rfl⟩ ?_ ?_
    · rintro B2 j hj _ _ ⟨rfl, rfl⟩
      have hj' : j < ms[i].length := by rw [List.length_map] at hj; exact hj
      refine ⟨_, _, bd_name 5 nd, ?_⟩
      have h2 := putT_len (wordsM (ms.take i)) (ms[i].take j)
      rw [List.length_take] at h2
      refine g_dput (K := wordK) (U := tBool) (k := ms[i][j].1) (y := true) 0 (hr.mono (Nat.zero_le _)) ev_bl (ev_name 2 rfl) (ev_name 5 (by rw [List.getElem_map] <;> rfl)) rfl ?_ (by omega)
      refine g_turn ⟨rfl, ?_⟩ (.keep (.keep (.keep (.keep (.keep (.drop (.drop (.drop (.drop (.drop .nil))))))))))
      rw [putT_take hj']
      rfl
    · rintro _ _ ⟨rfl, rfl⟩
      refine g_turn ⟨rfl, ?_⟩ (.keep (.keep (.keep (.keep (.drop (.drop (.drop (.drop (.drop (.drop .nil))))))))))
      rw [List.length_map, List.take_length, wordsM_take h]
  · rintro _ _ ⟨rfl, rfl⟩
    rw [List.take_length]
    refine g_frzD (K := wordK) (U := tBool) (kvs := wordsM ms) 2 0 rfl rfl hl (fun h => nomatch h) ?_
    refine g_set 6 (ev_sortW (xs := (wordsM ms).map (·.1)) (hr.mono (Nat.zero_le _)) (ev_listD (K := wordK) (U := tBool) (ev_name 2 rfl) T.f) T.g) ?_ nd
    refine g_newl (tKv w CR) (xs := []) 7 eva_nil (fun l2 hl2 => ?_) nd
    have hgrid : ∀ {M : Mem}, Ev (bX P w K mg base nFr "found_room" (defScope (top 73)) f cdv A outer s H E) [some (mpTal CR CY (c, parts, kk)), some ((tLst (tKv w CR)).is ms), some ((tDic w wordK tBool).is (wordsM ms)), some ((tRat CR).is 0), none, none, some ((tLst tWord).is (someM ms)), some (mpRef l2), none, none] M (arg0 (forIt (bodyAt 73 4))) ((tLst (tLst (tRat CR))).is (gridM ms)) := by
      intro M
      refine ev_lc [("middle", 4)] (evi_list (ev_name 1 rfl)) (U := tRrow CR) (f := fun m => (someM ms).map fun x => (dget m x).getD 0) (fun i h => ?_) nd (defScope (top 73)) (N := nFr)
      refine ⟨_, _, by decide, fun s H C cl fp => bd_name 4 nd, tYes_ok, fun _ s H C cl fp => ?_⟩
      refine ev_lc [("word", 5)] (evi_list (ev_name 6 rfl)) (U := tRat CR) (f := fun x => (dget ms[i] x).getD 0) (fun j hj => ?_) nd (relS (lcSc (arg0 (forIt (bodyAt 73 4)))) (defScope (top 73))) (N := nFr)
      refine ⟨_, _, by decide, fun s H C cl fp => bd_name 5 nd, tYes_ok, fun _ s H C cl fp => ?_⟩
      exact ev_dgetOr (K := wordK) (U := tRat CR) (P := (tRat CR).is 0) (hr.mono (Nat.zero_le _)) (ev_name 4 rfl) (ev_name 5 rfl) (ev_name 3 rfl) isDic_frz (fun F v h e => by rw [e]; exact h) (fun F v y e h => by rw [e]; exact h)
    have hgl : (gridM ms).length ≤ 1000 := by unfold gridM; rw [List.length_map]; exact hn
    have hrl : ((stepsM ((gridM ms).map whol)).map toldM).length ≤ 1000 := by rw [List.length_map]; exact hp2.c.1
    refine g_for (evi_list (ev_callI (R := (tLst (tLst (tRat CR))).is ((stepsM ((gridM ms).map whol)).map toldM)) c3 hr (gridM ms) (eva_one hgrid) hp2)) (fun i Γ' M' => Γ' = [some (mpTal CR CY (c, parts, kk)), some ((tLst (tKv w CR)).is ms), some ((tDic w wordK tBool).is (wordsM ms)), some ((tRat CR).is 0), none, none, some ((tLst tWord).is (someM ms)), some (mpRef l2), none, none] ∧ M' = [(l2, cLst (tKv w CR) ((((stepsM ((gridM ms).map whol)).map toldM).take i).map (rowD (someM ms))))]) ⟨rfl, rfl⟩ ?_ ?_
    · rintro B i h _ _ ⟨rfl, rfl⟩
      refine ⟨_, _, bd_name 8 nd, ?_⟩
      generalize hrow : ((stepsM ((gridM ms).map whol)).map toldM)[i] = row
      have hsl : (someM ms).length ≤ 1000000 := by
        have h1 := wordsM_len hml ms.length (Nat.le_refl _)
        rw [List.take_length] at h1
        unfold someM
        rw [(srt_perm (lt := wordLt) ((wordsM ms).map (·.1))).length_eq, List.length_map]
        omega
      refine g_app (T := tKv w CR) (x := rowD (someM ms) row) 0 (ev_name 7 rfl) (ev_dictL (K := wordK) (U := tRat CR) (ps := ((someM ms).zip row).filter fun p => decide (p.2 ≠ 0)) (hr.mono (Nat.zero_le _)) (Ev.tol (ev_lcIf [("word", 5), ("factor", 9)] (evi_zip (ev_name 6 rfl) (ev_name 8 rfl) T.f) (U := tPart CR) (f := fun p => p) (b := fun p => decide (p.2 ≠ 0)) (fun j hj => ?_) nd (defScope (top 73)) (N := nFr)) (List.map_id' _)) ?_ T.g) rfl ?_ (by rw [List.length_map, List.length_take]; omega)
      · refine ⟨_, _, by decide, fun s H C cl fp => bd_two (bd_name 5 nd) (bd_name 9 nd), ttB_ok fun s H C cl fp => EvT.to (et_neI (ev_sign T c4 (hr.mono (by decide)) (ev_name 9 rfl)) ev_int) (sgn_ne _), fun _ s H C cl fp => ?_⟩
        exact ev_pr (ev_name 5 rfl) (ev_name 9 rfl)
      · refine Nat.le_trans (List.length_filter_le _ _) ?_
        rw [List.length_zip]
        omega
      · refine g_turn ⟨rfl, ?_⟩ (.keep (.keep (.keep (.keep (.drop (.drop (.keep (.keep (.drop (.drop .nil))))))))))
        rw [take_succ' h, List.map_append, hrow]
        rfl
    · rintro _ _ ⟨rfl, rfl⟩
      rw [List.take_length]
      exact g_frzL 7 0 rfl rfl hl2 (fun h => nomatch h) (g_ret (ev_name 7 rfl))
end
end L2.K3
set_option Elab.async false
set_option linter.all false
set_option maxRecDepth 100000
set_option maxHeartbeats 4000001
/-! FnO: what the room gives. -/
namespace L2.K3
open PySem PySem.Spec PyProof.Rows RM Sol
abbrev Room_ : Type := List (List (Word × Rat))
def headsM (rm : Room_) : List Word := rm.map fun k => minW (k.map (·.1))
def roomP (parts : List (Word × Rat)) : Room_ := roomM (midsV (midM parts))
def NeR (rm : Room_) : Prop := ∀ k ∈ rm, k ≠ []
section
variable {P : Program} {w : World} {K : PySem.W.Frag} {mg : Str → Option Value} {base : Heap} {CR CT CY : Addr}
abbrev tRoom (w : World) (CR : Addr) : Ty Room_ := tLst (tKv w CR)
abbrev mKept (w : World) (CR : Addr) (x : Tal) : Mem := [(x.2.2, cKept (tRoom w CR) (roomP x.2.1))]
theorem g_retC {X : Cx} {Γ : Gam} {e : Expr} {l : Addr} {c c' : CP} {R : MP} {F H : Hp} {B : Hp} {rest : List Stmt} {pos : Pos} (he : Ev X Γ [(l, c)] e R) (hc : ∀ F o, c.c F o → c'.c F o) : G ⟨F, H, [(l, c')], R, B⟩ X (.Return (some e) pos :: rest) Γ [(l, c)] (Dret ⟨F, H, [(l, c')], R, B⟩) := fun σ H1 F1 s => by
  refine wSs_of (pss_cons (ps_ret pe_w) pss_never) ?_
  refine he σ F1 H1 s.env s.fh s.ce _ fun F' H' v t pv => ?_
  have s' := s.step t
  refine ⟨F', s'.fh, s'.st, ⟨by simp, fun p hp => ?_⟩, pv⟩
  rw [List.mem_singleton.mp hp]
  obtain ⟨f0, o, ho, h2⟩ := s'.ce.mem (l, c) List.mem_cons_self
  exact ⟨f0, o, ho, hc F' o h2⟩
abbrev sp_room_of (w : World) (CR CY : Addr) : Sp := spT (fun x : Tal => preFr x.2.1) (mKept w CR) (fun x => [mpTal CR CY x]) fun x => (tRoom w CR).is (roomP x.2.1)
theorem sc_room_of : FnScope ["tally"] ["tally"] (defScope (top 74)) := ⟨rfl, rfl, rfl, by decide +kernel, rfl, by decide +kernel, by decide +kernel⟩
theorem ok_room_of {f : Addr} {fd : FuncData} (Fd : FnP K "room_of" (top 74) f fd) (hm : mg "room_of" = some (.ref f)) (T : Tx K mg CR CT CY) (c1 : Cal P w K mg base "found_room" 6 ["tally"] [] (sp_found_room w CR CY)) : Cal P w K mg base "room_of" 7 ["tally"] [] (sp_room_of w CR CY) := by
  refine cal_mk Fd hm (fn_mk Fd sc_room_of (fun _ => rfl) fun cdv A outer s H E x F hr hp ce => ?_) fun _ _ _ _ _ _ us hl => match us, hl with | [_], _ => rfl
  have r0 := hr.mono (Nat.zero_le 6)
  refine g_caseC (c1 := cDK0) (c2 := cDK1 (tRoom w CR) (roomP x.2.1)) 0 rfl (fun F o h => h) ?_ ?_
  · refine g_if (et_kNot0 0 r0 (ev_const pe_str) (ev_ykept T (x := x) (ev_name 0 rfl)) rfl) (fun _ => ?_) (fun h => by cases h)
    refine g_kput (T := tRoom w CR) (x := roomP x.2.1) 0 r0 (ev_callI (R := (tRoom w CR).is (roomP x.2.1)) c1 hr x (eva_one (ev_name 0 rfl)) hp) (ev_ykept T (x := x) (ev_name 0 rfl)) (ev_const pe_str) rfl (g_end ?_)
    refine g_retC (ev_kget (T := tRoom w CR) (x := roomP x.2.1) 0 r0 (ev_ykept T (x := x) (ev_name 0 rfl)) (ev_const pe_str) rfl) ?_
    exact fun F o h => .inr h
  · refine g_if (et_kNot1 (T := tRoom w CR) (x := roomP x.2.1) 0 r0 (ev_const pe_str) (ev_ykept T (x := x) (ev_name 0 rfl)) rfl) (fun h => by cases h) (fun _ => g_end ?_)
    refine g_retC (ev_kget (T := tRoom w CR) (x := roomP x.2.1) 0 r0 (ev_ykept T (x := x) (ev_name 0 rfl)) (ev_const pe_str) rfl) ?_
    exact fun F o h => .inr h
abbrev sp_heads_of (w : World) (CR : Addr) : Sp := spT NeR (fun _ => []) (fun rm => [(tRoom w CR).is rm]) fun rm => (tLst tWord).is (headsM rm)
theorem sc_heads_of : FnScope ["room", "kept"] ["room"] (defScope (top 75)) := ⟨rfl, rfl, rfl, by decide +kernel, rfl, by decide +kernel, by decide +kernel⟩
theorem ok_heads_of {f : Addr} {fd : FuncData} (Fd : FnP K "heads_of" (top 75) f fd) (hm : mg "heads_of" = some (.ref f)) (T : Tx K mg CR CT CY) : Cal P w K mg base "heads_of" 1 ["room"] [] (sp_heads_of w CR) := by
  refine cal_mk Fd hm (fn_mk Fd sc_heads_of (fun _ => rfl) fun cdv A outer s H E rm F hr hp ce => ?_) fun _ _ _ _ _ _ us hl => match us, hl with | [_], _ => rfl
  refine g_ret (ev_lc [("kept", 1)] (evi_list (ev_name 0 rfl)) (U := tWord) (f := fun k => minW (k.map (·.1))) (fun i h => ?_) sc_heads_of.nd (defScope (top 75)) (N := ["room", "kept"]))
  refine ⟨_, _, by decide, fun s H C cl fp => bd_name 1 sc_heads_of.nd, tYes_ok, fun _ s H C cl fp => ?_⟩
  have hne : (rm[i].map (·.1)) ≠ [] := fun e => hp _ (List.getElem_mem h) (List.map_eq_nil_iff.mp e)
  exact ev_minL hr hne (ev_listD (K := wordK) (U := tRat CR) (ev_name 1 rfl) T.f) T.g
/-! ### worth_over -/
def keysM (k : List (Word × Rat)) : List Word := srt wordLt (k.map (·.1))
def valM (k : List (Word × Rat)) (x : Word) : Rat := (dget k x).getD 0
def worthK (k : List (Word × Rat)) (rows : List (List Rat)) : Rat := rsum ((keysM k).map fun x => valM k x * lastR (aheadR rows x))
structure preWk (k : List (Word × Rat)) (rows : List (List Rat)) : Prop where
  a : ∀ x ∈ keysM k, preAh (rows, x) ∧ Sz 4400 (valM k x) ∧ Sz 4400 (lastR (aheadR rows x))
  s : preSum ((keysM k).map fun x => valM k x * lastR (aheadR rows x))
abbrev sp_worth_over (w : World) (CR : Addr) : Sp := spT (fun x : List (Word × Rat) × List (List Rat) => preWk x.1 x.2) (fun _ => []) (fun x => [(tKv w CR).is x.1, (tTup (tTup (tRat CR))).is x.2]) fun x => (tRat CR).is (worthK x.1 x.2)
theorem sc_worth_over : FnScope ["factors", "rows", "word"] ["factors", "rows"] (defScope (top 76)) := ⟨rfl, rfl, rfl, by decide +kernel, rfl, by decide +kernel, by decide +kernel⟩
theorem val_of {k : List (Word × Rat)} {i : Nat} (h : i < (keysM k).length) : dget k (keysM k)[i] = some (valM k (keysM k)[i]) := by
  have hk : (keysM k)[i] ∈ k.map (·.1) := (srt_perm _).mem_iff.mp (List.getElem_mem h)
  obtain ⟨y, hy⟩ := dget_mem hk
  unfold valM
  rw [hy] <;> rfl
theorem ok_worth_over {f : Addr} {fd : FuncData} (Fd : FnP K "worth_over" (top 76) f fd) (hm : mg "worth_over" = some (.ref f)) (T : Tx K mg CR CT CY) (c1 : Cal P w K mg base "ahead_sums" 6 ["rows", "word"] [] (sp_ahead_sums CR)) (c2 : Cal P w K mg base "total_of" 5 ["ratios"] [] (sp_total_of CR)) (c3 : CalB P w K mg base CR "__mul__" (· * ·)) : Cal P w K mg base "worth_over" 7 ["factors", "rows"] [] (sp_worth_over w CR) := by
  refine cal_mk Fd hm (fn_mk Fd sc_worth_over (fun _ => rfl) fun cdv A outer s H E x F hr hp ce => ?_) fun _ _ _ _ _ _ us hl => match us, hl with | [_, _], _ => rfl
  obtain ⟨k, rows⟩ := x
  have nd := sc_worth_over.nd
  have r0 := hr.mono (Nat.zero_le 6)
  refine g_ret (ev_callI (R := (tRat CR).is (worthK k rows)) c2 (hr.mono (by decide)) ((keysM k).map fun x => valM k x * lastR (aheadR rows x)) (eva_one (ev_lc [("word", 2)] (evi_list (ev_sortW (xs := k.map (·.1)) r0 (ev_listD (K := wordK) (U := tRat CR) (ev_name 0 rfl) T.f) T.g)) (U := tRat CR) (f := fun x => valM k x * lastR (aheadR rows x)) (fun i h => ?_) nd (defScope (top 76)) (N := ["factors", "rows", "word"]))) hp.s)
  obtain ⟨h1, h2, h3⟩ := hp.a _ (List.getElem_mem h)
  exact ⟨_, _, by decide, fun s H C cl fp => bd_name 2 nd, tYes_ok, fun _ s H C cl fp => ev_rmul T c3 (hr.mono (by decide)) (ev_dget (K := wordK) (U := tRat CR) r0 (ev_name 0 rfl) (ev_name 2 rfl) isDic_frz (val_of h)) (ev_ixL (ev_callI (R := (tRrow CR).is (aheadR rows (keysM k)[i])) c1 hr (rows, (keysM k)[i]) (eva_cons (ev_name 1 rfl) (eva_one (ev_name 2 rfl))) h1) (ev_neg ev_int) (at_last (ahead_ne _ _))) h2 h3⟩
/-! ### joining -/
def joiningM (rm : Room_) : List (List (List Rat)) := rm.map fun k => (headsM rm).map fun h => (headsM rm).map fun g => valM k (h ++ g)
structure preJo (rm : Room_) : Prop where
  n : NeR rm
  l : ∀ h ∈ headsM rm, h.length ≤ 8
abbrev sp_joining_of (w : World) (CR : Addr) : Sp := spT preJo (fun _ => []) (fun rm => [(tRoom w CR).is rm]) fun rm => (tLst (tLst (tLst (tRat CR)))).is (joiningM rm)
abbrev nJo : List Str := ["room", "heads", "nought", "kept", "head", "late"]
theorem sc_joining_of : FnScope nJo ["room"] (defScope (top 77)) := ⟨rfl, rfl, rfl, by decide +kernel, rfl, by decide +kernel, by decide +kernel⟩
theorem ok_joining_of {f : Addr} {fd : FuncData} (Fd : FnP K "joining_of" (top 77) f fd) (hm : mg "joining_of" = some (.ref f)) (T : Tx K mg CR CT CY) (c1 : Cal P w K mg base "heads_of" 1 ["room"] [] (sp_heads_of w CR)) (c2 : CalR1 P w K mg base CR) : Cal P w K mg base "joining_of" 4 ["room"] [] (sp_joining_of w CR) := by
  refine cal_mk Fd hm (fn_mk Fd sc_joining_of (fun _ => rfl) fun cdv A outer s H E rm F hr hp ce => ?_) fun _ _ _ _ _ _ us hl => match us, hl with | [_], _ => rfl
  have nd := sc_joining_of.nd
  have r0 := hr.mono (Nat.zero_le 3)
  refine g_tupA (ga_val (ev_callI (R := (tLst tWord).is (headsM rm)) c1 (hr.mono (by decide)) rm (eva_one (ev_name 0 rfl)) hp.n) (ga_val (ev_ratio1 c2 hr ev_int (q := 0) rfl) (ga_nil ⟨_, _, rfl, bds2 (bd_name 1 nd) (bd_name 2 nd), ?_⟩)))
  refine g_ret (ev_lc [("kept", 3)] (evi_list (ev_name 0 rfl)) (U := tLst (tLst (tRat CR))) (f := fun k => (headsM rm).map fun h => (headsM rm).map fun g => valM k (h ++ g)) (fun i h => ?_) nd (defScope (top 77)) (N := nJo))
  refine ⟨_, _, by decide, fun s H C cl fp => bd_name 3 nd, tYes_ok, fun _ s H C cl fp => ?_⟩
  refine ev_lc [("head", 4)] (evi_list (ev_name 1 rfl)) (U := tLst (tRat CR)) (f := fun h => (headsM rm).map fun g => valM rm[i] (h ++ g)) (fun j hj => ?_) nd (relS (lcSc (rhs (bodyAt 77 1))) (defScope (top 77))) (N := nJo)
  refine ⟨_, _, by decide, fun s H C cl fp => bd_name 4 nd, tYes_ok, fun _ s H C cl fp => ?_⟩
  refine ev_lc [("late", 5)] (evi_list (ev_name 1 rfl)) (U := tRat CR) (f := fun g => valM rm[i] ((headsM rm)[j] ++ g)) (fun k hk => ?_) nd (relS (lcSc (lcEl (rhs (bodyAt 77 1)))) (relS (lcSc (rhs (bodyAt 77 1))) (defScope (top 77)))) (N := nJo)
  refine ⟨_, _, by decide, fun s H C cl fp => bd_name 5 nd, tYes_ok, fun _ s H C cl fp => ?_⟩
  have h1 := hp.l _ (List.getElem_mem hj)
  have h2 := hp.l _ (List.getElem_mem hk)
  exact ev_dgetOr (K := wordK) (U := tRat CR) (k := (headsM rm)[j] ++ (headsM rm)[k]) (P := (tRat CR).is 0) r0 (ev_name 3 rfl) (ev_catT (ev_name 4 rfl) (ev_name 5 rfl) (by omega)) (ev_name 2 rfl) isDic_frz (fun F v h e => by unfold valM; rw [e]; exact h) (fun F v y e h => by unfold valM; rw [e]; exact h)
structure preJn (x : Tal) : Prop where
  a : preFr x.2.1
  b : preJo (roomP x.2.1)
abbrev sp_joining (w : World) (CR CY : Addr) : Sp := spT preJn (mKept w CR) (fun x => [mpTal CR CY x]) fun x => (tLst (tLst (tLst (tRat CR)))).is (joiningM (roomP x.2.1))
theorem sc_joining : FnScope ["tally"] ["tally"] (defScope (top 78)) := ⟨rfl, rfl, rfl, by decide +kernel, rfl, by decide +kernel, by decide +kernel⟩
theorem nd_one {l : Addr} {c : CP} : (([(l, c)] : Mem).map (·.1)).Nodup := by simp
theorem ok_joining {f : Addr} {fd : FuncData} (Fd : FnP K "joining" (top 78) f fd) (hm : mg "joining" = some (.ref f)) (c1 : Cal P w K mg base "want_tally" 1 ["value"] [] (sp_want_tally CR CY)) (c2 : Cal P w K mg base "room_of" 7 ["tally"] [] (sp_room_of w CR CY)) (c3 : Cal P w K mg base "joining_of" 4 ["room"] [] (sp_joining_of w CR)) : Cal P w K mg base "joining" 8 ["tally"] [] (sp_joining w CR CY) := by
  refine cal_mk Fd hm (fn_mk Fd sc_joining (fun _ => rfl) fun cdv A outer s H E x F hr hp ce => ?_) fun _ _ _ _ _ _ us hl => match us, hl with | [_], _ => rfl
  exact g_ret (ev_callI (R := (tLst (tLst (tLst (tRat CR)))).is (joiningM (roomP x.2.1))) c3 (hr.mono (by decide)) (roomP x.2.1) (eva_one (ev_callI (R := (tRoom w CR).is (roomP x.2.1)) c2 hr x (eva_one (ev_callI (R := mpTal CR CY x) c1 (hr.mono (by decide)) x (eva_one (ev_name 0 rfl)) trivial)) hp.a rfl rfl nd_one (fun p hp => hp))) hp.b) (fun F v h => h) (fun p hp => hp) nd_one
end
end L2.K3
set_option Elab.async false
set_option linter.all false
set_option maxRecDepth 100000
set_option maxHeartbeats 4000001
/-! FnP: numbers of the room. -/
namespace L2.K3
open PySem PySem.Spec PyProof.Rows RM Sol
section
variable {P : Program} {w : World} {K : PySem.W.Frag} {mg : Str → Option Value} {base : Heap} {CR CT CY : Addr}
def wholeM (parts : List (Word × Rat)) : List Rat := (headsM (roomP parts)).map fun h => valM (dmerge parts) h
structure preWn (x : Tal) : Prop where
  a : preFr x.2.1
  b : NeR (roomP x.2.1)
abbrev sp_whole_numbers (w : World) (CR CY : Addr) : Sp := spT preWn (mKept w CR) (fun x => [mpTal CR CY x]) fun x => (tRrow CR).is (wholeM x.2.1)
theorem sc_whole_numbers : FnScope ["tally", "told", "factors", "head"] ["tally"] (defScope (top 79)) := ⟨rfl, rfl, rfl, by decide +kernel, rfl, by decide +kernel, by decide +kernel⟩
theorem ok_whole_numbers {f : Addr} {fd : FuncData} (Fd : FnP K "whole_numbers" (top 79) f fd) (hm : mg "whole_numbers" = some (.ref f)) (T : Tx K mg CR CT CY) (c1 : Cal P w K mg base "want_tally" 1 ["value"] [] (sp_want_tally CR CY)) (c2 : Cal P w K mg base "room_of" 7 ["tally"] [] (sp_room_of w CR CY)) (c3 : Cal P w K mg base "heads_of" 1 ["room"] [] (sp_heads_of w CR)) (c4 : CalR1 P w K mg base CR) : Cal P w K mg base "whole_numbers" 8 ["tally"] [] (sp_whole_numbers w CR CY) := by
  refine cal_mk Fd hm (fn_mk Fd sc_whole_numbers (fun _ => rfl) fun cdv A outer s H E x F hr hp ce => ?_) fun _ _ _ _ _ _ us hl => match us, hl with | [_], _ => rfl
  have nd := sc_whole_numbers.nd
  have r0 := hr.mono (Nat.zero_le 7)
  have hpn : x.2.1.length ≤ 400 := hp.a.a.n
  refine g_set 1 (ev_callI (R := mpTal CR CY x) c1 (hr.mono (by decide)) x (eva_one (ev_name 0 rfl)) trivial) ?_ nd
  refine g_set 2 (ev_dictL (K := wordK) (U := tRat CR) (ps := x.2.1) r0 (ev_yparts T (x := x) (ev_name 1 rfl)) (by omega) T.g) ?_ nd
  refine g_ret (ev_lc [("head", 3)] (evi_list (ev_callI (R := (tLst tWord).is (headsM (roomP x.2.1))) c3 (hr.mono (by decide)) (roomP x.2.1) (eva_one (ev_callI (R := (tRoom w CR).is (roomP x.2.1)) c2 hr x (eva_one (ev_name 1 rfl)) hp.a rfl rfl nd_one (fun p hp => hp))) hp.b)) (U := tRat CR) (f := fun h => valM (dmerge x.2.1) h) (fun i h => ?_) nd (defScope (top 79)) (N := ["tally", "told", "factors", "head"])) (fun F v h => h) (fun p hp => hp) nd_one
  refine ⟨_, _, by decide, fun s H C cl fp => bd_name 3 nd, tYes_ok, fun _ s H C cl fp => ?_⟩
  exact ev_dgetOr (K := wordK) (U := tRat CR) (P := (tRat CR).is 0) r0 (ev_name 2 rfl) (ev_name 3 rfl) (ev_ratio1 c4 (hr.mono (by decide)) ev_int (q := 0) rfl) isDic_frz (fun F v h e => by unfold valM; rw [e]; exact h) (fun F v y e h => by unfold valM; rw [e]; exact h)
/-! ### kept_numbers -/
def keptM (parts : List (Word × Rat)) (rows : List (List Rat)) : List Rat := (roomP parts).map fun k => worthK k rows
structure preKn (x : Tal × Int × List (List Rat)) : Prop where
  a : preFr x.1.2.1
  c : x.1.1 = x.2.1
  k : ∀ k ∈ roomP x.1.2.1, preWk k x.2.2
abbrev sp_kept_numbers (w : World) (CR CT CY : Addr) : Sp := spT preKn (fun x => mKept w CR x.1) (fun x => [mpTal CR CY x.1, (tTab CR CT).is x.2]) fun x => (tRrow CR).is (keptM x.1.2.1 x.2.2)
theorem sc_kept_numbers : FnScope ["tally", "table", "told", "rows", "kept"] ["tally", "table"] (defScope (top 80)) := ⟨rfl, rfl, rfl, by decide +kernel, rfl, by decide +kernel, by decide +kernel⟩
theorem fok_kept_numbers {f : Addr} {fd : FuncData} (Fd : FnP K "kept_numbers" (top 80) f fd) (T : Tx K mg CR CT CY) (c1 : Cal P w K mg base "want_tally" 1 ["value"] [] (sp_want_tally CR CY)) (c2 : Cal P w K mg base "want_table" 1 ["value"] [] (sp_want_table CR CT)) (c3 : Cal P w K mg base "want_like" 1 ["near", "far"] [] sp_want_like) (c4 : Cal P w K mg base "room_of" 7 ["tally"] [] (sp_room_of w CR CY)) (c5 : Cal P w K mg base "worth_over" 7 ["factors", "rows"] [] (sp_worth_over w CR)): FnOk P w K mg base CX0 8 f fd ["tally", "table"] (sp_kept_numbers w CR CT CY) := by
  refine fn_mk Fd sc_kept_numbers (fun _ => rfl) fun cdv A outer s H E x F hr hp ce => ?_
  have nd := sc_kept_numbers.nd
  obtain ⟨x, y⟩ := x
  refine g_set 2 (ev_callI (R := mpTal CR CY x) c1 (hr.mono (by decide)) x (eva_one (ev_name 0 rfl)) trivial) ?_ nd
  refine g_set 3 (ev_callI (R := (tTab CR CT).is y) c2 (hr.mono (by decide)) y (eva_one (ev_name 1 rfl)) trivial) ?_ nd
  refine g_expr (ev_callI c3 (hr.mono (by decide)) (x.1, y.1) (eva_cons (ev_ycols T (x := x) (ev_name 2 rfl)) (eva_one (ev_tcols T (x := y) (ev_name 3 rfl)))) hp.c) ?_
  refine g_ret (ev_lc [("kept", 4)] (evi_list (ev_callI (R := (tRoom w CR).is (roomP x.2.1)) c4 hr x (eva_one (ev_name 2 rfl)) hp.a rfl rfl nd_one (fun p hp => hp))) (U := tRat CR) (f := fun k => worthK k y.2) (fun i h => ?_) nd (defScope (top 80)) (N := ["tally", "table", "told", "rows", "kept"])) (fun F v h => h) (fun p hp => hp) nd_one
  refine ⟨_, _, by decide, fun s H C cl fp => bd_name 4 nd, tYes_ok, fun _ s H C cl fp => ?_⟩
  exact ev_callI (R := (tRat CR).is (worthK (roomP x.2.1)[i] y.2)) c5 hr ((roomP x.2.1)[i], y.2) (eva_cons (ev_name 4 rfl) (eva_one (ev_trows T (x := y) (ev_name 3 rfl)))) (hp.k _ (List.getElem_mem h))
theorem ok_kept_numbers {f : Addr} {fd : FuncData} (Fd : FnP K "kept_numbers" (top 80) f fd) (hm : mg "kept_numbers" = some (.ref f)) (T : Tx K mg CR CT CY) (c1 : Cal P w K mg base "want_tally" 1 ["value"] [] (sp_want_tally CR CY)) (c2 : Cal P w K mg base "want_table" 1 ["value"] [] (sp_want_table CR CT)) (c3 : Cal P w K mg base "want_like" 1 ["near", "far"] [] sp_want_like) (c4 : Cal P w K mg base "room_of" 7 ["tally"] [] (sp_room_of w CR CY)) (c5 : Cal P w K mg base "worth_over" 7 ["factors", "rows"] [] (sp_worth_over w CR)): Cal P w K mg base "kept_numbers" 8 ["tally", "table"] [] (sp_kept_numbers w CR CT CY) := cal_mk Fd hm (fok_kept_numbers Fd T c1 c2 c3 c4 c5) fun _ _ _ _ _ _ us hl => match us, hl with | [_, _], _ => rfl
/-! ### want_kept -/
abbrev tNs (CR : Addr) : Ty (Bool × List (Int ⊕ Rat)) := tSeq (tNumV CR)
abbrev sp_want_kept (CR : Addr) : Sp := spT (fun x : (Bool × List (Int ⊕ Rat)) × Int => (x.1.2.length : Int) = x.2) (fun _ => []) (fun x => [(tNs CR).is x.1, tInt.is x.2]) fun x => (tRrow CR).is (x.1.2.map numV)
theorem sc_want_kept : FnScope ["value", "many", "one"] ["value", "many"] (defScope (top 81)) := ⟨rfl, rfl, rfl, by decide +kernel, rfl, by decide +kernel, by decide +kernel⟩
theorem ok_want_kept {f : Addr} {fd : FuncData} (Fd : FnP K "want_kept" (top 81) f fd) (hm : mg "want_kept" = some (.ref f)) (T : Tx K mg CR CT CY) (c1 : Cal P w K mg base "is_list" 1 ["value"] [] (sp_is_listL (tNumV CR))) (c1' : Cal P w K mg base "is_list" 1 ["value"] [] (sp_is_listT (tNumV CR))) (c2 : Cal P w K mg base "is_number" 2 ["value"] [] (sp_is_number CR)) (c3 : Cal P w K mg base "ratio_of" 4 ["number"] [] (sp_ratio_of CR)) : Cal P w K mg base "want_kept" 5 ["value", "many"] [] (sp_want_kept CR) := by
  refine cal_mk Fd hm (fn_mk Fd sc_want_kept (fun _ => rfl) fun cdv A outer s H E x F hr hp ce => ?_) fun _ _ _ _ _ _ us hl => match us, hl with | [_, _], _ => rfl
  have nd := sc_want_kept.nd
  obtain ⟨⟨b, xs⟩, n⟩ := x
  have hn : (xs.length : Int) = n := hp
  cases b with
  | true =>
    refine g_sub (Γ' := [some ((tLst (tNumV CR)).is xs), some (tInt.is n), none]) (.weak (fun F v h => h) (.keep (.keep .nil))) ?_
    refine g_if (x := false) (EvT.to (EvW.t (ew_or (et_not (et_val (ev_callI c1 (hr.mono (by decide)) xs (eva_one (ev_name 0 rfl)) trivial))) fun _ => ew_or (et_neI (ev_lenL (xs := xs) (ev_name 0 rfl) T.f) (ev_name 1 rfl)) fun _ => ew_or1 (et_not (et_val (ev_all (ev_lc [("one", 2)] (evi_list (ev_name 0 rfl)) (U := tBool) (f := fun _ => true) (fun i h => ?_) nd (defScope (top 81)) (N := ["value", "many", "one"])) T.g))))) ?_) (fun h => by cases h) fun _ => g_end ?_
    · exact ⟨_, _, by decide, fun s H C cl fp => bd_name 2 nd, tYes_ok, fun _ s H C cl fp => ev_callI (R := tBool.is true) c2 (hr.mono (by decide)) xs[i] (eva_one (ev_name 2 rfl)) trivial⟩
    · rw [all_true, decide_eq_true hn] <;> rfl
    · refine g_ret (ev_lc [("one", 2)] (evi_list (ev_name 0 rfl)) (U := tRat CR) (f := numV) (fun i h => ?_) nd (defScope (top 81)) (N := ["value", "many", "one"]))
      exact ⟨_, _, by decide, fun s H C cl fp => bd_name 2 nd, tYes_ok, fun _ s H C cl fp => ev_callI (R := (tRat CR).is (numV xs[i])) c3 hr xs[i] (eva_one (ev_name 2 rfl)) trivial⟩
  | false =>
    refine g_sub (Γ' := [some ((tTup (tNumV CR)).is xs), some (tInt.is n), none]) (.weak (fun F v h => h) (.keep (.keep .nil))) ?_
    refine g_if (x := false) (EvT.to (EvW.t (ew_or (et_not (et_val (ev_callI c1' (hr.mono (by decide)) xs (eva_one (ev_name 0 rfl)) trivial))) fun _ => ew_or (et_neI (ev_lenT (xs := xs) (ev_name 0 rfl) T.f) (ev_name 1 rfl)) fun _ => ew_or1 (et_not (et_val (ev_all (ev_lc [("one", 2)] (evi_tup (ev_name 0 rfl)) (U := tBool) (f := fun _ => true) (fun i h => ?_) nd (defScope (top 81)) (N := ["value", "many", "one"])) T.g))))) ?_) (fun h => by cases h) fun _ => g_end ?_
    · exact ⟨_, _, by decide, fun s H C cl fp => bd_name 2 nd, tYes_ok, fun _ s H C cl fp => ev_callI (R := tBool.is true) c2 (hr.mono (by decide)) xs[i] (eva_one (ev_name 2 rfl)) trivial⟩
    · rw [all_true, decide_eq_true hn] <;> rfl
    · refine g_ret (ev_lc [("one", 2)] (evi_tup (ev_name 0 rfl)) (U := tRat CR) (f := numV) (fun i h => ?_) nd (defScope (top 81)) (N := ["value", "many", "one"]))
      exact ⟨_, _, by decide, fun s H C cl fp => bd_name 2 nd, tYes_ok, fun _ s H C cl fp => ev_callI (R := (tRat CR).is (numV xs[i])) c3 hr xs[i] (eva_one (ev_name 2 rfl)) trivial⟩
/-! ### joined_by_cuts -/
def cutStep (pl : List (Word × Int)) (near far : List Rat) (c : Rat) (x : Word) (tot : Rat) (at_ : Nat) : Rat := match dget pl (x.take at_), dget pl (x.drop at_) with
  | some i, some j => tot + c * near.getD i.toNat 0 * far.getD j.toNat 0
  | _, _ => tot
def cutsW (pl : List (Word × Int)) (near far : List Rat) (c : Rat) (x : Word) (tot : Rat) (n : Nat) : Rat := (List.range n).foldl (cutStep pl near far c x) tot
def cutsM (k : List (Word × Rat)) (pl : List (Word × Int)) (near far : List Rat) (n : Nat) : Rat := ((keysM k).take n).foldl (fun tot x => cutsW pl near far (valM k x) x tot (x.length + 1)) 0
theorem cutsW_succ (pl : List (Word × Int)) (near far : List Rat) (c : Rat) (x : Word) (tot : Rat) (n : Nat) : cutsW pl near far c x tot (n + 1) = cutStep pl near far c x (cutsW pl near far c x tot n) n := by
  unfold cutsW
  rw [List.range_succ, List.foldl_append] <;> rfl
theorem cutsM_succ {k : List (Word × Rat)} {pl : List (Word × Int)} {near far : List Rat} {n : Nat} (h : n < (keysM k).length) : cutsM k pl near far (n + 1) = cutsW pl near far (valM k (keysM k)[n]) (keysM k)[n] (cutsM k pl near far n) ((keysM k)[n].length + 1) := by
  unfold cutsM
  rw [take_succ' h, List.foldl_append] <;> rfl
structure preCu (k : List (Word × Rat)) (pl : List (Word × Int)) (near far : List Rat) : Prop where
  wl : ∀ x ∈ keysM k, x.length ≤ 1000
  px : ∀ x i, dget pl x = some i → 0 ≤ i ∧ i.toNat < near.length ∧ i.toNat < far.length
  st : ∀ i (h : i < (keysM k).length), ∀ j, j ≤ (keysM k)[i].length → Sz 4400 (cutsW pl near far (valM k (keysM k)[i]) (keysM k)[i] (cutsM k pl near far i) j)
  v : ∀ x ∈ keysM k, Sz 4400 (valM k x)
  n : ∀ q ∈ near, Sz 4400 q
  f : ∀ q ∈ far, Sz 4400 q
  vn : ∀ x ∈ keysM k, ∀ q ∈ near, Sz 4400 (valM k x * q)
  vf : ∀ x ∈ keysM k, ∀ q ∈ near, ∀ r ∈ far, Sz 4400 (valM k x * q * r)
abbrev sp_joined_by_cuts (w : World) (CR : Addr) : Sp := spT (fun x : List (Word × Rat) × List (Word × Int) × List Rat × List Rat => preCu x.1 x.2.1 x.2.2.1 x.2.2.2) (fun _ => []) (fun x => [(tKv w CR).is x.1, (tDic w wordK tInt).is x.2.1, (tRrow CR).is x.2.2.1, (tRrow CR).is x.2.2.2]) fun x => (tRat CR).is (cutsM x.1 x.2.1 x.2.2.1 x.2.2.2 (keysM x.1).length)
abbrev nCu : List Str := ["kept", "places", "near", "far", "total", "word", "at"]
theorem sc_joined_by_cuts : FnScope nCu ["kept", "places", "near", "far"] (defScope (top 82)) := ⟨rfl, rfl, rfl, by decide +kernel, rfl, by decide +kernel, by decide +kernel⟩
theorem at_D {xs : List Rat} {i : Int} (h : 0 ≤ i) (hl : i.toNat < xs.length) : atI xs i = some (xs.getD i.toNat 0) ∧ xs.getD i.toNat 0 ∈ xs := by
  have e : xs[i.toNat]? = some (xs.getD i.toNat 0) := by rw [List.getD_eq_getElem?_getD, List.getElem?_eq_getElem hl] <;> rfl
  refine ⟨?_, List.mem_of_getElem? e⟩
  have e2 : i = (i.toNat : Int) := by omega
  have := atI_nat e
  rw [← e2] at this
  exact this
theorem ok_joined_by_cuts {f : Addr} {fd : FuncData} (Fd : FnP K "joined_by_cuts" (top 82) f fd) (hm : mg "joined_by_cuts" = some (.ref f)) (T : Tx K mg CR CT CY) (c1 : CalR1 P w K mg base CR) (c2 : CalB P w K mg base CR "__add__" (· + ·)) (c3 : CalB P w K mg base CR "__mul__" (· * ·)) : Cal P w K mg base "joined_by_cuts" 5 ["kept", "places", "near", "far"] [] (sp_joined_by_cuts w CR) := by
  refine cal_mk Fd hm (fn_mk Fd sc_joined_by_cuts (fun _ => rfl) fun cdv A outer s H E x F hr hp ce => ?_) fun _ _ _ _ _ _ us hl => match us, hl with | [_, _, _, _], _ => rfl
  have nd := sc_joined_by_cuts.nd
  have r0 := hr.mono (Nat.zero_le 4)
  obtain ⟨k, pl, near, far⟩ := x
  refine g_set 4 (ev_ratio1 c1 (hr.mono (by decide)) ev_int (q := 0) rfl) ?_ nd
  refine g_for (evi_list (ev_sortW (xs := k.map (·.1)) r0 (ev_listD (K := wordK) (U := tRat CR) (ev_name 0 rfl) T.f) T.g)) (fun i Γ' M' => Γ' = [some ((tKv w CR).is k), some ((tDic w wordK tInt).is pl), some ((tRrow CR).is near), some ((tRrow CR).is far), some ((tRat CR).is (cutsM k pl near far i)), none, none] ∧ M' = []) ⟨rfl, rfl⟩ ?_ ?_
  · rintro B i h _ _ ⟨rfl, rfl⟩
    have h' : i < (keysM k).length := h
    have hmem : (keysM k)[i] ∈ keysM k := List.getElem_mem h'
    have hxl : (keysM k)[i].length ≤ 1000 := hp.wl _ hmem
    have hv := val_of h'
    have hsv := hp.v _ hmem
    have hst := hp.st i h'
    have hvn := hp.vn _ hmem
    have hvf := hp.vf _ hmem
    have hcs := cutsM_succ (pl := pl) (near := near) (far := far) h'
    refine ⟨_, _, bd_name 5 nd, ?_⟩
    show G _ _ _ [some ((tKv w CR).is k), some ((tDic w wordK tInt).is pl), some ((tRrow CR).is near), some ((tRrow CR).is far), some ((tRat CR).is (cutsM k pl near far i)), some (tWord.is (keysM k)[i]), none] [] _
    generalize hx : (keysM k)[i] = x at *
    refine g_for (evi_range1 (n := (x.length : Int) + 1) (ev_add (ev_lenT (xs := x) (ev_name 5 rfl) T.f) ev_int) T.f (by omega)) (fun j Γ' M' => Γ' = [some ((tKv w CR).is k), some ((tDic w wordK tInt).is pl), some ((tRrow CR).is near), some ((tRrow CR).is far), some ((tRat CR).is (cutsW pl near far (valM k x) x (cutsM k pl near far i) j)), some (tWord.is x), none] ∧ M' = []) ⟨rfl, rfl⟩ ?_ ?_
    · rintro B2 j hj _ _ ⟨rfl, rfl⟩
      have hj' : j ≤ x.length := by rw [upF_len] at hj; omega
      refine ⟨_, _, bd_name 6 nd, ?_⟩
      rw [upF_at]
      have sa : ∀ {X : Cx} {Γ : Gam} {M : Mem} {e1 e2 : Expr} {p p2 : Pos}, Ev X Γ M e1 (tWord.is x) → Ev X Γ M e2 (tInt.is (j : Int)) → Ev X Γ M (.Subscript e1 (.Slice none (some e2) none p2) p) (tWord.is (x.take j)) := fun a b => ev_slT a eo_none (eo_some b) (cut_to hj')
      have sb : ∀ {X : Cx} {Γ : Gam} {M : Mem} {e1 e2 : Expr} {p p2 : Pos}, Ev X Γ M e1 (tWord.is x) → Ev X Γ M e2 (tInt.is (j : Int)) → Ev X Γ M (.Subscript e1 (.Slice (some e2) none none p2) p) (tWord.is (x.drop j)) := fun a b => ev_slT a (eo_some b) eo_none (cut_from hj')
      refine g_if (EvW.t (ew_and (et_dicIn (K := wordK) (U := tInt) r0 (sa (ev_name 5 rfl) (ev_name 6 rfl)) (ev_name 1 rfl) isDic_frz) fun _ => ew_and1 (et_dicIn (K := wordK) (U := tInt) r0 (sb (ev_name 5 rfl) (ev_name 6 rfl)) (ev_name 1 rfl) isDic_frz))) (fun hb => ?_) (fun hb => ?_)
      · obtain ⟨b1, b2⟩ := (Bool.and_eq_true _ _).mp hb
        obtain ⟨u, hu⟩ := Option.isSome_iff_exists.mp b1
        obtain ⟨v, hv2⟩ := Option.isSome_iff_exists.mp b2
        obtain ⟨u1, u2, u3⟩ := hp.px _ _ hu
        obtain ⟨v1, v2, v3⟩ := hp.px _ _ hv2
        obtain ⟨n1, n2⟩ := at_D u1 u2
        obtain ⟨f1, f2⟩ := at_D v1 v3
        refine g_set 4 (ev_radd T c2 hr (ev_name 4 rfl) (ev_rmul T c3 hr (ev_rmul T c3 hr (ev_dget (K := wordK) (U := tRat CR) r0 (ev_name 0 rfl) (ev_name 5 rfl) isDic_frz hv) (ev_ixL (ev_name 2 rfl) (ev_dget (K := wordK) (U := tInt) r0 (ev_name 1 rfl) (sa (ev_name 5 rfl) (ev_name 6 rfl)) isDic_frz hu) n1) hsv (hp.n _ n2)) (ev_ixL (ev_name 3 rfl) (ev_dget (K := wordK) (U := tInt) r0 (ev_name 1 rfl) (sb (ev_name 5 rfl) (ev_name 6 rfl)) isDic_frz hv2) f1) (hvn _ n2) (hp.f _ f2)) (hst j hj') (hvf _ n2 _ f2)) ?_ nd
        refine g_end ?_
        refine g_turn ?_ (.keep (.keep (.keep (.keep (.keep (.keep (.drop .nil)))))))
        rw [cutsW_succ]
        unfold cutStep
        rw [hu, hv2]
        exact ⟨rfl, rfl⟩
      · refine g_end (g_turn ?_ (.keep (.keep (.keep (.keep (.keep (.keep (.drop .nil))))))))
        rw [cutsW_succ]
        unfold cutStep
        refine ⟨?_, rfl⟩
        have e : (match dget pl (x.take j), dget pl (x.drop j) with | some i_1, some j_1 => cutsW pl near far (valM k x) x (cutsM k pl near far i) j + valM k x * near.getD i_1.toNat 0 * far.getD j_1.toNat 0 | _, _ => cutsW pl near far (valM k x) x (cutsM k pl near far i) j) = cutsW pl near far (valM k x) x (cutsM k pl near far i) j := by
          cases h1 : dget pl (x.take j) with
          | none => rfl
          | some u =>
            cases h2 : dget pl (x.drop j) with
            | none => rfl
            | some v => rw [h1, h2] at hb; cases hb
        rw [e]
    · rintro _ _ ⟨rfl, rfl⟩
      refine g_turn ?_ (.keep (.keep (.keep (.keep (.keep (.drop (.drop .nil)))))))
      have e : ((x.length : Int) + 1).toNat = x.length + 1 := by omega
      rw [upF_len, e, hcs]
      exact ⟨rfl, rfl⟩
  · rintro _ _ ⟨rfl, rfl⟩
    exact g_ret (ev_name 4 rfl)
end
end L2.K3
set_option Elab.async false
set_option linter.all false
set_option maxRecDepth 100000
set_option maxHeartbeats 4000001
/-! FnQ: joined_numbers. -/
namespace L2.K3
open PySem PySem.Spec PyProof.Rows RM Sol
section
variable {P : Program} {w : World} {K : PySem.W.Frag} {mg : Str → Option Value} {base : Heap} {CR CT CY : Addr}
def placesN (hs : List Word) (i : Nat) : List (Word × Int) := (((upF 0 hs.length).zip hs).take i).foldl (fun acc p => dput acc p.2 p.1) []
def placesM (hs : List Word) : List (Word × Int) := placesN hs ((upF 0 hs.length).zip hs).length
theorem placesN_succ {hs : List Word} {i : Nat} (h : i < ((upF 0 hs.length).zip hs).length) : placesN hs (i + 1) = dput (placesN hs i) ((upF 0 hs.length).zip hs)[i].2 ((upF 0 hs.length).zip hs)[i].1 := by
  unfold placesN
  rw [take_succ' h, List.foldl_append] <;> rfl
theorem placesN_len (hs : List Word) : ∀ i, i ≤ ((upF 0 hs.length).zip hs).length → (placesN hs i).length ≤ i
  | 0, _ => Nat.le_refl _
  | i + 1, h => by
    rw [placesN_succ h]
    have h1 := placesN_len hs i (Nat.le_of_succ_le h)
    have h2 := dput_len (placesN hs i) ((upF 0 hs.length).zip hs)[i].2 ((upF 0 hs.length).zip hs)[i].1
    omega
def joinedM (parts : List (Word × Rat)) (near far : List Rat) : List Rat := (roomP parts).map fun k => cutsM k (placesM (headsM (roomP parts))) near far (keysM k).length
abbrev Nums : Type := Bool × List (Int ⊕ Rat)
def numsV (x : Nums) : List Rat := x.2.map numV
structure preJd (x : Tal × Nums × Nums) : Prop where
  a : preFr x.1.2.1
  n : NeR (roomP x.1.2.1)
  z : (roomP x.1.2.1).length ≤ 1000
  l1 : x.2.1.2.length = (roomP x.1.2.1).length
  l2 : x.2.2.2.length = (roomP x.1.2.1).length
  k : ∀ k ∈ roomP x.1.2.1, preCu k (placesM (headsM (roomP x.1.2.1))) (numsV x.2.1) (numsV x.2.2)
abbrev sp_joined_numbers (w : World) (CR CY : Addr) : Sp := spT preJd (fun x => mKept w CR x.1) (fun x => [mpTal CR CY x.1, (tNs CR).is x.2.1, (tNs CR).is x.2.2]) fun x => (tRrow CR).is (joinedM x.1.2.1 (numsV x.2.1) (numsV x.2.2))
abbrev nJd : List Str := ["tally", "numbers", "others", "room", "near", "far", "places", "at", "head", "kept"]
theorem sc_joined_numbers : FnScope nJd ["tally", "numbers", "others"] (defScope (top 83)) := ⟨rfl, rfl, rfl, by decide +kernel, rfl, by decide +kernel, by decide +kernel⟩
theorem fok_joined_numbers {f : Addr} {fd : FuncData} (Fd : FnP K "joined_numbers" (top 83) f fd) (T : Tx K mg CR CT CY) (c1 : Cal P w K mg base "want_tally" 1 ["value"] [] (sp_want_tally CR CY)) (c2 : Cal P w K mg base "room_of" 7 ["tally"] [] (sp_room_of w CR CY)) (c3 : Cal P w K mg base "want_kept" 5 ["value", "many"] [] (sp_want_kept CR)) (c4 : Cal P w K mg base "heads_of" 1 ["room"] [] (sp_heads_of w CR)) (c5 : Cal P w K mg base "joined_by_cuts" 5 ["kept", "places", "near", "far"] [] (sp_joined_by_cuts w CR)): FnOk P w K mg base CX0 8 f fd ["tally", "numbers", "others"] (sp_joined_numbers w CR CY) := by
  refine fn_mk Fd sc_joined_numbers (fun _ => rfl) fun cdv A outer s H E x F hr hp ce => ?_
  have nd := sc_joined_numbers.nd
  have r0 := hr.mono (Nat.zero_le 7)
  obtain ⟨x, y, z⟩ := x
  obtain ⟨ha, hne, hz, hl1, hl2, hk⟩ := hp
  have hl1' : y.2.length = (roomP x.2.1).length := hl1
  have hl2' : z.2.length = (roomP x.2.1).length := hl2
  refine g_set 3 (ev_callI (R := (tRoom w CR).is (roomP x.2.1)) c2 hr x (eva_one (ev_callI (R := mpTal CR CY x) c1 (hr.mono (by decide)) x (eva_one (ev_name 0 rfl)) trivial)) ha rfl rfl nd_one (fun p hp => hp)) ?_ nd
  show G _ _ _ [some (mpTal CR CY x), some ((tNs CR).is y), some ((tNs CR).is z), some ((tRoom w CR).is (roomP x.2.1)), none, none, none, none, none, none] (mKept w CR x) _
  generalize hrm : roomP x.2.1 = rm at *
  refine g_set 4 (ev_callI (R := (tRrow CR).is (numsV y)) c3 (hr.mono (by decide)) (y, (rm.length : Int)) (eva_cons (ev_name 1 rfl) (eva_one (ev_lenL (xs := rm) (ev_name 3 rfl) T.f))) (by show (y.2.length : Int) = _; rw [hl1'])) ?_ nd
  refine g_set 5 (ev_callI (R := (tRrow CR).is (numsV z)) c3 (hr.mono (by decide)) (z, (rm.length : Int)) (eva_cons (ev_name 2 rfl) (eva_one (ev_lenL (xs := rm) (ev_name 3 rfl) T.f))) (by show (z.2.length : Int) = _; rw [hl2'])) ?_ nd
  refine g_setC 6 (evc_dic (K := wordK) (U := tInt)) (fun l hl => ?_) nd
  have hhl : (headsM rm).length ≤ 1000 := by unfold headsM; rw [List.length_map]; exact hz
  have hzl : ((upF 0 (headsM rm).length).zip (headsM rm)).length ≤ 1000 := by rw [List.length_zip, upF_len]; omega
  refine g_for (evi_enum (ev_callI (R := (tLst tWord).is (headsM rm)) c4 (hr.mono (by decide)) rm (eva_one (ev_name 3 rfl)) hne) T.g) (fun i Γ' M' => Γ' = [some (mpTal CR CY x), some ((tNs CR).is y), some ((tNs CR).is z), some ((tRoom w CR).is rm), some ((tRrow CR).is (numsV y)), some ((tRrow CR).is (numsV z)), some (mpRef l), none, none, none] ∧ M' = (l, cDic w wordK tInt (placesN (headsM rm) i) l) :: mKept w CR x) ⟨rfl, rfl⟩ ?_ ?_
  · rintro B i h _ _ ⟨rfl, rfl⟩
    have h' : i < ((upF 0 (headsM rm).length).zip (headsM rm)).length := h
    refine ⟨_, _, bd_two (bd_name 7 nd) (bd_name 8 nd), ?_⟩
    have hpl := placesN_len (headsM rm) i (Nat.le_of_lt h')
    refine g_dput (K := wordK) (U := tInt) (k := ((upF 0 (headsM rm).length).zip (headsM rm))[i].2) (y := ((upF 0 (headsM rm).length).zip (headsM rm))[i].1) 0 r0 (ev_name 7 rfl) (ev_name 6 rfl) (ev_name 8 rfl) rfl ?_ (by omega)
    refine g_turn ⟨rfl, ?_⟩ (.keep (.keep (.keep (.keep (.keep (.keep (.keep (.drop (.drop (.drop .nil))))))))))
    rw [placesN_succ h']
    rfl
  · rintro _ _ ⟨rfl, rfl⟩
    refine g_frzD (K := wordK) (U := tInt) (kvs := placesM (headsM rm)) 6 0 rfl rfl hl (fun q => ?_) ?_
    · have q' : l = x.2.2 := by simpa using (show l ∈ [x.2.2] from q)
      obtain ⟨_, o, ho, _⟩ := ce.mem _ List.mem_cons_self
      have hl' : H l = none := hl
      rw [q'] at hl'
      rw [hl'] at ho
      cases ho
    refine g_ret (ev_lc [("kept", 9)] (evi_list (ev_name 3 rfl)) (U := tRat CR) (f := fun k => cutsM k (placesM (headsM rm)) (numsV y) (numsV z) (keysM k).length) (fun i h => ?_) nd (defScope (top 83)) (N := nJd)) (fun F v h => by
      show ((tRrow CR).is (joinedM x.2.1 (numsV y) (numsV z))).p F v
      unfold joinedM
      rw [hrm]
      exact h) (fun p hp => hp) nd_one
    refine ⟨_, _, by decide, fun s H C cl fp => bd_name 9 nd, tYes_ok, fun _ s H C cl fp => ?_⟩
    exact ev_callI (R := (tRat CR).is (cutsM rm[i] (placesM (headsM rm)) (numsV y) (numsV z) (keysM rm[i]).length)) c5 (hr.mono (by decide)) (rm[i], placesM (headsM rm), numsV y, numsV z) (eva_cons (ev_name 9 rfl) (eva_cons (ev_name 6 rfl) (eva_cons (ev_name 4 rfl) (eva_one (ev_name 5 rfl))))) (hk _ (List.getElem_mem h))
theorem ok_joined_numbers {f : Addr} {fd : FuncData} (Fd : FnP K "joined_numbers" (top 83) f fd) (hm : mg "joined_numbers" = some (.ref f)) (T : Tx K mg CR CT CY) (c1 : Cal P w K mg base "want_tally" 1 ["value"] [] (sp_want_tally CR CY)) (c2 : Cal P w K mg base "room_of" 7 ["tally"] [] (sp_room_of w CR CY)) (c3 : Cal P w K mg base "want_kept" 5 ["value", "many"] [] (sp_want_kept CR)) (c4 : Cal P w K mg base "heads_of" 1 ["room"] [] (sp_heads_of w CR)) (c5 : Cal P w K mg base "joined_by_cuts" 5 ["kept", "places", "near", "far"] [] (sp_joined_by_cuts w CR)): Cal P w K mg base "joined_numbers" 8 ["tally", "numbers", "others"] [] (sp_joined_numbers w CR CY) := cal_mk Fd hm (fok_joined_numbers Fd T c1 c2 c3 c4 c5) fun _ _ _ _ _ _ us hl => match us, hl with | [_, _, _], _ => rfl
end
end L2.K3
set_option Elab.async false
set_option linter.all false
set_option maxRecDepth 100000
set_option maxHeartbeats 2000001
/-! K3T: lists that are equal; calls by keywords. -/
namespace L2.K3.NeL
open PySem PySem.SeqAt GQ
open AutoSeq1 (wpAny_loadPart')
open MeetsSeq MeetsSeq2 MeetsSeq3 SeqRoads2
section
variable {prog : Program} {w : World} {A : Around} {R : Result → Shared → Prop} {E : Value → Shared → Prop}
/-- the loop of != over lists whose items are equal -/
theorem ne_turns (l b : Addr) (N : Nat) (I : Nat → Shared → Prop) (hl : ListI prog w A (fun e s' => R (.error e) s') l b N I) (fin : ∀ s, I N s → R (.ok (.ret (.bool false))) s) (k : Nat) :
    ∀ i : Nat, N - i = k → i ≤ N → ∀ s, I i s → wpAny (model prog w) A.in1 (Builtin.«list.__eq__.loop» ⟨[.ref l, .ref b, rawInt i, rawInt 3], []⟩) (FinOf prog w A R) (fun e s' => R (.error e) s') s := by
  induction k with
  | zero =>
    intro i hk hi s h
    obtain ⟨us, ws, n, m, hu, hw, e1, e2, _⟩ := hl _ _ h
    have hR : R (.ok (.ret (.bool false))) s := fin s ((show i = N by omega) ▸ h)
    obtain ⟨hp, g, d, tk, os⟩ := s
    wp_walk using wpAny_loadPart' hu, wpAny_loadPart' hw
    have z1 : us[((i : Nat) : Int).toNat]? = none := by simp; omega
    have z2 : ws[((i : Nat) : Int).toNat]? = none := by simp; omega
    rw [z1, z2]
    wp_walk using wpAny_loadPart' hu, wpAny_loadPart' hw
    show R (.ok (.ret (.bool (us.size != ws.size)))) _
    rw [e1, e2]
    simpa using hR
  | succ k ih =>
    intro i hk hi s h
    obtain ⟨us, ws, n, m, hu, hw, e1, e2, turn⟩ := hl _ _ h
    have g1 : i < us.size := by omega
    have g2 : i < ws.size := by omega
    have ht := turn g1 g2
    obtain ⟨hp, g, d, tk, os⟩ := s
    wp_walk using wpAny_loadPart' hu, wpAny_loadPart' hw
    have z1 : us[((i : Nat) : Int).toNat]? = some us[i] := by simp [g1]
    have z2 : ws[((i : Nat) : Int).toNat]? = some ws[i] := by simp [g2]
    have z3 : ((i : Int) + 1) = ((i + 1 : Nat) : Int) := by omega
    rw [z1, z2]
    refine wpAny_bind (wpAny_mono ht (fun r s2 q => ?_) fun _ _ x => x)
    obtain ⟨hr, q⟩ := q
    subst hr
    have hrec := ih (i + 1) (by omega) (by omega) s2 q
    obtain ⟨hp2, g2, d2, tk2, os2⟩ := s2
    wp_walk
    rw [z3]
    exact ⟨plainId_quiet plain_eq_loop _, codeAny_builtin entry_eq_loop (by rw [Around.under_plainId plain_eq_loop _]; exact hrec)⟩
theorem ne_all (l b : Addr) (N : Nat) (I : Nat → Shared → Prop) (hl : ListI prog w A (fun e s' => R (.error e) s') l b N I) (fin : ∀ s, I N s → R (.ok (.ret (.bool false))) s) {s : Shared} (h : I 0 s) :
    wpAny (model prog w) A.in1 (Builtin.«list.__ne__» ⟨[.ref l, .ref b], []⟩) (FinOf prog w A R) (fun e s' => R (.error e) s') s := by
  obtain ⟨us, ws, n, m, hu, hw, e1, e2, _⟩ := hl _ _ h
  have hrec := ne_turns (A := A) (R := R) l b N I hl fin _ 0 rfl (Nat.zero_le _) s h
  obtain ⟨hp, g, d, tk, os⟩ := s
  have f3 := AutoSeq1.sub_list_list
  have hne : ¬ (us.size != ws.size) = true := by simp [e1, e2]
  wp_walk using wpAny_loadPart' hu, wpAny_loadPart' hw
  exact ⟨plainId_quiet plain_eq_loop _, codeAny_builtin entry_eq_loop (by rw [Around.under_plainId plain_eq_loop _]; exact hrec)⟩
theorem rc_ne {l b : Addr} {N : Nat} {s : Shared} {Q : Value → Shared → Prop} (hu : A.units < cLine) (I : Nat → Shared → Prop) (hl : ListI prog w A E l b N I) (fin : ∀ s, I N s → Q (.bool false) s) (h : I 0 s) : wpAny (model prog w) A (richCompare .NotEq (.ref l) (.ref b)) Q E s := by
  obtain ⟨us, ws, n, m, h1, h2, _⟩ := hl _ _ h
  refine wpAny_richCompare_same_room (op := .NotEq) ⟨_, h1, rfl⟩ ⟨_, h2, rfl⟩ F.slot_list_ne (call_here F.slot_list_ne ⟨_, h1, rfl⟩ F.entry_list_ne (F.args_list_ne_2 _ _) ?_) hu
  exact ne_all (R := wants (fun v s' => v ≠ .notImplemented ∧ Q v s') E) l b N I hl (fun s' q => ⟨(fun x => nomatch x), fin s' q⟩) h
end
end L2.K3.NeL
namespace L2.K3
open PySem PySem.Spec PyProof.Rows
section
variable {X : Cx} {n : Nat} {D : Eqv}
def rNeG (D : Eqv) : R2 := fun x y H Q => DList D x y H ∧ ∀ H', Ext H H' → Q (.bl false) H'
theorem op_neList (hD : Mon D) (h : EqG X n D) (hr : Room (n + 1) X.A) : OpR X (compareOp .NotEq) (rNeG D) := by
  rintro pins s σ H x y u v Q I rx ry ⟨⟨a, b, xs, ys, rfl, rfl, ha, hb, p⟩, q⟩
  cases rx
  cases ry
  have sb : L2.Sub X (n + 1) X.A := ⟨hr, rfl⟩
  show wpAny (model X.prog X.w) X.A (richCompare .NotEq (.ref a) (.ref b)) _ _ s
  refine NeL.rc_ne (N := xs.length) hr.units0 (fun _ s' => LoopI X pins σ H s') (fun i s' z => ?_) (fun s' ⟨H1, I1, e1⟩ => ⟨.bl false, H1, I1, rfl, q H1 e1⟩) ⟨H, I, Ext.rfl'⟩
  obtain ⟨H1, I1, e1⟩ := id z
  obtain ⟨q1, its, k, r, e⟩ := I1.hok a _ (e1 _ _ ha)
  obtain ⟨q2, its2, k2, r2, e2⟩ := I1.hok b _ (e1 _ _ hb)
  exact ⟨its.toArray, its2.toArray, k, k2, e, e2, by rw [List.size_toArray, ← r.length], by rw [List.size_toArray, ← r2.length, ← p.1], fun h1 h2 => turnG hD h sb p r r2 i h1 h2 s' z⟩
end
/-- typed values that are equal -/
def EqT {α : Type} (T : Ty α) (D : Eqv) : Prop := ∀ {F H : Hp} {v w : V} {x : α}, Ext F H → T.t F v x → T.t F w x → D v w H
theorem eqT_all {α : Type} {T : Ty α} {D : Eqv} (h : EqT T D) {F H : Hp} (e : Ext F H) : ∀ {vs ws : List V} {xs : List α}, Paired (T.t F) vs xs → Paired (T.t F) ws xs → Prs D vs ws H
  | _, _, _, .nil, .nil => Prs.nil
  | _, _, _, .cons p q, .cons r s => Prs.cons (h e p r) (eqT_all h e q s)
theorem eqT_lst {α : Type} {T : Ty α} {D : Eqv} (h : EqT T D) : EqT (tLst T) (DList D) := fun e ⟨a, vs, e1, h1, h2⟩ ⟨b, ws, e2, k1, k2⟩ => ⟨a, b, vs, ws, e1, e2, e _ _ h1, e _ _ k1, eqT_all h e h2 k2⟩
theorem Stp.ext {M : Mem} {F H H' : Hp} (fh : Ext F H) (ce : Cells F H M) (e : Ext H H') : Stp M F H F H' := ⟨Ext.rfl', fh.trans e, fun a o _ h => e a o h, fun a o h => .inl (by rw [h]; exact fun q => nomatch q), ⟨ce.nd, fun p hp => by
  obtain ⟨f0, o, ho, hc⟩ := ce.mem p hp
  exact ⟨f0, o, e _ _ ho, hc⟩⟩⟩
section
variable {X : Cx} {Γ : Gam} {M : Mem} {a b : Expr} {pos : Pos} {n : Nat} {D : Eqv} {α : Type} {T : Ty α} {xs : List α}
theorem ev_eqLst (hD : Mon D) (h : EqG X n D) (hr : Room (n + 1) X.A) (ht : EqT T D) (ha : Ev X Γ M a ((tLst T).is xs)) (hb : Ev X Γ M b ((tLst T).is xs)) : Ev X Γ M (.Compare a [.Eq] [b] pos) (tBool.is true) :=
  ev_cmp (op_eqG (rcG_list hD h) hr) ha hb fun F H v w fh ce pv pw Q k => ⟨eqT_lst ht fh pv pw, fun H' e => k F H' _ (Stp.ext fh ce e) rfl⟩
theorem et_neLst (hD : Mon D) (h : EqG X n D) (hr : Room (n + 1) X.A) (ht : EqT T D) (ha : Ev X Γ M a ((tLst T).is xs)) (hb : Ev X Γ M b ((tLst T).is xs)) : EvT X Γ M (.Compare a [.NotEq] [b] pos) false :=
  et_cmp (op_neList hD h hr) ha hb fun F H v w fh ce pv pw Q k => ⟨eqT_lst ht fh pv pw, fun H' e => k F H' _ (Stp.ext fh ce e) rfl⟩
end
/-! ## calls by keywords alone, all of them, in the reverse order -/
structure CalKw (P : Program) (w : World) (K : PySem.W.Frag) (mg : Str → Option Value) (base : Heap) (x : Str) (k : Nat) (ps : List Str) (sp : Sp) : Prop where
  ex : ∃ (f : Addr) (fd : FuncData), FnOk P w K mg base CX0 k f fd ps sp ∧ mg x = some (.ref f) ∧ PySem.W.keepIn K (.ref f) = true ∧ ∀ (s : Shared) (us : List Value), K.In s.heap → us.length = ps.length → BindsTo s fd ⟨[], ps.reverse.zip us⟩ (ps.zip us.reverse)
/-- the values of keywords -/
def EvKw (X : Cx) (Γ : Gam) (M : Mem) (kws : List Keyword) (Ps : List MP) : Prop := ∀ (σ : St) (F H : Hp), EnvOk F σ Γ → Ext F H → Cells F H M → ∀ Q : List V → Hp → Prop, (∀ F' H' vs, Stp M F H F' H' → Paired (fun (v : V) (P : MP) => P.p F' v) vs Ps → Q vs H') → wK X kws σ H Q
section
variable {X : Cx} {Γ : Gam} {M : Mem} {e : Expr} {kws : List Keyword} {Ps : List MP} {P R : MP} {pos p kpos : Pos} {nm : Option Str}
theorem pk_w : PK X kws (wK X kws) := ⟨fun pos pins s σ H Q I h => h pos pins s I⟩
theorem wK_of {t : TA} {σ : St} {H : Hp} {Q : List V → Hp → Prop} (h : PK X kws t) (q : t σ H Q) : wK X kws σ H Q := fun pos pins s I => h.run pos pins s σ H Q I q
theorem ek_nil : EvKw X Γ M [] [] := fun σ F H eo fh ce Q k => wK_of pk_nil (k F H [] (Stp.refl fh ce) .nil)
theorem ek_cons (he : Ev X Γ M e P) (hr : EvKw X Γ M kws Ps) : EvKw X Γ M (⟨nm, e, kpos⟩ :: kws) (P :: Ps) := fun σ F H eo fh ce Q k => by
  refine wK_of (pk_cons pe_w pk_w) ?_
  refine he σ F H eo fh ce _ fun F1 H1 v s1 pv => ?_
  refine hr σ F1 H1 (eo.mono s1.ff) s1.fh s1.ce _ fun F2 H2 vs s2 pvs => ?_
  exact k F2 H2 (v :: vs) (s1.trans s2) (.cons (P.mono s2.ff pv) pvs)
theorem paired_rev {α β : Type} {R : α → β → Prop} : ∀ {l : List α} {m : List β}, Paired R l m → Paired R l.reverse m.reverse
  | _, _, .nil => .nil
  | _, _, .cons p q => by
    rw [List.reverse_cons, List.reverse_cons]
    exact paired_app (paired_rev q) (.cons p .nil)
theorem vals_rev {vs : List V} {us : List Value} (h : Vals vs us) : Vals vs.reverse us.reverse := paired_rev h
theorem ev_callKw {ι : Type} {pre : ι → Prop} {M0 : ι → Mem} {As : ι → List MP} {RR : ι → MP} {x : Str} {k : Nat} {ps : List Str} (c : CalKw X.prog X.w X.K X.mg X.base x k ps (spT pre M0 As RR)) (hr : Room k X.A) (i : ι) (hk : EvKw X Γ M kws Ps) (hp : pre i) (hA : As i = Ps.reverse := by rfl) (hR : RR i = R := by rfl)
    (hnd : ((M0 i).map (·.1)).Nodup := by exact List.nodup_nil) (hM : ∀ q ∈ M0 i, q ∈ M := by exact fun _ h => nomatch h) (hg : Gl X x := by rfl) (hall : (backToKw pos (keywordEach kws X.env)).all (·.1.isSome) = true := by rfl) (hks : (backToKw pos (keywordEach kws X.env)).filterMap (·.1) = ps.reverse := by rfl)
    (hdb : (x == ("__debug__" : Str)) = false := by decide) (hpl : ((backTo pos (starEach [] X.env)).any (·.1) || (backToKw pos (keywordEach kws X.env)).any (·.1.isNone)) = false := by rfl) : Ev X Γ M (.Call (.Name x p) [] kws pos) R := fun σ F H eo fh ce Q kk pins s I => by
  obtain ⟨f, fd, G, hm, kp, b⟩ := c.ex
  refine wpAny_Call_Name_kw (ld_glob I hg hm ?_ hdb)
  refine PySem.W.callWith_KW0 (h₀ := X.base) I.ok.mod.kin kp hall ?_ hpl
  refine thn (hk σ F H eo fh ce (fun vs H1 => ∃ F1, Stp M F H F1 H1 ∧ Paired (fun (v : V) (P : MP) => P.p F1 v) vs Ps) (fun F' H' vs st pvs => ⟨F', st, pvs⟩) pos pins s I) fun us s1 ⟨vs, H1, I1, r, F1, st, pvs⟩ => ⟨I1.kIn, ?_⟩
  rw [hks, List.append_nil]
  have hsp : spT pre M0 As RR vs.reverse H1 Q E0 := ⟨i, F1, hp, by rw [hA]; exact paired_rev pvs, st.fh, ⟨hnd, fun q hq => st.ce.mem q (hM q hq)⟩, fun F' H' v st2 pv => kk F' H' v (st.trans (st2.up st.ce hM)) (by rw [← hR]; exact pv)⟩
  have hl : us.length = ps.length := by
    have h1 := G.len _ _ _ _ hsp
    rw [List.length_reverse, r.length] at h1
    exact h1
  refine wpAny_call (codeAny_mono (G.run X.A X.stack s1 H1 ⟨[], ps.reverse.zip us⟩ us.reverse vs.reverse Q E0 hr I1.env0 (b s1 us I1.kIn hl) (vals_rev r) hsp) fun r s' hq => ?_)
  cases r with
  | error e => exact False.elim hq
  | ok fl =>
    cases fl with
    | ret u => exact I1.after hq
    | next => exact False.elim hq
    | brk => exact False.elim hq
    | cont => exact False.elim hq
end
section
variable {P : Program} {w : World} {K : PySem.W.Frag} {mg : Str → Option Value} {base : Heap}
theorem calKw_mk {x qual : Str} {params : Arguments} {body : List Stmt} {scope : Scope} {f : Addr} {fd : FuncData} {ps : List Str} {k : Nat} {sp : Sp} (Fd : FunD K x qual params body scope [] [] f fd) (hm : mg x = some (.ref f)) (h : FnOk P w K mg base CX0 k f fd ps sp)
    (b : ∀ (kV doc pm : Value) (an : Option Addr) (cdv ct : Value) (us : List Value), us.length = ps.length → bindArgs (PySem.W.fnOf x qual params body scope .none kV doc pm an cdv ct) ⟨[], ps.reverse.zip us⟩ = pure (ps.zip us.reverse)) : CalKw P w K mg base x k ps sp := by
  refine ⟨f, fd, h, hm, Fd.kp, ?_⟩
  obtain ⟨oc, od, dV, kV, doc, pm, an, cdv, ct, osl, rfl, lk, hcd, hD, hK⟩ := Fd.ex
  rcases hD with ⟨_, rfl⟩ | ⟨e, _⟩
  · exact fun s us _ hl => .of_eq (b kV doc pm an cdv ct us hl)
  · exact absurd rfl e
end
end L2.K3
set_option Elab.async false
set_option linter.all false
set_option maxRecDepth 100000
set_option maxHeartbeats 2000001
/-! K3U: the pot: a list of two whole numbers that changes; values that are not told; new cells as results. -/
namespace L2.K3
open PySem PySem.Spec PyProof.Rows
/-- the list [a, b] -/
def cAB (a b : Int) : CP := ⟨fun _ o => o = .lst [.int a, .int b], fun _ h => h⟩
def cPot : CP := ⟨fun _ o => ∃ a b : Int, 0 ≤ a ∧ 0 ≤ b ∧ b < 4294967296 ∧ o = .lst [.int a, .int b], fun _ h => h⟩
section
variable {X : Cx} {E : En} {D : Ends} {Γ Γ' : Gam} {M : Mem} {e o i1 a b : Expr} {es : List Expr} {rest sts : List Stmt} {pos pos' p p2 : Pos} {P P' R : MP} {l : Addr} {x y : Int} {sl : List Nat}
/-- the pot laid open -/
theorem g_openC (j : Nat) (hj : M[j]? = some (l, cPot)) (k : ∀ a b : Int, 0 ≤ a → 0 ≤ b → b < 4294967296 → G E X sts Γ (M.set j (l, cAB a b)) D) : G E X sts Γ M D := fun σ H F s => by
  obtain ⟨f0, o, ho, a, b, h1, h2, h3, rfl⟩ := s.ce.mem (l, cPot) (List.mem_of_getElem? hj)
  exact k a b h1 h2 h3 σ H F (s.chg hj Ext.rfl' s.fh (fun _ _ _ h => h) (fun a o h => .inl (by rw [h]; exact fun q => nomatch q)) ⟨by simp, fun q hq => by rw [List.mem_singleton.mp hq]; exact ⟨f0, _, ho, rfl⟩⟩)
theorem g_shutC (j : Nat) (hj : M[j]? = some (l, cAB x y)) (hx : 0 ≤ x) (hy : 0 ≤ y) (hy2 : y < 4294967296) (k : G E X sts Γ (M.set j (l, cPot)) D) : G E X sts Γ M D := g_seeC (c' := cPot) j hj (fun F o h => ⟨x, y, hx, hy, hy2, h⟩) k
theorem ev_ab {z n : Int} (j : Nat) (hj : M[j]? = some (l, cAB x y)) (ho : Ev X Γ M o (mpRef l)) (hi : Ev X Γ M i1 (tInt.is n)) (hz : atI [V.int x, V.int y] n = some (.int z)) (hs : PlainIx i1 := by exact fun _ _ => rfl) : Ev X Γ M (.Subscript o i1 pos) (tInt.is z) :=
  ev_ix ix_list ho hi (fun F H v w fh ce pv pw Q k => by
    obtain ⟨_, ob, h1, h2⟩ := ce.mem _ (List.mem_of_getElem? hj)
    cases (show ob = .lst [.int x, .int y] from h2)
    exact ⟨l, _, n, _, pv, pw, SqL.of h1, hz, k F H _ (Stp.refl fh ce) rfl⟩) hs
/-- pot[0], name = a pair -/
theorem g_abPair {k0 : Nat} {n0 : Expr} {u v : Int} (j : Nat) (hj : M[j]? = some (l, cAB x y)) (he : Ev X Γ M e ((tPr tInt tInt).is (u, v))) (ho : Ev X Γ M o (mpRef l)) (hi : Ev X Γ (M.set j (l, cAB x y)) i1 (tInt.is 0)) (hb : Bd X n0 (tInt.is v) Γ Γ' sl)
    (k : G E X rest Γ' (M.set j (l, cAB u y)) D) (hc : X.calm = true := by rfl)
    (ha : ∀ w, assign (.Subscript o i1 p) X.env w = (do
      let ov ← holding [w] (eval o X.env)
      let iv ← holding [w, ov] (eval i1 X.env)
      standAt p
      holding [w, ov, iv] (setItem ov iv w)
      release [w, ov, iv] []) := by intro _; rfl)
    (hs : swapsWithSole [.Tuple [.Subscript o i1 p, n0] k0 p2] e pos.line X.env = pure false := by rfl) (hw : swappedStores [.Tuple [.Subscript o i1 p, n0] k0 p2] e X.env = pure none := by rfl)
    (h1 : (assignEach [.Tuple [.Subscript o i1 p, n0] k0 p2] X.env).map (·.2) = [assign (.Tuple [.Subscript o i1 p, n0] k0 p2) X.env] := by rfl)
    (hn : (assignEach [.Subscript o i1 p, n0] X.env).length = 2 := by rfl) (hst : (assignEach [.Subscript o i1 p, n0] X.env).findIdx? (·.1) = none := by rfl)
    (hA : (assignEach [.Subscript o i1 p, n0] X.env).map (·.2) = assign (.Subscript o i1 p) X.env :: (assignEach [n0] X.env).map (·.2) := by rfl) (hB : (assignEach [n0] X.env).map (·.2) = assign n0 X.env :: (assignEach [] X.env).map (·.2) := by rfl) :
    G E X (.Assign [.Tuple [.Subscript o i1 p, n0] k0 p2] e pos :: rest) Γ M D := fun σ H F s => by
  have hjl : j < M.length := (List.getElem?_eq_some_iff.mp hj).1
  have e0 : M.set j (l, cAB x y) = M := by
    rw [← (List.getElem?_eq_some_iff.mp hj).2]
    exact List.set_getElem_self hjl
  rw [e0] at hi
  refine wSs_of (pss_cons (ps_asg pe_w pg_w hs hw h1) pss_w) ?_
  refine he σ F H s.env s.fh s.ce _ fun F1 H1 w t pw => ?_
  have s1 := s.step t
  obtain ⟨q, v1, v2, rfl, hq, w1, w2⟩ := pw
  cases (show v1 = V.int u from w1)
  refine wG_of (pg_tup (n := 2) hc (pgs_cons (pg_sub pe_w pe_w set_list ha) (pgs_cons pg_w pgs_nil hB) hA) hn hst) ⟨q, [.int u, v2], rfl, SqT.of (s1.fh _ _ hq), rfl, ?_⟩
  refine ⟨_, _, rfl, ?_⟩
  refine ho σ F1 H1 s1.env s1.fh s1.ce _ fun F2 H2 ov t2 po => ?_
  have s2 := s1.step t2
  refine hi σ F2 H2 s2.env s2.fh s2.ce _ fun F3 H3 iv t3 pi => ?_
  have s3 := s2.step t3
  cases (show ov = V.ref l from po)
  cases (show iv = V.int 0 from pi)
  obtain ⟨f0, ob, h2, h3⟩ := s3.ce.mem _ (List.mem_of_getElem? hj)
  cases (show ob = .lst [.int x, .int y] from h3)
  refine ⟨l, _, 0, 0, rfl, rfl, h2, rfl, ?_⟩
  have s4 := s3.put (c' := cAB u y) (o' := .lst [.int u, .int y]) hj rfl
  refine ⟨_, _, rfl, ?_⟩
  exact hb σ F3 _ v2 s4.env s4.fh ((tInt.is v).mono (t2.ff.trans t3.ff) w2) _ fun σ' eo' _ => ⟨rfl, k σ' _ F3 ⟨eo', s4.fh, s4.ce, s4.st, s4.own, s4.wm, s4.bs⟩⟩
/-- pot[1] = e -/
theorem g_ab1 {u : Int} (j : Nat) (hj : M[j]? = some (l, cAB x y)) (he : Ev X Γ M e (tInt.is u)) (ho : Ev X Γ M o (mpRef l)) (hi : Ev X Γ M i1 (tInt.is 1))
    (k : G E X rest Γ (M.set j (l, cAB x u)) D)
    (ha : ∀ w, assign (.Subscript o i1 p) X.env w = (do
      let ov ← holding [w] (eval o X.env)
      let iv ← holding [w, ov] (eval i1 X.env)
      standAt p
      holding [w, ov, iv] (setItem ov iv w)
      release [w, ov, iv] []) := by intro _; rfl)
    (hs : swapsWithSole [.Subscript o i1 p] e pos.line X.env = pure false := by rfl) (hw : swappedStores [.Subscript o i1 p] e X.env = pure none := by rfl)
    (h1 : (assignEach [.Subscript o i1 p] X.env).map (·.2) = [assign (.Subscript o i1 p) X.env] := by rfl) :
    G E X (.Assign [.Subscript o i1 p] e pos :: rest) Γ M D := fun σ H F s => by
  refine wSs_of (pss_cons (ps_asg pe_w (pg_sub pe_w pe_w set_list ha) hs hw h1) pss_w) ?_
  refine he σ F H s.env s.fh s.ce _ fun F1 H1 w t pw => ?_
  have s1 := s.step t
  cases (show w = V.int u from pw)
  refine ho σ F1 H1 s1.env s1.fh s1.ce _ fun F2 H2 ov t2 po => ?_
  have s2 := s1.step t2
  refine hi σ F2 H2 s2.env s2.fh s2.ce _ fun F3 H3 iv t3 pi => ?_
  have s3 := s2.step t3
  cases (show ov = V.ref l from po)
  cases (show iv = V.int 1 from pi)
  obtain ⟨f0, ob, h2, h3⟩ := s3.ce.mem _ (List.mem_of_getElem? hj)
  cases (show ob = .lst [.int x, .int y] from h3)
  refine ⟨l, _, 1, 1, rfl, rfl, h2, rfl, ?_⟩
  exact k σ _ F3 (s3.put (c' := cAB x u) (o' := .lst [.int x, .int u]) hj rfl)
/-- divmod(a, b) -/
theorem ev_divmod (ha : Ev X Γ M a (tInt.is x)) (hb : Ev X Γ M b (tInt.is y)) (h0 : 0 < y) (h1 : y < 1073741824) (hm : X.mg "divmod" = none) (hg : Gl X "divmod" := by rfl)
    (he : starEach [a, b] X.env = (false, eval a X.env) :: starEach [b] X.env := by rfl) (hpl : (backTo pos (starEach [b] X.env)).any (·.1) = false := by rfl) (he2 : starEach [b] X.env = (false, eval b X.env) :: starEach [] X.env := by rfl) :
    Ev X Γ M (.Call (.Name "divmod" p) [a, b] [] pos) ((tPr tInt tInt).is (x / y, x % y)) :=
  ev_callB call_divmod (eva_cons ha (eva_one hb he2) he) (cal2 fun F H v w fh ce pv pw Q k => ⟨x, y, by rw [show v = V.int x from pv, show w = V.int y from pw], ⟨h0, h1⟩, fun z hz => by
    have st := Stp.new (o := .tup [.int (x / y), .int (x % y)]) fh ce hz
    exact k _ _ _ st ⟨z, _, _, rfl, upd_same, rfl, rfl⟩⟩) hg hm (by decide +kernel) (by decide) (by decide) he hpl
theorem ev_abs (ha : Ev X Γ M a (tInt.is x)) (hm : X.mg "abs" = none) (hg : Gl X "abs" := by rfl) (he : starEach [a] X.env = (false, eval a X.env) :: starEach [] X.env := by rfl) (hpl : (backTo pos (starEach [] X.env)).any (·.1) = false := by rfl) :
    Ev X Γ M (.Call (.Name "abs" p) [a] [] pos) (tInt.is (if x < 0 then -x else x)) :=
  ev_callB call_abs (eva_one ha he) (cal1 fun F H v fh ce pv Q k => ⟨x, by rw [show v = V.int x from pv], k F H _ (Stp.refl fh ce) rfl⟩) hg hm (by decide +kernel) (by decide) (by decide) he hpl
theorem ev_max2 (ha : Ev X Γ M a (tInt.is x)) (hb : Ev X Γ M b (tInt.is y)) (hm : X.mg "max" = none) (hc : X.calm = true := by rfl) (hg : Gl X "max" := by rfl)
    (he : starEach [a, b] X.env = (false, eval a X.env) :: starEach [b] X.env := by rfl) (hpl : (backTo pos (starEach [b] X.env)).any (·.1) = false := by rfl) (he2 : starEach [b] X.env = (false, eval b X.env) :: starEach [] X.env := by rfl) :
    Ev X Γ M (.Call (.Name "max" p) [a, b] [] pos) (tInt.is (if y > x then y else x)) :=
  ev_callB (call_max2 hc) (eva_cons ha (eva_one hb he2) he) (cal2 fun F H v w fh ce pv pw Q k => ⟨x, y, by rw [show v = V.int x from pv, show w = V.int y from pw], k F H _ (Stp.refl fh ce) rfl⟩) hg hm (by decide +kernel) (by decide) (by decide) he hpl
theorem ev_pow (ha : Ev X Γ M a (tInt.is x)) (hb : Ev X Γ M b (tInt.is y)) (h0 : 0 ≤ y) (h1 : y ≤ 1000000) (h2 : x.natAbs < 2 ^ 64) : Ev X Γ M (.BinOp a .Pow b pos) (tInt.is (x ^ y.toNat)) := ev_op op_pow ha hb (o_intC (C := CPow) ⟨h0, h1, h2⟩)
theorem ev_mulS (ha : Ev X Γ M a (tInt.is x)) (hb : Ev X Γ M b (tInt.is y)) (hy : -(2 ^ 64) < y ∧ y < 2 ^ 64) : Ev X Γ M (.BinOp a .Mult b pos) (tInt.is (x * y)) := ev_op op_mul ha hb (o_intC (C := CMul) (.inr hy))
theorem ev_fdivS (ha : Ev X Γ M a (tInt.is x)) (hb : Ev X Γ M b (tInt.is y)) (h0 : 0 < y) (h1 : y < 1073741824) : Ev X Γ M (.BinOp a .FloorDiv b pos) (tInt.is (x / y)) := ev_op op_fdiv ha hb (o_intC (C := CDiv) ⟨h0, h1⟩)
/-! ### values that are not told -/
theorem o2_some {α : Type} {c : α → Prop} {f : α → MP} {r : R2} (h : ∀ x, c x → Op2 M r P (f x) R) : Op2 M r P (mpSome c f) R := fun F H v w fh ce pv ⟨x, hx, pw⟩ Q k => h x hx F H v w fh ce pv pw Q k
theorem o2_some1 {α : Type} {c : α → Prop} {f : α → MP} {r : R2} (h : ∀ x, c x → Op2 M r (f x) P R) : Op2 M r (mpSome c f) P R := fun F H v w fh ce ⟨x, hx, pv⟩ pw Q k => h x hx F H v w fh ce pv pw Q k
/-- e's value stays the same where it is looked at anew -/
theorem Ev.some {α : Type} {c : α → Prop} {f : α → MP} {x : α} (h : Ev X Γ M e (f x)) (hc : c x) : Ev X Γ M e (mpSome c f) := h.imp fun F v q => ⟨x, hc, q⟩
theorem Ev.someTo {α β : Type} {c : α → Prop} {f : α → MP} {c' : β → Prop} {f' : β → MP} (h : Ev X Γ M e (mpSome c f)) (q : ∀ x F v, c x → (f x).p F v → ∃ y, c' y ∧ (f' y).p F v) : Ev X Γ M e (mpSome c' f') := h.imp fun F v ⟨x, hx, px⟩ => q x F v hx px
theorem ev_ixLS {α : Type} {T : Ty α} {xs : List α} {c : Int → Prop} (ha : Ev X Γ M a ((tLst T).is xs)) (hb : Ev X Γ M b (mpSome c tInt.is)) (h : ∀ n, c n → ∃ z, atI xs n = some z) (hs : PlainIx b := by exact fun _ _ => rfl) : Ev X Γ M (.Subscript a b pos) (mpSome (· ∈ xs) T.is) :=
  ev_ix ix_list ha hb (o2_some fun n hn F H v w fh ce pv pw Q k => by
    obtain ⟨l, vs, rfl, h1, h2⟩ := pv
    obtain ⟨y, hy⟩ := h n hn
    obtain ⟨z, hz, tz⟩ := paired_atI h2 hy
    refine ⟨l, vs, n, z, rfl, pw, SqL.of (fh _ _ h1), hz, k F H z (Stp.refl fh ce) ⟨y, ?_, tz⟩⟩
    unfold atI at hy
    obtain ⟨m, _, hm⟩ := Option.bind_eq_some_iff.mp hy
    exact List.mem_of_getElem? hm) hs
end
end L2.K3
set_option Elab.async false
set_option linter.all false
set_option maxRecDepth 100000
set_option maxHeartbeats 2000001
/-! K3V: defs whose result is a new cell; loops whose source is not told. -/
namespace L2.K3
open PySem PySem.Spec PyProof.Rows
def spN {ι : Type} (pre : ι → Prop) (As : ι → List MP) (c : Addr → CP) : Sp := fun vs H Q _ => ∃ (i : ι) (F : Hp), pre i ∧ Paired (fun (v : V) (P : MP) => P.p F v) vs (As i) ∧ Ext F H ∧
  ∀ F' H' l, Ext F F' → Ext F' H' → (∀ a o, H a = some o → H' a = some o) → (∀ a o, F' a = some o → F a ≠ none ∨ H a = none) → H l = none → Cells F' H' [(l, c l)] → Q (.ref l) H'
def DN (E : En) (c : Addr → CP) : Ends := { nx := fun _ _ => False, rt := fun v H' => ∃ l F', v = .ref l ∧ E.H0 l = none ∧ Ext F' H' ∧ StW E.F0 E.H0 E.W F' H' ∧ Cells F' H' [(l, c l)] }
section
variable {X : Cx} {E : En} {D : Ends} {Γ : Gam} {M : Mem} {e : Expr} {es : List Expr} {rest : List Stmt} {pos p : Pos} {c cc : Addr → CP} {Ps : List MP}
theorem g_retN (he : EvC X Γ M e cc) (h : ∀ F l o, (cc l).c F o → (c l).c F o) (hD : D.rt = (DN E c).rt := by rfl) : G E X (.Return (some e) pos :: rest) Γ M D := fun σ H F s => by
  refine wSs_of (pss_cons (ps_ret pe_w) pss_never) ?_
  refine he σ F H s.env s.fh s.ce _ fun F1 H1 l o t hl hc => ?_
  show D.rt _ _
  rw [hD]
  have s1 := s.step t
  have s2 := s1.newc (c := cc l) hl hc
  refine ⟨l, F1, rfl, s1.h0 hl, s2.fh, s2.st, by simp, fun q hq => ?_⟩
  rw [List.mem_singleton.mp hq]
  obtain ⟨f0, o', ho, hc'⟩ := s2.ce.mem (l, cc l) List.mem_cons_self
  exact ⟨f0, o', ho, h F1 l o' hc'⟩
theorem ev_callN {ι : Type} {pre : ι → Prop} {As : ι → List MP} {x : Str} {k : Nat} {ps : List Str} (cl : Cal X.prog X.w X.K X.mg X.base x k ps [] (spN pre As c)) (hr : Room k X.A) (i : ι) (ha : EvA X Γ M (e :: es) Ps) (hp : pre i) (hA : As i = Ps := by rfl) (hg : Gl X x := by rfl)
    (hdb : (x == ("__debug__" : Str)) = false := by decide) (he : starEach (e :: es) X.env = (false, eval e X.env) :: starEach es X.env := by rfl)
    (hpl : (backTo pos (starEach es X.env)).any (·.1) = false := by rfl) : EvK X Γ M (.Call (.Name x p) (e :: es) [] pos) mpRef c := fun σ F H eo fh ce Q kk => by
  obtain ⟨f, fd, ds, Gf, hm, kp, b, hd⟩ := cl.ex
  refine wE_of (pe_call Gf hr hg hm kp b hd pass0 pa_w hdb he hpl) ?_
  refine ha σ F H eo fh ce _ fun F1 H1 vs t pvs => ?_
  rw [List.append_nil]
  refine ⟨i, F1, hp, by rw [hA]; exact pvs, t.fh, fun F' H' l ff fh' hh nw hl ce' => ?_⟩
  have ce1 := t.ce.up ff hh nw
  have hlM : l ∉ M.map (·.1) := fun q => by
    obtain ⟨r, hr, rfl⟩ := List.mem_map.mp q
    obtain ⟨_, o, ho, _⟩ := t.ce.mem r hr
    rw [hl] at ho
    cases ho
  refine kk F' H' l _ (t.ff.trans ff) fh' (fun a o ha h => hh a o (t.hh a o ha h)) (fun a o h => ?_) ?_ ⟨?_, fun q hq => ?_⟩ rfl
  · rcases nw a o h with q | q
    · cases e : F1 a with
      | none => exact absurd e q
      | some u => exact t.nw a u e
    · right
      cases e : H a with
      | none => rfl
      | some u =>
        by_cases ha : a ∈ M.map (·.1)
        · obtain ⟨r, hr, rfl⟩ := List.mem_map.mp ha
          obtain ⟨_, o', ho, _⟩ := t.ce.mem r hr
          rw [q] at ho
          cases ho
        · rw [t.hh a u ha e] at q
          cases q
  · cases e : H l with
    | none => rfl
    | some u =>
      rw [t.hh l u hlM e] at hl
      cases hl
  · rw [List.map_cons, List.nodup_cons]
    exact ⟨hlM, ce1.nd⟩
  · rcases List.mem_cons.mp hq with z | z
    · rw [z]; exact ce'.mem _ List.mem_cons_self
    · exact ce1.mem q z
/-- return f(args), some of the arguments new cells -/
theorem g_retGA {ι : Type} {pre : ι → Prop} {M0 : ι → Mem} {As : ι → List MP} {RR : ι → MP} {x : Str} {k : Nat} {ps : List Str} (cl : Cal X.prog X.w X.K X.mg X.base x k ps [] (spT pre M0 As RR)) (hr : Room k X.A)
    (ha : GA X E Γ M (e :: es) fun M' Ps => ∃ i, pre i ∧ As i = Ps ∧ ((M0 i).map (·.1)).Nodup ∧ (∀ q ∈ M0 i, q ∈ M') ∧ ∀ F v, (RR i).p F v → E.R.p F v) (hM1 : E.M1 = [] := by rfl) (hg : Gl X x := by rfl)
    (hdb : (x == ("__debug__" : Str)) = false := by decide) (he : starEach (e :: es) X.env = (false, eval e X.env) :: starEach es X.env := by rfl)
    (hpl : (backTo pos (starEach es X.env)).any (·.1) = false := by rfl) {rpos : Pos} (hD : D.rt = retOk E := by rfl) : G E X (.Return (some (.Call (.Name x p) (e :: es) [] pos)) rpos :: rest) Γ M D := fun σ H F s => by
  obtain ⟨f, fd, ds, Gf, hm, kp, b, hd⟩ := cl.ex
  refine wSs_of (pss_cons (ps_ret pe_w) pss_never) ?_
  refine wE_of (pe_call Gf hr hg hm kp b hd pass0 pa_w hdb he hpl) ?_
  refine ha σ H F s _ fun M' Ps vs H' F' kk x s' pvs => ?_
  obtain ⟨i, hp, hA, hnd, hM, hR⟩ := kk
  rw [List.append_nil]
  refine ⟨i, F', hp, by rw [hA]; exact pvs, s'.fh, ⟨hnd, fun q hq => s'.ce.mem q (hM q hq)⟩, fun F2 H2 v st pv => ?_⟩
  show D.rt v H2
  rw [hD]
  have s2 := s'.step (st.up s'.ce hM)
  exact ⟨F2, s2.fh, s2.st, ⟨by rw [hM1]; exact List.nodup_nil, fun q hq => by rw [hM1] at hq; cases hq⟩, hR F2 v pv⟩
end
section
variable {P : Program} {w : World} {K : PySem.W.Frag} {mg : Str → Option Value} {base : Heap}
theorem fn_mkN {ι : Type} {pre : ι → Prop} {As : ι → List MP} {c : Addr → CP} {x qual : Str} {params : Arguments} {body : List Stmt} {scope : Scope} {dvs : List V} {kws : List (Str × V)} {f : Addr} {fd : FuncData} {N ps : List Str} {k : Nat}
    (Fd : FunD K x qual params body scope dvs kws f fd) (S : FnScope N ps scope) (hl : ∀ i, (As i).length = ps.length)
    (hb : ∀ (cdv : Value) (A : Around) (outer : List Env) (s : Shared) (H : Hp) (E : XK) (i : ι) (F : Hp), Room k (A.deeper (envOfC qual scope s.heap.objs.size f cdv)) → pre i →
      G ⟨F, H, [], mpV .non, F⟩ (bX P w K mg base N qual scope f cdv A outer s H E) body ((As i).map some ++ List.replicate (N.length - ps.length) none) [] (DN ⟨F, H, [], mpV .non, F⟩ c)) :
    FnOk P w K mg base CX0 (k + 1) f fd ps (spN pre As c) := by
  refine Fd.ok S (fun vs H Q E h => ?_) fun cdv A outer s H vs Q E hr h => ?_
  · obtain ⟨i, F, hp, hA, _⟩ := h
    rw [← hl i]
    exact Paired.length hA
  · obtain ⟨i, F, hp, hA, fh, hq⟩ := h
    refine ⟨wSs (bX P w K mg base N qual scope f cdv A outer s H E) body, pss_w.nox, ?_⟩
    have hlen : vs.length = ps.length := (Paired.length hA).trans (hl i)
    have sta : Sta ⟨F, H, [], mpV .non, F⟩ ((As i).map some ++ List.replicate (N.length - ps.length) none) [] (start N vs) H F := by
      refine ⟨?_, fh, Cells.nil, ⟨Ext.rfl', fun _ _ _ h => h, fun a o h => .inl (by show F a ≠ none; rw [h]; exact fun q => nomatch q)⟩, (fun _ h => nomatch h), fun a ha => ha, Ext.rfl'⟩
      show EnvOk F (vs.map some ++ List.replicate (N.length - vs.length) none) _
      rw [hlen]
      exact paired_env hA _
    refine wSs_mono (hb cdv A outer s H E i F hr hp _ _ _ sta) (fun _ H' z => z.elim) (fun v H' z => ?_) (fun _ _ z => z.elim) fun _ _ z => z.elim
    obtain ⟨l, F', rfl, h1, h2, h3, h4⟩ := z
    exact hq F' H' l h3.ff h2 (fun a o h => h3.hh a o (fun q => nomatch q) h) h3.nw h1 h4
end
/-! ### loops -/
def EvIS {ι α : Type} (X : Cx) (Γ : Gam) (M : Mem) (tg iter : Expr) (T : Ty α) (c : ι → Prop) (f : ι → List α) : Prop := ∀ (σ : St) (F H : Hp), EnvOk F σ Γ → Ext F H → Cells F H M → ∀ R : It → Hp → Prop, (∀ J F' H' x, c x → Stp M F H F' H' → TW J F' T (f x) → R J H') → wI X tg iter σ H R
section
variable {X : Cx} {E : En} {Γ : Gam} {M : Mem} {D : Ends} {tg iter e : Expr} {body rest : List Stmt} {pos p : Pos} {ι α : Type} {T : Ty α} {c : ι → Prop} {f : ι → List α}
theorem evis_range1 {c : Int → Prop} (h : Ev X Γ M e (mpSome c tInt.is)) (hm : X.mg "range" = none) (hn : ∀ n, c n → 0 ≤ n ∧ n ≤ 1000000) (hg : Gl X "range" := by rfl) (hs : starEach [e] X.env = [(false, eval e X.env)] := by rfl) (hs1 : starEach [e] X.env = (false, eval e X.env) :: starEach [] X.env := by rfl) : EvIS X Γ M tg (.Call (.Name "range" p) [e] [] pos) tInt c (fun n => upF 0 n.toNat) := fun σ F H eo fh ce R k => by
  refine wI_of (pi_range1 hg hm pa_w hs) ?_
  refine (eva_one h hs1) σ F H eo fh ce _ fun F1 H1 vs s1 pvs => ?_
  obtain ⟨v, rfl, ⟨n, hc, pv⟩⟩ := paired1 pvs
  cases pv
  have := hn n hc
  exact ⟨n, rfl, by omega, by omega, k _ F1 H1 n hc s1 (tw_range (by rw [sizeLine_eq]; omega))⟩
theorem g_forS (hi : EvIS X Γ M tg iter T c f) (S : ι → Nat → Gam → Mem → Prop) (h0 : ∀ x, c x → S x 0 Γ M)
    (turn : ∀ (x : ι) (_ : c x) (B : Hp) (i : Nat) (h : i < (f x).length) (Γ' : Gam) (M' : Mem), S x i Γ' M' → ∃ Γ2 sl, Bd X tg (T.is (f x)[i]) Γ' Γ2 sl ∧ G { E with B := B } X body Γ2 M' { D with nx := StaS { E with B := B } (S x (i + 1)), ct := StaS { E with B := B } (S x (i + 1)), bk := wSs X rest D })
    (after : ∀ (x : ι) (_ : c x) (Γ' : Gam) (M' : Mem), S x (f x).length Γ' M' → G E X rest Γ' M' D) (hc : X.calm = true := by rfl) (hp : PassesOwn (model X.prog X.w) X.A X.env X.xe := by exact PassesOwn.never)
    (hs : ∀ x, foldedSetIterable iter X.env x = pure x := by intro _; rfl) : G E X (.For tg iter body [] pos :: rest) Γ M D := fun σ H F s => by
  refine wSs_of (pss_cons (ps_for hp hc pi_w pg_w pss_w hs) pss_w) ?_
  refine hi σ F H s.env s.fh s.ce _ fun J F1 H1 x hx t w => ?_
  have s1 := s.step t
  have e1 : Ext E.B F1 := s1.bs
  refine for_it (n := (f x).length) (G := fun H => ∃ F, Ext F1 F ∧ Ext F H) (Y := fun i H v H' => ∃ h : i < (f x).length, ∀ F, Ext F1 F → Ext F H → ∃ F', Stp [] F H F' H' ∧ T.t F' v (f x)[i])
    ⟨fun i H hi ⟨F, a, b⟩ => w.goes i F H hi a b, fun H ⟨F, a, b⟩ => w.stops F H a b, fun i H v H' hi _ y => ⟨hi, fun F a b => w.yields i F H H' v hi a b y⟩⟩
    (fun i σ H => StaS { E with B := F1 } (S x i) σ H) ⟨Γ, M, F1, h0 x hx, s1.base Ext.rfl'⟩ (fun i σ H _ ⟨Γ', M', F', _, q⟩ => ⟨F', q.bs, q.fh⟩) ?_ ?_
  · rintro i v σ2 H2 H3 hlt ⟨Γ', M', F2, hS, q⟩ ⟨_, y⟩
    obtain ⟨F3, st, tv⟩ := y F2 q.bs q.fh
    obtain ⟨Γ2, sl, hb, hG⟩ := turn x hx F1 i hlt Γ' M' hS
    have q2 := q.step (st.up q.ce fun _ z => nomatch z)
    refine hb σ2 F3 H3 v q2.env q2.fh tv _ fun σ' eo' _ => ?_
    exact hG σ' H3 F3 ⟨eo', q2.fh, q2.ce, q2.st, q2.own, q2.wm, q2.bs⟩
  · rintro σ2 H2 ⟨Γ', M', F2, hS, q⟩
    exact after x hx Γ' M' hS σ2 H2 F2 ⟨q.env, q.fh, q.ce, q.st, q.own, q.wm, e1.trans q.bs⟩
end
end L2.K3
set_option Elab.async false
set_option linter.all false
set_option maxRecDepth 100000
set_option maxHeartbeats 4000001
/-! FnR: the law's pot and what is drawn of it. -/
namespace L2.K3
open PySem PySem.Spec PyProof.Rows RM Sol
section
variable {X : Cx} {E : En} {D : Ends} {Γ : Gam} {M : Mem} {a b e : Expr} {rest : List Stmt} {pos p : Pos} {P : MP} {ns : List Int} {i z : Int}
theorem g_retW (he : Ev X Γ M e P) (hM : ∀ p ∈ E.M1, ∃ q ∈ M, q.1 = p.1 ∧ ∀ F o, q.2.c F o → p.2.c F o) (hR : ∀ F v, P.p F v → E.R.p F v := by exact fun _ _ h => h) (nd : (E.M1.map (·.1)).Nodup := by exact List.nodup_nil)
    (hD : D.rt = retOk E := by rfl) : G E X (.Return (some e) pos :: rest) Γ M D := fun σ H F s => by
  refine wSs_of (pss_cons (ps_ret pe_w) pss_never) ?_
  refine he σ F H s.env s.fh s.ce _ fun F' H' v t pv => ?_
  show D.rt v H'
  rw [hD]
  have s' := s.step t
  refine ⟨F', s'.fh, s'.st, ⟨nd, fun p hp => ?_⟩, hR F' v pv⟩
  obtain ⟨q, hq, e, hc⟩ := hM p hp
  obtain ⟨f0, o, ho, co⟩ := s'.ce.mem q hq
  rw [← e]
  exact ⟨f0, o, ho, hc _ _ co⟩
theorem ev_lenS (ha : Ev X Γ M a ((tScr X.K).is ns)) (hm : X.mg "len" = none) (hg : Gl X "len" := by rfl) (he : starEach [a] X.env = (false, eval a X.env) :: starEach [] X.env := by rfl) (hpl : (backTo pos (starEach [] X.env)).any (·.1) = false := by rfl) :
    Ev X Γ M (.Call (.Name "len" p) [a] [] pos) (tInt.is (ns.length : Int)) :=
  ev_callB call_len_seq (eva_one ha he) (cal1 fun F H v fh ce ⟨l, e1, h1⟩ Q k => ⟨l, ns.map V.int, by rw [e1], .inl (h1.ext fh), k F H _ (Stp.refl fh ce) (by rw [List.length_map] <;> rfl)⟩) hg hm PySem.boot_len (by decide) (by decide) he hpl
theorem atI_map {α β : Type} {f : α → β} {xs : List α} {i : Int} {x : α} (h : atI xs i = some x) : atI (xs.map f) i = some (f x) := by
  unfold atI at h ⊢
  rw [List.length_map]
  obtain ⟨m, h1, h2⟩ := Option.bind_eq_some_iff.mp h
  rw [h1, Option.bind_some, List.getElem?_map, h2] <;> rfl
theorem ev_ixS (ha : Ev X Γ M a ((tScr X.K).is ns)) (hb : Ev X Γ M b (tInt.is i)) (h : atI ns i = some z) (hs : PlainIx b := by exact fun _ _ => rfl) : Ev X Γ M (.Subscript a b pos) (tInt.is z) :=
  ev_ix ix_list ha hb (fun F H v w fh ce pv pw Q k => by
    obtain ⟨l, rfl, h1⟩ := pv
    exact ⟨l, ns.map V.int, i, .int z, rfl, pw, h1.ext fh, atI_map h, k F H _ (Stp.refl fh ce) rfl⟩) hs
end
section
variable {P : Program} {w : World} {K : PySem.W.Frag} {mg : Str → Option Value} {base : Heap} {CR CT CY : Addr}
abbrev sp_pot (K : PySem.W.Frag) : Sp := spN (fun _ : List Int => True) (fun ns => [(tScr K).is ns, tInt.is 0]) (fun _ => cPot)
theorem sc_pot : FnScope ["_law_script", "_law_k", "_law_cell"] ["_law_script", "_law_k"] (defScope (top 85)) := ⟨rfl, rfl, rfl, by decide +kernel, rfl, by decide +kernel, by decide +kernel⟩
theorem ok_pot {f : Addr} {fd : FuncData} (Fd : FnP K "_law_pot" (top 85) f fd) (hm : mg "_law_pot" = some (.ref f)) (T : Tx K mg CR CT CY) : Cal P w K mg base "_law_pot" 1 ["_law_script", "_law_k"] [] (sp_pot K) := by
  refine cal_mk Fd hm (fn_mkN Fd sc_pot (fun _ => rfl) fun cdv A outer s H E ns F hr hp => ?_) fun _ _ _ _ _ _ us hl => match us, hl with | [_, _], _ => rfl
  have nd := sc_pot.nd
  have fin : ∀ n : Int, 0 ≤ n → G ⟨F, H, [], mpV .non, F⟩ (bX P w K mg base ["_law_script", "_law_k", "_law_cell"] "_law_pot" (defScope (top 85)) f cdv A outer s H E) ((defBody (top 85)).drop 2) [some ((tScr K).is ns), some (tInt.is 0), some (tInt.is n)] [] (DN ⟨F, H, [], mpV .non, F⟩ fun _ => cPot) := fun n hn => by
    refine g_retN (evc_list (T := tInt) (xs := [if n - 10 ^ (18 : Int).toNat > 0 then n - 10 ^ (18 : Int).toNat else 0, ((n % 2147483549 * 39373 + 6079 * 0 + 881) % 2147483563 + 1)]) (eva_cons (ev_max2 ev_int (ev_sub (ev_name 2 rfl) (ev_pow ev_int ev_int (by decide) (by decide) (by decide))) T.g) (eva_one (ev_add (ev_mod (ev_inti (ev_add (ev_add (ev_mulS (ev_mod (ev_inti (ev_name 2 rfl) T.f) ev_int (by decide)) ev_int (by decide)) (ev_mulS ev_int (ev_name 1 rfl) (by decide))) ev_int) T.f) ev_int (by decide)) ev_int))) (by simp)) (fun F l o h => ?_)
    obtain ⟨vs, rfl, h2, _⟩ := h
    cases h2 with
    | cons p q =>
      cases q with
      | cons p' q =>
        cases q
        refine ⟨_, _, ?_, ?_, ?_, by rw [show _ = V.int _ from p, show _ = V.int _ from p']⟩
        · split <;> omega
        · omega
        · omega
  refine g_set 2 (ev_add (ev_mulS ev_int (ev_name 1 rfl) (by decide)) ev_int) ?_ nd
  refine g_if (x := decide ((0 : Int) < (ns.length : Int))) (et_lt (ev_name 1 rfl) (ev_lenS (ev_name 0 rfl) T.f)) (fun h => ?_) (fun _ => g_end (fin _ (by decide)))
  have h0 : 0 < ns.length := by have := of_decide_eq_true h; omega
  refine g_set 2 (ev_abs (ev_ixS (i := 0) (z := ns[0]) (ev_name 0 rfl) (ev_name 1 rfl) (by
    have e : ns[0]? = some ns[0] := List.getElem?_eq_getElem h0
    exact atI_nat e)) T.g) ?_ nd
  refine g_end (fin _ ?_)
  split <;> omega
/-! ### draws -/
abbrev mPot (l : Addr) : Mem := [(l, cPot)]
abbrev dBel (n : Int) (d : Int) : Prop := 0 ≤ d ∧ d < n
abbrev sp_draw : Sp := spT (fun x : Addr × Int => 0 < x.2 ∧ x.2 < 1000) (fun x => mPot x.1) (fun x => [mpRef x.1, tInt.is x.2]) fun x => mpSome (dBel x.2) tInt.is
theorem sc_draw : FnScope ["_law_pot_here", "_law_many", "_law_digit"] ["_law_pot_here", "_law_many"] (defScope (top 86)) := ⟨rfl, rfl, rfl, by decide +kernel, rfl, by decide +kernel, by decide +kernel⟩
theorem ok_draw {f : Addr} {fd : FuncData} (Fd : FnP K "_law_draw" (top 86) f fd) (hm : mg "_law_draw" = some (.ref f)) (T : Tx K mg CR CT CY) : Cal P w K mg base "_law_draw" 1 ["_law_pot_here", "_law_many"] [] sp_draw := by
  refine cal_mk Fd hm (fn_mk Fd sc_draw (fun _ => rfl) fun cdv A outer s H E x F hr hp ce => ?_) fun _ _ _ _ _ _ us hl => match us, hl with | [_, _], _ => rfl
  have nd := sc_draw.nd
  obtain ⟨l, n⟩ := x
  obtain ⟨hn, hn2⟩ := hp
  have hn' : 0 < n := hn
  have hn2' : n < 1000 := hn2
  refine g_openC 0 rfl fun a b ha hb hb2 => ?_
  refine g_if (et_gt (ev_ab (n := 0) (z := a) 0 rfl (ev_name 0 rfl) ev_int rfl) ev_int) (fun _ => ?_) (fun _ => g_end ?_)
  · refine g_abPair 0 rfl (ev_divmod (ev_ab (n := 0) (z := a) 0 rfl (ev_name 0 rfl) ev_int rfl) (ev_name 1 rfl) hn' (by omega) T.g) (ev_name 0 rfl) ev_int (bd_name 2 nd) ?_
    refine g_retW (ev_name 2 rfl) (fun p hp => ⟨_, List.mem_cons_self, ?_⟩) (fun F v h => ⟨_, ⟨Int.emod_nonneg a (by omega), Int.emod_lt_of_pos a hn'⟩, h⟩) nd_one
    rw [List.mem_singleton.mp hp]
    exact ⟨rfl, fun F o h => ⟨_, _, Int.ediv_nonneg ha (by omega), hb, hb2, h⟩⟩
  · refine g_ab1 0 rfl (ev_mod (ev_inti (ev_add (ev_mulS (ev_ab (n := 1) (z := b) 0 rfl (ev_name 0 rfl) ev_int rfl) ev_int (by decide)) ev_int) T.f) ev_int (by decide)) (ev_name 0 rfl) ev_int ?_
    generalize hc : (b * 39373 + 881) % 2147483587 = c
    have hc0 : 0 ≤ c := by omega
    have hc1 : c < 2147483587 := by omega
    refine g_retW (ev_mod (ev_inti (ev_fdivS (ev_mod (ev_inti (ev_mulS (ev_ab (n := 1) (z := c) 0 rfl (ev_name 0 rfl) ev_int rfl) (ev_ab (n := 1) (z := c) 0 rfl (ev_name 0 rfl) ev_int rfl) ⟨by omega, by omega⟩) T.f) ev_int (by decide)) ev_int (by decide) (by decide)) T.f) (ev_name 1 rfl) hn') (fun p hp => ⟨_, List.mem_cons_self, ?_⟩) (fun F v h => ⟨_, ⟨Int.emod_nonneg _ (by omega), Int.emod_lt_of_pos _ hn'⟩, h⟩) nd_one
    rw [List.mem_singleton.mp hp]
    exact ⟨rfl, fun F o h => ⟨_, _, ha, hc0, by omega, h⟩⟩
end
end L2.K3
set_option Elab.async false
set_option linter.all false
set_option maxRecDepth 100000
set_option maxHeartbeats 2000001
/-! K3W: append and instances of values that are not told. -/
namespace L2.K3
open PySem PySem.Spec PyProof.Rows
section
variable {X : Cx} {E : En} {D : Ends} {Γ : Gam} {M : Mem} {e : Expr} {es : List Expr} {rest : List Stmt} {pos p : Pos} {α ι : Type} {T : Ty α} {xs : List α} {c : α → Prop}
theorem g_appS {ap cp : Pos} {o : Expr} (j : Nat) {l : Addr} (ho : Ev X Γ M o (mpRef l)) (he : Ev X Γ M e (mpSome c T.is)) (hj : M[j]? = some (l, cLst T xs)) (k : ∀ x, c x → G E X rest Γ (M.set j (l, cLst T (xs ++ [x]))) D) (hn : xs.length < 1000000 := by decide)
    (hs : swapsWith (.Call (.Attribute o "append" ap) [e] [] cp) none pos.line X.env = pure false := by rfl)
    (he2 : starEach [e] X.env = (false, eval e X.env) :: starEach [] X.env := by rfl) (hbase : attributeBase o "append" X.env (eval o X.env) = eval o X.env := by rfl)
    (hfew : ((backTo cp (starEach [e] X.env)).all (fun x => !x.1) && (backToKw cp (keywordEach [] X.env)).all (fun x => x.1.isSome)
      && decide (([e] : List Expr).length + ([] : List Keyword).length + (if ([] : List Keyword).isEmpty then 0 else 1) < 30)) = true := by rfl)
    (hline : (ap.endLine == cp.line) = true := by rfl) (hplain : (backTo cp (starEach [] X.env)).any (·.1) = false := by rfl) : G E X (.Expr (.Call (.Attribute o "append" ap) [e] [] cp) pos :: rest) Γ M D := fun σ H F s => by
  refine wSs_of (pss_cons (ps_expr (pe_bm PySem.F.plainAttrs_list PySem.F.slot_list_append PySem.F.type_list_append mt_append pe_w pa_w hbase hfew hline he2 hplain) hs) pss_w) ?_
  refine ho σ F H s.env s.fh s.ce _ fun F1 H1 v t1 pv => ?_
  have s1 := s.step t1
  cases (show v = V.ref l from pv)
  obtain ⟨f0, ob, hl, vs, rfl, h2, h3⟩ := s1.ce.mem (l, cLst T xs) (List.mem_of_getElem? hj)
  refine ⟨.inl ⟨rfl, vs, SqL.of hl⟩, ?_⟩
  refine (eva_one he he2) σ F1 H1 s1.env s1.fh s1.ce _ fun F2 H2 us t2 pus => ?_
  have s2 := s1.step t2
  obtain ⟨w, rfl, x, hx, pw⟩ := paired1 pus
  obtain ⟨f0, ob, hl, vs, rfl, h2, h3⟩ := s2.ce.mem (l, cLst T xs) (List.mem_of_getElem? hj)
  refine ⟨l, vs, w, rfl, rfl, hl, by rw [paired_len h2, sizeLine_eq]; omega, ?_⟩
  exact k x hx σ _ F2 (s2.put hj ⟨vs ++ [w], rfl, paired_snoc h2 pw, by rw [List.length_append, paired_len h2, List.length_singleton]; omega⟩)
theorem ev_makeS {Ps : List MP} {R : MP} {C : Addr} {pre : ι → Prop} {As : ι → List MP} {fts : ι → List (Str × MP)} {x : Str} {k : Nat} {ps : List Str} {dvs : List V} (c : CalC X.prog X.w X.K X.mg X.base x C k ps dvs (spI C pre As fts)) (hr : Room (k + 1) X.A) (ha : EvA X Γ M (e :: es) Ps)
    (hi : ∀ F vs, Paired (fun (v : V) (P : MP) => P.p F v) vs Ps → ∃ i, pre i ∧ Paired (fun (v : V) (P : MP) => P.p F v) (vs ++ dvs) (As i) ∧ ∀ F' v, (mpIns C (fts i)).p F' v → R.p F' v) (hg : Gl X x := by rfl)
    (hdb : (x == ("__debug__" : Str)) = false := by decide) (he : starEach (e :: es) X.env = (false, eval e X.env) :: starEach es X.env := by rfl)
    (hpl : (backTo pos (starEach es X.env)).any (·.1) = false := by rfl) : Ev X Γ M (.Call (.Name x p) (e :: es) [] pos) R := fun σ F H eo fh ce Q kk => by
  obtain ⟨f, fd, ds, G, hm, mk, b, hds⟩ := c.ex
  refine wE_of (pe_make mk G hr hg hm b hds pass0 pa_w hdb he hpl) ?_
  refine ha σ F H eo fh ce _ fun F1 H1 vs s1 pvs => ?_
  obtain ⟨i, hp, hA, hR⟩ := hi F1 vs pvs
  intro y dy hy hdy hne
  have hH : ∀ a o, H1 a = some o → upd (upd H1 dy (.own y)) y (.ins C dy []) a = some o := fun a o h => by
    rw [upd_ne (ne_of_none h hy), upd_ne (ne_of_none h hdy)]
    exact h
  refine ⟨i, F1, y, vs ++ dvs, rfl, hp, hA, fun a o h => hH a o (s1.fh a o h), ext_none s1.fh hy, ⟨dy, upd_same⟩, fun F' H' h1 h2 h3 h4 h5 => ⟨rfl, ?_⟩⟩
  obtain ⟨f0, o, ho, hc⟩ := h5.mem (y, cIns C (fts i)) List.mem_cons_self
  have fe : Ext F' (upd F' y o) := Ext.upd f0
  have hh : ∀ a u, H1 a = some u → H' a = some u := fun a u h => h3 a u (ne_of_none h hy) (hH a u h)
  have nw : ∀ a u, F' a = some u → F1 a ≠ none ∨ H1 a = none := fun a u h => by
    rcases h4 a u h with q | q
    · exact .inl q
    · right
      cases e : H1 a with
      | none => rfl
      | some z => rw [hH a z e] at q; cases q
  have nw2 : ∀ a u, upd F' y o a = some u → F1 a ≠ none ∨ H1 a = none := fun a u h => by
    by_cases ha : a = y
    · rw [ha]; exact .inr hy
    · rw [upd_ne ha] at h
      exact nw a u h
  have st : Stp M F1 H1 (upd F' y o) H' := by
    refine ⟨h1.trans fe, fun a u h => ?_, fun a u _ h => hh a u h, nw2, s1.ce.up (h1.trans fe) hh nw2⟩
    by_cases ha : a = y
    · subst ha
      rw [upd_same] at h
      cases h
      exact ho
    · rw [upd_ne ha] at h
      exact h2 a u h
  exact kk _ H' _ (s1.trans st) (hR _ _ ⟨y, o, rfl, upd_same, (cIns C (fts i)).mono fe hc⟩)
end
/-- a cell that was no cell of the caller -/
theorem notW {F H : Hp} {l l0 : Addr} {c : CP} (ce : Cells F H [(l0, c)]) (h : H l = none) : l ∉ [l0] := fun q => by
  rw [List.mem_singleton.mp q] at h
  obtain ⟨_, o, ho, _⟩ := ce.mem _ List.mem_cons_self
  have ho' : H l0 = some o := ho
  rw [h] at ho'
  cases ho'
/-- g_ret with a value that is not told: what stands in slot i -/
theorem ev_nameS {X : Cx} {Γ : Gam} {M : Mem} {pos : Pos} {α : Type} {c : α → Prop} {f : α → MP} {x : α} (i : Nat) {y : Str} (hc : c x) (hΓ : Γ[i]? = some (some (f x))) (hN : X.N[i]? = some y := by rfl) (hv : Vis X.env.scope y := by first | exact Or.inl rfl | exact Or.inr (Or.inl rfl) | exact Or.inr (Or.inr rfl))
    (hd : (y == ("__debug__" : Str)) = false := by decide) (hcd : (y == ("__classdict__" : Str)) = false := by decide) : Ev X Γ M (.Name y pos) (mpSome c f) := (ev_name i hΓ hN hv hd hcd).some hc
end L2.K3
set_option Elab.async false
set_option linter.all false
set_option maxRecDepth 100000
set_option maxHeartbeats 4000001
/-! FnS: the law's draws: letters, words, rows. -/
namespace L2.K3
open PySem PySem.Spec PyProof.Rows RM Sol
section
variable {P : Program} {w : World} {K : PySem.W.Frag} {mg : Str → Option Value} {base : Heap} {CR CT CY : Addr}
abbrev CalDr (P : Program) (w : World) (K : PySem.W.Frag) (mg : Str → Option Value) (base : Heap) : Prop := Cal P w K mg base "_law_draw" 1 ["_law_pot_here", "_law_many"] [] sp_draw
abbrev sp_pick {α : Type} (T : Ty α) : Sp := spT (fun x : Addr × List α => x.2 ≠ [] ∧ x.2.length < 1000) (fun x => mPot x.1) (fun x => [mpRef x.1, (tLst T).is x.2]) fun x => mpSome (· ∈ x.2) T.is
theorem sc_pick : FnScope ["_law_pot_here", "_law_some"] ["_law_pot_here", "_law_some"] (defScope (top 87)) := ⟨rfl, rfl, rfl, by decide +kernel, rfl, by decide +kernel, by decide +kernel⟩
theorem ok_pick {α : Type} (Te : Ty α) {f : Addr} {fd : FuncData} (Fd : FnP K "_law_pick" (top 87) f fd) (hm : mg "_law_pick" = some (.ref f)) (T : Tx K mg CR CT CY) (c1 : CalDr P w K mg base) : Cal P w K mg base "_law_pick" 2 ["_law_pot_here", "_law_some"] [] (sp_pick Te) := by
  refine cal_mk Fd hm (fn_mk Fd sc_pick (fun _ => rfl) fun cdv A outer s H E x F hr hp ce => ?_) fun _ _ _ _ _ _ us hl => match us, hl with | [_, _], _ => rfl
  obtain ⟨l, xs⟩ := x
  obtain ⟨hne, hlt⟩ := hp
  have hlt' : xs.length < 1000 := hlt
  have h0 : 0 < xs.length := List.length_pos_iff.mpr hne
  refine g_ret (ev_ixLS (xs := xs) (ev_name 1 rfl) (ev_callI (R := mpSome (dBel (xs.length : Int)) tInt.is) c1 hr (l, (xs.length : Int)) (eva_cons (ev_name 0 rfl) (eva_one (ev_lenL (xs := xs) (ev_name 1 rfl) T.f))) ⟨by show (0 : Int) < (xs.length : Int); omega, by show (xs.length : Int) < 1000; omega⟩ rfl rfl nd_one (fun p hp => hp)) fun n hn => ?_) (fun F v h => h) (fun p hp => hp) nd_one
  obtain ⟨m, rfl⟩ := Int.eq_ofNat_of_zero_le hn.1
  have hm : m < xs.length := by have := hn.2; omega
  exact ⟨xs[m], atI_nat (List.getElem?_eq_getElem hm)⟩
/-! ### letters -/
abbrev CalPk (P : Program) (w : World) (K : PySem.W.Frag) (mg : Str → Option Value) (base : Heap) : Prop := Cal P w K mg base "_law_pick" 2 ["_law_pot_here", "_law_some"] [] (sp_pick tInt)
abbrev LetD (c : Int) (x : Letter) : Prop := (x.length : Int) = c ∧ ∀ y ∈ x, 0 ≤ y ∧ y ≤ 2
abbrev sp_letter : Sp := spT (fun x : Addr × Int => 0 ≤ x.2 ∧ x.2 ≤ 3) (fun x => mPot x.1) (fun x => [mpRef x.1, tInt.is x.2]) fun x => mpSome (LetD x.2) tLetter.is
abbrev nLe : List Str := ["_law_pot_here", "_law_columns", "_law_found", "_law_turn"]
theorem sc_letter : FnScope nLe ["_law_pot_here", "_law_columns"] (defScope (top 91)) := ⟨rfl, rfl, rfl, by decide +kernel, rfl, by decide +kernel, by decide +kernel⟩
theorem ok_letter {f : Addr} {fd : FuncData} (Fd : FnP K "_law_letter" (top 91) f fd) (hm : mg "_law_letter" = some (.ref f)) (T : Tx K mg CR CT CY) (c1 : CalPk P w K mg base) : Cal P w K mg base "_law_letter" 3 ["_law_pot_here", "_law_columns"] [] sp_letter := by
  refine cal_mk Fd hm (fn_mk Fd sc_letter (fun _ => rfl) fun cdv A outer s H E x F hr hp ce => ?_) fun _ _ _ _ _ _ us hl => match us, hl with | [_, _], _ => rfl
  have nd := sc_letter.nd
  obtain ⟨l, c⟩ := x
  obtain ⟨hc0, hc3⟩ := hp
  have hc0' : 0 ≤ c := hc0
  have hc3' : c ≤ 3 := hc3
  refine g_newl (xs := []) tInt 2 eva_nil (fun lf hlf => ?_) nd
  refine g_for (evi_range1 (n := c) (ev_name 1 rfl) T.f (by omega)) (fun i Γ' M' => Γ' = [some (mpRef l), some (tInt.is c), some (mpRef lf), none] ∧ ∃ xs : List Int, M' = (lf, cLst tInt xs) :: mPot l ∧ xs.length = i ∧ ∀ y ∈ xs, 0 ≤ y ∧ y ≤ 2) ⟨rfl, [], rfl, rfl, fun _ h => nomatch h⟩ ?_ ?_
  · rintro B i h _ _ ⟨rfl, xs, rfl, hl, hx⟩
    rw [upF_len] at h
    refine ⟨_, _, bd_name 3 nd, ?_⟩
    refine g_appS 0 (ev_name 2 rfl) (ev_callI (R := mpSome (· ∈ [(0 : Int), 1, 1, 2]) tInt.is) c1 hr (l, [0, 1, 1, 2]) (eva_cons (ev_name 0 rfl) (eva_one (ev_lst (T := tInt) (xs := [0, 1, 1, 2]) (eva_cons ev_int (eva_cons ev_int (eva_cons ev_int (eva_one ev_int)))) (by decide)))) ⟨by simp, by show 4 < 1000; decide⟩ rfl rfl nd_one (fun p hp => List.mem_cons_of_mem _ hp)) rfl (fun y hy => ?_) (by omega)
    refine g_turn ⟨rfl, xs ++ [y], rfl, ?_, ?_⟩ (.keep (.keep (.keep (.drop .nil))))
    · rw [List.length_append, hl, List.length_singleton]
    · intro z hz
      rcases List.mem_append.mp hz with q | q
      · exact hx z q
      · rw [List.mem_singleton.mp q]
        have : y = 0 ∨ y = 1 ∨ y = 1 ∨ y = 2 := by simpa using hy
        omega
  · rintro _ _ ⟨rfl, xs, rfl, hl, hx⟩
    rw [upF_len] at hl
    refine g_frzL 2 0 rfl rfl hlf (notW ce hlf) ?_
    refine g_ret ((ev_tupL (xs := xs) (ev_name 2 rfl) T.f).some (f := tLetter.is) (c := LetD c) ⟨?_, hx⟩) (fun F v h => h) (fun p hp => hp) nd_one
    omega
/-! ### words -/
abbrev WordD (c n : Int) (x : Word) : Prop := (x.length : Int) ≤ n ∧ ∀ y ∈ x, LetD c y
abbrev sp_word : Sp := spT (fun x : Addr × Int × Int => (0 ≤ x.2.1 ∧ x.2.1 ≤ 3) ∧ 0 ≤ x.2.2 ∧ x.2.2 ≤ 10) (fun x => mPot x.1) (fun x => [mpRef x.1, tInt.is x.2.1, tInt.is x.2.2]) fun x => mpSome (WordD x.2.1 x.2.2) tWord.is
abbrev nWo : List Str := ["_law_pot_here", "_law_columns", "_law_most", "_law_found", "_law_turn"]
theorem sc_word : FnScope nWo ["_law_pot_here", "_law_columns", "_law_most"] (defScope (top 92)) := ⟨rfl, rfl, rfl, by decide +kernel, rfl, by decide +kernel, by decide +kernel⟩
theorem ok_word {f : Addr} {fd : FuncData} (Fd : FnP K "_law_word" (top 92) f fd) (hm : mg "_law_word" = some (.ref f)) (T : Tx K mg CR CT CY) (c1 : CalDr P w K mg base) (c2 : Cal P w K mg base "_law_letter" 3 ["_law_pot_here", "_law_columns"] [] sp_letter) : Cal P w K mg base "_law_word" 4 ["_law_pot_here", "_law_columns", "_law_most"] [] sp_word := by
  refine cal_mk Fd hm (fn_mk Fd sc_word (fun _ => rfl) fun cdv A outer s H E x F hr hp ce => ?_) fun _ _ _ _ _ _ us hl => match us, hl with | [_, _, _], _ => rfl
  have nd := sc_word.nd
  obtain ⟨l, c, n⟩ := x
  obtain ⟨hc, hn0, hn1⟩ := hp
  have hn0' : 0 ≤ n := hn0
  have hn1' : n ≤ 10 := hn1
  refine g_newl (xs := []) tLetter 3 eva_nil (fun lf hlf => ?_) nd
  refine g_forS (evis_range1 (c := dBel (n + 1)) (ev_callI (R := mpSome (dBel (n + 1)) tInt.is) c1 (hr.mono (by decide)) (l, n + 1) (eva_cons (ev_name 0 rfl) (eva_one (ev_add (ev_name 2 rfl) ev_int))) ⟨by show 0 < n + 1; omega, by show n + 1 < 1000; omega⟩ rfl rfl nd_one (fun p hp => List.mem_cons_of_mem _ hp)) T.f (fun m hm => ⟨hm.1, by have := hm.2; omega⟩)) (fun m i Γ' M' => Γ' = [some (mpRef l), some (tInt.is c), some (tInt.is n), some (mpRef lf), none] ∧ ∃ xs : Word, M' = (lf, cLst tLetter xs) :: mPot l ∧ xs.length = i ∧ ∀ y ∈ xs, LetD c y) (fun m hm => ⟨rfl, [], rfl, rfl, fun _ h => nomatch h⟩) ?_ ?_
  · rintro m hm B i h _ _ ⟨rfl, xs, rfl, hl, hx⟩
    rw [upF_len] at h
    have hm2 := hm.2
    refine ⟨_, _, bd_name 4 nd, ?_⟩
    refine g_appS 0 (ev_name 3 rfl) (ev_callI (R := mpSome (LetD c) tLetter.is) c2 hr (l, c) (eva_cons (ev_name 0 rfl) (eva_one (ev_name 1 rfl))) hc rfl rfl nd_one (fun p hp => List.mem_cons_of_mem _ hp)) rfl (fun y hy => ?_) (by omega)
    refine g_turn ⟨rfl, xs ++ [y], rfl, ?_, ?_⟩ (.keep (.keep (.keep (.keep (.drop .nil)))))
    · rw [List.length_append, hl, List.length_singleton]
    · intro z hz
      rcases List.mem_append.mp hz with q | q
      · exact hx z q
      · rw [List.mem_singleton.mp q]; exact hy
  · rintro m hm _ _ ⟨rfl, xs, rfl, hl, hx⟩
    rw [upF_len] at hl
    refine g_frzL 3 0 rfl rfl hlf (notW ce hlf) ?_
    refine g_ret ((ev_tupL (xs := xs) (ev_name 3 rfl) T.f).some (f := tWord.is) (c := WordD c n) ⟨?_, hx⟩) (fun F v h => h) (fun p hp => hp) nd_one
    have := hm.2
    have := hm.1
    omega
/-! ### numbers -/
def numL : List (Int ⊕ Rat) := [.inl 1, .inl (-1), .inl 2, .inl 3, .inl (-2), .inl 1, .inr (Rat.divInt 1 2)]
abbrev sp_number (CR : Addr) : Sp := spT (fun _ : Addr => True) (fun x => mPot x) (fun x => [mpRef x]) fun _ => mpSome (· ∈ numL) (tNumV CR).is
theorem sc_number : FnScope ["_law_pot_here"] ["_law_pot_here"] (defScope (top 93)) := ⟨rfl, rfl, rfl, by decide +kernel, rfl, by decide +kernel, by decide +kernel⟩
section
variable {X : Cx} {Γ : Gam} {M : Mem} {e : Expr} {i : Int} {q : Rat}
theorem ev_numI (h : Ev X Γ M e (tInt.is i)) : Ev X Γ M e ((tNumV CR).is (.inl i)) := h.imp fun F v q => q
theorem ev_numR (h : Ev X Γ M e ((tRat CR).is q)) : Ev X Γ M e ((tNumV CR).is (.inr q)) := h.imp fun F v q => q
end
theorem ok_number {f : Addr} {fd : FuncData} (Fd : FnP K "_law_number" (top 93) f fd) (hm : mg "_law_number" = some (.ref f)) (T : Tx K mg CR CT CY) (c1 : Cal P w K mg base "_law_pick" 2 ["_law_pot_here", "_law_some"] [] (sp_pick (tNumV CR))) (c2 : CalR2 P w K mg base CR) : Cal P w K mg base "_law_number" 4 ["_law_pot_here"] [] (sp_number CR) := by
  refine cal_mk Fd hm (fn_mk Fd sc_number (fun _ => rfl) fun cdv A outer s H E l F hr hp ce => ?_) fun _ _ _ _ _ _ us hl => match us, hl with | [_], _ => rfl
  have h9 : (2 : Int).natAbs < 2 ^ 8990 := Nat.lt_of_lt_of_le (m := 2 ^ 2) (by decide) (Nat.pow_le_pow_right (by decide) (by decide))
  refine g_ret (ev_callI (R := mpSome (· ∈ numL) (tNumV CR).is) c1 (hr.mono (by decide)) (l, numL) (eva_cons (ev_name 0 rfl) (eva_one (ev_lst (T := tNumV CR) (xs := numL) (eva_cons (ev_numI ev_int) (eva_cons (ev_numI (ev_neg ev_int)) (eva_cons (ev_numI ev_int) (eva_cons (ev_numI ev_int) (eva_cons (ev_numI (ev_neg ev_int)) (eva_cons (ev_numI ev_int) (eva_one (ev_numR (ev_ratio2 c2 hr ev_int ev_int (by decide) h9 rfl))))))))) (by decide)))) ⟨by simp [numL], by show 7 < 1000; decide⟩ rfl rfl nd_one (fun p hp => hp)) (fun F v h => h) (fun p hp => hp) nd_one
end
end L2.K3
set_option Elab.async false
set_option linter.all false
set_option maxHeartbeats 2000001
/-! MH: fractions over a told bottom. -/
namespace RM
/-- k / D, |k| at most N -/
def BD (D N : Nat) (q : Rat) : Prop := 0 < D ∧ ∃ k : Int, k.natAbs ≤ N ∧ q = Rat.divInt k (D : Int)
theorem dv (k : Int) {D : Nat} : Rat.divInt k (D : Int) = (k : Rat) / (D : Rat) := by
  rw [Rat.divInt_eq_div] <;> rfl
theorem BD.mono {D N M : Nat} {q : Rat} (h : BD D N q) (e : N ≤ M) : BD D M q := ⟨h.1, let ⟨k, h1, h2⟩ := h.2; ⟨k, Nat.le_trans h1 e, h2⟩⟩
theorem natR_ne {D : Nat} (h : 0 < D) : (D : Rat) ≠ 0 := by
  intro e
  have : D = 0 := by exact_mod_cast e
  omega
theorem BD.add {D N M : Nat} {p q : Rat} (h : BD D N p) (g : BD D M q) : BD D (N + M) (p + q) := by
  obtain ⟨h0, k, h1, rfl⟩ := h
  obtain ⟨_, l, g1, rfl⟩ := g
  refine ⟨h0, k + l, by omega, ?_⟩
  rw [dv, dv, dv, Rat.intCast_add]
  have := natR_ne h0
  grind
theorem BD.sub {D N M : Nat} {p q : Rat} (h : BD D N p) (g : BD D M q) : BD D (N + M) (p - q) := by
  obtain ⟨h0, k, h1, rfl⟩ := h
  obtain ⟨_, l, g1, rfl⟩ := g
  refine ⟨h0, k - l, by omega, ?_⟩
  rw [dv, dv, dv, Rat.intCast_sub]
  have := natR_ne h0
  grind
theorem BD.mul {D E N M : Nat} {p q : Rat} (h : BD D N p) (g : BD E M q) : BD (D * E) (N * M) (p * q) := by
  obtain ⟨h0, k, h1, rfl⟩ := h
  obtain ⟨g0, l, g1, rfl⟩ := g
  refine ⟨Nat.mul_pos h0 g0, k * l, by rw [Int.natAbs_mul]; exact Nat.mul_le_mul h1 g1, ?_⟩
  rw [Rat.divInt_mul_divInt, Int.natCast_mul]
theorem BD.scale {D N : Nat} {q : Rat} (h : BD D N q) {E : Nat} (hE : 0 < E) : BD (D * E) (N * E) q := by
  obtain ⟨h0, k, h1, rfl⟩ := h
  refine ⟨Nat.mul_pos h0 hE, k * E, by rw [Int.natAbs_mul, Int.natAbs_natCast]; exact Nat.mul_le_mul_right _ h1, ?_⟩
  rw [Int.natCast_mul, Rat.divInt_mul_right (show (E : Int) ≠ 0 by omega)]
theorem BD.zero {D : Nat} (h : 0 < D) {N : Nat} : BD D N 0 := ⟨h, 0, by simp, by rw [Rat.zero_divInt]⟩
theorem BD.int (i : Int) : BD 1 i.natAbs (i : Rat) := ⟨by decide, i, Nat.le_refl _, (whole i).symm⟩
theorem BD.one : BD 1 1 1 := BD.int 1
theorem div_num_le (a : Int) {b : Int} (h : b ≠ 0) : (Rat.divInt a b).num.natAbs ≤ a.natAbs := by
  rw [← top_eq h]
  have hc := comm_ne (a := a) h
  obtain ⟨k, hk⟩ : comm a b ∣ a := by
    rw [← Int.natAbs_dvd_natAbs, comm_abs]
    exact Nat.gcd_dvd_left _ _
  rw [fdiv_exact hc hk]
  rw [congrArg Int.natAbs hk, Int.natAbs_mul]
  exact Nat.le_mul_of_pos_left _ (by omega)
theorem div_den_le (a : Int) {b : Int} (h : b ≠ 0) : (Rat.divInt a b).den ≤ b.natAbs := by
  have e := bottom_eq (a := a) h
  have hc := comm_ne (a := a) h
  obtain ⟨k, hk⟩ : comm a b ∣ b := by
    rw [← Int.natAbs_dvd_natAbs, comm_abs]
    exact Nat.gcd_dvd_right _ _
  rw [fdiv_exact hc hk] at e
  have : (Rat.divInt a b).den = k.natAbs := by rw [e] <;> rfl
  rw [this, congrArg Int.natAbs hk, Int.natAbs_mul]
  exact Nat.le_mul_of_pos_left _ (by omega)
theorem BD.szw {D N n : Nat} {q : Rat} (h : BD D N q) (hN : N < 2 ^ n) (hD : D < 2 ^ n) : Sz n q := by
  obtain ⟨h0, k, h1, rfl⟩ := h
  have hb : ((D : Nat) : Int) ≠ 0 := by omega
  exact ⟨Nat.lt_of_le_of_lt (div_num_le k hb) (Nat.lt_of_le_of_lt h1 hN), Nat.lt_of_le_of_lt (div_den_le k hb) (by rw [Int.natAbs_natCast]; exact hD)⟩
theorem BD.sz {D N : Nat} (n : Nat) {q : Rat} (h : BD D N q) (hN : N < 2 ^ n) (hD : D < 2 ^ n) (hn : n ≤ 4400) : Sz 4400 q := (h.szw hN hD).mono hn
end RM
set_option Elab.async false
set_option linter.all false
set_option maxRecDepth 100000
set_option maxHeartbeats 4000001
/-! FnT: the law's parts and rows. -/
namespace L2.K3
open PySem PySem.Spec PyProof.Rows RM Sol
section
variable {X : Cx} {E : En} {D : Ends} {Γ : Gam} {M : Mem} {a b e : Expr} {pos p : Pos} {x : Rat} {CR CT CY : Addr}
theorem ev_raddV (T : Tx X.K X.mg CR CT CY) (c : CalB X.prog X.w X.K X.mg X.base CR "__add__" (· + ·)) (hr : Room 4 X.A) {v : Int ⊕ Rat} (ha : Ev X Γ M a ((tRat CR).is x)) (hb : Ev X Γ M b ((tNumV CR).is v)) (hx : RM.Sz 4400 x) (hy : RM.Sz 4400 (numV v)) : Ev X Γ M (.BinOp a .Add b pos) ((tRat CR).is (x + numV v)) := by
  cases v with
  | inl i => exact ev_raddI T c hr ha (i := i) hb hx hy
  | inr q => exact ev_radd T c hr ha (y := q) hb hx hy
theorem ev_prS {α β : Type} {T : Ty α} {U : Ty β} {x : α} {c : β → Prop} {k0} (ha : Ev X Γ M a (T.is x)) (hb : Ev X Γ M b (mpSome c U.is)) (he : starEach [a, b] X.env = (false, eval a X.env) :: starEach [b] X.env := by rfl) (he2 : starEach [b] X.env = (false, eval b X.env) :: starEach [] X.env := by rfl) :
    Ev X Γ M (.Tuple [a, b] k0 pos) (mpSome (fun z : α × β => z.1 = x ∧ c z.2) (tPr T U).is) := fun σ F H eo fh ce Q k => by
  refine wE_of (pe_tup pa_w) ?_
  refine (eva_cons ha (eva_one hb he2) he) σ F H eo fh ce _ fun F1 H1 vs s1 pvs => ?_
  obtain ⟨v1, v2, rfl, p, y, hy, p'⟩ := paired2 pvs
  refine ⟨by show 2 ≤ sizeLine; decide, fun pp hp => ?_⟩
  have st := Stp.new (o := .tup [v1, v2]) s1.fh s1.ce hp
  exact k _ _ _ (s1.trans st) ⟨(x, y), ⟨rfl, hy⟩, pp, v1, v2, rfl, upd_same, T.mono st.ff p, U.mono st.ff p'⟩
theorem ev_subS {c : Int → Prop} {j : Int} (ha : Ev X Γ M a (mpSome c tInt.is)) (hb : Ev X Γ M b (tInt.is j)) : Ev X Γ M (.BinOp a .Sub b pos) (mpSome (fun z => c (z + j)) tInt.is) :=
  ev_op op_sub ha hb (o2_some1 fun i hi F H v w fh ce pv pw Q k => ⟨i, j, pv, pw, k F H _ (Stp.refl fh ce) ⟨i - j, by show c (i - j + j); rw [Int.sub_add_cancel]; exact hi, rfl⟩⟩)
theorem ev_addS {c : Int → Prop} {j : Int} (ha : Ev X Γ M a (tInt.is j)) (hb : Ev X Γ M b (mpSome c tInt.is)) : Ev X Γ M (.BinOp a .Add b pos) (mpSome (fun z => c (z - j)) tInt.is) :=
  ev_op op_add ha hb (o2_some fun i hi F H v w fh ce pv pw Q k => ⟨j, i, pv, pw, k F H _ (Stp.refl fh ce) ⟨j + i, by show c (j + i - j); rw [show j + i - j = i by omega]; exact hi, rfl⟩⟩)
end
/-! ### joined -/
abbrev NPart : Type := Word × (Int ⊕ Rat)
def lputM (acc : List (Word × Rat)) (x : NPart) : List (Word × Rat) := dput acc x.1 ((dget acc x.1).getD 0 + numV x.2)
def lsumM (l : List NPart) (i : Nat) : List (Word × Rat) := (l.take i).foldl lputM []
theorem lsumM_succ {l : List NPart} {i : Nat} (h : i < l.length) : lsumM l (i + 1) = lputM (lsumM l i) l[i] := by
  unfold lsumM
  rw [take_succ' h, List.foldl_append] <;> rfl
theorem lsumM_len (l : List NPart) : ∀ i, i ≤ l.length → (lsumM l i).length ≤ i
  | 0, _ => Nat.le_refl _
  | i + 1, h => by
    rw [lsumM_succ h]
    have h1 := lsumM_len l i (Nat.le_of_succ_le h)
    have h2 := dput_len (lsumM l i) l[i].1 ((dget (lsumM l i) l[i].1).getD 0 + numV l[i].2)
    unfold lputM
    omega
def ltoldP (kvs : List (Word × Rat)) : List (Word × Rat) := ((srt wordLt (kvs.map (·.1))).filter fun k => !decide ((dget kvs k).getD 0 = 0)).map fun k => (k, (dget kvs k).getD 0)
def ljoinP (ps : List NPart) : List (Word × Rat) := ltoldP (lsumM ps ps.length)
theorem dget_put {α β : Type} [DecidableEq α] (kvs : List (α × β)) (k k' : α) (v : β) : dget (dput kvs k v) k' = if k' = k then some v else dget kvs k' := by
  by_cases hs : (dget kvs k).isSome = true
  · unfold dput
    rw [if_pos hs]
    induction kvs with
    | nil => simp [dget] at hs
    | cons p l ih =>
      rw [List.map_cons, dget_cons, dget_cons]
      rw [dget_cons] at hs
      by_cases h1 : p.1 = k
      · rw [if_pos h1]
        show (if p.1 = k' then _ else _) = _
        by_cases h2 : p.1 = k'
        · rw [if_pos h2, if_pos (h2.symm.trans h1)]
        · have hk : k' ≠ k := fun e => h2 (h1.trans e.symm)
          rw [if_neg h2, if_neg hk, if_neg h2]
          have : ∀ l : List (α × β), dget (l.map fun p => if p.1 = k then (p.1, v) else p) k' = dget l k' := by
            intro l
            induction l with
            | nil => rfl
            | cons q l ih =>
              rw [List.map_cons, dget_cons, dget_cons, ih]
              by_cases h3 : q.1 = k
              · rw [if_pos h3]
                show (if q.1 = k' then _ else _) = _
                have h4 : q.1 ≠ k' := fun e => hk (e.symm.trans h3)
                rw [if_neg h4, if_neg h4]
              · rw [if_neg h3]
          exact this l
      · rw [if_neg h1] at hs
        rw [if_neg h1, ih hs]
        by_cases h2 : p.1 = k'
        · have : k' ≠ k := fun e => h1 (h2.trans e)
          rw [if_pos h2, if_pos h2, if_neg this]
        · rw [if_neg h2, if_neg h2]
  · unfold dput
    rw [if_neg hs]
    have hn : dget kvs k = none := by
      cases e : dget kvs k with
      | none => rfl
      | some y => rw [e] at hs; exact absurd rfl hs
    clear hs
    induction kvs with
    | nil =>
      rw [List.nil_append, dget_cons]
      by_cases h : k' = k
      · rw [if_pos h, if_pos h.symm]
      · rw [if_neg h, if_neg (fun e => h e.symm)]
    | cons p l ih =>
      rw [dget_cons] at hn
      by_cases h1 : p.1 = k
      · rw [if_pos h1] at hn; cases hn
      · rw [if_neg h1] at hn
        rw [List.cons_append, dget_cons, dget_cons, ih hn]
        by_cases h2 : p.1 = k'
        · have : k' ≠ k := fun e => h1 (h2.trans e)
          rw [if_pos h2, if_pos h2, if_neg this]
        · rw [if_neg h2, if_neg h2]
end L2.K3
set_option Elab.async false
set_option linter.all false
set_option maxRecDepth 100000
set_option maxHeartbeats 4000001
/-! FnU: the law's parts and rows: walks. -/
namespace L2.K3
open PySem PySem.Spec PyProof.Rows RM Sol
structure preLj (ps : List NPart) : Prop where
  n : ps.length ≤ 100
  v : ∀ p ∈ ps, BD 2 6 (numV p.2)
theorem lsum_bd {ps : List NPart} (h : preLj ps) : ∀ i, i ≤ ps.length → ∀ k, BD 2 (6 * i) ((dget (lsumM ps i) k).getD 0)
  | 0, _, k => BD.zero (by decide)
  | i + 1, hi, k => by
    rw [lsumM_succ hi]
    unfold lputM
    rw [dget_put]
    have ih := lsum_bd h i (Nat.le_of_succ_le hi)
    by_cases e : k = ps[i].1
    · rw [if_pos e, Option.getD_some]
      exact (ih _).add (h.v _ (List.getElem_mem hi))
    · rw [if_neg e]
      exact (ih k).mono (by omega)
theorem lsum_sz {ps : List NPart} (h : preLj ps) {i : Nat} (hi : i ≤ ps.length) (k : Word) : Sz 4400 ((dget (lsumM ps i) k).getD 0) := by
  have hn := h.n
  exact (lsum_bd h i hi k).sz 10 (by omega) (by decide) (by decide)
section
variable {P : Program} {w : World} {K : PySem.W.Frag} {mg : Str → Option Value} {base : Heap} {CR CT CY : Addr}
abbrev sp_ljoined (CR : Addr) : Sp := spT preLj (fun _ => []) (fun ps => [(tLst (tPr tWord (tNumV CR))).is ps]) fun ps => (tLst (tPart CR)).is (ljoinP ps)
abbrev nLj : List Str := ["_law_parts_here", "_law_found", "_law_what", "_law_factor"]
theorem sc_ljoined : FnScope nLj ["_law_parts_here"] (defScope (top 94)) := ⟨rfl, rfl, rfl, by decide +kernel, rfl, by decide +kernel, by decide +kernel⟩
theorem ok_ljoined {f : Addr} {fd : FuncData} (Fd : FnP K "_law_joined" (top 94) f fd) (hm : mg "_law_joined" = some (.ref f)) (T : Tx K mg CR CT CY) (c1 : CalR1 P w K mg base CR) (c2 : CalB P w K mg base CR "__add__" (· + ·)) (c3 : CalE P w K mg base CR) : Cal P w K mg base "_law_joined" 5 ["_law_parts_here"] [] (sp_ljoined CR) := by
  refine cal_mk Fd hm (fn_mk Fd sc_ljoined (fun _ => rfl) fun cdv A outer s H E ps F hr hp ce => ?_) fun _ _ _ _ _ _ us hl => match us, hl with | [_], _ => rfl
  have nd := sc_ljoined.nd
  have hn := hp.n
  have r0 := hr.mono (Nat.zero_le 4)
  refine g_setC 1 (evc_dic (K := wordK) (U := tRat CR)) (fun l hl => ?_) nd
  refine g_for (evi_list (ev_name 0 rfl)) (fun i Γ' M' => Γ' = [some ((tLst (tPr tWord (tNumV CR))).is ps), some (mpRef l), none, none] ∧ M' = [(l, cDic w wordK (tRat CR) (lsumM ps i) l)]) ⟨rfl, rfl⟩ ?_ ?_
  · rintro B i h _ _ ⟨rfl, rfl⟩
    have hi : i < ps.length := h
    refine ⟨_, _, bd_two (bd_name 2 nd) (bd_name 3 nd), ?_⟩
    have hl2 := lsumM_len ps i (Nat.le_of_lt hi)
    have hz := lsum_sz hp (Nat.le_of_lt hi) ps[i].1
    have hv : Sz 4400 (numV ps[i].2) := (hp.v _ (List.getElem_mem hi)).sz 10 (by decide) (by decide) (by decide)
    have hs := lsumM_succ hi
    generalize hpi : ps[i] = pt at *
    refine g_dput (K := wordK) (U := tRat CR) (k := pt.1) (y := (dget (lsumM ps i) pt.1).getD 0 + numV pt.2) 0 r0 (ev_raddV T c2 hr (ev_dgetOr (K := wordK) (U := tRat CR) (P := (tRat CR).is 0) (R := (tRat CR).is ((dget (lsumM ps i) pt.1).getD 0)) r0 (ev_name 1 rfl) (ev_name 2 rfl) (ev_ratio1 c1 (hr.mono (by decide)) ev_int (q := 0) rfl) (isDic_cell 0 rfl) (fun F v h e => by rw [e]; exact h) (fun F v y e h => by rw [e]; exact h)) (ev_name 3 rfl) hz hv) (ev_name 1 rfl) (ev_name 2 rfl) rfl ?_ (by omega)
    refine g_turn ⟨rfl, ?_⟩ (.keep (.keep (.drop (.drop .nil))))
    rw [hs]
    rfl
  · rintro _ _ ⟨rfl, rfl⟩
    refine g_frzD 1 0 rfl rfl hl (fun h => nomatch h) ?_
    refine g_ret (ev_lcIf [("_law_what", 2)] (evi_list (ev_sortDW (kvs := lsumM ps ps.length) (U := tRat CR) r0 (ev_name 1 rfl) T.g)) (U := tPart CR) (f := fun k => (k, (dget (lsumM ps ps.length) k).getD 0)) (b := fun k => !decide ((dget (lsumM ps ps.length) k).getD 0 = 0)) (fun i h => ?_) nd (defScope (top 94)) (N := nLj))
    generalize hkv : lsumM ps ps.length = kvs at h ⊢
    have hk : (srt wordLt (kvs.map (·.1)))[i] ∈ kvs.map (·.1) := (srt_perm _).mem_iff.mp (List.getElem_mem h)
    obtain ⟨y, hy⟩ := dget_mem hk
    have e : (dget kvs (srt wordLt (kvs.map (·.1)))[i]).getD 0 = y := by rw [hy] <;> rfl
    refine ⟨_, _, by decide, fun s H C cl fp => bd_name 2 nd, ttB_ok fun s H C cl fp => ?_, fun _ s H C cl fp => ?_⟩
    · rw [e]
      exact et_rne T c3 (hr.mono (by decide)) (ev_dget (K := wordK) (U := tRat CR) r0 (ev_name 1 rfl) (ev_name 2 rfl) isDic_frz hy) (ev_ratio1 c1 (hr.mono (by decide)) ev_int (q := 0) rfl)
    · rw [e]
      exact ev_pr (ev_name 2 rfl) (ev_dget (K := wordK) (U := tRat CR) r0 (ev_name 1 rfl) (ev_name 2 rfl) isDic_frz hy)
/-! ### parts -/
structure NpD (c n m : Int) (ps : List NPart) : Prop where
  n : (ps.length : Int) ≤ n
  w : ∀ p ∈ ps, WordD c m p.1
  v : ∀ p ∈ ps, p.2 ∈ numL
theorem numL_bd {v : Int ⊕ Rat} (h : v ∈ numL) : BD 2 6 (numV v) := by
  have i : ∀ j : Int, j.natAbs ≤ 3 → BD 2 6 (numV (.inl j)) := fun j hj => ((BD.int j).scale (E := 2) (by decide)).mono (by omega)
  have hh : v = .inl 1 ∨ v = .inl (-1) ∨ v = .inl 2 ∨ v = .inl 3 ∨ v = .inl (-2) ∨ v = .inl 1 ∨ v = .inr (Rat.divInt 1 2) := by simpa [numL] using h
  rcases hh with rfl | rfl | rfl | rfl | rfl | rfl | rfl
  · exact i _ (by decide)
  · exact i _ (by decide)
  · exact i _ (by decide)
  · exact i _ (by decide)
  · exact i _ (by decide)
  · exact i _ (by decide)
  · exact ⟨by decide, 1, by decide, rfl⟩
theorem NpD.pre {c n m : Int} {ps : List NPart} (h : NpD c n m ps) (hn : n ≤ 100) : preLj ps := ⟨by have := h.n; omega, fun p hp => numL_bd (h.v p hp)⟩
abbrev PartsD (c n m : Int) (x : List (Word × Rat)) : Prop := ∃ ps, NpD c n m ps ∧ x = ljoinP ps
abbrev sp_parts (CR : Addr) : Sp := spT (fun x : Addr × Int × Int × Int => (0 ≤ x.2.1 ∧ x.2.1 ≤ 3) ∧ (0 < x.2.2.1 ∧ x.2.2.1 ≤ 10) ∧ 0 ≤ x.2.2.2 ∧ x.2.2.2 ≤ 10) (fun x => mPot x.1) (fun x => [mpRef x.1, tInt.is x.2.1, tInt.is x.2.2.1, tInt.is x.2.2.2]) fun x => mpSome (PartsD x.2.1 x.2.2.1 x.2.2.2) (tLst (tPart CR)).is
abbrev nLp : List Str := ["_law_pot_here", "_law_columns", "_law_many", "_law_most", "_law_found", "_law_turn", "_law_word_here"]
theorem sc_parts : FnScope nLp ["_law_pot_here", "_law_columns", "_law_many", "_law_most"] (defScope (top 95)) := ⟨rfl, rfl, rfl, by decide +kernel, rfl, by decide +kernel, by decide +kernel⟩
theorem ok_parts {f : Addr} {fd : FuncData} (Fd : FnP K "_law_parts" (top 95) f fd) (hm : mg "_law_parts" = some (.ref f)) (T : Tx K mg CR CT CY) (c1 : CalDr P w K mg base) (c2 : Cal P w K mg base "_law_word" 4 ["_law_pot_here", "_law_columns", "_law_most"] [] sp_word) (c3 : Cal P w K mg base "_law_number" 4 ["_law_pot_here"] [] (sp_number CR)) (c4 : Cal P w K mg base "_law_joined" 5 ["_law_parts_here"] [] (sp_ljoined CR)) : Cal P w K mg base "_law_parts" 6 ["_law_pot_here", "_law_columns", "_law_many", "_law_most"] [] (sp_parts CR) := by
  refine cal_mk Fd hm (fn_mk Fd sc_parts (fun _ => rfl) fun cdv A outer s H E x F hr hp ce => ?_) fun _ _ _ _ _ _ us hl => match us, hl with | [_, _, _, _], _ => rfl
  have nd := sc_parts.nd
  obtain ⟨l, c, n, m⟩ := x
  obtain ⟨hc, ⟨hn0, hn1⟩, hm0⟩ := hp
  have hn0' : 0 < n := hn0
  have hn1' : n ≤ 10 := hn1
  refine g_newl (xs := []) (tPr tWord (tNumV CR)) 4 eva_nil (fun lf hlf => ?_) nd
  refine g_forS (evis_range1 (c := fun z => dBel n (z - 1)) (ev_addS ev_int (ev_callI (R := mpSome (dBel n) tInt.is) c1 (hr.mono (by decide)) (l, n) (eva_cons (ev_name 0 rfl) (eva_one (ev_name 2 rfl))) ⟨hn0', by show n < 1000; omega⟩ rfl rfl nd_one (fun p hp => List.mem_cons_of_mem _ hp))) T.f (fun z hz => ⟨by have := hz.1; omega, by have := hz.2; omega⟩)) (fun z i Γ' M' => Γ' = [some (mpRef l), some (tInt.is c), some (tInt.is n), some (tInt.is m), some (mpRef lf), none, none] ∧ ∃ xs : List NPart, M' = (lf, cLst (tPr tWord (tNumV CR)) xs) :: mPot l ∧ xs.length = i ∧ (∀ p ∈ xs, WordD c m p.1) ∧ ∀ p ∈ xs, p.2 ∈ numL) (fun z hz => ⟨rfl, [], rfl, rfl, (fun _ h => nomatch h), fun _ h => nomatch h⟩) ?_ ?_
  · rintro z hz B i h _ _ ⟨rfl, xs, rfl, hl, hx, hv⟩
    rw [upF_len] at h
    have hz2 := hz.2
    refine ⟨_, _, bd_name 5 nd, ?_⟩
    refine g_setS (cc := WordD c m) (f := tWord.is) 6 (ev_callI (R := mpSome (WordD c m) tWord.is) c2 (hr.mono (by decide)) (l, c, m) (eva_cons (ev_name 0 rfl) (eva_cons (ev_name 1 rfl) (eva_one (ev_name 3 rfl)))) ⟨hc, hm0⟩ rfl rfl nd_one (fun p hp => List.mem_cons_of_mem _ hp)) (fun y hy => ?_) nd
    refine g_appS (T := tPr tWord (tNumV CR)) 0 (ev_name 4 rfl) (ev_prS (x := y) (ev_name 6 rfl) (ev_callI (R := mpSome (· ∈ numL) (tNumV CR).is) c3 (hr.mono (by decide)) l (eva_one (ev_name 0 rfl)) trivial rfl rfl nd_one (fun p hp => List.mem_cons_of_mem _ hp))) rfl (fun u hu => ?_) (by omega)
    refine g_turn ⟨rfl, xs ++ [u], rfl, ?_, ?_, ?_⟩ (.keep (.keep (.keep (.keep (.keep (.drop (.drop .nil)))))))
    · rw [List.length_append, hl, List.length_singleton]
    · intro p hp
      rcases List.mem_append.mp hp with q | q
      · exact hx p q
      · rw [List.mem_singleton.mp q, hu.1]; exact hy
    · intro p hp
      rcases List.mem_append.mp hp with q | q
      · exact hv p q
      · rw [List.mem_singleton.mp q]; exact hu.2
  · rintro z hz _ _ ⟨rfl, xs, rfl, hl, hx, hv⟩
    rw [upF_len] at hl
    refine g_frzL 4 0 rfl rfl hlf (notW ce hlf) ?_
    have hD : NpD c n m xs := ⟨by have := hz.2; have := hz.1; omega, hx, hv⟩
    refine g_ret ((ev_callI (R := (tLst (tPart CR)).is (ljoinP xs)) c4 hr xs (eva_one (ev_name 4 rfl)) (hD.pre (by omega))).some (f := (tLst (tPart CR)).is) (c := PartsD c n m) ⟨xs, hD, rfl⟩) (fun F v h => h) (fun p hp => hp) nd_one
/-! ### rows -/
abbrev RowD (c : Int) (x : List Rat) : Prop := (x.length : Int) = c ∧ ∀ q ∈ x, BD 2 6 q
abbrev sp_row (CR : Addr) : Sp := spT (fun x : Addr × Int => 0 ≤ x.2 ∧ x.2 ≤ 3) (fun x => mPot x.1) (fun x => [mpRef x.1, tInt.is x.2]) fun x => mpSome (RowD x.2) (tRrow CR).is
theorem sc_row : FnScope nLe ["_law_pot_here", "_law_columns"] (defScope (top 96)) := ⟨rfl, rfl, rfl, by decide +kernel, rfl, by decide +kernel, by decide +kernel⟩
theorem ok_row {f : Addr} {fd : FuncData} (Fd : FnP K "_law_row" (top 96) f fd) (hm : mg "_law_row" = some (.ref f)) (T : Tx K mg CR CT CY) (c1 : CalDr P w K mg base) (c2 : CalPk P w K mg base) (c3 : CalR2 P w K mg base CR) : Cal P w K mg base "_law_row" 4 ["_law_pot_here", "_law_columns"] [] (sp_row CR) := by
  refine cal_mk Fd hm (fn_mk Fd sc_row (fun _ => rfl) fun cdv A outer s H E x F hr hp ce => ?_) fun _ _ _ _ _ _ us hl => match us, hl with | [_, _], _ => rfl
  have nd := sc_row.nd
  obtain ⟨l, c⟩ := x
  obtain ⟨hc0, hc3⟩ := hp
  have hc0' : 0 ≤ c := hc0
  have hc3' : c ≤ 3 := hc3
  have h9 : ∀ j : Int, j.natAbs ≤ 2 → j.natAbs < 2 ^ 8990 := fun j hj => Nat.lt_of_lt_of_le (m := 2 ^ 2) (by omega) (Nat.pow_le_pow_right (by decide) (by decide))
  refine g_newl (xs := []) (tRat CR) 2 eva_nil (fun lf hlf => ?_) nd
  refine g_for (evi_range1 (n := c) (ev_name 1 rfl) T.f (by omega)) (fun i Γ' M' => Γ' = [some (mpRef l), some (tInt.is c), some (mpRef lf), none] ∧ ∃ xs : List Rat, M' = (lf, cLst (tRat CR) xs) :: mPot l ∧ xs.length = i ∧ ∀ y ∈ xs, BD 2 6 y) ⟨rfl, [], rfl, rfl, fun _ h => nomatch h⟩ ?_ ?_
  · rintro B i h _ _ ⟨rfl, xs, rfl, hl, hx⟩
    rw [upF_len] at h
    refine ⟨_, _, bd_name 3 nd, ?_⟩
    refine g_appS (c := BD 2 6) (T := tRat CR) 0 (ev_name 2 rfl) (ev_makeS (Ps := [mpSome (fun z => dBel 6 (z + 2)) tInt.is, mpSome (· ∈ [(1 : Int), 1, 1, 2]) tInt.is]) c3 (hr.mono (by decide)) (eva_cons (ev_subS (ev_callI (R := mpSome (dBel 6) tInt.is) c1 (hr.mono (by decide)) (l, 6) (eva_cons (ev_name 0 rfl) (eva_one ev_int)) ⟨by show (0 : Int) < 6; decide, by show (6 : Int) < 1000; decide⟩ rfl rfl nd_one (fun p hp => List.mem_cons_of_mem _ hp)) ev_int) (eva_one (ev_callI (R := mpSome (· ∈ [(1 : Int), 1, 1, 2]) tInt.is) c2 (hr.mono (by decide)) (l, [1, 1, 1, 2]) (eva_cons (ev_name 0 rfl) (eva_one (ev_lst (T := tInt) (xs := [1, 1, 1, 2]) (eva_cons ev_int (eva_cons ev_int (eva_cons ev_int (eva_one ev_int)))) (by decide)))) ⟨by simp, by show 4 < 1000; decide⟩ rfl rfl nd_one (fun p hp => List.mem_cons_of_mem _ hp)))) (fun F vs pvs => ?_)) rfl (fun y hy => ?_) (by omega)
    · obtain ⟨v, v2, rfl, ⟨z, hz, pz⟩, j, hj, pj⟩ := paired2 pvs
      have hj' : j = 1 ∨ j = 2 := by
        have : j = 1 ∨ j = 1 ∨ j = 1 ∨ j = 2 := by simpa using hj
        omega
      refine ⟨(z, j), ⟨by show j ≠ 0; omega, h9 j (by omega)⟩, .cons pz (.cons pj .nil), fun F' v h => ⟨Rat.divInt z j, ?_, rat_ins h⟩⟩
      have h1 := hz.1
      have h2 := hz.2
      rcases hj' with rfl | rfl
      · refine ⟨by decide, z * 2, by omega, ?_⟩
        rw [show ((2 : Nat) : Int) = 1 * 2 from rfl, Rat.divInt_mul_right (by decide)]
      · exact ⟨by decide, z, by omega, rfl⟩
    refine g_turn ⟨rfl, xs ++ [y], rfl, ?_, ?_⟩ (.keep (.keep (.keep (.drop .nil))))
    · rw [List.length_append, hl, List.length_singleton]
    · intro z hz
      rcases List.mem_append.mp hz with q | q
      · exact hx z q
      · rw [List.mem_singleton.mp q]; exact hy
  · rintro _ _ ⟨rfl, xs, rfl, hl, hx⟩
    rw [upF_len] at hl
    refine g_frzL 2 0 rfl rfl hlf (notW ce hlf) ?_
    refine g_ret (ev_nameS (f := (tRrow CR).is) (c := RowD c) (x := xs) 2 ⟨?_, hx⟩ rfl) (fun F v h => h) (fun p hp => hp) nd_one
    omega
abbrev RowsD (c n : Int) (x : List (List Rat)) : Prop := (x.length : Int) ≤ n ∧ ∀ r ∈ x, RowD c r
abbrev tRrows (CR : Addr) : Ty (List (List Rat)) := tLst (tRrow CR)
abbrev sp_rows (CR : Addr) : Sp := spT (fun x : Addr × Int × Int => (0 ≤ x.2.1 ∧ x.2.1 ≤ 3) ∧ 0 ≤ x.2.2 ∧ x.2.2 ≤ 10) (fun x => mPot x.1) (fun x => [mpRef x.1, tInt.is x.2.1, tInt.is x.2.2]) fun x => mpSome (RowsD x.2.1 x.2.2) (tRrows CR).is
theorem sc_rows : FnScope nWo ["_law_pot_here", "_law_columns", "_law_most"] (defScope (top 97)) := ⟨rfl, rfl, rfl, by decide +kernel, rfl, by decide +kernel, by decide +kernel⟩
theorem ok_rows {f : Addr} {fd : FuncData} (Fd : FnP K "_law_rows" (top 97) f fd) (hm : mg "_law_rows" = some (.ref f)) (T : Tx K mg CR CT CY) (c1 : CalDr P w K mg base) (c2 : Cal P w K mg base "_law_row" 4 ["_law_pot_here", "_law_columns"] [] (sp_row CR)) : Cal P w K mg base "_law_rows" 5 ["_law_pot_here", "_law_columns", "_law_most"] [] (sp_rows CR) := by
  refine cal_mk Fd hm (fn_mk Fd sc_rows (fun _ => rfl) fun cdv A outer s H E x F hr hp ce => ?_) fun _ _ _ _ _ _ us hl => match us, hl with | [_, _, _], _ => rfl
  have nd := sc_rows.nd
  obtain ⟨l, c, n⟩ := x
  obtain ⟨hc, hn0, hn1⟩ := hp
  have hn0' : 0 ≤ n := hn0
  have hn1' : n ≤ 10 := hn1
  refine g_newl (xs := []) (tRrow CR) 3 eva_nil (fun lf hlf => ?_) nd
  refine g_forS (evis_range1 (c := dBel (n + 1)) (ev_callI (R := mpSome (dBel (n + 1)) tInt.is) c1 (hr.mono (by decide)) (l, n + 1) (eva_cons (ev_name 0 rfl) (eva_one (ev_add (ev_name 2 rfl) ev_int))) ⟨by show 0 < n + 1; omega, by show n + 1 < 1000; omega⟩ rfl rfl nd_one (fun p hp => List.mem_cons_of_mem _ hp)) T.f (fun m hm => ⟨hm.1, by have := hm.2; omega⟩)) (fun m i Γ' M' => Γ' = [some (mpRef l), some (tInt.is c), some (tInt.is n), some (mpRef lf), none] ∧ ∃ xs : List (List Rat), M' = (lf, cLst (tRrow CR) xs) :: mPot l ∧ xs.length = i ∧ ∀ y ∈ xs, RowD c y) (fun m hm => ⟨rfl, [], rfl, rfl, fun _ h => nomatch h⟩) ?_ ?_
  · rintro m hm B i h _ _ ⟨rfl, xs, rfl, hl, hx⟩
    rw [upF_len] at h
    have hm2 := hm.2
    refine ⟨_, _, bd_name 4 nd, ?_⟩
    refine g_appS (T := tRrow CR) (c := RowD c) 0 (ev_name 3 rfl) (ev_callI (R := mpSome (RowD c) (tRrow CR).is) c2 hr (l, c) (eva_cons (ev_name 0 rfl) (eva_one (ev_name 1 rfl))) hc rfl rfl nd_one (fun p hp => List.mem_cons_of_mem _ hp)) rfl (fun y hy => ?_) (by omega)
    refine g_turn ⟨rfl, xs ++ [y], rfl, ?_, ?_⟩ (.keep (.keep (.keep (.keep (.drop .nil)))))
    · rw [List.length_append, hl, List.length_singleton]
    · intro z hz
      rcases List.mem_append.mp hz with q | q
      · exact hx z q
      · rw [List.mem_singleton.mp q]; exact hy
  · rintro m hm _ _ ⟨rfl, xs, rfl, hl, hx⟩
    rw [upF_len] at hl
    refine g_frzL 3 0 rfl rfl hlf (notW ce hlf) ?_
    refine g_ret (ev_nameS (f := (tRrows CR).is) (c := RowsD c n) (x := xs) 3 ⟨?_, hx⟩ rfl) (fun F v h => h) (fun p hp => hp) nd_one
    have := hm.2
    have := hm.1
    omega
end
end L2.K3
set_option Elab.async false
set_option linter.all false
set_option maxRecDepth 100000
set_option maxHeartbeats 2000001
/-! K3X: zip of a tuple with a list. -/
namespace L2.K3
open PySem PySem.Spec PyProof.Rows
def ItTL (K : PySem.W.Frag) (a b : Addr) : It :=
  ⟨fun i H => ∃ (ts ls : List V) (u v : V), SqT K H a ts ∧ SqL K H b ls ∧ ts[i]? = some u ∧ ls[i]? = some v,
    fun i H r H' => ∃ q u v, r = .ref q ∧ H q = none ∧ H' = upd H q (.tup [u, v]) ∧ (∀ ts, SqT K H a ts → ts[i]? = some u) ∧ ∀ ls, SqL K H b ls → ls[i]? = some v,
    fun i H => ∃ ts ls : List V, SqT K H a ts ∧ SqL K H b ls ∧ (i = ts.length ∨ i = ls.length) ∧ i ≤ ts.length ∧ i ≤ ls.length⟩
/-- the five cells of the zip lie apart -/
structure ApTL (z ti to_ j1 j2 a b : Addr) : Prop where
  S : ZipSep2 z ti to_ j1 j2 [j1, a] [j2, b]
  a1 : a ≠ j1
  b2 : b ≠ j2
theorem five {p : Addr → Prop} {z ti to_ j1 j2 c : Addr} (hc : c ∈ [z, ti, to_, j1, j2]) (h1 : p z) (h2 : p ti) (h3 : p to_) (h4 : p j1) (h5 : p j2) : p c := by
  simp only [List.mem_cons, List.not_mem_nil, or_false] at hc
  rcases hc with e | e | e | e | e <;> rw [e] <;> assumption
theorem turnTL {P : Program} {w : World} {K : PySem.W.Frag} {elts : List Expr} {n0 : Nat} {tpos : Pos} {a b z ti to_ j1 j2 : Addr} (D : ApTL z ti to_ j1 j2 a b) :
    Turn P w K (.Tuple elts n0 tpos) (ItTL K a b) [z, ti, to_, j1, j2] z (fun i h => IsZip h z ti to_ .none ∧ IsTupOf2 h ti (.ref j1) (.ref j2) ∧ (∃ u v, IsTupOf2 h to_ u v) ∧ h.IsTupleIter j1 a i ∧ h.IsListIter j2 b i) where
  mem := List.mem_cons_self
  obj := fun i h st c hc => by
    obtain ⟨g1, g2, ⟨u, v, g3⟩, ⟨o1, g4, _, k4⟩, ⟨o2, g5, _, k5⟩⟩ := st
    exact five (p := fun c => ∃ o, h.get? c = some o ∧ ∀ v : Option Value, o.data ≠ Data.cell v) hc ⟨_, g1, fun v q => nomatch q⟩ ⟨_, g2, fun v q => nomatch q⟩ ⟨_, g3, fun v q => nomatch q⟩ ⟨o1, g4, fun v q => by rw [k4] at q; cases q⟩ ⟨o2, g5, fun v q => by rw [k5] at q; cases q⟩
  keep := fun i h h' ⟨g1, g2, ⟨u, v, g3⟩, g4, g5⟩ k => ⟨k z (by simp) _ g1, k ti (by simp) _ g2, ⟨u, v, k to_ (by simp) _ g3⟩, g4.at fun o q => k j1 (by simp) o q, g5.at fun o q => k j2 (by simp) o q⟩
  item := by
    intro X hP hw hK hc i pins s σ H E I hf st ⟨ts, ls, u, v, qt, ql, hu, hv⟩
    subst hP hw hK
    obtain ⟨g1, g2, ⟨u0, v0, g3⟩, g4, g5⟩ := st
    obtain ⟨as, ra, pa, _⟩ := I.tuple qt
    obtain ⟨bs, rb, pb, _⟩ := I.list ql
    obtain ⟨x, hx, rx⟩ := ra.get hu
    obtain ⟨y, hy, ry⟩ := rb.get hv
    have hzl : z < s.heap.objs.size := Heap.lt_size g1
    have i1 : i < as.toArray.size := by rw [List.size_toArray]; exact (List.getElem?_eq_some_iff.mp hx).1
    have i2 : i < bs.toArray.size := by rw [List.size_toArray]; exact (List.getElem?_eq_some_iff.mp hy).1
    refine wpAny_pyNext_zipD2_item D.S (Draws.tuple (A := X.A.in1) (I.ok.hd hc) j1 a D.a1 as.toArray) (Draws.list (A := X.A.in1) (I.ok.hd hc) j2 b D.b2 bs.toArray) g1 g2 g3 ⟨g4, pa⟩ ⟨g5, pb.isList⟩ i1 i2 fun x' y' h' tk ex ey z' to' s1 s2 hT hsz hk => ?_
    have ex2 : x' = x := by rw [List.getElem?_toArray, hx] at ex; exact (Option.some.inj ex).symm
    have ey2 : y' = y := by rw [List.getElem?_toArray, hy] at ey; exact (Option.some.inj ey).symm
    subst ex2 ey2
    refine ⟨_, rfl, wpAny_letOwnedTupleGo_zip (s := { s with heap := h', toks := tk }) z' fun h'' z'' sb => ?_⟩
    have hT2 : h''.get? s.heap.objs.size = some { cls := .type "tuple", data := .seq #[x', y'] } := (sb.2 _ (Nat.ne_of_gt hzl)).trans hT
    have new : ObjOk X.prog X.w (upd H s.heap.objs.size (.tup [u, v])) h'' s.heap.objs.size (.tup [u, v]) := ⟨by show 2 ≤ sizeLine; decide, [x', y'], .cons rx (.cons ry .nil), _, hT2, rfl, _, rfl⟩
    have up : ∀ c o, c ∉ [z, ti, to_, j1, j2] → s.heap.get? c = some o → h''.get? c = some o := fun c o hb q => by
      simp only [List.mem_cons, List.not_mem_nil, or_false, not_or] at hb
      exact (sb.2 c hb.1).trans (hk c o hb.1 hb.2.2.1 hb.2.2.2.1 hb.2.2.2.2 q)
    have I1 : Inv X pins σ (upd H s.heap.objs.size (.tup [u, v])) { s with heap := h'', toks := tk } := I.turnedNew (t' := tk) (ch := [z, ti, to_, j1, j2]) (fun c o hb q => up c o hb q) hf (Nat.le_refl _) new
    refine ⟨.ref s.heap.objs.size, _, I1, rfl, ⟨_, u, v, rfl, I.hok.fresh (Nat.le_refl _), rfl, fun l hl => by rw [I.tuple_inj hl qt]; exact hu, fun l hl => by rw [I.list_inj hl ql]; exact hv⟩, ⟨z'', ?_, ⟨x', y', (sb.2 _ D.S.TOz).trans to'⟩, s1.1.at fun o q => (sb.2 _ (fun e => D.S.zi1 e.symm)).trans q, s2.1.at fun o q => (sb.2 _ (fun e => D.S.zi2 e.symm)).trans q⟩, fun c hcm => ?_⟩
    · exact (sb.2 _ D.S.TIz).trans (hk _ _ D.S.TIz D.S.TITO D.S.TIi1 D.S.TIi2 g2)
    · obtain ⟨_, w4, _⟩ := g4
      obtain ⟨_, w5, _⟩ := g5
      have hlt : c < s.heap.objs.size := five (p := fun c => c < s.heap.objs.size) hcm hzl (Heap.lt_size g2) (Heap.lt_size g3) (Heap.lt_size w4) (Heap.lt_size w5)
      rw [upd_ne (Nat.ne_of_lt hlt)]
      exact (hf c hcm).1
  done := by
    intro X hP hw hK hc i pins s σ H E I hf st ⟨ts, ls, qt, ql, hend, ht, hl⟩
    subst hP hw hK
    obtain ⟨g1, g2, ⟨u0, v0, g3⟩, g4, g5⟩ := st
    obtain ⟨as, ra, pa, _⟩ := I.tuple qt
    obtain ⟨bs, rb, pb, _⟩ := I.list ql
    have la : as.toArray.size = ts.length := by rw [List.size_toArray, ra.length]
    have lb : bs.toArray.size = ls.length := by rw [List.size_toArray, rb.length]
    refine wpAny_pyNext_zipD2_end D.S (Draws.tuple (A := X.A.in1) (I.ok.hd hc) j1 a D.a1 as.toArray) (Draws.list (A := X.A.in1) (I.ok.hd hc) j2 b D.b2 bs.toArray) g1 g2 g3 ⟨g4, pa⟩ ⟨g5, pb.isList⟩ (by omega) (by omega) (by omega) fun h' tk hk => ⟨rfl, I.turnedL (t' := tk) (ch := [z, ti, to_, j1, j2]) (fun c o hb q => ?_) hf⟩
    simp only [List.mem_cons, List.not_mem_nil, or_false, not_or] at hb
    exact hk c o hb.1 hb.2.2.1 hb.2.2.2.1 hb.2.2.2.2 q
  self := fun A i s Q E st h => wpAny_pyIter_zip st.1 h
theorem pi_TL {X : Cx} {e e2 : Expr} {ta : TA} {p pos tpos : Pos} {elts : List Expr} {n0 : Nat} (hg : Gl X "zip") (hm : X.mg "zip" = none) (ha : PA X [e, e2] ta)
    (hs : starEach [e, e2] X.env = (false, eval e X.env) :: starEach [e2] X.env := by rfl) (hpl : (backTo pos (starEach [e2] X.env)).any (·.1) = false := by rfl) :
    PI X (.Tuple elts n0 tpos) (.Call (.Name "zip" p) [e, e2] [] pos) (fun σ H R => ta σ H fun vs H1 => ∃ a b ts ls, vs = [.ref a, .ref b] ∧ SqT X.K H1 a ts ∧ SqL X.K H1 b ls ∧ R (ItTL X.K a b) H1) := by
  refine ⟨fun pins s σ H R I h => ?_⟩
  refine Call_ (ld_blt I hg hm PyProof.Rows.boot_zip (PyProof.Rows.callWith_type1 (thn (ha.run pos pins s σ H _ I h) fun us s1 ⟨vs, H1, I1, r1, a, b, ts, ls, ex, qt, ql, q⟩ => ?_) hs hpl))
  subst ex
  obtain ⟨_, _, rfl, r, r'⟩ := vals2 r1
  cases r
  cases r'
  obtain ⟨as, ra, pa, _⟩ := I1.tuple qt
  obtain ⟨bs, rb, pb, _⟩ := I1.list ql
  have al : a < s1.heap.objs.size := by obtain ⟨o, ho, _⟩ := id pa; exact Heap.lt_size ho
  have bl : b < s1.heap.objs.size := pb.lt
  generalize hn : s1.heap.objs.size = n at al bl
  have al' : @LT.lt Nat instLTNat a n := al
  have bl' : @LT.lt Nat instLTNat b n := bl
  have fresh : ∀ c, c ∈ [n + 4, n + 2, n + 3, n, n + 1] → FpOk X pins H1 c := fun c hcm => by
    have hle : n ≤ c := five (p := fun c => n ≤ c) hcm (by omega) (by omega) (by omega) (by omega) (by omega)
    rw [← hn] at hle
    exact I1.fpOk hle (I1.hok.fresh hle)
  have S : ZipSep2 (n + 4) (n + 2) (n + 3) n (n + 1) [n, a] [n + 1, b] := by
    refine ⟨?_, ?_, ?_, ?_, ?_, ?_, ?_, ?_, ?_, ?_, ?_, ?_, ?_⟩
    all_goals (simp only [List.mem_cons, List.not_mem_nil, or_false, ne_eq])
    all_goals first | exact .inl trivial | (intro e; exact absurd (show (_ : Nat) = _ from e) (by omega)) | (rintro (e | e) <;> exact absurd (show (_ : Nat) = _ from e) (by omega))
  refine zip_begins2 (begins_tuple a as.toArray) (begins_list b bs.toArray) pa pb.isList fun h' hz hTI hTO h1 h2 hsz hk => ?_
  rw [hn] at hz hTI hTO h1 h2 ⊢
  refine wpAny_pyIter_zip hz ?_
  have I2 : Inv X pins σ H1 { s1 with heap := h' } := I1.kept (t' := s1.toks) hk
  exact ⟨n + 4, [n + 4, n + 2, n + 3, n, n + 1], _, _, H1, rfl, I2, turnTL ⟨S, Nat.ne_of_lt al', Nat.ne_of_lt (Nat.lt_succ_of_lt bl')⟩, ⟨hz, hTI, ⟨_, _, hTO⟩, ⟨_, h1, rfl, rfl⟩, ⟨_, h2, rfl, rfl⟩⟩, fresh, q⟩
section
variable {X : Cx} {Γ : Gam} {M : Mem} {e e2 : Expr} {pos p : Pos} {α β : Type} {T : Ty α} {U : Ty β} {xs : List α} {ys : List β}
theorem tw_TL {K : PySem.W.Frag} {F : Hp} {a b : Addr} {vs ws : List V} (h1 : F a = some (.tup vs)) (h2 : Paired (T.t F) vs xs) (g1 : F b = some (.lst ws)) (g2 : Paired (U.t F) ws ys) (hz : vs.length ≤ sizeLine) : TW (ItTL K a b) F (tPr T U) (xs.zip ys) := by
  have hl := Paired.length h2
  have gl := Paired.length g2
  have zl : (xs.zip ys).length = min xs.length ys.length := List.length_zip
  refine ⟨by rw [zl]; omega, fun i F1 H hi e fh => ?_, fun F1 H e fh => ⟨vs, ws, SqT.of (fh _ _ (e _ _ h1)), SqL.of (fh _ _ (e _ _ g1)), ?_, ?_, ?_⟩, fun i F1 H H' v hi e fh y => ?_⟩
  · obtain ⟨u, hu, tu⟩ := paired_at h2 i (by omega)
    obtain ⟨u2, hu2, tu2⟩ := paired_at g2 i (by omega)
    exact ⟨vs, ws, u, u2, SqT.of (fh _ _ (e _ _ h1)), SqL.of (fh _ _ (e _ _ g1)), hu, hu2⟩
  · rw [zl, hl, gl]; omega
  · rw [zl, hl]; omega
  · rw [zl, gl]; omega
  · obtain ⟨t, x, z, rfl, e2, rfl, e4, e5⟩ := y
    have e4' := e4 vs (SqT.of (fh _ _ (e _ _ h1)))
    have e5' := e5 ws (SqL.of (fh _ _ (e _ _ g1)))
    obtain ⟨u, hu, tu⟩ := paired_at h2 i (by omega)
    obtain ⟨u2, hu2, tu2⟩ := paired_at g2 i (by omega)
    have q1 := Option.some.inj (e4'.symm.trans hu)
    have q2 := Option.some.inj (e5'.symm.trans hu2)
    subst q1 q2
    have st := Stp.new (M := []) (o := .tup [x, z]) fh Cells.nil e2
    refine ⟨_, st, t, x, z, rfl, upd_same, ?_, ?_⟩
    · rw [getElem_zip' hi]; exact T.mono (e.trans st.ff) tu
    · rw [getElem_zip' hi]; exact U.mono (e.trans st.ff) tu2
theorem evi_zipTL {elts : List Expr} {n0 : Nat} {tpos : Pos} (h : Ev X Γ M e ((tTup T).is xs)) (h2 : Ev X Γ M e2 ((tLst U).is ys)) (hm : X.mg "zip" = none) (hg : Gl X "zip" := by rfl)
    (hs : starEach [e, e2] X.env = (false, eval e X.env) :: starEach [e2] X.env := by rfl) (hs1 : starEach [e2] X.env = (false, eval e2 X.env) :: starEach [] X.env := by rfl) (hpl : (backTo pos (starEach [e2] X.env)).any (·.1) = false := by rfl) :
    EvI X Γ M (.Tuple elts n0 tpos) (.Call (.Name "zip" p) [e, e2] [] pos) (tPr T U) (xs.zip ys) := fun σ F H eo fh ce R k => by
  refine wI_inv (R' := fun J H' => ∃ (a b : Addr) (F' : Hp) (vs ws : List V), J = ItTL X.K a b ∧ Stp M F H F' H' ∧ F' a = some (.tup vs) ∧ Paired (T.t F') vs xs ∧ F' b = some (.lst ws) ∧ Paired (U.t F') ws ys) (pi_TL hg hm pa_w hs hpl) ?_ fun pins s J H' I ⟨a, b, F', vs, ws, e1, st, h1, h2, g1, g2⟩ => ?_
  · refine (eva_cons h (eva_one h2 hs1) hs) σ F H eo fh ce _ fun F1 H1 vs s1 pvs => ?_
    obtain ⟨v, w, rfl, ⟨a, vs, rfl, h1, h2⟩, ⟨b, ws, rfl, g1, g2⟩⟩ := paired2 pvs
    exact ⟨a, b, vs, ws, rfl, SqT.of (s1.fh _ _ h1), SqL.of (s1.fh _ _ g1), a, b, F1, vs, ws, rfl, s1, h1, h2, g1, g2⟩
  · subst e1
    obtain ⟨_, _, _, hz⟩ := I.tuple (SqT.of (st.fh _ _ h1))
    exact k _ F' H' st (tw_TL h1 h2 g1 g2 hz)
end
end L2.K3
set_option Elab.async false
set_option linter.all false
set_option maxHeartbeats 2000001
/-! MI: sizes of worths and of sums over the rows ahead. -/
namespace RM
open Sol (take_succ)
theorem BD.pow {D N : Nat} {q : Rat} (h : BD D N q) : ∀ j : Nat, BD (D ^ j) (N ^ j) (q ^ j)
  | 0 => by rw [Rat.pow_zero]; exact BD.one
  | j + 1 => by rw [Rat.pow_succ]; exact (BD.pow h j).mul h
def wv (l : List (Int × Rat)) (i : Nat) : Rat := (l.take i).foldl (fun q x => q * x.2 ^ x.1.toNat) 1
theorem wv_succ {l : List (Int × Rat)} {i : Nat} (h : i < l.length) : wv l (i + 1) = wv l i * l[i].2 ^ l[i].1.toNat := by
  unfold wv
  rw [take_succ h, List.foldl_append] <;> rfl
/-- powers within 0 .. 2, numbers of halves within 3 -/
def SmL (l : List (Int × Rat)) : Prop := l.length ≤ 3 ∧ ∀ x ∈ l, 0 ≤ x.1 ∧ x.1 ≤ 2 ∧ BD 2 6 x.2
theorem pow_bd {q : Rat} (h : BD 2 6 q) {j : Nat} (hj : j ≤ 2) : BD 4 36 (q ^ j) := by
  have hh : j = 0 ∨ j = 1 ∨ j = 2 := by omega
  rcases hh with rfl | rfl | rfl
  · rw [Rat.pow_zero]
    exact ((BD.one.scale (E := 4) (by decide)).mono (by decide))
  · exact ((h.pow 1).scale (E := 2) (by decide)).mono (by decide)
  · exact (h.pow 2).mono (by decide)
theorem wv_bd {l : List (Int × Rat)} (h : SmL l) : ∀ i, i ≤ l.length → BD (4 ^ i) (36 ^ i) (wv l i)
  | 0, _ => BD.one
  | i + 1, hi => by
    rw [wv_succ hi]
    obtain ⟨h1, h2, h3⟩ := h.2 _ (List.getElem_mem hi)
    exact (wv_bd h i (Nat.le_of_succ_le hi)).mul (pow_bd h3 (by omega))
theorem le3 {i : Nat} (h : i ≤ 3) : 4 ^ i ≤ 64 ∧ 36 ^ i ≤ 46656 := by
  have hh : i = 0 ∨ i = 1 ∨ i = 2 ∨ i = 3 := by omega
  rcases hh with rfl | rfl | rfl | rfl <;> decide
theorem wv_sz {l : List (Int × Rat)} (h : SmL l) {i : Nat} (hi : i < l.length) {j : Nat} (hj : j ≤ 2) : Sz 4400 (wv l i * l[i].2 ^ j) := by
  have b := (wv_bd h i (Nat.le_of_lt hi)).mul (pow_bd (h.2 _ (List.getElem_mem hi)).2.2 hj)
  have hl := h.1
  obtain ⟨e1, e2⟩ := le3 (show i ≤ 3 by omega)
  refine b.sz 30 ?_ ?_ (by decide)
  · calc 36 ^ i * 36 ≤ 46656 * 36 := Nat.mul_le_mul_right _ e2
      _ < 2 ^ 30 := by decide
  · calc 4 ^ i * 4 ≤ 64 * 4 := Nat.mul_le_mul_right _ e1
      _ < 2 ^ 30 := by decide
theorem wv_bd3 {l : List (Int × Rat)} (h : SmL l) : BD 64 46656 (wv l l.length) := by
  have b := wv_bd h l.length (Nat.le_refl _)
  have hl := h.1
  have hh : l.length = 0 ∨ l.length = 1 ∨ l.length = 2 ∨ l.length = 3 := by omega
  rcases hh with e | e | e | e
  · rw [e] at b ⊢; exact (b.scale (E := 64) (by decide)).mono (by decide)
  · rw [e] at b ⊢; exact (b.scale (E := 16) (by decide)).mono (by decide)
  · rw [e] at b ⊢; exact (b.scale (E := 4) (by decide)).mono (by decide)
  · rw [e] at b ⊢; exact b
theorem worth_wv (letter : List Int) (row : List Rat) : worthR letter row = wv (letter.zip row) (letter.zip row).length := by
  unfold wv
  rw [List.take_length] <;> rfl
/-! ### sums -/
theorem sums_bd {D N E M : Nat} (hD : 0 < D) (hE : 0 < E) {l : List (Rat × Rat)} (h : ∀ x ∈ l, BD D N x.1 ∧ BD E M x.2) : ∀ k, k ≤ l.length → BD (D * E) (k * (N * M)) (sumsG 0 l k)
  | 0, _ => BD.zero (Nat.mul_pos hD hE)
  | k + 1, hk => by
    rw [sumsG_succ hk, Nat.succ_mul]
    obtain ⟨h1, h2⟩ := h _ (List.getElem_mem hk)
    exact (sums_bd hD hE h k (Nat.le_of_succ_le hk)).add (h1.mul h2)
abbrev LB (t : Nat) (q : Rat) : Prop := BD (64 ^ t) (419904 ^ t) q
theorem LB.sum {t : Nat} {found ws : List Rat} (hf : ∀ q ∈ found, LB t q) (hw : ∀ q ∈ ws, BD 64 46656 q) (hl : ws.length ≤ 9) {k : Nat} (hk : k ≤ (found.zip ws).length) : LB (t + 1) (sumsG 0 (found.zip ws) k) := by
  have b := sums_bd (D := 64 ^ t) (N := 419904 ^ t) (E := 64) (M := 46656) (Nat.pow_pos (by decide)) (by decide) (l := found.zip ws) (fun x hx => ?_) k hk
  · have hk9 : k ≤ 9 := by rw [List.length_zip] at hk; omega
    refine b.mono ?_
    calc k * (419904 ^ t * 46656) ≤ 9 * (419904 ^ t * 46656) := Nat.mul_le_mul_right _ hk9
      _ = 419904 ^ (t + 1) := by rw [Nat.pow_succ, Nat.mul_left_comm]
  · obtain ⟨m1, m2⟩ := List.of_mem_zip (a := x.1) (b := x.2) hx
    exact ⟨hf _ m1, hw _ m2⟩
theorem LB.step {t : Nat} {found ws : List Rat} (hf : ∀ q ∈ found, LB t q) (hw : ∀ q ∈ ws, BD 64 46656 q) (hl : ws.length ≤ 9) : ∀ q ∈ stepG 0 found ws, LB (t + 1) q := fun q hq => by
  unfold stepG at hq
  obtain ⟨k, hk, rfl⟩ := List.mem_map.mp hq
  exact LB.sum hf hw hl (by have := List.mem_range.mp hk; omega)
def aheadF (n : Nat) (W : List (List Rat)) : List Rat := aheadW (List.replicate (n + 1) 1) W
theorem aheadF_take {n : Nat} {W : List (List Rat)} {i : Nat} (h : i < W.length) : aheadF n (W.take (i + 1)) = stepG 0 (aheadF n (W.take i)) W[i] := by
  unfold aheadF aheadW
  rw [take_succ h, List.foldl_append] <;> rfl
theorem aheadF_bd {n : Nat} {W : List (List Rat)} (hn : n ≤ 9) (h : ∀ ws ∈ W, ws.length = n ∧ ∀ q ∈ ws, BD 64 46656 q) : ∀ i, i ≤ W.length → (∀ q ∈ aheadF n (W.take i), LB i q) ∧ (aheadF n (W.take i)).length = n + 1
  | 0, _ => ⟨fun q hq => by rw [(List.mem_replicate.mp hq).2]; exact BD.one, by show (List.replicate (n + 1) (1 : Rat)).length = _; rw [List.length_replicate]⟩
  | i + 1, hi => by
    obtain ⟨h1, h2⟩ := aheadF_bd hn h i (Nat.le_of_succ_le hi)
    obtain ⟨w1, w2⟩ := h _ (List.getElem_mem hi)
    rw [aheadF_take hi]
    exact ⟨LB.step h1 w2 (by omega), by rw [stepG_len, List.length_zip, h2, w1]; omega⟩
theorem LB.szz {t : Nat} {q : Rat} (h : LB t q) (ht : t ≤ 3) : Sz 4400 q := by
  refine h.sz 60 ?_ ?_ (by decide)
  · exact Nat.lt_of_le_of_lt (Nat.pow_le_pow_right (by decide) ht) (by decide)
  · exact Nat.lt_of_le_of_lt (Nat.pow_le_pow_right (by decide) ht) (by decide)
end RM
set_option Elab.async false
set_option linter.all false
set_option maxRecDepth 100000
set_option maxHeartbeats 4000001
/-! FnV: the law's own worths. -/
namespace L2.K3
open PySem PySem.Spec PyProof.Rows RM Sol
section
variable {P : Program} {w : World} {K : PySem.W.Frag} {mg : Str → Option Value} {base : Heap} {CR CT CY : Addr}
abbrev sp_lworth (CR : Addr) : Sp := spT (fun x : Letter × List Rat => SmL (x.1.zip x.2)) (fun _ => []) (fun x => [tLetter.is x.1, (tRrow CR).is x.2]) fun x => (tRat CR).is (worthR x.1 x.2)
abbrev nLw : List Str := ["_law_letter_here", "_law_row_here", "_law_found", "_law_power", "_law_number_here", "_law_turn"]
theorem sc_lworth : FnScope nLw ["_law_letter_here", "_law_row_here"] (defScope (top 88)) := ⟨rfl, rfl, rfl, by decide +kernel, rfl, by decide +kernel, by decide +kernel⟩
theorem ok_lworth {f : Addr} {fd : FuncData} (Fd : FnP K "_law_worth" (top 88) f fd) (hm : mg "_law_worth" = some (.ref f)) (T : Tx K mg CR CT CY) (c1 : CalR1 P w K mg base CR) (c2 : CalB P w K mg base CR "__mul__" (· * ·)) : Cal P w K mg base "_law_worth" 5 ["_law_letter_here", "_law_row_here"] [] (sp_lworth CR) := by
  refine cal_mk Fd hm (fn_mk Fd sc_lworth (fun _ => rfl) fun cdv A outer s H E x F hr hp ce => ?_) fun _ _ _ _ _ _ us hl => match us, hl with | [_, _], _ => rfl
  have nd := sc_lworth.nd
  obtain ⟨letter, row⟩ := x
  have hp' : SmL (letter.zip row) := hp
  refine g_set 2 (ev_ratio1 c1 (hr.mono (by decide)) ev_int (q := 1) rfl) ?_ nd
  refine g_for (evi_zipTL (ev_name 0 rfl) (ev_name 1 rfl) T.f) (fun i Γ' M' => Γ' = [some (tLetter.is letter), some ((tRrow CR).is row), some ((tRat CR).is (wv (letter.zip row) i)), none, none, none] ∧ M' = []) ⟨rfl, rfl⟩ ?_ ?_
  · rintro B i h _ _ ⟨rfl, rfl⟩
    have hi : i < (letter.zip row).length := h
    have hx := hp'.2 _ (List.getElem_mem hi)
    have hsz := fun {j : Nat} (hj : j ≤ 2) => wv_sz hp' hi hj
    have hsu := wv_succ hi
    refine ⟨_, _, bd_two (bd_name 3 nd) (bd_name 4 nd), ?_⟩
    generalize hy : (letter.zip row)[i] = y at *
    obtain ⟨p, q⟩ := y
    obtain ⟨h0, h2, hb⟩ := hx
    have h0' : 0 ≤ p := h0
    have h2' : p ≤ 2 := h2
    refine g_for (evi_range1 (n := p) (ev_name 3 rfl) T.f (by omega)) (fun j Γ' M' => Γ' = [some (tLetter.is letter), some ((tRrow CR).is row), some ((tRat CR).is (wv (letter.zip row) i * q ^ j)), some (tInt.is p), some ((tRat CR).is q), none] ∧ M' = []) ⟨?_, rfl⟩ ?_ ?_
    · show [some (tLetter.is letter), some ((tRrow CR).is row), some ((tRat CR).is (wv (letter.zip row) i)), some (tInt.is p), some ((tRat CR).is q), none] = _
      rw [Rat.pow_zero, Rat.mul_one]
    · rintro B2 j hj _ _ ⟨rfl, rfl⟩
      rw [upF_len] at hj
      refine ⟨_, _, bd_name 5 nd, ?_⟩
      have hq : Sz 4400 q := hb.sz 10 (by decide) (by decide) (by decide)
      refine g_set 2 (ev_rmul T c2 hr (ev_name 2 rfl) (ev_name 4 rfl) (hsz (by omega)) hq) ?_ nd
      refine g_turn ⟨?_, rfl⟩ (.keep (.keep (.keep (.keep (.keep (.drop .nil))))))
      rw [Rat.pow_succ, ← Rat.mul_assoc]
    · rintro _ _ ⟨rfl, rfl⟩
      refine g_turn ⟨?_, rfl⟩ (.keep (.keep (.keep (.drop (.drop (.drop .nil))))))
      rw [upF_len, hsu]
  · rintro _ _ ⟨rfl, rfl⟩
    refine g_ret (ev_name 2 rfl) fun F v h => ?_
    show ((tRat CR).is (worthR letter row)).p F v
    rw [worth_wv]
    exact h
/-! ### ahead -/
structure preLa (x : List (List Rat) × Word) : Prop where
  n : x.1.length ≤ 9
  m : x.2.length ≤ 2
  s : ∀ l ∈ x.2, ∀ r ∈ x.1, SmL (l.zip r)
abbrev sp_lahead (CR : Addr) : Sp := spT preLa (fun _ => []) (fun x => [(tRrows CR).is x.1, tWord.is x.2]) fun x => (tRrow CR).is (aheadR x.1 x.2)
abbrev nLa : List Str := ["_law_rows_here", "_law_word_here", "_law_found", "_law_letter_here", "_law_total", "_law_late", "_law_before", "_law_row_here"]
theorem sc_lahead : FnScope nLa ["_law_rows_here", "_law_word_here"] (defScope (top 89)) := ⟨rfl, rfl, rfl, by decide +kernel, rfl, by decide +kernel, by decide +kernel⟩
theorem ok_lahead {f : Addr} {fd : FuncData} (Fd : FnP K "_law_ahead" (top 89) f fd) (hm : mg "_law_ahead" = some (.ref f)) (T : Tx K mg CR CT CY) (c1 : CalR1 P w K mg base CR) (c2 : CalB P w K mg base CR "__add__" (· + ·)) (c3 : CalB P w K mg base CR "__mul__" (· * ·)) (c4 : Cal P w K mg base "_law_worth" 5 ["_law_letter_here", "_law_row_here"] [] (sp_lworth CR)) : Cal P w K mg base "_law_ahead" 6 ["_law_rows_here", "_law_word_here"] [] (sp_lahead CR) := by
  refine cal_mk Fd hm (fn_mk Fd sc_lahead (fun _ => rfl) fun cdv A outer s H E x F hr hp ce => ?_) fun _ _ _ _ _ _ us hl => match us, hl with | [_, _], _ => rfl
  have nd := sc_lahead.nd
  obtain ⟨rows, word⟩ := x
  have hn : rows.length ≤ 9 := hp.n
  have hm2 : word.length ≤ 2 := hp.m
  have hs : ∀ l ∈ word, ∀ r ∈ rows, SmL (l.zip r) := hp.s
  let W : List (List Rat) := word.map fun l => rows.map (worthR l)
  have hW : ∀ ws ∈ W, ws.length = rows.length ∧ ∀ q ∈ ws, BD 64 46656 q := fun ws hws => by
    obtain ⟨l, hl, rfl⟩ := List.mem_map.mp hws
    refine ⟨by rw [List.length_map], fun q hq => ?_⟩
    obtain ⟨r, hr, rfl⟩ := List.mem_map.mp hq
    rw [worth_wv]
    exact wv_bd3 (hs l hl r hr)
  have hWl : W.length = word.length := List.length_map ..
  refine g_set 2 (ev_rep1 (T := tRat CR) (x := 1) (ev_lst (T := tRat CR) (xs := [1]) (eva_one (ev_ratio1 c1 (hr.mono (by decide)) ev_int (q := 1) rfl)) (by decide)) (ev_add (ev_lenL (xs := rows) (ev_name 0 rfl) T.f) ev_int) (by omega)) ?_ nd
  refine g_for (evi_tup (ev_name 1 rfl)) (fun i Γ' M' => Γ' = [some ((tRrows CR).is rows), some (tWord.is word), some ((tRrow CR).is (aheadF rows.length (W.take i))), none, none, none, none, none] ∧ M' = []) ⟨?_, rfl⟩ ?_ ?_
  · show [some ((tRrows CR).is rows), some (tWord.is word), some ((tRrow CR).is (List.replicate ((rows.length : Int) + 1).toNat 1)), none, none, none, none, none] = _
    have e : ((rows.length : Int) + 1).toNat = rows.length + 1 := by omega
    rw [e]
    rfl
  · rintro B i h _ _ ⟨rfl, rfl⟩
    have h' : i < W.length := by rw [hWl]; exact h
    have h2 : i < word.length := h
    have hWi : W[i] = rows.map (worthR word[i]) := by simp only [W, List.getElem_map]
    obtain ⟨b1, b2⟩ := aheadF_bd hn hW i (Nat.le_of_lt h')
    obtain ⟨w1, w2⟩ := hW _ (List.getElem_mem h')
    have hx := aheadF_take (n := rows.length) h'
    have hsl : ∀ r ∈ rows, SmL (word[i].zip r) := hs _ (List.getElem_mem h2)
    rw [hWi] at w1 w2 hx
    generalize hfo : aheadF rows.length (W.take i) = fo at b1 b2 hx
    refine ⟨_, _, bd_name 3 nd, ?_⟩
    show G _ _ _ [some ((tRrows CR).is rows), some (tWord.is word), some ((tRrow CR).is fo), some (tLetter.is word[i]), none, none, none, none] [] _
    generalize hle : word[i] = le at *
    have hzl : (fo.zip (rows.map (worthR le))).length = rows.length := by rw [List.length_zip, w1, b2]; omega
    have hzr : (fo.zip rows).length = rows.length := by rw [List.length_zip, b2]; omega
    refine g_par2 4 5 (ga_val (ev_ratio1 c1 (hr.mono (by decide)) ev_int (q := 0) rfl) (ga_cell (cc := fun _ => cLst (tRat CR) [0]) (evc_list (T := tRat CR) (xs := [0]) (eva_one (ev_ratio1 c1 (hr.mono (by decide)) ev_int (q := 0) rfl))) fun l hl => ga_nil ⟨_, _, rfl, ?_⟩)) nd
    refine g_for (evi_zip (ev_name 2 rfl) (ev_name 0 rfl) T.f) (fun k Γ' M' => Γ' = [some ((tRrows CR).is rows), some (tWord.is word), some ((tRrow CR).is fo), some (tLetter.is le), some ((tRat CR).is (sumsG 0 (fo.zip (rows.map (worthR le))) k)), some (mpRef l), none, none] ∧ M' = [(l, cLst (tRat CR) ((List.range (k + 1)).map (sumsG 0 (fo.zip (rows.map (worthR le))))))]) ⟨rfl, rfl⟩ ?_ ?_
    · rintro B2 k hk _ _ ⟨rfl, rfl⟩
      have hkr : k < (fo.zip rows).length := hk
      have hk' : k < (fo.zip (rows.map (worthR le))).length := by omega
      have hkn : k < rows.length := by omega
      have hkf : k < fo.length := by omega
      refine ⟨_, _, bd_two (bd_name 6 nd) (bd_name 7 nd), ?_⟩
      have e1 : (fo.zip rows)[k] = (fo[k], rows[k]) := List.getElem_zip
      have e2 : (fo.zip (rows.map (worthR le)))[k] = (fo[k], worthR le rows[k]) := by rw [List.getElem_zip, List.getElem_map]
      rw [e1]
      have q1 : Sz 4400 fo[k] := (b1 _ (List.getElem_mem hkf)).szz (by omega)
      have bw : BD 64 46656 (worthR le rows[k]) := by rw [worth_wv]; exact wv_bd3 (hsl _ (List.getElem_mem hkn))
      have q2 : Sz 4400 (worthR le rows[k]) := bw.sz 30 (by decide) (by decide) (by decide)
      have q3 : Sz 4400 (sumsG 0 (fo.zip (rows.map (worthR le))) k) := (LB.sum b1 w2 (by rw [w1]; exact hn) (Nat.le_of_lt hk')).szz (by omega)
      have q4 : Sz 4400 (fo[k] * worthR le rows[k]) := by
        have b := (b1 _ (List.getElem_mem hkf)).mul bw
        have h3 : i ≤ 2 := by omega
        refine b.sz 100 ?_ ?_ (by decide)
        · exact Nat.lt_of_le_of_lt (Nat.mul_le_mul_right _ (Nat.pow_le_pow_right (by decide) h3)) (by decide)
        · exact Nat.lt_of_le_of_lt (Nat.mul_le_mul_right _ (Nat.pow_le_pow_right (by decide) h3)) (by decide)
      have su := sumsG_succ (z := (0 : Rat)) hk'
      rw [e2] at su
      refine g_set 4 (ev_radd T c2 (hr.mono (by decide)) (ev_name 4 rfl) (ev_rmul T c3 (hr.mono (by decide)) (ev_name 6 rfl) (ev_callI (R := (tRat CR).is (worthR le rows[k])) c4 hr (le, rows[k]) (eva_cons (ev_name 3 rfl) (eva_one (ev_name 7 rfl))) (hsl _ (List.getElem_mem hkn))) q1 q2) q3 q4) ?_ nd
      have su' : sumsG 0 (fo.zip (rows.map (worthR le))) k + fo[k] * worthR le rows[k] = sumsG 0 (fo.zip (rows.map (worthR le))) (k + 1) := su.symm
      rw [su']
      refine g_app (T := tRat CR) (x := sumsG 0 (fo.zip (rows.map (worthR le))) (k + 1)) 0 (ev_name 5 rfl) (ev_name 4 rfl) rfl ?_ (by rw [List.length_map, List.length_range]; omega)
      refine g_turn ⟨rfl, ?_⟩ (.keep (.keep (.keep (.keep (.keep (.keep (.drop (.drop .nil))))))))
      rw [range_snoc]
      rfl
    · rintro _ _ ⟨rfl, rfl⟩
      refine g_frzL 5 0 rfl rfl hl (fun h => nomatch h) ?_
      refine g_set 2 (ev_name 5 rfl) ?_ nd
      refine g_turn ?_ (.keep (.keep (.keep (.drop (.drop (.drop (.drop (.drop .nil))))))))
      rw [hx]
      unfold stepG
      rw [hzl, ← hzr]
      exact ⟨rfl, rfl⟩
  · rintro _ _ ⟨rfl, rfl⟩
    rw [← hWl, List.take_length]
    exact g_ret (ev_name 2 rfl)
end
end L2.K3
set_option Elab.async false
set_option linter.all false
set_option maxRecDepth 100000
set_option maxHeartbeats 4000001
/-! FnW: the law's tally, mixed sums and middles. -/
namespace L2.K3
open PySem PySem.Spec PyProof.Rows RM Sol
def ltalN (rows : List (List Rat)) (parts : List (Word × Rat)) (i : Nat) : Rat := (parts.take i).foldl (fun t p => t + lastR (aheadR rows p.1) * p.2) 0
def ltalM (rows : List (List Rat)) (parts : List (Word × Rat)) : Rat := ltalN rows parts parts.length
theorem ltalN_succ {rows : List (List Rat)} {parts : List (Word × Rat)} {i : Nat} (h : i < parts.length) : ltalN rows parts (i + 1) = ltalN rows parts i + lastR (aheadR rows parts[i].1) * parts[i].2 := by
  unfold ltalN
  rw [take_succ' h, List.foldl_append] <;> rfl
structure preLt (x : List (Word × Rat) × List (List Rat)) : Prop where
  p : ∀ p ∈ x.1, preLa (x.2, p.1)
  s : ∀ i, i ≤ x.1.length → Sz 4400 (ltalN x.2 x.1 i)
  f : ∀ p ∈ x.1, Sz 4400 p.2
  l : ∀ p ∈ x.1, Sz 4400 (lastR (aheadR x.2 p.1))
  g : ∀ p ∈ x.1, Sz 4400 (lastR (aheadR x.2 p.1) * p.2)
section
variable {P : Program} {w : World} {K : PySem.W.Frag} {mg : Str → Option Value} {base : Heap} {CR CT CY : Addr}
abbrev sp_ltally (CR : Addr) : Sp := spT preLt (fun _ => []) (fun x => [(tLst (tPart CR)).is x.1, (tRrows CR).is x.2]) fun x => (tRat CR).is (ltalM x.2 x.1)
abbrev nLt : List Str := ["_law_parts_here", "_law_rows_here", "_law_found", "_law_word_here", "_law_factor"]
theorem sc_ltally : FnScope nLt ["_law_parts_here", "_law_rows_here"] (defScope (top 90)) := ⟨rfl, rfl, rfl, by decide +kernel, rfl, by decide +kernel, by decide +kernel⟩
theorem ok_ltally {f : Addr} {fd : FuncData} (Fd : FnP K "_law_tally" (top 90) f fd) (hm : mg "_law_tally" = some (.ref f)) (T : Tx K mg CR CT CY) (c1 : CalR1 P w K mg base CR) (c2 : CalB P w K mg base CR "__add__" (· + ·)) (c3 : CalB P w K mg base CR "__mul__" (· * ·)) (c4 : Cal P w K mg base "_law_ahead" 6 ["_law_rows_here", "_law_word_here"] [] (sp_lahead CR)) : Cal P w K mg base "_law_tally" 7 ["_law_parts_here", "_law_rows_here"] [] (sp_ltally CR) := by
  refine cal_mk Fd hm (fn_mk Fd sc_ltally (fun _ => rfl) fun cdv A outer s H E x F hr hp ce => ?_) fun _ _ _ _ _ _ us hl => match us, hl with | [_, _], _ => rfl
  have nd := sc_ltally.nd
  obtain ⟨parts, rows⟩ := x
  refine g_set 2 (ev_ratio1 c1 (hr.mono (by decide)) ev_int (q := 0) rfl) ?_ nd
  refine g_for (evi_list (ev_name 0 rfl)) (fun i Γ' M' => Γ' = [some ((tLst (tPart CR)).is parts), some ((tRrows CR).is rows), some ((tRat CR).is (ltalN rows parts i)), none, none] ∧ M' = []) ⟨rfl, rfl⟩ ?_ ?_
  · rintro B i h _ _ ⟨rfl, rfl⟩
    have hi : i < parts.length := h
    have hmem := List.getElem_mem hi
    refine ⟨_, _, bd_two (bd_name 3 nd) (bd_name 4 nd), ?_⟩
    refine g_set 2 (ev_radd T c2 (hr.mono (by decide)) (ev_name 2 rfl) (ev_rmul T c3 (hr.mono (by decide)) (ev_ixL (ev_callI (R := (tRrow CR).is (aheadR rows parts[i].1)) c4 hr (rows, parts[i].1) (eva_cons (ev_name 1 rfl) (eva_one (ev_name 3 rfl))) (hp.p _ hmem)) (ev_neg ev_int) (at_last (ahead_ne _ _))) (ev_name 4 rfl) (hp.l _ hmem) (hp.f _ hmem)) (hp.s i (Nat.le_of_lt hi)) (hp.g _ hmem)) ?_ nd
    refine g_turn ⟨?_, rfl⟩ (.keep (.keep (.keep (.drop (.drop .nil)))))
    rw [ltalN_succ hi]
  · rintro _ _ ⟨rfl, rfl⟩
    exact g_ret (ev_name 2 rfl)
/-! ### mixed -/
abbrev tCub (CR : Addr) : Ty (List (List (List Rat))) := tLst (tRrows CR)
def mixI (one : Rat) (l : List (Rat × Rat)) (t : Rat) (k : Nat) : Rat := (l.take k).foldl (fun t x => if sgn x.1 = 0 then t else t + x.1 * one * x.2) t
def mixR (rows : List (List Rat)) (ns os : List Rat) (j : Nat) : Rat := ((rows.zip ns).take j).foldl (fun t x => mixI x.2 (x.1.zip os) t (x.1.zip os).length) 0
def mixM (table : List (List (List Rat))) (ns os : List Rat) : List Rat := table.map fun rows => mixR rows ns os (rows.zip ns).length
theorem mixI_succ {one : Rat} {l : List (Rat × Rat)} {t : Rat} {k : Nat} (h : k < l.length) : mixI one l t (k + 1) = if sgn l[k].1 = 0 then mixI one l t k else mixI one l t k + l[k].1 * one * l[k].2 := by
  unfold mixI
  rw [take_succ' h, List.foldl_append] <;> rfl
theorem mixR_succ {rows : List (List Rat)} {ns os : List Rat} {j : Nat} (h : j < (rows.zip ns).length) : mixR rows ns os (j + 1) = mixI (rows.zip ns)[j].2 ((rows.zip ns)[j].1.zip os) (mixR rows ns os j) ((rows.zip ns)[j].1.zip os).length := by
  unfold mixR
  rw [take_succ' h, List.foldl_append] <;> rfl
structure preMx (x : List (List (List Rat)) × List Rat × List Rat) : Prop where
  n : x.1.length ≤ 1000
  s : ∀ rows ∈ x.1, ∀ j (h : j < (rows.zip x.2.1).length), ∀ k, k ≤ ((rows.zip x.2.1)[j].1.zip x.2.2).length → Sz 4400 (mixI (rows.zip x.2.1)[j].2 ((rows.zip x.2.1)[j].1.zip x.2.2) (mixR rows x.2.1 x.2.2 j) k)
  f : ∀ rows ∈ x.1, ∀ row ∈ rows, ∀ q ∈ row, Sz 4400 q
  g : ∀ q ∈ x.2.1, Sz 4400 q
  h : ∀ q ∈ x.2.2, Sz 4400 q
  fg : ∀ rows ∈ x.1, ∀ row ∈ rows, ∀ q ∈ row, ∀ r ∈ x.2.1, Sz 4400 (q * r)
  fgh : ∀ rows ∈ x.1, ∀ row ∈ rows, ∀ q ∈ row, ∀ r ∈ x.2.1, ∀ u ∈ x.2.2, Sz 4400 (q * r * u)
abbrev sp_mixed (CR : Addr) : Sp := spT preMx (fun _ => []) (fun x => [(tCub CR).is x.1, (tRrow CR).is x.2.1, (tRrow CR).is x.2.2]) fun x => (tRrow CR).is (mixM x.1 x.2.1 x.2.2)
abbrev nMx : List Str := ["_law_table", "_law_numbers", "_law_others", "_law_found", "_law_rows_here", "_law_total", "_law_row_here", "_law_one", "_law_factor", "_law_other"]
theorem sc_mixed : FnScope nMx ["_law_table", "_law_numbers", "_law_others"] (defScope (top 101)) := ⟨rfl, rfl, rfl, by decide +kernel, rfl, by decide +kernel, by decide +kernel⟩
theorem ok_mixed {f : Addr} {fd : FuncData} (Fd : FnP K "_law_mixed" (top 101) f fd) (hm : mg "_law_mixed" = some (.ref f)) (T : Tx K mg CR CT CY) (c1 : CalR1 P w K mg base CR) (c2 : CalB P w K mg base CR "__add__" (· + ·)) (c3 : CalB P w K mg base CR "__mul__" (· * ·)) (c4 : CalPr P w K mg base CR "sign" 1 (sp_sign CR)) : Cal P w K mg base "_law_mixed" 5 ["_law_table", "_law_numbers", "_law_others"] [] (sp_mixed CR) := by
  refine cal_mk Fd hm (fn_mk Fd sc_mixed (fun _ => rfl) fun cdv A outer s H E x F hr hp ce => ?_) fun _ _ _ _ _ _ us hl => match us, hl with | [_, _, _], _ => rfl
  have nd := sc_mixed.nd
  obtain ⟨table, ns, os⟩ := x
  have hn : table.length ≤ 1000 := hp.n
  refine g_newl (xs := []) (tRat CR) 3 eva_nil (fun lf hlf => ?_) nd
  refine g_for (evi_list (ev_name 0 rfl)) (fun i Γ' M' => Γ' = [some ((tCub CR).is table), some ((tRrow CR).is ns), some ((tRrow CR).is os), some (mpRef lf), none, none, none, none, none, none] ∧ M' = [(lf, cLst (tRat CR) ((table.take i).map fun rows => mixR rows ns os (rows.zip ns).length))]) ⟨rfl, rfl⟩ ?_ ?_
  · rintro B i h _ _ ⟨rfl, rfl⟩
    have hi : i < table.length := h
    have hrm := List.getElem_mem hi
    have hs := hp.s _ hrm
    have hf := hp.f _ hrm
    have hfg := hp.fg _ hrm
    have hfgh := hp.fgh _ hrm
    have htk := take_succ' hi
    refine ⟨_, _, bd_name 4 nd, ?_⟩
    show G _ _ _ [some ((tCub CR).is table), some ((tRrow CR).is ns), some ((tRrow CR).is os), some (mpRef lf), some ((tRrows CR).is table[i]), none, none, none, none, none] _ _
    generalize hrw : table[i] = rows at *
    refine g_set 5 (ev_ratio1 c1 (hr.mono (by decide)) ev_int (q := 0) rfl) ?_ nd
    refine g_for (evi_zip (ev_name 4 rfl) (ev_name 1 rfl) T.f) (fun j Γ' M' => Γ' = [some ((tCub CR).is table), some ((tRrow CR).is ns), some ((tRrow CR).is os), some (mpRef lf), some ((tRrows CR).is rows), some ((tRat CR).is (mixR rows ns os j)), none, none, none, none] ∧ M' = [(lf, cLst (tRat CR) ((table.take i).map fun rows => mixR rows ns os (rows.zip ns).length))]) ⟨rfl, rfl⟩ ?_ ?_
    · rintro B2 j hj _ _ ⟨rfl, rfl⟩
      have hj' : j < (rows.zip ns).length := hj
      have hsj := hs j hj'
      have hmj := List.of_mem_zip (a := (rows.zip ns)[j].1) (b := (rows.zip ns)[j].2) (List.getElem_mem hj')
      have hRj := mixR_succ (os := os) hj'
      refine ⟨_, _, bd_two (bd_name 6 nd) (bd_name 7 nd), ?_⟩
      show G _ _ _ [some ((tCub CR).is table), some ((tRrow CR).is ns), some ((tRrow CR).is os), some (mpRef lf), some ((tRrows CR).is rows), some ((tRat CR).is (mixR rows ns os j)), some ((tRrow CR).is (rows.zip ns)[j].1), some ((tRat CR).is (rows.zip ns)[j].2), none, none] _ _
      generalize hz : (rows.zip ns)[j] = z at *
      obtain ⟨row, one⟩ := z
      obtain ⟨hm1, hm2⟩ := hmj
      refine g_for (evi_zip (ev_name 6 rfl) (ev_name 2 rfl) T.f) (fun k Γ' M' => Γ' = [some ((tCub CR).is table), some ((tRrow CR).is ns), some ((tRrow CR).is os), some (mpRef lf), some ((tRrows CR).is rows), some ((tRat CR).is (mixI one (row.zip os) (mixR rows ns os j) k)), some ((tRrow CR).is row), some ((tRat CR).is one), none, none] ∧ M' = [(lf, cLst (tRat CR) ((table.take i).map fun rows => mixR rows ns os (rows.zip ns).length))]) ⟨rfl, rfl⟩ ?_ ?_
      · rintro B3 k hk _ _ ⟨rfl, rfl⟩
        have hk' : k < (row.zip os).length := hk
        have hsk := hsj k (Nat.le_of_lt hk')
        have hmk := List.of_mem_zip (a := (row.zip os)[k].1) (b := (row.zip os)[k].2) (List.getElem_mem hk')
        have hIk := mixI_succ (one := one) (t := mixR rows ns os j) hk'
        refine ⟨_, _, bd_two (bd_name 8 nd) (bd_name 9 nd), ?_⟩
        generalize hy : (row.zip os)[k] = y at *
        obtain ⟨q, u⟩ := y
        obtain ⟨hm3, hm4⟩ := hmk
        refine g_if (et_neI (ev_sign T c4 (hr.mono (by decide)) (q := q) (ev_name 8 rfl)) ev_int) (fun hb => ?_) (fun hb => ?_)
        · have h0 : ¬ sgn q = 0 := by simpa using hb
          refine g_set 5 (ev_radd T c2 hr (ev_name 5 rfl) (ev_rmul T c3 hr (x := q * one) (y := u) (ev_rmul T c3 hr (x := q) (y := one) (ev_name 8 rfl) (ev_name 7 rfl) (hf _ hm1 _ hm3) (hp.g _ hm2)) (ev_name 9 rfl) (hfg _ hm1 _ hm3 _ hm2) (hp.h _ hm4)) hsk (hfgh _ hm1 _ hm3 _ hm2 _ hm4)) ?_ nd
          refine g_end ?_
          refine g_turn ⟨?_, rfl⟩ (.keep (.keep (.keep (.keep (.keep (.keep (.keep (.keep (.drop (.drop .nil))))))))))
          rw [hIk, if_neg h0]
        · have h0 : sgn q = 0 := by simpa using hb
          refine g_end ?_
          refine g_turn ⟨?_, rfl⟩ (.keep (.keep (.keep (.keep (.keep (.keep (.keep (.keep (.drop (.drop .nil))))))))))
          rw [hIk, if_pos h0]
      · rintro _ _ ⟨rfl, rfl⟩
        refine g_turn ⟨?_, rfl⟩ (.keep (.keep (.keep (.keep (.keep (.keep (.drop (.drop (.drop (.drop .nil))))))))))
        rw [hRj]
    · rintro _ _ ⟨rfl, rfl⟩
      refine g_app (T := tRat CR) (x := mixR rows ns os (rows.zip ns).length) 0 (ev_name 3 rfl) (ev_name 5 rfl) rfl ?_ (by rw [List.length_map, List.length_take]; omega)
      refine g_turn ⟨rfl, ?_⟩ (.keep (.keep (.keep (.keep (.drop (.drop (.drop (.drop (.drop (.drop .nil))))))))))
      rw [htk, List.map_append]
      rfl
  · rintro _ _ ⟨rfl, rfl⟩
    refine g_frzL 3 0 rfl rfl hlf (fun h => nomatch h) ?_
    rw [List.take_length]
    exact g_ret (ev_name 3 rfl)
/-! ### middle -/
abbrev lput (A : Mids) (a : Word × Word) (u : Word) (f : Rat) : Mids := dput A a ((dget A a).getD [] ++ [(u, f)])
def lmidH (A : Mids) (x : Word) (f : Rat) (low n : Nat) : Mids := (List.range n).foldl (fun A h => lput A (x.take low, x.drop (low + h)) ((x.drop low).take h) f) A
def lmidL (A : Mids) (x : Word) (f : Rat) (n : Nat) : Mids := (List.range n).foldl (fun A low => lmidH A x f low (x.length + 1 - low)) A
def lmidM (parts : List (Word × Rat)) : Mids := parts.foldl (fun A p => lmidL A p.1 p.2 (p.1.length + 1)) []
theorem lmidH_succ (A : Mids) (x : Word) (f : Rat) (low n : Nat) : lmidH A x f low (n + 1) = lput (lmidH A x f low n) (x.take low, x.drop (low + n)) ((x.drop low).take n) f := by
  unfold lmidH
  rw [List.range_succ, List.foldl_append] <;> rfl
theorem lmidL_succ (A : Mids) (x : Word) (f : Rat) (n : Nat) : lmidL A x f (n + 1) = lmidH (lmidL A x f n) x f n (x.length + 1 - n) := by
  unfold lmidL
  rw [List.range_succ, List.foldl_append] <;> rfl
theorem lmidM_succ {parts : List (Word × Rat)} {i : Nat} (h : i < parts.length) : lmidM (parts.take (i + 1)) = lmidL (lmidM (parts.take i)) parts[i].1 parts[i].2 (parts[i].1.length + 1) := by
  unfold lmidM
  rw [take_succ' h, List.foldl_append] <;> rfl
/-- the lists told as dicts -/
def asD (A : Mids) : Mids := A.map fun x => (x.1, dmerge x.2)
theorem dget_asD (A : Mids) (a : Word × Word) : dget (asD A) a = (dget A a).map dmerge := by
  unfold asD
  induction A with
  | nil => rfl
  | cons x l ih =>
    rw [List.map_cons, dget_cons, dget_cons, ih]
    by_cases h : x.1 = a
    · rw [if_pos h, if_pos h] <;> rfl
    · rw [if_neg h, if_neg h]
theorem dmerge_snoc (l : List (Word × Rat)) (u : Word) (f : Rat) : dmerge (l ++ [(u, f)]) = dput (dmerge l) u f := by
  unfold dmerge
  rw [List.foldl_append] <;> rfl
theorem asD_put (A : Mids) (a : Word × Word) (u : Word) (f : Rat) : asD (lput A a u f) = midPut (asD A) a u f := by
  unfold midPut lput
  rw [dget_asD]
  have e : ((dget A a).map dmerge).getD [] = dmerge ((dget A a).getD []) := by
    cases dget A a <;> rfl
  rw [e, ← dmerge_snoc]
  generalize (dget A a).getD [] ++ [(u, f)] = l
  unfold dput
  rw [dget_asD]
  cases hd : dget A a with
  | none =>
    have e1 : (none : Option (List (Word × Rat))).isSome = true ↔ False := by simp
    simp only [Option.map_none, Option.isSome_none, Bool.false_eq_true, if_false]
    unfold asD
    rw [List.map_append] <;> rfl
  | some y =>
    simp only [Option.map_some, Option.isSome_some, if_true]
    unfold asD
    rw [List.map_map, List.map_map]
    refine List.map_congr_left fun p _ => ?_
    show (_ : (Word × Word) × List (Word × Rat)) = if p.1 = a then (p.1, dmerge l) else (p.1, dmerge p.2)
    by_cases h : p.1 = a
    · rw [if_pos h]
      show ((if p.1 = a then (p.1, l) else p).1, dmerge (if p.1 = a then (p.1, l) else p).2) = _
      rw [if_pos h]
    · rw [if_neg h]
      show ((if p.1 = a then (p.1, l) else p).1, dmerge (if p.1 = a then (p.1, l) else p).2) = _
      rw [if_neg h]
theorem asD_H (A : Mids) (x : Word) (f : Rat) (low : Nat) : ∀ n, asD (lmidH A x f low n) = midHigh (asD A) x f low n
  | 0 => rfl
  | n + 1 => by rw [lmidH_succ, asD_put, asD_H A x f low n, midHigh_succ]
theorem asD_L (A : Mids) (x : Word) (f : Rat) : ∀ n, asD (lmidL A x f n) = midLow (asD A) x f n
  | 0 => rfl
  | n + 1 => by rw [lmidL_succ, asD_H, asD_L A x f n, midLow_succ]
theorem asD_M : ∀ (parts : List (Word × Rat)), asD (lmidM parts) = midM parts := by
  have : ∀ (parts : List (Word × Rat)) (A : Mids), asD (parts.foldl (fun A p => lmidL A p.1 p.2 (p.1.length + 1)) A) = parts.foldl (fun A p => midLow A p.1 p.2 (p.1.length + 1)) (asD A) := by
    intro parts
    induction parts with
    | nil => exact fun A => rfl
    | cons p l ih => exact fun A => by rw [List.foldl_cons, List.foldl_cons, ih, asD_L]
  exact fun parts => this parts []
theorem asD_keys (A : Mids) : (asD A).map (·.1) = A.map (·.1) := by
  unfold asD
  rw [List.map_map] <;> rfl
/-- sizes -/
structure Sl (n : Nat) (A : Mids) : Prop where
  l : A.length ≤ n
  v : ∀ a, ((dget A a).getD []).length ≤ n
theorem Sl.put {n : Nat} {A : Mids} (h : Sl n A) (a : Word × Word) (u : Word) (f : Rat) : Sl (n + 1) (lput A a u f) := by
  have h1 := h.l
  have h2 := dput_len A a ((dget A a).getD [] ++ [(u, f)])
  refine ⟨by show (dput A a ((dget A a).getD [] ++ [(u, f)])).length ≤ n + 1; omega, fun b => ?_⟩
  show ((dget (dput A a ((dget A a).getD [] ++ [(u, f)])) b).getD []).length ≤ n + 1
  rw [dget_put]
  by_cases e : b = a
  · rw [if_pos e, Option.getD_some, List.length_append]
    have := h.v a
    show _ + 1 ≤ _
    omega
  · rw [if_neg e]
    exact Nat.le_succ_of_le (h.v b)
theorem Sl.mono {n m : Nat} {A : Mids} (h : Sl n A) (e : n ≤ m) : Sl m A := ⟨Nat.le_trans h.l e, fun a => Nat.le_trans (h.v a) e⟩
theorem Sl.H {n : Nat} {A : Mids} (h : Sl n A) (x : Word) (f : Rat) (low : Nat) : ∀ k, Sl (n + k) (lmidH A x f low k)
  | 0 => h
  | k + 1 => by rw [lmidH_succ]; exact (Sl.H h x f low k).put _ _ _
theorem Sl.L {n : Nat} {A : Mids} (h : Sl n A) {x : Word} (hx : x.length ≤ 8) (f : Rat) : ∀ k, Sl (n + 9 * k) (lmidL A x f k)
  | 0 => h
  | k + 1 => by rw [lmidL_succ]; exact ((Sl.L h hx f k).H x f k _).mono (by omega)
theorem Sl.all {parts : List (Word × Rat)} (h : ∀ p ∈ parts, p.1.length ≤ 8) : ∀ i, i ≤ parts.length → Sl (81 * i) (lmidM (parts.take i))
  | 0, _ => ⟨Nat.le_refl _, fun _ => Nat.le_refl _⟩
  | i + 1, hi => by
    rw [lmidM_succ hi]
    have := h _ (List.getElem_mem hi)
    exact ((Sl.all h i (Nat.le_of_succ_le hi)).L this _ _).mono (by omega)
abbrev tMl (CR : Addr) : Ty (List (Word × Rat)) := tLst (tPart CR)
abbrev sp_lmiddle (w : World) (CR : Addr) : Sp := spT preMp (fun _ => []) (fun x => [(tMl CR).is x]) fun x => (tLst (tKv w CR)).is (midsV (midM x))
abbrev nLm : List Str := ["_law_parts_here", "_law_found", "_law_word_here", "_law_factor", "_law_low", "_law_high", "_law_key"]
theorem sc_lmiddle : FnScope nLm ["_law_parts_here"] (defScope (top 98)) := ⟨rfl, rfl, rfl, by decide +kernel, rfl, by decide +kernel, by decide +kernel⟩
theorem ok_lmiddle {f : Addr} {fd : FuncData} (Fd : FnP K "_law_middle" (top 98) f fd) (hm : mg "_law_middle" = some (.ref f)) (T : Tx K mg CR CT CY) : Cal P w K mg base "_law_middle" 1 ["_law_parts_here"] [] (sp_lmiddle w CR) := by
  refine cal_mk Fd hm (fn_mk Fd sc_lmiddle (fun _ => rfl) fun cdv A outer s H E parts F hr hp ce => ?_) fun _ _ _ _ _ _ us hl => match us, hl with | [_], _ => rfl
  have nd := sc_lmiddle.nd
  have hpn : parts.length ≤ 400 := hp.n
  have hpw : ∀ p ∈ parts, p.1.length ≤ 8 := hp.w
  refine g_setC 1 (evc_dic (K := aroundK) (U := tMl CR)) (fun l hl => ?_) nd
  refine g_for (evi_list (ev_name 0 rfl)) (fun i Γ' M' => Γ' = [some ((tMl CR).is parts), some (mpRef l), none, none, none, none, none] ∧ M' = [(l, cDic w aroundK (tMl CR) (lmidM (parts.take i)) l)]) ⟨rfl, rfl⟩ ?_ ?_
  · rintro B i h _ _ ⟨rfl, rfl⟩
    have hi : i < parts.length := h
    have hxl := hpw _ (List.getElem_mem hi)
    have hSi := Sl.all hpw i (Nat.le_of_lt hi)
    have hsu := lmidM_succ hi
    refine ⟨_, _, bd_two (bd_name 2 nd) (bd_name 3 nd), ?_⟩
    generalize hpi : parts[i] = pt at *
    obtain ⟨x, q⟩ := pt
    have hxl' : x.length ≤ 8 := hxl
    refine g_for (evi_range1 (n := (x.length : Int) + 1) (ev_add (ev_lenT (xs := x) (ev_name 2 rfl) T.f) ev_int) T.f (by omega)) (fun j Γ' M' => Γ' = [some ((tMl CR).is parts), some (mpRef l), some (tWord.is x), some ((tRat CR).is q), none, none, none] ∧ M' = [(l, cDic w aroundK (tMl CR) (lmidL (lmidM (parts.take i)) x q j) l)]) ⟨rfl, rfl⟩ ?_ ?_
    · rintro B2 j hj _ _ ⟨rfl, rfl⟩
      have hj' : j < x.length + 1 := by rw [upF_len] at hj; omega
      refine ⟨_, _, bd_name 4 nd, ?_⟩
      rw [upF_at]
      refine g_for (evi_range2 (m := (j : Int)) (n := (x.length : Int) + 1) (ev_name 4 rfl) (ev_add (ev_lenT (xs := x) (ev_name 2 rfl) T.f) ev_int) T.f (by omega) (by omega)) (fun k Γ' M' => Γ' = [some ((tMl CR).is parts), some (mpRef l), some (tWord.is x), some ((tRat CR).is q), some (tInt.is (j : Int)), none, none] ∧ M' = [(l, cDic w aroundK (tMl CR) (lmidH (lmidL (lmidM (parts.take i)) x q j) x q j k) l)]) ⟨rfl, rfl⟩ ?_ ?_
      · rintro B3 k hk _ _ ⟨rfl, rfl⟩
        have hk' : k < x.length + 1 - j := by rw [upF_len] at hk; omega
        refine ⟨_, _, bd_name 5 nd, ?_⟩
        rw [upF_get]
        have ej : ((j : Int) + (k : Int)) = ((j + k : Nat) : Int) := by omega
        rw [ej]
        refine g_set 6 (ev_pr (T := tWord) (U := tWord) (ev_slT (ev_name 2 rfl) eo_none (eo_some (ev_name 4 rfl)) (cut_to (show j ≤ x.length by omega))) (ev_slT (ev_name 2 rfl) (eo_some (ev_name 5 rfl)) eo_none (cut_from (show j + k ≤ x.length by omega)))) ?_ nd
        have hS : Sl (81 * i + 9 * j + k) (lmidH (lmidL (lmidM (parts.take i)) x q j) x q j k) := (hSi.L hxl' q j).H x q j k
        have hlu := lmidH_succ (lmidL (lmidM (parts.take i)) x q j) x q j k
        generalize lmidH (lmidL (lmidM (parts.take i)) x q j) x q j k = A0 at *
        have h1 := hS.l
        have h2 := hS.v (x.take j, x.drop (j + k))
        refine g_dput (K := aroundK) (U := tMl CR) (k := (x.take j, x.drop (j + k))) (y := (dget A0 (x.take j, x.drop (j + k))).getD [] ++ [((x.drop j).take k, q)]) 0 (hr.mono (Nat.zero_le _)) (ev_catL (xs := (dget A0 (x.take j, x.drop (j + k))).getD []) (ys := [((x.drop j).take k, q)]) (ev_dgetOr (K := aroundK) (U := tMl CR) (P := (tMl CR).is []) (R := (tMl CR).is ((dget A0 (x.take j, x.drop (j + k))).getD [])) (hr.mono (Nat.zero_le _)) (ev_name 1 rfl) (ev_name 6 rfl) (ev_lst (T := tPart CR) (xs := []) eva_nil (by decide)) (isDic_cell 0 rfl) (fun F v h e => by rw [e]; exact h) (fun F v y e h => by rw [e]; exact h)) (ev_lst (T := tPart CR) (xs := [((x.drop j).take k, q)]) (eva_one (ev_pr (T := tWord) (U := tRat CR) (ev_slT (ev_name 2 rfl) (eo_some (ev_name 4 rfl)) (eo_some (ev_name 5 rfl)) ?_) (ev_name 3 rfl))) (by show 1 ≤ 1000000; decide)) (by show _ + 1 ≤ _; omega)) (ev_name 1 rfl) (ev_name 6 rfl) rfl ?_ (by omega)
        · rw [cut_mid (show j ≤ x.length by omega) (show j + k ≤ x.length by omega), Nat.add_sub_cancel_left]
        · refine g_turn ⟨rfl, ?_⟩ (.keep (.keep (.keep (.keep (.keep (.drop (.drop .nil)))))))
          rw [hlu]
          rfl
      · rintro _ _ ⟨rfl, rfl⟩
        refine g_turn ⟨rfl, ?_⟩ (.keep (.keep (.keep (.keep (.drop (.drop (.drop .nil)))))))
        rw [upF_len, lmidL_succ]
        have e : ((x.length : Int) + 1 - (j : Int)).toNat = x.length + 1 - j := by omega
        rw [e]
    · rintro _ _ ⟨rfl, rfl⟩
      refine g_turn ⟨rfl, ?_⟩ (.keep (.keep (.drop (.drop (.drop (.drop (.drop .nil)))))))
      rw [upF_len, hsu]
      have e : ((x.length : Int) + 1).toNat = x.length + 1 := by omega
      rw [e]
  · rintro _ _ ⟨rfl, rfl⟩
    rw [List.take_length]
    refine g_frzD (K := aroundK) (U := tMl CR) (kvs := lmidM parts) 1 0 rfl rfl hl (fun h => nomatch h) ?_
    have hS := Sl.all hpw parts.length (Nat.le_refl _)
    rw [List.take_length] at hS
    refine g_ret (Ev.tol (ev_lc [("_law_key", 6)] (evi_list (ev_sortDA (kvs := lmidM parts) (U := tMl CR) (hr.mono (Nat.zero_le _)) (ev_name 1 rfl) T.g)) (U := tKv w CR) (f := fun a => dmerge ((dget (lmidM parts) a).getD [])) (fun i h => ?_) nd (defScope (top 98)) (N := nLm)) ?_)
    · have hk : (srt arLt ((lmidM parts).map (·.1)))[i] ∈ (lmidM parts).map (·.1) := (srt_perm _).mem_iff.mp (List.getElem_mem h)
      obtain ⟨y, hy⟩ := dget_mem hk
      have hv := hS.v (srt arLt ((lmidM parts).map (·.1)))[i]
      have e : (dget (lmidM parts) (srt arLt ((lmidM parts).map (·.1)))[i]).getD [] = y := by rw [hy] <;> rfl
      rw [e] at hv ⊢
      exact ⟨_, _, by decide, fun s H C cl fp => bd_name 6 nd, tYes_ok, fun _ s H C cl fp => ev_dictL (K := wordK) (U := tRat CR) (ps := y) (hr.mono (Nat.zero_le _)) (ev_dget (K := aroundK) (U := tMl CR) (hr.mono (Nat.zero_le _)) (ev_name 1 rfl) (ev_name 6 rfl) isDic_frz hy) (by omega) T.g⟩
    · unfold midsV
      rw [← asD_M, asD_keys]
      refine List.map_congr_left fun a ha => ?_
      rw [dget_asD]
      cases dget (lmidM parts) a <;> rfl
end
end L2.K3
set_option Elab.async false
set_option linter.all false
set_option maxRecDepth 100000
set_option maxHeartbeats 4000001
/-! FnX: the law's own room. -/
namespace L2.K3
open PySem PySem.Spec PyProof.Rows RM Sol
abbrev Kv : Type := List (Word × Rat)
/-- an association list whose keys differ -/
abbrev NdK (r : Kv) : Prop := (r.map (·.1)).Nodup
def dstep (o : Kv) (c : Rat) (acc : Kv) (k : Word) : Kv := dput acc k ((dget acc k).getD 0 - c * valM o k)
def lessN (r o : Kv) (c : Rat) (i : Nat) : Kv := ((o.map (·.1)).take i).foldl (dstep o c) (dmerge r)
def cutZ (f : Kv) : Kv := dmerge (((f.map (·.1)).filter fun k => !decide (valM f k = 0)).map fun k => (k, valM f k))
def lessM (r : Kv) (h : Word) (o : Kv) : Kv := cutZ (lessN r o (valM r h) (o.map (·.1)).length)
theorem lessN_succ {r o : Kv} {c : Rat} {i : Nat} (h : i < (o.map (·.1)).length) : lessN r o c (i + 1) = dstep o c (lessN r o c i) (o.map (·.1))[i] := by
  unfold lessN
  rw [take_succ' h, List.foldl_append] <;> rfl
theorem lessN_len (r o : Kv) (c : Rat) : ∀ i, i ≤ (o.map (·.1)).length → (lessN r o c i).length ≤ r.length + i
  | 0, _ => dmerge_len r
  | i + 1, h => by
    rw [lessN_succ h]
    have h1 := lessN_len r o c i (Nat.le_of_succ_le h)
    have h2 := dput_len (lessN r o c i) (o.map (·.1))[i] ((dget (lessN r o c i) (o.map (·.1))[i]).getD 0 - c * valM o (o.map (·.1))[i])
    unfold dstep
    omega
structure preLs (x : Kv × Word × Kv) : Prop where
  h : (dget x.1 x.2.1).isSome = true
  rn : x.1.length ≤ 1000
  on : x.2.2.length ≤ 1000
  c : Sz 4400 (valM x.1 x.2.1)
  o : ∀ k ∈ x.2.2.map (·.1), Sz 4400 (valM x.2.2 k)
  co : ∀ k ∈ x.2.2.map (·.1), Sz 4400 (valM x.1 x.2.1 * valM x.2.2 k)
  s : ∀ i, i ≤ (x.2.2.map (·.1)).length → ∀ k, Sz 4400 (valM (lessN x.1 x.2.2 (valM x.1 x.2.1) i) k)
section
variable {P : Program} {w : World} {K : PySem.W.Frag} {mg : Str → Option Value} {base : Heap} {CR CT CY : Addr}
abbrev sp_lless (w : World) (CR : Addr) : Sp := spT preLs (fun _ => []) (fun x => [(tKv w CR).is x.1, tWord.is x.2.1, (tKv w CR).is x.2.2]) fun x => (tKv w CR).is (lessM x.1 x.2.1 x.2.2)
abbrev nLs : List Str := ["_law_row_here", "_law_head", "_law_other", "_law_found", "_law_factor", "_law_word_here"]
theorem sc_lless : FnScope nLs ["_law_row_here", "_law_head", "_law_other"] (defScope (top 99)) := ⟨rfl, rfl, rfl, by decide +kernel, rfl, by decide +kernel, by decide +kernel⟩
theorem dget_val {k : Kv} {x : Word} (h : x ∈ k.map (·.1)) : dget k x = some (valM k x) := by
  obtain ⟨y, hy⟩ := dget_mem h
  unfold valM
  rw [hy] <;> rfl
theorem ok_lless {f : Addr} {fd : FuncData} (Fd : FnP K "_law_less" (top 99) f fd) (hm : mg "_law_less" = some (.ref f)) (T : Tx K mg CR CT CY) (c1 : CalR1 P w K mg base CR) (c2 : CalB P w K mg base CR "__sub__" (· - ·)) (c3 : CalB P w K mg base CR "__mul__" (· * ·)) (c4 : CalE P w K mg base CR) : Cal P w K mg base "_law_less" 5 ["_law_row_here", "_law_head", "_law_other"] [] (sp_lless w CR) := by
  refine cal_mk Fd hm (fn_mk Fd sc_lless (fun _ => rfl) fun cdv A outer s H E x F hr hp ce => ?_) fun _ _ _ _ _ _ us hl => match us, hl with | [_, _, _], _ => rfl
  have nd := sc_lless.nd
  have r0 := hr.mono (Nat.zero_le 4)
  obtain ⟨r, hd, o⟩ := x
  obtain ⟨hh, hrn, hon, hc, ho, hco, hs⟩ := hp
  have hrn' : r.length ≤ 1000 := hrn
  have hon' : o.length ≤ 1000 := hon
  obtain ⟨cv, hcv⟩ := Option.isSome_iff_exists.mp hh
  have hcv' : dget r hd = some (valM r hd) := by unfold valM; rw [hcv] <;> rfl
  generalize hcc : valM r hd = c at *
  refine g_tupA (ga_cell (cc := cDic w wordK (tRat CR) (dmerge r)) (evc_dictL (K := wordK) (U := tRat CR) (ps := r) r0 (ev_listV (K := wordK) (U := tRat CR) (ev_items (K := wordK) (U := tRat CR) (ev_name 0 rfl)) T.f) (by omega) T.g) fun l hl => ga_val (ev_dget (K := wordK) (U := tRat CR) r0 (ev_name 0 rfl) (ev_name 1 rfl) isDic_frz hcv') (ga_nil ⟨_, _, rfl, bds2 (bd_name 3 nd) (bd_name 4 nd), ?_⟩))
  refine g_for (evi_dic (K := wordK) (U := tRat CR) (kvs := o) (ev_name 2 rfl)) (fun i Γ' M' => Γ' = [some ((tKv w CR).is r), some (tWord.is hd), some ((tKv w CR).is o), some (mpRef l), some ((tRat CR).is c), none] ∧ M' = [(l, cDic w wordK (tRat CR) (lessN r o c i) l)]) ⟨rfl, rfl⟩ ?_ ?_
  · rintro B i h _ _ ⟨rfl, rfl⟩
    have hi : i < (o.map (·.1)).length := h
    have hmem : (o.map (·.1))[i] ∈ o.map (·.1) := List.getElem_mem hi
    have hsu := lessN_succ (r := r) (c := c) hi
    have hln := lessN_len r o c i (Nat.le_of_lt hi)
    have hi2 : i < o.length := by rw [List.length_map] at hi; exact hi
    have hsz := hs i (Nat.le_of_lt hi)
    refine ⟨_, _, bd_name 5 nd, ?_⟩
    show G _ _ _ [some ((tKv w CR).is r), some (tWord.is hd), some ((tKv w CR).is o), some (mpRef l), some ((tRat CR).is c), some (tWord.is (o.map (·.1))[i])] _ _
    generalize hx : (o.map (·.1))[i] = x at *
    generalize lessN r o c i = A0 at *
    refine g_dput (K := wordK) (U := tRat CR) (k := x) (y := (dget A0 x).getD 0 - c * valM o x) 0 r0 (ev_rsub T c2 hr (ev_dgetOr (K := wordK) (U := tRat CR) (P := (tRat CR).is 0) (R := (tRat CR).is ((dget A0 x).getD 0)) r0 (ev_name 3 rfl) (ev_name 5 rfl) (ev_ratio1 c1 (hr.mono (by decide)) ev_int (q := 0) rfl) (isDic_cell 0 rfl) (fun F v h e => by rw [e]; exact h) (fun F v y e h => by rw [e]; exact h)) (ev_rmul T c3 hr (ev_name 4 rfl) (ev_dget (K := wordK) (U := tRat CR) r0 (ev_name 2 rfl) (ev_name 5 rfl) isDic_frz (dget_val hmem)) hc (ho _ hmem)) (hsz x) (hco _ hmem)) (ev_name 3 rfl) (ev_name 5 rfl) rfl ?_ (by omega)
    refine g_turn ⟨rfl, ?_⟩ (.keep (.keep (.keep (.keep (.keep (.drop .nil))))))
    rw [hsu]
    rfl
  · rintro _ _ ⟨rfl, rfl⟩
    refine g_frzD (K := wordK) (U := tRat CR) 3 0 rfl rfl hl (fun h => nomatch h) ?_
    have hln := lessN_len r o c (o.map (·.1)).length (Nat.le_refl _)
    rw [List.length_map] at hln
    refine g_ret (Ev.tol (ev_dictL (K := wordK) (U := tRat CR) (ps := ((((lessN r o c (o.map (·.1)).length).map (·.1)).filter fun k => !decide (valM (lessN r o c (o.map (·.1)).length) k = 0)).map fun k => (k, valM (lessN r o c (o.map (·.1)).length) k))) r0 (ev_lcIf [("_law_word_here", 5)] (evi_dic (K := wordK) (U := tRat CR) (ev_name 3 rfl)) (U := tPart CR) (f := fun k => (k, valM (lessN r o c (o.map (·.1)).length) k)) (b := fun k => !decide (valM (lessN r o c (o.map (·.1)).length) k = 0)) (fun i h => ?_) nd (defScope (top 99)) (N := nLs)) ?_ T.g) ?_)
    · have hy := dget_val (List.getElem_mem h)
      exact ⟨_, _, by decide, fun s H C cl fp => bd_name 5 nd, ttB_ok fun s H C cl fp => et_rne T c4 (hr.mono (by decide)) (ev_dget (K := wordK) (U := tRat CR) r0 (ev_name 3 rfl) (ev_name 5 rfl) isDic_frz hy) (ev_ratio1 c1 (hr.mono (by decide)) ev_int (q := 0) rfl), fun _ s H C cl fp => ev_pr (ev_name 5 rfl) (ev_dget (K := wordK) (U := tRat CR) r0 (ev_name 3 rfl) (ev_name 5 rfl) isDic_frz hy)⟩
    · rw [List.length_map]
      refine Nat.le_trans (List.length_filter_le _ _) ?_
      rw [List.length_map, List.length_map]
      omega
    · unfold lessM
      rw [hcc]
      rfl
/-! ### room -/
abbrev Rm : Type := List (Word × Kv)
def lrStep (r : Kv) (x : Word × Kv) : Kv := if (dget r x.1).isSome = true then lessM r x.1 x.2 else r
def lred (room : Rm) (row : Kv) (j : Nat) : Kv := (room.take j).foldl lrStep row
def headOf (r : Kv) : Word := minW (r.map (·.1))
def loneM (r : Kv) : Rat := 1 / valM r (headOf r)
def lnew (r : Kv) : Kv := dmerge ((r.map (·.1)).map fun k => (k, valM r k * loneM r))
def upRow (h : Word) (n : Kv) (x : Word × Kv) : Word × Kv := (x.1, if (dget x.2 h).isSome = true then lessM x.2 h n else x.2)
def laddM (room : Rm) (r : Kv) : Rm := if r.length = 0 then room else room.map (upRow (headOf r) (lnew r)) ++ [(headOf r, lnew r)]
def lstepM (room : Rm) (row : Kv) : Rm := laddM room (lred room row room.length)
def lroomN (mids : List Kv) (i : Nat) : Rm := (mids.take i).foldl lstepM []
def lawRoom (mids : List Kv) : List (Word × Kv) := srt hdLt ((lroomN mids mids.length).map fun x => (x.1, srt hdLt x.2))
theorem lred_succ {room : Rm} {row : Kv} {j : Nat} (h : j < room.length) : lred room row (j + 1) = lrStep (lred room row j) room[j] := by
  unfold lred
  rw [take_succ' h, List.foldl_append] <;> rfl
theorem lroomN_succ {mids : List Kv} {i : Nat} (h : i < mids.length) : lroomN mids (i + 1) = lstepM (lroomN mids i) mids[i] := by
  unfold lroomN
  rw [take_succ' h, List.foldl_append] <;> rfl
structure preRed (room : Rm) (row : Kv) : Prop where
  n : room.length ≤ 1000
  l : ∀ j (h : j < room.length), (dget (lred room row j) room[j].1).isSome = true → preLs (lred room row j, room[j].1, room[j].2)
structure preAdd (room : Rm) (r : Kv) : Prop where
  n : r.length ≤ 1000
  z : r.length ≠ 0 → valM r (headOf r) ≠ 0
  h : r.length ≠ 0 → Sz 4400 (valM r (headOf r))
  o : r.length ≠ 0 → Sz 4400 (loneM r)
  v : ∀ k ∈ r.map (·.1), Sz 4400 (valM r k)
  u : r.length ≠ 0 → ∀ x ∈ room, (dget x.2 (headOf r)).isSome = true → preLs (x.2, headOf r, lnew r)
structure preLr (parts : Kv) : Prop where
  m : preMp parts
  r : ∀ i (h : i < (midsV (midM parts)).length), preRed (lroomN (midsV (midM parts)) i) (midsV (midM parts))[i]
  a : ∀ i (h : i < (midsV (midM parts)).length), preAdd (lroomN (midsV (midM parts)) i) (lred (lroomN (midsV (midM parts)) i) (midsV (midM parts))[i] (lroomN (midsV (midM parts)) i).length)
  hn : ((lroomN (midsV (midM parts)) (midsV (midM parts)).length).map (·.1)).Nodup
  hk : ∀ x ∈ lroomN (midsV (midM parts)) (midsV (midM parts)).length, NdK x.2
abbrev tHr (w : World) (CR : Addr) : Ty Rm := tLst (tPr tWord (tKv w CR))
abbrev tOwn (CR : Addr) : Ty (List (Word × Kv)) := tLst (tPr tWord (tLst (tPart CR)))
abbrev sp_lroom (CR : Addr) : Sp := spT preLr (fun _ => []) (fun x => [(tLst (tPart CR)).is x]) fun x => (tOwn CR).is (lawRoom (midsV (midM x)))
abbrev nLr : List Str := ["_law_parts_here", "_law_room_here", "_law_row_here", "_law_head", "_law_other", "_law_one", "_law_new", "_law_word_here", "_law_at"]
theorem sc_lroom : FnScope nLr ["_law_parts_here"] (defScope (top 100)) := ⟨rfl, rfl, rfl, by decide +kernel, rfl, by decide +kernel, by decide +kernel⟩
theorem minW_mem {r : Kv} (h : r.length ≠ 0) : headOf r ∈ r.map (·.1) := by
  cases r with
  | nil => exact absurd rfl h
  | cons p l =>
    unfold headOf
    rw [List.map_cons, ← best_min]
    have := best_lt p.1 (l.map (·.1))
    rw [List.getD_eq_getElem?_getD, List.getElem?_eq_getElem this]
    exact List.getElem_mem this
end
end L2.K3
set_option Elab.async false
set_option linter.all false
set_option maxRecDepth 100000
set_option maxHeartbeats 4000001
/-! FnY: the law's own room: walk. -/
namespace L2.K3
open PySem PySem.Spec PyProof.Rows RM Sol
section
variable {P : Program} {w : World} {K : PySem.W.Frag} {mg : Str → Option Value} {base : Heap} {CR CT CY : Addr}
section
variable {X : Cx} {Γ : Gam} {M : Mem} {a b : Expr} {pos apos : Pos} {x y : Rat}
theorem ev_over (T : Tx X.K mg CR CT CY) (c : CalM X.prog X.w X.K X.mg X.base CR "over" 4 ["self", "other"] (sp_over CR)) (hr : Room 4 X.A) {pl : Sem Bool} (ha : Ev X Γ M a ((tRat CR).is x)) (hb : Ev X Γ M b ((tRat CR).is y)) (hx : RM.Sz 4400 x) (hy : RM.Sz 4400 y) (h0 : y ≠ 0)
    (hst : starEach [b] X.env = (false, eval b X.env) :: starEach [] X.env := by rfl) (hpl : (backTo pos (starEach [] X.env)).any (·.1) = false := by rfl)
    (ht : eval (.Call (.Attribute a "over" apos) [b] [] pos) X.env = (do
      let ov ← eval a X.env
      standAt apos.atName
      let (f, first) ← holding [ov] (getMethod ov "over" pl)
      callWith pos f first (backTo pos (starEach [b] X.env)) (backToKw pos (keywordEach [] X.env))) := by rfl) : Ev X Γ M (.Call (.Attribute a "over" apos) [b] [] pos) ((tRat CR).is (x / y)) :=
  ev_meth c hr T.R.cl (x, .inr y) ha (eva_one hb hst) ⟨hx, hy, h0⟩ (fun F v ⟨l, dx, e1, e2⟩ => ⟨l, dx, _, e1, e2, rfl⟩) rfl rfl hst hpl ht
end
theorem ok_lroom {f : Addr} {fd : FuncData} (Fd : FnP K "_law_room" (top 100) f fd) (hm : mg "_law_room" = some (.ref f)) (T : Tx K mg CR CT CY) (c1 : Cal P w K mg base "_law_middle" 1 ["_law_parts_here"] [] (sp_lmiddle w CR)) (c2 : Cal P w K mg base "_law_less" 5 ["_law_row_here", "_law_head", "_law_other"] [] (sp_lless w CR)) (c3 : CalR1 P w K mg base CR) (c4 : CalB P w K mg base CR "__mul__" (· * ·)) (c5 : CalM P w K mg base CR "over" 4 ["self", "other"] (sp_over CR)) : Cal P w K mg base "_law_room" 6 ["_law_parts_here"] [] (sp_lroom CR) := by
  refine cal_mk Fd hm (fn_mk Fd sc_lroom (fun _ => rfl) fun cdv A outer s H E parts F hr hp ce => ?_) fun _ _ _ _ _ _ us hl => match us, hl with | [_], _ => rfl
  have nd := sc_lroom.nd
  have r0 := hr.mono (Nat.zero_le 5)
  obtain ⟨hmp, hr1, hr2, hhn, hhk⟩ := hp
  generalize hmi : midsV (midM parts) = mids at *
  refine g_set 1 (ev_lst (T := tPr tWord (tKv w CR)) (xs := []) eva_nil (by decide)) ?_ nd
  refine g_for (evi_list (ev_callI (R := (tLst (tKv w CR)).is mids) c1 (hr.mono (by decide)) parts (eva_one (ev_name 0 rfl)) hmp rfl (by rw [hmi]))) (fun i Γ' M' => Γ' = [some ((tLst (tPart CR)).is parts), some ((tHr w CR).is (lroomN mids i)), none, none, none, none, none, none, none] ∧ M' = []) ⟨rfl, rfl⟩ ?_ ?_
  · rintro B i h _ _ ⟨rfl, rfl⟩
    have hi : i < mids.length := h
    have hred := hr1 i hi
    have hadd := hr2 i hi
    have hsu := lroomN_succ hi
    refine ⟨_, _, bd_name 2 nd, ?_⟩
    show G _ _ _ [some ((tLst (tPart CR)).is parts), some ((tHr w CR).is (lroomN mids i)), some ((tKv w CR).is mids[i]), none, none, none, none, none, none] [] _
    generalize hrw : mids[i] = row at *
    generalize hrm : lroomN mids i = room at *
    have hn := hred.n
    refine g_for (evi_list (ev_name 1 rfl)) (fun j Γ' M' => Γ' = [some ((tLst (tPart CR)).is parts), some ((tHr w CR).is room), some ((tKv w CR).is (lred room row j)), none, none, none, none, none, none] ∧ M' = []) ⟨rfl, rfl⟩ ?_ ?_
    · rintro B2 j hj _ _ ⟨rfl, rfl⟩
      have hj' : j < room.length := hj
      have hl := hred.l j hj'
      have hls := lred_succ (row := row) hj'
      refine ⟨_, _, bd_two (bd_name 3 nd) (bd_name 4 nd), ?_⟩
      show G _ _ _ [some ((tLst (tPart CR)).is parts), some ((tHr w CR).is room), some ((tKv w CR).is (lred room row j)), some (tWord.is room[j].1), some ((tKv w CR).is room[j].2), none, none, none, none] [] _
      generalize hy : room[j] = y at *
      generalize lred room row j = r at *
      refine g_if (et_dicIn (K := wordK) (U := tRat CR) (kvs := r) r0 (ev_name 3 rfl) (ev_name 2 rfl) isDic_frz) (fun hb => ?_) (fun hb => ?_)
      · refine g_set 2 (ev_callI (R := (tKv w CR).is (lessM r y.1 y.2)) c2 hr (r, y.1, y.2) (eva_cons (ev_name 2 rfl) (eva_cons (ev_name 3 rfl) (eva_one (ev_name 4 rfl)))) (hl hb)) ?_ nd
        refine g_end ?_
        refine g_turn ⟨?_, rfl⟩ (.keep (.keep (.keep (.drop (.drop (.drop (.drop (.drop (.drop .nil)))))))))
        rw [hls]
        unfold lrStep
        rw [if_pos hb]
      · refine g_end ?_
        refine g_turn ⟨?_, rfl⟩ (.keep (.keep (.keep (.drop (.drop (.drop (.drop (.drop (.drop .nil)))))))))
        rw [hls]
        unfold lrStep
        rw [if_neg (by rw [hb]; exact Bool.false_ne_true)]
    · rintro _ _ ⟨rfl, rfl⟩
      have hst : lroomN mids (i + 1) = laddM room (lred room row room.length) := hsu
      show G _ _ _ [some ((tLst (tPart CR)).is parts), some ((tHr w CR).is room), some ((tKv w CR).is (lred room row room.length)), none, none, none, none, none, none] [] _
      generalize lred room row room.length = r at *
      have hrn := hadd.n
      refine g_if (et_neVoid (K := wordK) (U := tRat CR) (kvs := r) r0 (ev_name 2 rfl)) (fun hb => ?_) (fun hb => ?_)
      · have h0 : r.length ≠ 0 := by simpa using hb
        have hne : r ≠ [] := fun e => h0 (by rw [e] <;> rfl)
        have hmm := minW_mem h0
        have hv := dget_val hmm
        have hu := hadd.u h0
        have hone := hadd.o h0
        have hl1 : laddM room r = room.map (upRow (headOf r) (lnew r)) ++ [(headOf r, lnew r)] := by unfold laddM; rw [if_neg h0]
        refine g_set 3 (ev_minD (U := tRat CR) (kvs := r) r0 hne (ev_name 2 rfl) T.g) ?_ nd
        show G _ _ _ [some ((tLst (tPart CR)).is parts), some ((tHr w CR).is room), some ((tKv w CR).is r), some (tWord.is (headOf r)), none, none, none, none, none] [] _
        refine g_set 5 (ev_over T c5 (hr.mono (by decide)) (ev_ratio1 c3 (hr.mono (by decide)) ev_int (q := 1) rfl) (ev_dget (K := wordK) (U := tRat CR) r0 (ev_name 2 rfl) (ev_name 3 rfl) isDic_frz hv) (BD.one.sz 4 (by decide) (by decide) (by decide)) (hadd.h h0) (hadd.z h0)) ?_ nd
        show G _ _ _ [some ((tLst (tPart CR)).is parts), some ((tHr w CR).is room), some ((tKv w CR).is r), some (tWord.is (headOf r)), none, some ((tRat CR).is (loneM r)), none, none, none] [] _
        refine g_set 6 (ev_dictL (K := wordK) (U := tRat CR) (ps := (r.map (·.1)).map fun k => (k, valM r k * loneM r)) r0 (ev_lc [("_law_word_here", 7)] (evi_dic (K := wordK) (U := tRat CR) (kvs := r) (ev_name 2 rfl)) (U := tPart CR) (f := fun k => (k, valM r k * loneM r)) (fun k hk => ?_) nd (defScope (top 100)) (N := nLr)) (by rw [List.length_map, List.length_map]; omega) T.g) ?_ nd
        · have hmk := List.getElem_mem hk
          have hy := dget_val hmk
          exact ⟨_, _, by decide, fun s H C cl fp => bd_name 7 nd, tYes_ok, fun _ s H C cl fp => ev_pr (ev_name 7 rfl) (ev_rmul T c4 (hr.mono (by decide)) (ev_dget (K := wordK) (U := tRat CR) r0 (ev_name 2 rfl) (ev_name 7 rfl) isDic_frz hy) (ev_name 5 rfl) (hadd.v _ hmk) hone)⟩
        show G _ _ _ [some ((tLst (tPart CR)).is parts), some ((tHr w CR).is room), some ((tKv w CR).is r), some (tWord.is (headOf r)), none, some ((tRat CR).is (loneM r)), some ((tKv w CR).is (lnew r)), none, none] [] _
        refine g_set 1 (ev_catL (T := tPr tWord (tKv w CR)) (xs := room.map (upRow (headOf r) (lnew r))) (ys := [(headOf r, lnew r)]) (ev_lc [("_law_at", 8), ("_law_other", 4)] (evi_list (ev_name 1 rfl)) (U := tPr tWord (tKv w CR)) (f := upRow (headOf r) (lnew r)) (fun k hk => ?_) nd (defScope (top 100)) (N := nLr)) (ev_lst (T := tPr tWord (tKv w CR)) (xs := [(headOf r, lnew r)]) (eva_one (ev_pr (ev_name 3 rfl) (ev_name 6 rfl))) (by show 1 ≤ 1000000; decide)) (by rw [List.length_map]; show _ + 1 ≤ _; omega)) ?_ nd
        · have hmk := List.getElem_mem hk
          have huk := hu _ hmk
          refine ⟨_, _, by decide, fun s H C cl fp => bd_two (bd_name 8 nd) (bd_name 4 nd), tYes_ok, fun _ s H C cl fp => ?_⟩
          refine ev_pr (T := tWord) (U := tKv w CR) (x := room[k].1) (y := if (dget room[k].2 (headOf r)).isSome = true then lessM room[k].2 (headOf r) (lnew r) else room[k].2) (ev_name 8 rfl) (ev_if (x := (dget room[k].2 (headOf r)).isSome) (et_dicIn (K := wordK) (U := tRat CR) r0 (ev_name 3 rfl) (ev_name 4 rfl) isDic_frz) (fun hb => ?_) (fun hb => ?_))
          · rw [if_pos hb]
            exact ev_callI (R := (tKv w CR).is (lessM room[k].2 (headOf r) (lnew r))) c2 hr (room[k].2, headOf r, lnew r) (eva_cons (ev_name 4 rfl) (eva_cons (ev_name 3 rfl) (eva_one (ev_name 6 rfl)))) (huk hb)
          · rw [if_neg (by rw [hb]; exact Bool.false_ne_true)]
            exact ev_name 4 rfl
        refine g_end ?_
        refine g_turn ⟨?_, rfl⟩ (.keep (.keep (.drop (.drop (.drop (.drop (.drop (.drop (.drop .nil)))))))))
        rw [hst, hl1]
      · have h0 : r.length = 0 := by simpa using hb
        refine g_end ?_
        refine g_turn ⟨?_, rfl⟩ (.keep (.keep (.drop (.drop (.drop (.drop (.drop (.drop (.drop .nil)))))))))
        rw [hst]
        unfold laddM
        rw [if_pos h0]
  · rintro _ _ ⟨rfl, rfl⟩
    generalize hrm : lroomN mids mids.length = room at *
    refine g_ret (ev_sortH (U := tLst (tPart CR)) (β := Kv) (xs := room.map fun x : Word × Kv => (x.1, srt hdLt x.2)) r0 (fnc_lst (fnc_pr (fnc_tup (fnc_tup fnc_int)) fnc_rat)) (by rw [List.map_map]; exact hhn) (ev_lc [("_law_head", 3), ("_law_row_here", 2)] (evi_list (ev_name 1 rfl)) (U := tPr tWord (tLst (tPart CR))) (f := fun x : Word × Kv => (x.1, srt hdLt x.2)) (fun k hk => ?_) nd (defScope (top 100)) (N := nLr)) T.g) (fun F v h => by
      show ((tOwn CR).is (lawRoom mids)).p F v
      unfold lawRoom
      rw [hrm]
      exact h)
    have hmk := List.getElem_mem hk
    exact ⟨_, _, by decide, fun s H C cl fp => bd_two (bd_name 3 nd) (bd_name 2 nd), tYes_ok, fun _ s H C cl fp => ev_pr (ev_name 3 rfl) (ev_sortV (U := tRat CR) (kvs := room[k].2) r0 fnc_rat (hhk _ hmk) (ev_items (K := wordK) (U := tRat CR) (ev_name 2 rfl)) T.g)⟩
end
end L2.K3
set_option Elab.async false
set_option linter.all false
set_option maxRecDepth 100000
set_option maxHeartbeats 4000001
/-! K3Y: lists of fractions that are equal. -/
namespace L2.K3
open PySem PySem.Spec PyProof.Rows RM Sol
/-- two instances of one fraction -/
def SameR (CR : Addr) : Addr → Addr → Hp → Prop := fun a b H => ∃ q dx dy, H a = some (.ins CR dx (ratF q)) ∧ H b = some (.ins CR dy (ratF q))
abbrev DRat (CR : Addr) : Eqv := DIns CR (SameR CR)
theorem mon_rat {CR : Addr} : Mon (DRat CR) := mon_ins fun a b H H' e ⟨q, dx, dy, h1, h2⟩ => ⟨q, dx, dy, e _ _ h1, e _ _ h2⟩
theorem eqT_rat {CR : Addr} : EqT (tRat CR) (DRat CR) := fun e ⟨a, dx, e1, h1⟩ ⟨b, dy, e2, h2⟩ => ⟨a, b, dx, dy, _, _, e1, e2, e _ _ h1, e _ _ h2, _, dx, dy, e _ _ h1, e _ _ h2⟩
section
variable {X : Cx} {Γ : Gam} {M : Mem} {a b : Expr} {pos : Pos} {CR : Addr} {xs : List Rat} {ys : List (List Rat)}
theorem eqG_rat (c : CalE X.prog X.w X.K X.mg X.base CR) : EqG X 1 (DRat CR) := by
  obtain ⟨f, fd, G, h1, h2, h3, bd⟩ := c.ex
  refine eqG_ins (E := E0) (G.imp fun vs H Q E h => ?_) h1 h2 bd pass0
  obtain ⟨x, y, rfl, ⟨q, dx, dy, k1, k2⟩, k⟩ := h
  refine ⟨(q, q), H, trivial, .cons ⟨x, dx, rfl, k1⟩ (.cons ⟨y, dy, rfl, k2⟩ .nil), Ext.rfl', Cells.nil, fun F' H' v st pv => ?_⟩
  have e : v = .bl true := by
    have := (show v = .bl (decide (q = q)) from pv)
    rw [this, decide_eq_true rfl]
  rw [e]
  exact k H' fun a o h => st.hh a o (fun q => nomatch q) h
theorem et_neRs (c : CalE X.prog X.w X.K X.mg X.base CR) (hr : Room 2 X.A) (ha : Ev X Γ M a ((tRrow CR).is xs)) (hb : Ev X Γ M b ((tRrow CR).is xs)) : EvT X Γ M (.Compare a [.NotEq] [b] pos) false := et_neLst mon_rat (eqG_rat c) hr eqT_rat ha hb
theorem ev_eqRs (c : CalE X.prog X.w X.K X.mg X.base CR) (hr : Room 2 X.A) (ha : Ev X Γ M a ((tRrow CR).is xs)) (hb : Ev X Γ M b ((tRrow CR).is xs)) : Ev X Γ M (.Compare a [.Eq] [b] pos) (tBool.is true) := ev_eqLst mon_rat (eqG_rat c) hr eqT_rat ha hb
theorem et_neRss (c : CalE X.prog X.w X.K X.mg X.base CR) (hr : Room 3 X.A) (ha : Ev X Γ M a ((tRrows CR).is ys)) (hb : Ev X Γ M b ((tRrows CR).is ys)) : EvT X Γ M (.Compare a [.NotEq] [b] pos) false := et_neLst (mon_list mon_rat) (eqG_list mon_rat (eqG_rat c)) hr (eqT_lst eqT_rat) ha hb
end
end L2.K3
set_option Elab.async false
set_option linter.all false
set_option maxRecDepth 100000
set_option maxHeartbeats 8000001
/-! FnZ: what the law's walk asks of the plain law. -/
namespace L2.K3
open PySem PySem.Spec PyProof.Rows RM Sol
/-- the law's own worths of its own kept tallies -/
def Wm (parts : Kv) (p : List (List Rat)) : List Rat := (lawRoom (midsV (midM parts))).map fun x => ltalM p x.2
def JD (c : Int) (parts : Kv) (ns os : List Rat) : Prop := ∀ (b b' : Bool) (xs ys : List (Int ⊕ Rat)) (k : Addr), xs.map numV = ns → ys.map numV = os → preJd ((c, parts, k), (b, xs), (b', ys))
def wsum (xs : List (Rat × Rat)) (i : Nat) : Rat := (xs.take i).foldl (fun t x => t + x.1 * x.2) 0
structure preWs (xs : List (Rat × Rat)) : Prop where
  a : ∀ x ∈ xs, Sz 4400 x.1 ∧ Sz 4400 x.2 ∧ Sz 4400 (x.1 * x.2)
  s : ∀ i, i ≤ xs.length → Sz 4400 (wsum xs i)
structure Facts (c : Int) (parts : Kv) : Prop where
  y : preY (c, parts)
  j : joinP parts = parts
  lr : preLr parts
  fr : preFr parts
  ne : NeR (roomP parts)
  jo : preJo (roomP parts)
  rl : (lawRoom (midsV (midM parts))).length ≤ 1000
  lt : ∀ p, RowsD c 9 p → ∀ x ∈ lawRoom (midsV (midM parts)), preLt (x.2, p)
  ltp : ∀ p, RowsD c 9 p → preLt (parts, p)
  kn : ∀ p, RowsD c 9 p → ∀ k ∈ roomP parts, preWk k p
  ke : ∀ p, RowsD c 9 p → keptM parts p = Wm parts p
  jd : ∀ p q, RowsD c 9 p → RowsD c 9 q → RowsD c 9 (p ++ q) → JD c parts (Wm parts p) (Wm parts q)
  je : ∀ p q, RowsD c 9 p → RowsD c 9 q → RowsD c 9 (p ++ q) → joinedM parts (Wm parts p) (Wm parts q) = Wm parts (p ++ q)
  mx : ∀ p q, RowsD c 9 p → RowsD c 9 q → RowsD c 9 (p ++ q) → preMx (joiningM (roomP parts), Wm parts p, Wm parts q)
  me : ∀ p q, RowsD c 9 p → RowsD c 9 q → RowsD c 9 (p ++ q) → mixM (joiningM (roomP parts)) (Wm parts p) (Wm parts q) = Wm parts (p ++ q)
  ws : ∀ p, RowsD c 9 p → preWs ((wholeM parts).zip (Wm parts p))
  we : ∀ p, RowsD c 9 p → wsum ((wholeM parts).zip (Wm parts p)) ((wholeM parts).zip (Wm parts p)).length = ltalM p parts
  tw : ∀ p, RowsD c 9 p → preWt parts p
  te : ∀ p, RowsD c 9 p → worthP parts p = ltalM p parts
theorem RowsD.app {c n m : Int} {p q : List (List Rat)} (h : RowsD c n p) (g : RowsD c m q) : RowsD c (n + m) (p ++ q) := by
  refine ⟨?_, fun r hr => ?_⟩
  · have := h.1
    have := g.1
    rw [List.length_append]
    omega
  · rcases List.mem_append.mp hr with z | z
    · exact h.2 r z
    · exact g.2 r z
theorem RowsD.mono {c n m : Int} {p : List (List Rat)} (h : RowsD c n p) (e : n ≤ m) : RowsD c m p := ⟨Int.le_trans h.1 e, h.2⟩
theorem RowsD.tab {c : Int} {p : List (List Rat)} (h : RowsD c 9 p) (hc : 0 ≤ c ∧ c ≤ 3) : preT (c, p) := ⟨hc, by have h1 : (p.length : Int) ≤ 9 := h.1; show p.length ≤ 40; omega, fun r hr => ((h.2 r hr).1).symm⟩
def giveV (q : Rat) : Int ⊕ Rat := if (decide ((q.den : Int) = 1) && decide ((if q.num < 0 then -q.num else q.num) < 1000000)) = true then .inl q.num else .inr q
theorem giveV_num (q : Rat) : numV (giveV q) = q := by
  unfold giveV
  by_cases h : (decide ((q.den : Int) = 1) && decide ((if q.num < 0 then -q.num else q.num) < 1000000)) = true
  · rw [if_pos h]
    have h1 : (q.den : Int) = 1 := of_decide_eq_true ((Bool.and_eq_true _ _).mp h).1
    show ((q.num : Int) : Rat) = q
    rw [← RM.whole, ← h1, Rat.num_divInt_den]
  · rw [if_neg h]
    rfl
theorem giveV_pos {q : Rat} (h : (decide ((q.den : Int) = 1) && decide ((if q.num < 0 then -q.num else q.num) < 1000000)) = true) : giveV q = .inl q.num := if_pos h
theorem giveV_neg {q : Rat} (h : (decide ((q.den : Int) = 1) && decide ((if q.num < 0 then -q.num else q.num) < 1000000)) = false) : giveV q = .inr q := if_neg (by rw [h]; exact Bool.false_ne_true)
theorem paired_inr {CR : Addr} {F : Hp} : ∀ {vs : List V} {xs : List Rat}, Paired ((tRat CR).t F) vs xs → Paired ((tNumV CR).t F) vs (xs.map Sum.inr)
  | _, _, .nil => .nil
  | _, _, .cons p q => .cons p (paired_inr q)
section
variable {X : Cx} {Γ : Gam} {M : Mem} {e : Expr} {CR : Addr} {xs : List Rat} {ys : List (Int ⊕ Rat)}
theorem ev_nsR (h : Ev X Γ M e ((tRrow CR).is xs)) : Ev X Γ M e ((tNs CR).is (true, xs.map Sum.inr)) := h.imp fun F v ⟨a, vs, e1, h1, h2⟩ => ⟨a, vs, e1, h1, paired_inr h2⟩
theorem ev_nsL (h : Ev X Γ M e ((tLst (tNumV CR)).is ys)) : Ev X Γ M e ((tNs CR).is (true, ys)) := h.imp fun F v h => h
theorem ev_nsT (h : Ev X Γ M e ((tTup (tNumV CR)).is ys)) : Ev X Γ M e ((tNs CR).is (false, ys)) := h.imp fun F v h => h
end
theorem map_inr (xs : List Rat) : (xs.map Sum.inr).map numV = xs := by
  rw [List.map_map]
  exact List.map_id' xs
theorem map_give (xs : List Rat) : (xs.map giveV).map numV = xs := by
  rw [List.map_map]
  exact (List.map_congr_left fun q _ => giveV_num q).trans (List.map_id' xs)
section
variable {P : Program} {w : World} {K : PySem.W.Frag} {mg : Str → Option Value} {base : Heap} {CR CT CY : Addr}
/-- all that the law's body calls -/
structure CalAll (P : Program) (w : World) (K : PySem.W.Frag) (mg : Str → Option Value) (base : Heap) (CR CT CY : Addr) : Prop where
  pick : CalPk P w K mg base
  parts : Cal P w K mg base "_law_parts" 6 ["_law_pot_here", "_law_columns", "_law_many", "_law_most"] [] (sp_parts CR)
  rows : Cal P w K mg base "_law_rows" 5 ["_law_pot_here", "_law_columns", "_law_most"] [] (sp_rows CR)
  room : Cal P w K mg base "_law_room" 6 ["_law_parts_here"] [] (sp_lroom CR)
  tal : Cal P w K mg base "_law_tally" 7 ["_law_parts_here", "_law_rows_here"] [] (sp_ltally CR)
  mix : Cal P w K mg base "_law_mixed" 5 ["_law_table", "_law_numbers", "_law_others"] [] (sp_mixed CR)
  Y : CalY P w K mg base CR CY
  T : CalT P w K mg base CR CT
  R1 : CalR1 P w K mg base CR
  E : CalE P w K mg base CR
  add : CalB P w K mg base CR "__add__" (· + ·)
  mul : CalB P w K mg base CR "__mul__" (· * ·)
  wh : CalPr P w K mg base CR "is_whole" 1 (sp_whole CR)
  top : CalPr P w K mg base CR "top" 1 (sp_top CR)
  kn : Cal P w K mg base "kept_numbers" 8 ["tally", "table"] [] (sp_kept_numbers w CR CT CY)
  knK : CalKw P w K mg base "kept_numbers" 8 ["tally", "table"] (sp_kept_numbers w CR CT CY)
  jn : Cal P w K mg base "joined_numbers" 8 ["tally", "numbers", "others"] [] (sp_joined_numbers w CR CY)
  jnK : CalKw P w K mg base "joined_numbers" 8 ["tally", "numbers", "others"] (sp_joined_numbers w CR CY)
  jo : Cal P w K mg base "joining" 8 ["tally"] [] (sp_joining w CR CY)
  jt : Cal P w K mg base "joined" 9 ["table", "other"] [] (sp_joined CR CT)
  wn : Cal P w K mg base "whole_numbers" 8 ["tally"] [] (sp_whole_numbers w CR CY)
  tw : Cal P w K mg base "tally_worth" 8 ["tally", "table"] [] (sp_tally_worth CR CT CY)
end
end L2.K3
set_option Elab.async false
set_option linter.all false
set_option maxRecDepth 100000
set_option maxHeartbeats 16000001
/-! FoA: the law's body. -/
namespace L2.K3
open PySem PySem.Spec PyProof.Rows RM Sol
section
variable {P : Program} {w : World} {K : PySem.W.Frag} {mg : Str → Option Value} {base : Heap} {CR CT CY : Addr}
abbrev nRi : List Str := ["_law_pot_here", "_law_columns", "_law_parts_here", "_law_tally_here", "_law_room_here", "_law_pieces", "_law_worths", "_law_turn", "_law_rows_here", "_law_tables", "_law_table", "_law_told", "_law_both", "_law_due", "_law_near", "_law_late", "_law_whole", "_law_number_here", "_law_worth_here", "_law_empty", "_law_given", "_law_is_short", "_law_head", "_law_row_here"]
theorem sc_right : FnScope nRi ["_law_pot_here"] (defScope (top 102)) := ⟨rfl, rfl, rfl, by decide +kernel, rfl, by decide +kernel, by decide +kernel⟩
abbrev sp_right : Sp := spT (fun _ : Addr => True) (fun l => mPot l) (fun l => [mpRef l]) fun _ => tBool.is true
abbrev tTabs (CR CT : Addr) : Ty (List (Int × List (List Rat))) := tLst (tTab CR CT)
theorem three {α : Type} {xs : List α} (h : xs.length = 3) : ∃ a b c, xs = [a, b, c] := by
  match xs, h with
  | [a, b, c], _ => exact ⟨a, b, c, rfl⟩
theorem kIn {c : Int} {parts : Kv} {k : Addr} {M : Mem} : ∀ q ∈ mKept w CR (c, parts, k), q ∈ (k, cKept (tRoom w CR) (roomP parts)) :: M := fun q hq => by
  rw [List.mem_singleton.mp hq]
  exact List.mem_cons_self
theorem wsum_succ {xs : List (Rat × Rat)} {i : Nat} (h : i < xs.length) : wsum xs (i + 1) = wsum xs i + xs[i].1 * xs[i].2 := by
  unfold wsum
  rw [take_succ' h, List.foldl_append] <;> rfl
theorem ok_right {f : Addr} {fd : FuncData} (Fd : FnP K "_law_right" (top 102) f fd) (hm : mg "_law_right" = some (.ref f)) (T : Tx K mg CR CT CY) (C : CalAll P w K mg base CR CT CY) (HF : ∀ c parts, 0 ≤ c → c ≤ 2 → PartsD c 3 2 parts → Facts c parts) : Cal P w K mg base "_law_right" 10 ["_law_pot_here"] [] sp_right := by
  refine cal_mk Fd hm (fn_mk Fd sc_right (fun _ => rfl) fun cdv A outer s H E l F hr hp ce => ?_) fun _ _ _ _ _ _ us hl => match us, hl with | [_], _ => rfl
  have nd := sc_right.nd
  have r0 := hr.mono (Nat.zero_le 9)
  refine g_setS (cc := (· ∈ [(1 : Int), 1, 2, 0])) (f := tInt.is) 1 (ev_callI (R := mpSome (· ∈ [(1 : Int), 1, 2, 0]) tInt.is) C.pick (hr.mono (by decide)) (l, [1, 1, 2, 0]) (eva_cons (ev_name 0 rfl) (eva_one (ev_lst (T := tInt) (xs := [1, 1, 2, 0]) (eva_cons ev_int (eva_cons ev_int (eva_cons ev_int (eva_one ev_int)))) (by decide)))) ⟨by simp, by show 4 < 1000; decide⟩ rfl rfl nd_one (fun p hp => hp)) (fun c hcm => ?_) nd
  have hc : 0 ≤ c ∧ c ≤ 2 := by
    have : c = 1 ∨ c = 1 ∨ c = 2 ∨ c = 0 := by simpa using hcm
    omega
  have hc3 : 0 ≤ c ∧ c ≤ 3 := ⟨hc.1, by omega⟩
  refine g_setS (cc := PartsD c 3 2) (f := (tLst (tPart CR)).is) 2 (ev_callI (R := mpSome (PartsD c 3 2) (tLst (tPart CR)).is) C.parts (hr.mono (by decide)) (l, c, 3, 2) (eva_cons (ev_name 0 rfl) (eva_cons (ev_name 1 rfl) (eva_cons ev_int (eva_one ev_int)))) ⟨hc3, ⟨by show (0 : Int) < 3; decide, by show (3 : Int) ≤ 10; decide⟩, by show (0 : Int) ≤ 2; decide, by show (2 : Int) ≤ 10; decide⟩ rfl rfl nd_one (fun p hp => hp)) (fun parts hpa => ?_) nd
  have FF := HF c parts hc.1 hc.2 hpa
  have hj : (fun k => mpTal CR CY (c, joinP parts, k)) = fun k => mpTal CR CY (c, parts, k) := by rw [FF.j]
  refine g_tupA (ga_valK (Pk := fun k => mpTal CR CY (c, parts, k)) (by rw [← hj]; exact ek_tally C.Y (hr.mono (by decide)) (ev_name 1 rfl) (ev_name 2 rfl) FF.y) fun k hk => ga_val (ev_callI (R := (tOwn CR).is (lawRoom (midsV (midM parts)))) C.room (hr.mono (by decide)) parts (eva_one (ev_name 2 rfl)) FF.lr) (ga_nil ⟨_, _, rfl, bds2 (bd_name 3 nd) (bd_name 4 nd), ?_⟩))
  refine g_seeC (c' := cKept (tRoom w CR) (roomP parts)) 0 rfl (fun F o h => .inl h) ?_
  show G _ _ _ [some (mpRef l), some (tInt.is c), some ((tLst (tPart CR)).is parts), some (mpTal CR CY (c, parts, k)), some ((tOwn CR).is (lawRoom (midsV (midM parts)))), none, none, none, none, none, none, none, none, none, none, none, none, none, none, none, none, none, none, none] ((k, cKept (tRoom w CR) (roomP parts)) :: mPot l) _
  refine g_tupA (ga_cell (cc := fun _ => cLst (tRrows CR) []) (evc_list (T := tRrows CR) (xs := []) eva_nil) fun lp hlp => ga_cell (cc := fun _ => cLst (tRrow CR) []) (evc_list (T := tRrow CR) (xs := []) eva_nil) fun lw hlw => ga_nil ⟨_, _, rfl, bds2 (bd_name 5 nd) (bd_name 6 nd), ?_⟩)
  refine g_for (evi_range1 (n := 3) ev_int T.f (by decide)) (fun i Γ' M' => Γ' = [some (mpRef l), some (tInt.is c), some ((tLst (tPart CR)).is parts), some (mpTal CR CY (c, parts, k)), some ((tOwn CR).is (lawRoom (midsV (midM parts)))), some (mpRef lp), some (mpRef lw), none, none, none, none, none, none, none, none, none, none, none, none, none, none, none, none, none] ∧ ∃ ps : List (List (List Rat)), M' = (lw, cLst (tRrow CR) (ps.map (Wm parts))) :: (lp, cLst (tRrows CR) ps) :: (k, cKept (tRoom w CR) (roomP parts)) :: mPot l ∧ ps.length = i ∧ ∀ p ∈ ps, RowsD c 3 p) ⟨rfl, [], rfl, rfl, fun _ h => nomatch h⟩ ?_ ?_
  · rintro B i h _ _ ⟨rfl, ps, rfl, hpl, hps⟩
    rw [upF_len] at h
    have h3 : i < 3 := h
    refine ⟨_, _, bd_name 7 nd, ?_⟩
    refine g_setS (cc := RowsD c 3) (f := (tRrows CR).is) 8 (ev_callI (R := mpSome (RowsD c 3) (tRrows CR).is) C.rows (hr.mono (by decide)) (l, c, 3) (eva_cons (ev_name 0 rfl) (eva_cons (ev_name 1 rfl) (eva_one ev_int))) ⟨hc3, by show (0 : Int) ≤ 3; decide, by show (3 : Int) ≤ 10; decide⟩ rfl rfl nd_one (fun p hp => List.mem_cons_of_mem _ (List.mem_cons_of_mem _ (List.mem_cons_of_mem _ hp)))) (fun p hpd => ?_) nd
    have hp9 : RowsD c 9 p := hpd.mono (by decide)
    refine g_app (T := tRrows CR) (x := p) 1 (ev_name 5 rfl) (ev_name 8 rfl) rfl ?_ (by omega)
    refine g_app (T := tRrow CR) (x := Wm parts p) 0 (ev_name 6 rfl) (ev_lc [("_law_head", 22), ("_law_row_here", 23)] (evi_list (ev_name 4 rfl)) (U := tRat CR) (f := fun x : Word × Kv => ltalM p x.2) (fun j hj => ?_) nd (defScope (top 102)) (N := nRi)) rfl ?_ (by rw [List.length_map]; omega)
    · have hlt := FF.lt p hp9 _ (List.getElem_mem hj)
      exact ⟨_, _, by decide, fun s H C' cl fp => bd_two (bd_name 22 nd) (bd_name 23 nd), tYes_ok, fun _ s H C' cl fp => ev_callI (R := (tRat CR).is (ltalM p (lawRoom (midsV (midM parts)))[j].2)) C.tal (hr.mono (by decide)) ((lawRoom (midsV (midM parts)))[j].2, p) (eva_cons (ev_name 23 rfl) (eva_one (ev_name 8 rfl))) hlt⟩
    · refine g_turn ⟨rfl, ps ++ [p], ?_, ?_, ?_⟩ (.keep (.keep (.keep (.keep (.keep (.keep (.keep (.drop (.drop (.keep (.keep (.keep (.keep (.keep (.keep (.keep (.keep (.keep (.keep (.keep (.keep (.keep (.keep (.keep .nil))))))))))))))))))))))))
      · rw [List.map_append]
        rfl
      · rw [List.length_append, hpl, List.length_singleton]
      · intro q hq
        rcases List.mem_append.mp hq with z | z
        · exact hps q z
        · rw [List.mem_singleton.mp z]; exact hpd
  · rintro _ _ ⟨rfl, ps, rfl, hpl, hps⟩
    rw [upF_len] at hpl
    obtain ⟨p0, p1, p2, rfl⟩ := three hpl
    have d0 : RowsD c 3 p0 := hps _ List.mem_cons_self
    have d1 : RowsD c 3 p1 := hps _ (List.mem_cons_of_mem _ List.mem_cons_self)
    have d2 : RowsD c 3 p2 := hps _ (List.mem_cons_of_mem _ (List.mem_cons_of_mem _ List.mem_cons_self))
    have h9 : ∀ p ∈ [p0, p1, p2], RowsD c 9 p := fun p hp => (hps p hp).mono (by decide)
    refine g_frzL 6 0 rfl rfl hlw (notW ce hlw) ?_
    refine g_frzL 5 0 rfl rfl hlp (notW ce hlp) ?_
    show G _ _ _ [some (mpRef l), some (tInt.is c), some ((tLst (tPart CR)).is parts), some (mpTal CR CY (c, parts, k)), some ((tOwn CR).is (lawRoom (midsV (midM parts)))), some ((tLst (tRrows CR)).is [p0, p1, p2]), some ((tRrows CR).is [Wm parts p0, Wm parts p1, Wm parts p2]), none, none, none, none, none, none, none, none, none, none, none, none, none, none, none, none, none] ((k, cKept (tRoom w CR) (roomP parts)) :: mPot l) _
    refine g_setLc 9 [("_law_rows_here", 8)] (evi_list (ev_name 5 rfl)) (U := tTab CR CT) (f := fun p => (c, p)) (fun i h => ?_) ?_ nd (defScope (top 102)) (N := nRi)
    · have hT := (h9 _ (List.getElem_mem h)).tab hc3
      exact ⟨_, _, by decide, fun s H C' cl fp => bd_name 8 nd, tYes_ok, fun _ s H C' cl fp => ev_table C.T (hr.mono (by decide)) (ev_name 1 rfl) (ev_name 8 rfl) hT⟩
    have hk0 : keptM parts p0 = Wm parts p0 := FF.ke _ (d0.mono (by decide))
    have hk1 : keptM parts p1 = Wm parts p1 := FF.ke _ (d1.mono (by decide))
    have hk2 : keptM parts p2 = Wm parts p2 := FF.ke _ (d2.mono (by decide))
    have d01 : RowsD c 9 (p0 ++ p1) := (d0.app d1).mono (by decide)
    have d12 : RowsD c 9 (p1 ++ p2) := (d1.app d2).mono (by decide)
    have d012 : RowsD c 9 (p0 ++ p1 ++ p2) := (d0.app d1).app d2
    have dn : RowsD c 9 [] := ⟨by decide, fun _ h => nomatch h⟩
    have e0 := h9 p0 List.mem_cons_self
    have e1 := h9 p1 (List.mem_cons_of_mem _ List.mem_cons_self)
    have e2 := h9 p2 (List.mem_cons_of_mem _ (List.mem_cons_of_mem _ List.mem_cons_self))
    refine g_setLc 11 [("_law_table", 10)] (evi_list (xs := [(c, p0), (c, p1), (c, p2)]) (T := tTab CR CT) (ev_name 9 rfl)) (U := tRrow CR) (f := fun t : Int × List (List Rat) => keptM parts t.2) (fun i h => ?_) ?_ nd (defScope (top 102)) (N := nRi)
    · have hK : preKn ((c, parts, k), [(c, p0), (c, p1), (c, p2)][i]) := by
        have hm : [(c, p0), (c, p1), (c, p2)][i] ∈ [(c, p0), (c, p1), (c, p2)] := List.getElem_mem h
        generalize [(c, p0), (c, p1), (c, p2)][i] = t at hm
        have hh : t = (c, p0) ∨ t = (c, p1) ∨ t = (c, p2) := by simpa using hm
        rcases hh with rfl | rfl | rfl
        · exact ⟨FF.fr, rfl, FF.kn _ e0⟩
        · exact ⟨FF.fr, rfl, FF.kn _ e1⟩
        · exact ⟨FF.fr, rfl, FF.kn _ e2⟩
      exact ⟨_, _, by decide, fun s H C' cl fp => bd_name 10 nd, tYes_ok, fun _ s H C' cl fp => ev_callI (R := (tRrow CR).is (keptM parts [(c, p0), (c, p1), (c, p2)][i].2)) C.kn (hr.mono (by decide)) ((c, parts, k), [(c, p0), (c, p1), (c, p2)][i]) (eva_cons (ev_name 3 rfl) (eva_one (ev_name 10 rfl))) hK rfl rfl nd_one kIn⟩
    show G _ _ _ [some (mpRef l), some (tInt.is c), some ((tLst (tPart CR)).is parts), some (mpTal CR CY (c, parts, k)), some ((tOwn CR).is (lawRoom (midsV (midM parts)))), some ((tLst (tRrows CR)).is [p0, p1, p2]), some ((tRrows CR).is [Wm parts p0, Wm parts p1, Wm parts p2]), none, none, some ((tTabs CR CT).is [(c, p0), (c, p1), (c, p2)]), none, some ((tRrows CR).is [keptM parts p0, keptM parts p1, keptM parts p2]), none, none, none, none, none, none, none, none, none, none, none, none] ((k, cKept (tRoom w CR) (roomP parts)) :: mPot l) _
    rw [hk0, hk1, hk2]
    -- the values of the tables, worths and pieces
    refine g_if (x := false) (EvT.to (EvW.t (ew_or (et_neRss C.E (hr.mono (by decide)) (ev_name 11 rfl) (ev_name 6 rfl)) fun _ => ew_or1 (et_neRs (xs := Wm parts p0) C.E (hr.mono (by decide)) (Ev.tol (ev_callKw (R := (tRrow CR).is (keptM parts p0)) C.knK (hr.mono (by decide)) ((c, parts, k), (c, p0)) (ek_cons (ev_ixL (T := tTab CR CT) (x := (c, p0)) (ev_name 9 rfl) ev_int rfl) (ek_cons (ev_name 3 rfl) ek_nil)) ⟨FF.fr, rfl, FF.kn _ e0⟩ rfl rfl nd_one kIn) hk0) (ev_ixL (T := tRrow CR) (x := Wm parts p0) (ev_name 6 rfl) ev_int rfl)))) rfl) (fun h => by cases h) fun _ => g_end ?_
    refine g_set 12 (ev_callI (R := (tTab CR CT).is (c, p0 ++ p1)) C.jt hr ((c, p0), (c, p1)) (eva_cons (ev_ixL (T := tTab CR CT) (x := (c, p0)) (ev_name 9 rfl) ev_int rfl) (eva_one (ev_ixL (T := tTab CR CT) (x := (c, p1)) (ev_name 9 rfl) ev_int rfl))) ⟨rfl, d01.tab hc3⟩) ?_ nd
    have l0 : p0.length ≤ 9 := by have : (p0.length : Int) ≤ 9 := e0.1; omega
    have l1 : p1.length ≤ 9 := by have : (p1.length : Int) ≤ 9 := e1.1; omega
    have l2 : p2.length ≤ 9 := by have : (p2.length : Int) ≤ 9 := e2.1; omega
    refine g_setLc 13 [("_law_head", 22), ("_law_row_here", 23)] (evi_list (ev_name 4 rfl)) (U := tRat CR) (f := fun x : Word × Kv => ltalM (p0 ++ p1) x.2) (fun j hj => ?_) ?_ nd (defScope (top 102)) (N := nRi)
    · have hlt := FF.lt _ d01 _ (List.getElem_mem hj)
      exact ⟨_, _, by decide, fun s H C' cl fp => bd_two (bd_name 22 nd) (bd_name 23 nd), tYes_ok, fun _ s H C' cl fp => ev_callI (R := (tRat CR).is (ltalM (p0 ++ p1) (lawRoom (midsV (midM parts)))[j].2)) C.tal (hr.mono (by decide)) ((lawRoom (midsV (midM parts)))[j].2, p0 ++ p1) (eva_cons (ev_name 23 rfl) (eva_one (ev_catL (T := tRrow CR) (ev_ixL (T := tRrows CR) (x := p0) (ev_name 5 rfl) ev_int rfl) (ev_ixL (T := tRrows CR) (x := p1) (ev_name 5 rfl) ev_int rfl) (by omega)))) hlt⟩
    refine g_set 10 (ev_callI (R := (tCub CR).is (joiningM (roomP parts))) C.jo (hr.mono (by decide)) (c, parts, k) (eva_one (ev_name 3 rfl)) ⟨FF.fr, FF.jo⟩ rfl rfl nd_one kIn) ?_ nd
    refine g_set 14 (Ev.tol (ys := Wm parts (p0 ++ p1)) (ev_callI (R := (tRrow CR).is (joinedM parts (numsV (true, (Wm parts p0).map Sum.inr)) (numsV (true, (Wm parts p1).map Sum.inr)))) C.jn (hr.mono (by decide)) ((c, parts, k), (true, (Wm parts p0).map Sum.inr), (true, (Wm parts p1).map Sum.inr)) (eva_cons (ev_name 3 rfl) (eva_cons (ev_nsR (ev_ixL (T := tRrow CR) (x := Wm parts p0) (ev_name 6 rfl) ev_int rfl)) (eva_one (ev_nsR (ev_ixL (T := tRrow CR) (x := Wm parts p1) (ev_name 6 rfl) ev_int rfl))))) (FF.jd _ _ e0 e1 d01 _ _ _ _ _ (map_inr _) (map_inr _)) rfl rfl nd_one kIn) (by
      show joinedM parts (((Wm parts p0).map Sum.inr).map numV) (((Wm parts p1).map Sum.inr).map numV) = _
      rw [map_inr, map_inr]
      exact FF.je _ _ e0 e1 d01)) ?_ nd
    show G _ _ _ [some (mpRef l), some (tInt.is c), some ((tLst (tPart CR)).is parts), some (mpTal CR CY (c, parts, k)), some ((tOwn CR).is (lawRoom (midsV (midM parts)))), some ((tLst (tRrows CR)).is [p0, p1, p2]), some ((tRrows CR).is [Wm parts p0, Wm parts p1, Wm parts p2]), none, none, some ((tTabs CR CT).is [(c, p0), (c, p1), (c, p2)]), some ((tCub CR).is (joiningM (roomP parts))), some ((tRrows CR).is [Wm parts p0, Wm parts p1, Wm parts p2]), some ((tTab CR CT).is (c, p0 ++ p1)), some ((tRrow CR).is (Wm parts (p0 ++ p1))), some ((tRrow CR).is (Wm parts (p0 ++ p1))), none, none, none, none, none, none, none, none, none] ((k, cKept (tRoom w CR) (roomP parts)) :: mPot l) _
    refine g_if (x := false) (EvT.to (EvW.t (ew_or (et_neRs (xs := Wm parts (p0 ++ p1)) C.E (hr.mono (by decide)) (ev_name 14 rfl) (ev_name 13 rfl)) fun _ => ew_or (et_neRs (xs := Wm parts (p0 ++ p1)) C.E (hr.mono (by decide)) (Ev.tol (ev_callI (R := (tRrow CR).is (keptM parts (p0 ++ p1))) C.kn (hr.mono (by decide)) ((c, parts, k), (c, p0 ++ p1)) (eva_cons (ev_name 3 rfl) (eva_one (ev_name 12 rfl))) ⟨FF.fr, rfl, FF.kn _ d01⟩ rfl rfl nd_one kIn) (FF.ke _ d01)) (ev_name 13 rfl)) fun _ => ew_or1 (et_neRs (xs := Wm parts (p0 ++ p1)) C.E (hr.mono (by decide)) (Ev.tol (ev_callI (R := (tRrow CR).is (mixM (joiningM (roomP parts)) (Wm parts p0) (Wm parts p1))) C.mix (hr.mono (by decide)) (joiningM (roomP parts), Wm parts p0, Wm parts p1) (eva_cons (ev_name 10 rfl) (eva_cons (ev_ixL (T := tRrow CR) (x := Wm parts p0) (ev_name 6 rfl) ev_int rfl) (eva_one (ev_ixL (T := tRrow CR) (x := Wm parts p1) (ev_name 6 rfl) ev_int rfl)))) (FF.mx _ _ e0 e1 d01)) (FF.me _ _ e0 e1 d01)) (ev_name 13 rfl)))) rfl) (fun h => by cases h) fun _ => g_end ?_
    refine g_set 15 (Ev.tol (ys := Wm parts (p0 ++ p1 ++ p2)) (ev_callKw (R := (tRrow CR).is (joinedM parts (numsV (true, (Wm parts (p0 ++ p1)).map Sum.inr)) (numsV (true, (Wm parts p2).map Sum.inr)))) C.jnK (hr.mono (by decide)) ((c, parts, k), (true, (Wm parts (p0 ++ p1)).map Sum.inr), (true, (Wm parts p2).map Sum.inr)) (ek_cons (ev_nsR (ev_ixL (T := tRrow CR) (x := Wm parts p2) (ev_name 6 rfl) ev_int rfl)) (ek_cons (ev_nsR (ev_name 14 rfl)) (ek_cons (ev_name 3 rfl) ek_nil))) (FF.jd _ _ d01 e2 d012 _ _ _ _ _ (map_inr _) (map_inr _)) rfl rfl nd_one kIn) (by
      show joinedM parts (((Wm parts (p0 ++ p1)).map Sum.inr).map numV) (((Wm parts p2).map Sum.inr).map numV) = _
      rw [map_inr, map_inr]
      exact FF.je _ _ d01 e2 d012)) ?_ nd
    have d012' : RowsD c 9 (p0 ++ (p1 ++ p2)) := by rw [← List.append_assoc]; exact d012
    refine g_if (x := false) (et_neRs (xs := Wm parts (p0 ++ p1 ++ p2)) C.E (hr.mono (by decide)) (ev_name 15 rfl) (Ev.tol (ev_callI (R := (tRrow CR).is (joinedM parts (numsV (true, (Wm parts p0).map Sum.inr)) (numsV (true, (Wm parts (p1 ++ p2)).map Sum.inr)))) C.jn (hr.mono (by decide)) ((c, parts, k), (true, (Wm parts p0).map Sum.inr), (true, (Wm parts (p1 ++ p2)).map Sum.inr)) (eva_cons (ev_name 3 rfl) (eva_cons (ev_nsR (ev_ixL (T := tRrow CR) (x := Wm parts p0) (ev_name 6 rfl) ev_int rfl)) (eva_one (ev_nsR (Ev.tol (ys := Wm parts (p1 ++ p2)) (ev_callI (R := (tRrow CR).is (joinedM parts (numsV (true, (Wm parts p1).map Sum.inr)) (numsV (true, (Wm parts p2).map Sum.inr)))) C.jn (hr.mono (by decide)) ((c, parts, k), (true, (Wm parts p1).map Sum.inr), (true, (Wm parts p2).map Sum.inr)) (eva_cons (ev_name 3 rfl) (eva_cons (ev_nsR (ev_ixL (T := tRrow CR) (x := Wm parts p1) (ev_name 6 rfl) ev_int rfl)) (eva_one (ev_nsR (ev_ixL (T := tRrow CR) (x := Wm parts p2) (ev_name 6 rfl) ev_int rfl))))) (FF.jd _ _ e1 e2 d12 _ _ _ _ _ (map_inr _) (map_inr _)) rfl rfl nd_one kIn) (by
      show joinedM parts (((Wm parts p1).map Sum.inr).map numV) (((Wm parts p2).map Sum.inr).map numV) = _
      rw [map_inr, map_inr]
      exact FF.je _ _ e1 e2 d12)))))) (FF.jd _ _ e0 d12 d012' _ _ _ _ _ (map_inr _) (map_inr _)) rfl rfl nd_one kIn) (by
      show joinedM parts (((Wm parts p0).map Sum.inr).map numV) (((Wm parts (p1 ++ p2)).map Sum.inr).map numV) = _
      rw [map_inr, map_inr, List.append_assoc]
      exact FF.je _ _ e0 d12 d012'))) (fun h => by cases h) fun _ => g_end ?_
    refine g_set 16 (ev_ratio1 C.R1 (hr.mono (by decide)) ev_int (q := 0) rfl) ?_ nd
    have hWs := FF.ws _ d012
    have hWe := FF.we _ d012
    refine g_sub (Γ' := [some (mpRef l), some (tInt.is c), some ((tLst (tPart CR)).is parts), some (mpTal CR CY (c, parts, k)), none, some ((tLst (tRrows CR)).is [p0, p1, p2]), some ((tRrows CR).is [Wm parts p0, Wm parts p1, Wm parts p2]), none, none, some ((tTabs CR CT).is [(c, p0), (c, p1), (c, p2)]), none, none, some ((tTab CR CT).is (c, p0 ++ p1)), none, none, some ((tRrow CR).is (Wm parts (p0 ++ p1 ++ p2))), some ((tRat CR).is 0), none, none, none, none, none, none, none]) (.keep (.keep (.keep (.keep (.drop (.keep (.keep (.keep (.keep (.keep (.drop (.drop (.keep (.drop (.drop (.keep (.keep (.keep (.keep (.keep (.keep (.keep (.keep (.keep .nil)))))))))))))))))))))))) ?_
    refine g_for (evi_zip (xs := wholeM parts) (ys := Wm parts (p0 ++ p1 ++ p2)) (T := tRat CR) (U := tRat CR) (ev_callI (R := (tRrow CR).is (wholeM parts)) C.wn (hr.mono (by decide)) (c, parts, k) (eva_one (ev_name 3 rfl)) ⟨FF.fr, FF.ne⟩ rfl rfl nd_one kIn) (ev_name 15 rfl) T.f) (fun i Γ' M' => Γ' = [some (mpRef l), some (tInt.is c), some ((tLst (tPart CR)).is parts), some (mpTal CR CY (c, parts, k)), none, some ((tLst (tRrows CR)).is [p0, p1, p2]), some ((tRrows CR).is [Wm parts p0, Wm parts p1, Wm parts p2]), none, none, some ((tTabs CR CT).is [(c, p0), (c, p1), (c, p2)]), none, none, some ((tTab CR CT).is (c, p0 ++ p1)), none, none, some ((tRrow CR).is (Wm parts (p0 ++ p1 ++ p2))), some ((tRat CR).is (wsum ((wholeM parts).zip (Wm parts (p0 ++ p1 ++ p2))) i)), none, none, none, none, none, none, none] ∧ M' = (k, cKept (tRoom w CR) (roomP parts)) :: mPot l) ⟨rfl, rfl⟩ ?_ ?_
    · rintro B i h _ _ ⟨rfl, rfl⟩
      have hi : i < ((wholeM parts).zip (Wm parts (p0 ++ p1 ++ p2))).length := h
      obtain ⟨s1, s2, s3⟩ := hWs.a _ (List.getElem_mem hi)
      have ss := hWs.s i (Nat.le_of_lt hi)
      have su := wsum_succ hi
      refine ⟨_, _, bd_two (bd_name 17 nd) (bd_name 18 nd), ?_⟩
      refine g_set 16 (ev_radd T C.add (hr.mono (by decide)) (ev_name 16 rfl) (ev_rmul T C.mul (hr.mono (by decide)) (ev_name 17 rfl) (ev_name 18 rfl) s1 s2) ss s3) ?_ nd
      rw [← su]
      refine g_turn ⟨rfl, rfl⟩ (.keep (.keep (.keep (.keep (.keep (.keep (.keep (.keep (.keep (.keep (.keep (.keep (.keep (.keep (.keep (.keep (.keep (.drop (.drop (.keep (.keep (.keep (.keep (.keep .nil))))))))))))))))))))))))
    · rintro _ _ ⟨rfl, rfl⟩
      rw [hWe]
      refine g_set 13 (ev_callI (R := (tRat CR).is (ltalM (p0 ++ p1 ++ p2) parts)) C.tal (hr.mono (by decide)) (parts, p0 ++ p1 ++ p2) (eva_cons (ev_name 2 rfl) (eva_one (ev_catL (T := tRrow CR) (ev_catL (T := tRrow CR) (ev_ixL (T := tRrows CR) (x := p0) (ev_name 5 rfl) ev_int rfl) (ev_ixL (T := tRrows CR) (x := p1) (ev_name 5 rfl) ev_int rfl) (by omega)) (ev_ixL (T := tRrows CR) (x := p2) (ev_name 5 rfl) ev_int rfl) (by rw [List.length_append]; omega)))) (FF.ltp _ d012)) ?_ nd
      refine g_if (x := false) (EvT.to (EvW.t (ew_or (et_rne T C.E (hr.mono (by decide)) (ev_name 16 rfl) (ev_name 13 rfl)) fun _ => ew_or1 (et_rne T C.E (hr.mono (by decide)) (Ev.tol (ev_callI (R := (tRat CR).is (worthP parts (p0 ++ p1 ++ p2))) C.tw (hr.mono (by decide)) ((c, parts, k), (c, p0 ++ p1 ++ p2)) (eva_cons (ev_name 3 rfl) (eva_one (ev_callI (R := (tTab CR CT).is (c, p0 ++ p1 ++ p2)) C.jt hr ((c, p0 ++ p1), (c, p2)) (eva_cons (ev_name 12 rfl) (eva_one (ev_ixL (T := tTab CR CT) (x := (c, p2)) (ev_name 9 rfl) ev_int rfl))) ⟨rfl, d012.tab hc3⟩))) ⟨rfl, FF.tw _ d012⟩) (FF.te _ d012)) (ev_name 13 rfl)))) (by rw [decide_eq_true rfl] <;> rfl)) (fun h => by cases h) fun _ => g_end ?_
      refine g_set 19 (Ev.tol (ys := Wm parts []) (ev_callI (R := (tRrow CR).is (keptM parts [])) C.kn (hr.mono (by decide)) ((c, parts, k), (c, [])) (eva_cons (ev_name 3 rfl) (eva_one (ev_table C.T (hr.mono (by decide)) (ev_name 1 rfl) (ev_lst (T := tRrow CR) (xs := []) eva_nil (by decide)) (dn.tab hc3)))) ⟨FF.fr, rfl, FF.kn _ dn⟩ rfl rfl nd_one kIn) (FF.ke _ dn)) ?_ nd
      refine g_newl (xs := []) (tNumV CR) 20 eva_nil (fun lg hlg => ?_) nd
      refine g_sub (Γ' := [some (mpRef l), some (tInt.is c), some ((tLst (tPart CR)).is parts), some (mpTal CR CY (c, parts, k)), none, some ((tLst (tRrows CR)).is [p0, p1, p2]), some ((tRrows CR).is [Wm parts p0, Wm parts p1, Wm parts p2]), none, none, some ((tTabs CR CT).is [(c, p0), (c, p1), (c, p2)]), none, none, some ((tTab CR CT).is (c, p0 ++ p1)), none, none, some ((tRrow CR).is (Wm parts (p0 ++ p1 ++ p2))), some ((tRat CR).is (ltalM (p0 ++ p1 ++ p2) parts)), none, none, some ((tRrow CR).is (Wm parts [])), some (mpRef lg), none, none, none]) (.keep (.keep (.keep (.keep (.keep (.keep (.keep (.keep (.keep (.keep (.keep (.keep (.keep (.drop (.keep (.keep (.keep (.keep (.keep (.keep (.keep (.keep (.keep (.keep .nil)))))))))))))))))))))))) ?_
      refine g_for (evi_list (ev_ixL (T := tRrow CR) (x := Wm parts p0) (ev_name 6 rfl) ev_int rfl)) (fun i Γ' M' => Γ' = [some (mpRef l), some (tInt.is c), some ((tLst (tPart CR)).is parts), some (mpTal CR CY (c, parts, k)), none, some ((tLst (tRrows CR)).is [p0, p1, p2]), some ((tRrows CR).is [Wm parts p0, Wm parts p1, Wm parts p2]), none, none, some ((tTabs CR CT).is [(c, p0), (c, p1), (c, p2)]), none, none, some ((tTab CR CT).is (c, p0 ++ p1)), none, none, some ((tRrow CR).is (Wm parts (p0 ++ p1 ++ p2))), some ((tRat CR).is (ltalM (p0 ++ p1 ++ p2) parts)), none, none, some ((tRrow CR).is (Wm parts [])), some (mpRef lg), none, none, none] ∧ M' = (lg, cLst (tNumV CR) (((Wm parts p0).take i).map giveV)) :: (k, cKept (tRoom w CR) (roomP parts)) :: mPot l) ⟨rfl, rfl⟩ ?_ ?_
      · rintro B i h _ _ ⟨rfl, rfl⟩
        have hi : i < (Wm parts p0).length := h
        have htk := take_succ' hi
        have hwl : (Wm parts p0).length ≤ 1000 := by
          unfold Wm
          rw [List.length_map]
          exact FF.rl
        refine ⟨_, _, bd_name 17 nd, ?_⟩
        generalize hq : (Wm parts p0)[i] = q at *
        refine g_set 21 (ev_and (x := decide ((q.den : Int) = 1)) (y := decide ((if q.num < 0 then -q.num else q.num) < 1000000)) (ev_pwhole T C.wh (hr.mono (by decide)) (ev_name 17 rfl)) fun _ => ev_one (ev_lt (ev_abs (ev_ptop T C.top (hr.mono (by decide)) (q := q) (ev_name 17 rfl)) T.g) ev_int)) ?_ nd
        refine g_app (T := tNumV CR) (x := giveV q) 0 (ev_name 20 rfl) (ev_if (x := (decide ((q.den : Int) = 1) && decide ((if q.num < 0 then -q.num else q.num) < 1000000))) (et_val (ev_name 21 rfl)) (fun hb => ?_) (fun hb => ?_)) rfl ?_ (by rw [List.length_map, List.length_take]; omega)
        · rw [giveV_pos hb]
          exact ev_numI (ev_inti (ev_ptop T C.top (hr.mono (by decide)) (q := q) (ev_name 17 rfl)) T.f)
        · rw [giveV_neg hb]
          exact ev_numR (ev_name 17 rfl)
        · refine g_turn ⟨rfl, ?_⟩ (.keep (.keep (.keep (.keep (.keep (.keep (.keep (.keep (.keep (.keep (.keep (.keep (.keep (.keep (.keep (.keep (.keep (.drop (.keep (.keep (.keep (.drop (.keep (.keep .nil))))))))))))))))))))))))
          rw [htk, List.map_append]
          rfl
      · rintro _ _ ⟨rfl, rfl⟩
        rw [List.take_length]
        refine g_frzL 20 0 rfl rfl hlg (notW ce hlg) ?_
        have dp0 : RowsD c 9 (p0 ++ []) := by rw [List.append_nil]; exact e0
        refine g_if (x := false) (et_neRs (xs := Wm parts p0) C.E (hr.mono (by decide)) (Ev.tol (ev_callI (R := (tRrow CR).is (joinedM parts (numsV (false, (Wm parts p0).map giveV)) (numsV (true, (Wm parts []).map Sum.inr)))) C.jn (hr.mono (by decide)) ((c, parts, k), (false, (Wm parts p0).map giveV), (true, (Wm parts []).map Sum.inr)) (eva_cons (ev_name 3 rfl) (eva_cons (ev_nsT (ev_tupL (xs := (Wm parts p0).map giveV) (ev_name 20 rfl) T.f)) (eva_one (ev_nsR (ev_name 19 rfl))))) (FF.jd _ _ e0 dn dp0 _ _ _ _ _ (map_give _) (map_inr _)) rfl rfl nd_one kIn) (by
          show joinedM parts (((Wm parts p0).map giveV).map numV) (((Wm parts []).map Sum.inr).map numV) = _
          rw [map_give, map_inr, FF.je _ _ e0 dn dp0, List.append_nil])) (ev_ixL (T := tRrow CR) (x := Wm parts p0) (ev_name 6 rfl) ev_int rfl)) (fun h => by cases h) fun _ => g_end ?_
        refine g_ret (ev_eqRs (xs := Wm parts p0) C.E (hr.mono (by decide)) (Ev.tol (ev_callI (R := (tRrow CR).is (joinedM parts (numsV (true, (Wm parts []).map Sum.inr)) (numsV (true, (Wm parts p0).map giveV)))) C.jn (hr.mono (by decide)) ((c, parts, k), (true, (Wm parts []).map Sum.inr), (true, (Wm parts p0).map giveV)) (eva_cons (ev_name 3 rfl) (eva_cons (ev_nsR (ev_name 19 rfl)) (eva_one (ev_nsL (ev_name 20 rfl))))) (FF.jd _ _ dn e0 e0 _ _ _ _ _ (map_inr _) (map_give _)) rfl rfl nd_one kIn) (by
          show joinedM parts (((Wm parts []).map Sum.inr).map numV) (((Wm parts p0).map giveV).map numV) = _
          rw [map_give, map_inr, FF.je _ _ dn e0 e0, List.nil_append])) (ev_ixL (T := tRrow CR) (x := Wm parts p0) (ev_name 6 rfl) ev_int rfl)) (fun F v h => h) (fun p hp => List.mem_cons_of_mem _ hp) nd_one
/-! ### law -/
abbrev sp_law (K : PySem.W.Frag) : Sp := spT (fun _ : List Int => True) (fun _ => []) (fun ns => [(tScr K).is ns]) fun _ => tBool.is true
theorem sc_law : FnScope ["_law_script"] ["_law_script"] (defScope (top 103)) := ⟨rfl, rfl, rfl, by decide +kernel, rfl, by decide +kernel, by decide +kernel⟩
theorem ok_law {f : Addr} {fd : FuncData} (Fd : FnP K "law" (top 103) f fd) (hm : mg "law" = some (.ref f)) (T : Tx K mg CR CT CY) (c1 : Cal P w K mg base "_law_pot" 1 ["_law_script", "_law_k"] [] (sp_pot K)) (c2 : Cal P w K mg base "_law_right" 10 ["_law_pot_here"] [] sp_right) : Cal P w K mg base "law" 11 ["_law_script"] [] (sp_law K) := by
  refine cal_mk Fd hm (fn_mk Fd sc_law (fun _ => rfl) fun cdv A outer s H E ns F hr hp ce => ?_) fun _ _ _ _ _ _ us hl => match us, hl with | [_], _ => rfl
  refine g_retGA c2 hr (ga_valK (ev_callN c1 (hr.mono (by decide)) ns (eva_cons (ev_name 0 rfl) (eva_one ev_int)) trivial) fun k hk => ga_nil ⟨k, trivial, rfl, nd_one, fun q hq => hq, fun F v h => h⟩)
end
end L2.K3
set_option Elab.async false
set_option linter.all false
set_option maxHeartbeats 2000001
/-! MC: sums over the rows ahead, by the rows; two pieces put together. -/
namespace RM
open Sol (take_succ)
/-- a sum over the first n -/
def rs : Nat → (Nat → Rat) → Rat
  | 0, _ => 0
  | n + 1, f => rs n f + f n
theorem rs_front (f : Nat → Rat) : ∀ n, rs (n + 1) f = f 0 + rs n fun j => f (j + 1)
  | 0 => by show (0 : Rat) + f 0 = f 0 + 0; grind
  | n + 1 => by
    have ih := rs_front f n
    show rs (n + 1) f + f (n + 1) = f 0 + (rs n (fun j => f (j + 1)) + f (n + 1))
    rw [ih]
    grind
theorem rs_congr {f g : Nat → Rat} : ∀ {n : Nat}, (∀ j, j < n → f j = g j) → rs n f = rs n g
  | 0, _ => rfl
  | n + 1, h => by
    show rs n f + f n = rs n g + g n
    rw [rs_congr (fun j hj => h j (Nat.lt_succ_of_lt hj)), h n (Nat.lt_succ_self n)]
theorem rs_add (f g : Nat → Rat) : ∀ n, rs n (fun j => f j + g j) = rs n f + rs n g
  | 0 => by show (0 : Rat) = 0 + 0; grind
  | n + 1 => by
    show rs n (fun j => f j + g j) + (f n + g n) = (rs n f + f n) + (rs n g + g n)
    rw [rs_add f g n]
    grind
theorem rs_mul (c : Rat) (f : Nat → Rat) : ∀ n, rs n (fun j => c * f j) = c * rs n f
  | 0 => by show (0 : Rat) = c * 0; grind
  | n + 1 => by
    show rs n (fun j => c * f j) + c * f n = c * (rs n f + f n)
    rw [rs_mul c f n]
    grind
theorem rs_zero {f : Nat → Rat} : ∀ {n : Nat}, (∀ j, j < n → f j = 0) → rs n f = 0
  | 0, _ => rfl
  | n + 1, h => by
    show rs n f + f n = 0
    rw [rs_zero (fun j hj => h j (Nat.lt_succ_of_lt hj)), h n (Nat.lt_succ_self n)]
    grind
/-- the sums of a word over rows -/
def Fr : List (List Int) → List (List Rat) → Rat
  | [], _ => 1
  | _ :: _, [] => 0
  | a :: x, r :: p => Fr (a :: x) p + worthR a r * Fr x p
theorem Fr_nil (p : List (List Rat)) : Fr [] p = 1 := by unfold Fr <;> rfl
theorem Fr_void (a : List Int) (x : List (List Int)) : Fr (a :: x) [] = 0 := by rw [Fr]
theorem Fr_cons (a : List Int) (x : List (List Int)) (r : List Rat) (p : List (List Rat)) : Fr (a :: x) (r :: p) = Fr (a :: x) p + worthR a r * Fr x p := by rw [Fr]
/-- two pieces put together -/
theorem chen (q : List (List Rat)) : ∀ (p : List (List Rat)) (x : List (List Int)), Fr x (p ++ q) = rs (x.length + 1) fun j => Fr (x.take j) p * Fr (x.drop j) q
  | [], x => by
    rw [List.nil_append, rs_front]
    have h : rs x.length (fun j => Fr (x.take (j + 1)) [] * Fr (x.drop (j + 1)) q) = 0 := rs_zero fun j hj => by
      cases x with
      | nil => exact absurd hj (Nat.not_lt_zero _)
      | cons a y => rw [List.take_succ_cons, Fr_void]; grind
    rw [h, List.take_zero, List.drop_zero, Fr_nil]
    grind
  | r :: p, [] => by
    show Fr [] _ = (0 : Rat) + Fr (List.take 0 []) (r :: p) * Fr (List.drop 0 []) q
    rw [List.take_nil, List.drop_nil, Fr_nil, Fr_nil, Fr_nil]
    grind
  | r :: p, a :: x => by
    rw [List.cons_append, Fr_cons, chen q p (a :: x), chen q p x]
    rw [rs_front (fun j => Fr ((a :: x).take j) p * Fr ((a :: x).drop j) q) (a :: x).length, rs_front (fun j => Fr ((a :: x).take j) (r :: p) * Fr ((a :: x).drop j) q) (a :: x).length]
    simp only [List.take_succ_cons, List.drop_succ_cons, List.take_zero, List.drop_zero, Fr_nil, List.length_cons]
    rw [← rs_mul, Rat.add_assoc, ← rs_add]
    congr 1
    refine rs_congr fun j _ => ?_
    rw [Fr_cons]
    grind
/-! ### the same, letter by letter -/
theorem Fr_snoc (a : List Int) (r : List Rat) : ∀ (p : List (List Rat)) (x : List (List Int)), Fr (x ++ [a]) (p ++ [r]) = Fr (x ++ [a]) p + Fr x p * worthR a r
  | [], [] => by
    show Fr [a] [r] = Fr [a] [] + Fr [] [] * worthR a r
    rw [Fr_cons, Fr_void, Fr_nil]
    grind
  | [], b :: x => by
    rw [List.nil_append, List.cons_append, Fr_cons, Fr_void, Fr_void]
    cases x with
    | nil => rw [List.nil_append, Fr_void]; grind
    | cons c y => rw [List.cons_append, Fr_void]; grind
  | s :: p, [] => by
    have ih := Fr_snoc a r p []
    rw [List.nil_append, List.cons_append, Fr_cons, Fr_cons]
    rw [List.nil_append] at ih
    rw [ih, Fr_nil, Fr_nil, Fr_nil]
    grind
  | s :: p, b :: x => by
    rw [List.cons_append, List.cons_append, Fr_cons, Fr_cons, Fr_cons]
    have h1 := Fr_snoc a r p (b :: x)
    have h2 := Fr_snoc a r p x
    rw [List.cons_append] at h1
    rw [h1, h2]
    grind
theorem Fr_sum (a : List Int) (x : List (List Int)) (rows : List (List Rat)) : ∀ k, k ≤ rows.length → Fr (x ++ [a]) (rows.take k) = sumsG 0 ((List.range rows.length).map fun i => (Fr x (rows.take i), worthR a (rows.getD i []))) k
  | 0, _ => by
    rw [List.take_zero]
    show Fr (x ++ [a]) [] = 0
    cases x with
    | nil => rw [List.nil_append, Fr_void]
    | cons b y => rw [List.cons_append, Fr_void]
  | k + 1, h => by
    have hk : k < ((List.range rows.length).map fun i => (Fr x (rows.take i), worthR a (rows.getD i []))).length := by
      rw [List.length_map, List.length_range]
      exact h
    rw [sumsG_succ hk, ← Fr_sum a x rows k (Nat.le_of_succ_le h), take_succ h, Fr_snoc]
    rw [List.getElem_map, List.getElem_range, List.getD_eq_getElem?_getD, List.getElem?_eq_getElem h] <;> rfl
end RM
namespace RM
open Sol (take_succ)
def aheadX (rows : List (List Rat)) (x : List (List Int)) : List Rat := aheadF rows.length (x.map fun letter => rows.map (worthR letter))
theorem aheadX_snoc (rows : List (List Rat)) (x : List (List Int)) (a : List Int) : aheadX rows (x ++ [a]) = stepG 0 (aheadX rows x) (rows.map (worthR a)) := by
  unfold aheadX aheadF aheadW
  rw [List.map_append, List.foldl_append] <;> rfl
theorem rev_ind {α : Type} {P : List α → Prop} (h0 : P []) (h1 : ∀ x a, P x → P (x ++ [a])) (l : List α) : P l := by
  have : ∀ n (l : List α), l.length = n → P l := by
    intro n
    induction n with
    | zero => intro l h; rw [List.length_eq_zero_iff.mp h]; exact h0
    | succ n ih =>
      intro l h
      have hne : l ≠ [] := fun e => by rw [e] at h; cases h
      rw [← List.dropLast_concat_getLast hne]
      refine h1 _ _ (ih _ ?_)
      rw [List.length_dropLast, h] <;> rfl
  exact this _ l rfl
theorem aheadX_fr (rows : List (List Rat)) (x : List (List Int)) : aheadX rows x = (List.range (rows.length + 1)).map fun k => Fr x (rows.take k) := by
  refine rev_ind (P := fun x => aheadX rows x = (List.range (rows.length + 1)).map fun k => Fr x (rows.take k)) ?_ ?_ x
  · show List.replicate (rows.length + 1) (1 : Rat) = _
    apply List.ext_getElem
    · rw [List.length_replicate, List.length_map, List.length_range]
    · intro k h1 h2
      rw [List.getElem_replicate, List.getElem_map, Fr_nil]
  · intro x a ih
    rw [aheadX_snoc, ih]
    have hz : (((List.range (rows.length + 1)).map fun k => Fr x (rows.take k)).zip (rows.map (worthR a))) = (List.range rows.length).map fun i => (Fr x (rows.take i), worthR a (rows.getD i [])) := by
      apply List.ext_getElem
      · rw [List.length_zip, List.length_map, List.length_map, List.length_map, List.length_range, List.length_range]
        omega
      · intro k h1 h2
        rw [List.length_map, List.length_range] at h2
        rw [List.getElem_zip, List.getElem_map, List.getElem_map, List.getElem_map, List.getElem_range, List.getElem_range, List.getD_eq_getElem?_getD, List.getElem?_eq_getElem h2] <;> rfl
    unfold stepG
    rw [hz, List.length_map, List.length_range]
    refine List.map_congr_left fun k hk => ?_
    rw [Fr_sum a x rows k (by have := List.mem_range.mp hk; omega)]
theorem ahead_last (rows : List (List Rat)) (x : List (List Int)) : (aheadR rows x).getLastD 0 = Fr x rows := by
  show (aheadX rows x).getLastD 0 = _
  rw [aheadX_fr, List.range_succ, List.map_append, List.map_singleton, List.getLastD_concat, List.take_length]
end RM
set_option Elab.async false
set_option linter.all false
set_option maxHeartbeats 2000001
/-! MD: sums over lists; spans of vectors of words; reduced families. -/
namespace RM
open L2.K3
/-- a sum over a list -/
def sm {α : Type} (l : List α) (f : α → Rat) : Rat := l.foldr (fun a t => f a + t) 0
section
variable {α β : Type}
theorem sm_nil (f : α → Rat) : sm [] f = 0 := rfl
theorem sm_cons (a : α) (l : List α) (f : α → Rat) : sm (a :: l) f = f a + sm l f := rfl
theorem sm_congr {l : List α} {f g : α → Rat} (h : ∀ a ∈ l, f a = g a) : sm l f = sm l g := by
  induction l with
  | nil => rfl
  | cons a l ih => rw [sm_cons, sm_cons, h a List.mem_cons_self, ih fun b hb => h b (List.mem_cons_of_mem _ hb)]
theorem sm_zero {l : List α} {f : α → Rat} (h : ∀ a ∈ l, f a = 0) : sm l f = 0 := by
  induction l with
  | nil => rfl
  | cons a l ih => rw [sm_cons, h a List.mem_cons_self, ih fun b hb => h b (List.mem_cons_of_mem _ hb)]; grind
theorem sm_append (l m : List α) (f : α → Rat) : sm (l ++ m) f = sm l f + sm m f := by
  induction l with
  | nil => rw [List.nil_append, sm_nil]; grind
  | cons a l ih => rw [List.cons_append, sm_cons, sm_cons, ih]; grind
theorem sm_map (g : β → α) (l : List β) (f : α → Rat) : sm (l.map g) f = sm l fun b => f (g b) := by
  induction l with
  | nil => rfl
  | cons a l ih => rw [List.map_cons, sm_cons, sm_cons, ih]
theorem sm_add (l : List α) (f g : α → Rat) : sm l (fun a => f a + g a) = sm l f + sm l g := by
  induction l with
  | nil => show (0 : Rat) = 0 + 0; grind
  | cons a l ih => rw [sm_cons, sm_cons, sm_cons, ih]; grind
theorem sm_mul (c : Rat) (l : List α) (f : α → Rat) : sm l (fun a => c * f a) = c * sm l f := by
  induction l with
  | nil => show (0 : Rat) = c * 0; grind
  | cons a l ih => rw [sm_cons, sm_cons, ih]; grind
theorem sm_mulr (c : Rat) (l : List α) (f : α → Rat) : sm l (fun a => f a * c) = sm l f * c := by
  induction l with
  | nil => show (0 : Rat) = 0 * c; grind
  | cons a l ih => rw [sm_cons, sm_cons, ih]; grind
theorem sm_swap (l : List α) (m : List β) (f : α → β → Rat) : sm l (fun a => sm m fun b => f a b) = sm m fun b => sm l fun a => f a b := by
  induction l with
  | nil =>
    show (0 : Rat) = sm m fun b => 0
    exact (sm_zero fun _ _ => rfl).symm
  | cons a l ih =>
    rw [sm_cons, ih, ← sm_add]
    rfl
theorem sm_perm {l m : List α} (h : l.Perm m) (f : α → Rat) : sm l f = sm m f := by
  induction h with
  | nil => rfl
  | cons a _ ih => rw [sm_cons, sm_cons, ih]
  | swap a b l => rw [sm_cons, sm_cons, sm_cons, sm_cons]; grind
  | trans _ _ h1 h2 => rw [h1, h2]
theorem sm_out [DecidableEq α] {l : List α} {a : α} (h : a ∉ l) (f : α → Rat) : sm l (fun b => if b = a then f b else 0) = 0 := sm_zero fun b hb => by
  rw [if_neg]
  exact fun e => h (e ▸ hb)
theorem sm_ite [DecidableEq α] {l : List α} (nd : l.Nodup) {a : α} (h : a ∈ l) (f : α → Rat) : sm l (fun b => if b = a then f b else 0) = f a := by
  induction l with
  | nil => cases h
  | cons b l ih =>
    rw [List.nodup_cons] at nd
    rw [sm_cons]
    by_cases e : b = a
    · subst e
      rw [if_pos rfl, sm_out nd.1]
      grind
    · rw [if_neg e, ih nd.2 (by rcases List.mem_cons.mp h with q | q; exact absurd q.symm e; exact q)]
      grind
theorem sm_rs (n : Nat) (f : Nat → Rat) : rs n f = sm (List.range n) f := by
  induction n with
  | zero => rfl
  | succ n ih =>
    show rs n f + f n = _
    rw [List.range_succ, sm_append, ih, sm_cons, sm_nil]
    grind
/-- the one term that counts -/
theorem sm_one {l : List α} {k : α → β} (nd : (l.map k).Nodup) {p : α} (hp : p ∈ l) {f : α → Rat} (h : ∀ q ∈ l, k q ≠ k p → f q = 0) : sm l f = f p := by
  induction l with
  | nil => cases hp
  | cons b l ih =>
    rw [List.map_cons, List.nodup_cons] at nd
    rw [sm_cons]
    rcases List.mem_cons.mp hp with e | e
    · subst e
      have hz : sm l f = 0 := sm_zero fun q hq => h q (List.mem_cons_of_mem _ hq) fun e => nd.1 (e ▸ List.mem_map.mpr ⟨q, hq, rfl⟩)
      rw [hz]
      grind
    · rw [ih nd.2 e fun q hq => h q (List.mem_cons_of_mem _ hq), h b List.mem_cons_self fun e2 => nd.1 (e2 ▸ List.mem_map.mpr ⟨p, e, rfl⟩)]
      grind
/-- keys that differ -/
theorem key_inj {l : List α} {k : α → β} (nd : (l.map k).Nodup) {p q : α} (hp : p ∈ l) (hq : q ∈ l) (e : k p = k q) : p = q := by
  induction l with
  | nil => cases hp
  | cons b l ih =>
    rw [List.map_cons, List.nodup_cons] at nd
    rcases List.mem_cons.mp hp with h1 | h1
    · rcases List.mem_cons.mp hq with h2 | h2
      · rw [h1, h2]
      · exact absurd (List.mem_map.mpr ⟨q, h2, by rw [← e, h1]⟩) nd.1
    · rcases List.mem_cons.mp hq with h2 | h2
      · exact absurd (List.mem_map.mpr ⟨p, h1, by rw [e, h2]⟩) nd.1
      · exact ih nd.2 h1 h2
end
/-! ## spans -/
abbrev Vec : Type := Word → Rat
inductive Spn (A : Vec → Prop) : Vec → Prop
  | zero : Spn A fun _ => 0
  | add {f g : Vec} : Spn A f → Spn A g → Spn A fun x => f x + g x
  | smul {f : Vec} (c : Rat) : Spn A f → Spn A fun x => c * f x
  | mem {f : Vec} : A f → Spn A f
theorem Spn.imp {A B : Vec → Prop} (h : ∀ f, A f → Spn B f) {f : Vec} (s : Spn A f) : Spn B f := by
  induction s with
  | zero => exact .zero
  | add _ _ a b => exact .add a b
  | smul c _ a => exact .smul c a
  | mem q => exact h _ q
theorem Spn.mono {A B : Vec → Prop} (h : ∀ f, A f → B f) {f : Vec} (s : Spn A f) : Spn B f := s.imp fun f q => .mem (h f q)
theorem Spn.to {A : Vec → Prop} {f g : Vec} (s : Spn A f) (h : ∀ x, f x = g x) : Spn A g := by
  have : f = g := funext h
  exact this ▸ s
/-- f - c g -/
theorem Spn.less {A : Vec → Prop} {f g : Vec} (s : Spn A f) (t : Spn A g) (c : Rat) : Spn A fun x => f x - c * g x := (Spn.add s (Spn.smul (0 - c) t)).to fun x => by grind
theorem Spn.sum {A : Vec → Prop} {α : Type} {l : List α} {c : α → Rat} {v : α → Vec} (h : ∀ a ∈ l, Spn A (v a)) : Spn A fun x => sm l fun a => c a * v a x := by
  induction l with
  | nil => exact .zero
  | cons a l ih => exact .add (.smul (c a) (h a List.mem_cons_self)) (ih fun b hb => h b (List.mem_cons_of_mem _ hb))
abbrev Fam : Type := List (Word × Vec)
abbrev inF (R : Fam) : Vec → Prop := fun g => ∃ p ∈ R, g = p.2
structure Delta (R : Fam) : Prop where
  nd : (R.map (·.1)).Nodup
  one : ∀ p ∈ R, p.2 p.1 = 1
  oth : ∀ p ∈ R, ∀ q ∈ R, q.1 ≠ p.1 → p.2 q.1 = 0
def expd (R : Fam) (f : Vec) : Vec := fun x => sm R fun p => f p.1 * p.2 x
theorem Delta.expd {R : Fam} (h : Delta R) {f : Vec} (s : Spn (inF R) f) (x : Word) : f x = expd R f x := by
  unfold RM.expd
  induction s with
  | zero => exact (sm_zero fun p _ => by grind).symm
  | add _ _ a b =>
    show _ + _ = _
    rw [a, b, ← sm_add]
    exact sm_congr fun p _ => by grind
  | smul c _ a =>
    show _ * _ = _
    rw [a, ← sm_mul]
    exact sm_congr fun p _ => by grind
  | mem q =>
    obtain ⟨p, hp, rfl⟩ := q
    rw [sm_one h.nd hp fun q hq e => by rw [h.oth p hp q hq e]; grind, h.one p hp]
    grind
structure Red (A : Vec → Prop) (R : Fam) : Prop where
  d : Delta R
  sp : ∀ p ∈ R, Spn A p.2
  ge : ∀ f, A f → Spn (inF R) f
  low : ∀ p ∈ R, ∀ x, wordLt x p.1 = true → p.2 x = 0
theorem least {l : List (Word × Vec)} (h : l ≠ []) : ∃ m ∈ l, ∀ y ∈ l, wordLt y.1 m.1 = false := by
  induction l with
  | nil => exact absurd rfl h
  | cons a l ih =>
    by_cases hl : l = []
    · subst hl
      exact ⟨a, List.mem_cons_self, fun y hy => by rw [List.mem_singleton.mp hy]; exact stot_word.irr _⟩
    · obtain ⟨m, hm, hmin⟩ := ih hl
      cases e : wordLt a.1 m.1 with
      | true =>
        refine ⟨a, List.mem_cons_self, fun y hy => ?_⟩
        rcases List.mem_cons.mp hy with q | q
        · rw [q]; exact stot_word.irr _
        · cases e2 : wordLt y.1 a.1 with
          | false => rfl
          | true =>
            have := stot_word.tr _ _ _ e2 e
            rw [hmin y q] at this
            cases this
      | false =>
        refine ⟨m, List.mem_cons_of_mem _ hm, fun y hy => ?_⟩
        rcases List.mem_cons.mp hy with q | q
        · rw [q]; exact e
        · exact hmin y q
theorem Red.head {A : Vec → Prop} {R S : Fam} (h : Red A R) (g : Red A S) {p : Word × Vec} (hp : p ∈ R) : ∃ q ∈ S, q.1 = p.1 := by
  have hs : Spn (inF S) p.2 := (h.sp p hp).imp g.ge
  have e := fun x => g.d.expd hs x
  unfold expd at e
  have hne : (S.filter fun q => decide (p.2 q.1 ≠ 0)) ≠ [] := fun hn => by
    have h0 := e p.1
    rw [h.d.one p hp, sm_zero fun q hq => ?_] at h0
    · exact absurd h0 (by decide)
    · have : ¬ (p.2 q.1 ≠ 0) := fun z => by
        have : q ∈ S.filter fun q => decide (p.2 q.1 ≠ 0) := List.mem_filter.mpr ⟨hq, decide_eq_true z⟩
        rw [hn] at this
        cases this
      have : p.2 q.1 = 0 := Classical.not_not.mp this
      rw [this]
      grind
  obtain ⟨q, hq, hmin⟩ := least hne
  obtain ⟨hqS, hq0⟩ := List.mem_filter.mp hq
  have hq0 : p.2 q.1 ≠ 0 := of_decide_eq_true hq0
  refine ⟨q, hqS, ?_⟩
  rcases stot_word.tri q.1 p.1 with z | z | z
  · exact absurd (h.low p hp _ z) hq0
  · exact z
  · exfalso
    have h0 := e p.1
    rw [h.d.one p hp, sm_zero fun y hy => ?_] at h0
    · exact absurd h0 (by decide)
    · by_cases hy0 : p.2 y.1 = 0
      · rw [hy0]; grind
      · have hyf : y ∈ S.filter fun q => decide (p.2 q.1 ≠ 0) := List.mem_filter.mpr ⟨hy, decide_eq_true hy0⟩
        have h1 := hmin y hyf
        have h2 : wordLt p.1 y.1 = true := by
          rcases stot_word.tri p.1 y.1 with w | w | w
          · exact w
          · rw [w] at z; rw [h1] at z; cases z
          · have := stot_word.tr _ _ _ w z
            rw [h1] at this
            cases this
        rw [g.low y hy _ h2]
        grind
theorem Red.uniq {A : Vec → Prop} {R S : Fam} (h : Red A R) (g : Red A S) {p : Word × Vec} (hp : p ∈ R) : p ∈ S := by
  obtain ⟨q, hq, e⟩ := h.head g hp
  have hs : Spn (inF S) p.2 := (h.sp p hp).imp g.ge
  have : p = q := by
    refine Prod.ext e.symm (funext fun x => ?_)
    rw [g.d.expd hs x]
    unfold expd
    rw [sm_one g.d.nd hq fun y hy hne => ?_]
    · rw [e, h.d.one p hp]; grind
    · obtain ⟨z, hz, ez⟩ := g.head h hy
      have hzp : z.1 ≠ p.1 := fun w => hne (by rw [← ez, w, e])
      rw [← ez, h.d.oth p hp z hz hzp]
      grind
  exact this ▸ hq
end RM
set_option Elab.async false
set_option linter.all false
set_option maxHeartbeats 2000001
/-! ME: sums over lists that lie in one another; cuts and pairs. -/
namespace RM
open L2.K3
section
variable {α β : Type}
theorem sm_foldl (l : List α) (f : α → Rat) : ∀ t : Rat, l.foldl (fun t a => t + f a) t = t + sm l f := by
  induction l with
  | nil => intro t; show t = t + 0; grind
  | cons a l ih =>
    intro t
    rw [List.foldl_cons, ih, sm_cons]
    grind
theorem sm_filter (l : List α) (b : α → Bool) (f : α → Rat) : sm (l.filter b) f = sm l fun a => if b a = true then f a else 0 := by
  induction l with
  | nil => rfl
  | cons a l ih =>
    rw [List.filter_cons, sm_cons]
    by_cases h : b a = true
    · rw [if_pos h, if_pos h, sm_cons, ih]
    · rw [if_neg h, if_neg h, ih]
      grind
theorem nodup_filter {l : List α} {b : α → Bool} (h : l.Nodup) : (l.filter b).Nodup := List.Pairwise.filter _ h
theorem perm_of_mem [DecidableEq α] {l m : List α} (a : l.Nodup) (b : m.Nodup) (h : ∀ x, x ∈ l ↔ x ∈ m) : l.Perm m := by
  rw [List.perm_iff_count]
  intro x
  rw [List.Nodup.count a, List.Nodup.count b]
  by_cases hx : x ∈ l
  · rw [if_pos hx, if_pos ((h x).mp hx)]
  · rw [if_neg hx, if_neg fun z => hx ((h x).mpr z)]
/-- a list within another one, nothing outside it -/
theorem sm_sub [DecidableEq α] {l W : List α} (a : l.Nodup) (b : W.Nodup) (s : ∀ x ∈ l, x ∈ W) {f : α → Rat} (z : ∀ x ∈ W, x ∉ l → f x = 0) : sm l f = sm W f := by
  have p : l.Perm (W.filter fun x => decide (x ∈ l)) := perm_of_mem a (nodup_filter b) fun x => by
    rw [List.mem_filter]
    exact ⟨fun h => ⟨s x h, decide_eq_true h⟩, fun h => of_decide_eq_true h.2⟩
  rw [sm_perm p, sm_filter]
  refine sm_congr fun x hx => ?_
  by_cases h : x ∈ l
  · rw [if_pos (decide_eq_true h)]
  · rw [if_neg (by rw [decide_eq_false h]; exact Bool.false_ne_true), z x hx h]
theorem sm_mul2 (l : List α) (m : List β) (f : α → Rat) (g : β → Rat) : sm l (fun a => sm m fun b => f a * g b) = sm l f * sm m g := by
  rw [← sm_mulr]
  exact sm_congr fun a _ => sm_mul _ _ _
end
/-! ## cuts -/
/-- closed under beginnings and ends -/
structure Cl (W : List Word) : Prop where
  nd : W.Nodup
  tk : ∀ x ∈ W, ∀ j, x.take j ∈ W
  dr : ∀ x ∈ W, ∀ j, x.drop j ∈ W
theorem cut_one {W : List Word} (h : Cl W) {x : Word} (hx : x ∈ W) (T : Word → Word → Rat) : (sm W fun y => sm W fun z => if x = y ++ z then T y z else 0) = rs (x.length + 1) fun j => T (x.take j) (x.drop j) := by
  have h1 : ∀ y ∈ W, (sm W fun z => if x = y ++ z then T y z else 0) = if y = x.take y.length then T y (x.drop y.length) else 0 := fun y hy => by
    by_cases e : y = x.take y.length
    · rw [if_pos e]
      have : (sm W fun z => if x = y ++ z then T y z else 0) = sm W fun z => if z = x.drop y.length then T y z else 0 := sm_congr fun z hz => by
        have q : x = y ++ z ↔ z = x.drop y.length := by
          constructor
          · intro q
            rw [q, List.drop_left]
          · intro q
            rw [q]
            conv => rhs; lhs; rw [e]
            exact (List.take_append_drop _ _).symm
        by_cases q2 : x = y ++ z
        · rw [if_pos q2, if_pos (q.mp q2)]
        · rw [if_neg q2, if_neg fun w => q2 (q.mpr w)]
      rw [this, sm_ite h.nd (h.dr x hx _) fun z => T y z]
    · rw [if_neg e]
      refine sm_zero fun z hz => if_neg fun q => e ?_
      rw [q, List.take_left]
  rw [sm_congr h1, sm_rs]
  have nd : ((List.range (x.length + 1)).map fun j => x.take j).Nodup := by
    refine List.pairwise_map.mpr (List.Pairwise.imp_of_mem (fun {a b} ha hb hab e => ?_) (List.pairwise_lt_range (n := x.length + 1)))
    have := congrArg List.length e
    rw [List.length_take, List.length_take] at this
    have := List.mem_range.mp ha
    have := List.mem_range.mp hb
    have : a < b := hab
    omega
  have e2 : (sm (List.range (x.length + 1)) fun j => T (x.take j) (x.drop j)) = sm ((List.range (x.length + 1)).map fun j => x.take j) fun y => if y = x.take y.length then T y (x.drop y.length) else 0 := by
    rw [sm_map]
    refine sm_congr fun j hj => ?_
    have : (x.take j).length = j := by
      rw [List.length_take]
      have := List.mem_range.mp hj
      omega
    rw [this, if_pos rfl]
  rw [e2]
  refine (sm_sub nd h.nd (fun y hy => ?_) fun y hy hn => ?_).symm
  · obtain ⟨j, _, rfl⟩ := List.mem_map.mp hy
    exact h.tk x hx j
  · refine if_neg fun e => hn (List.mem_map.mpr ⟨y.length, List.mem_range.mpr ?_, e.symm⟩)
    have := congrArg List.length e
    rw [List.length_take] at this
    omega
/-- sums over cuts are sums over pairs -/
theorem cut_pairs {W : List Word} (h : Cl W) {v : Word → Rat} (hv : ∀ x, x ∉ W → v x = 0) (N F : Word → Rat) : (sm W fun x => rs (x.length + 1) fun j => v x * N (x.take j) * F (x.drop j)) = sm W fun y => sm W fun z => v (y ++ z) * N y * F z := by
  have e1 : (sm W fun x => rs (x.length + 1) fun j => v x * N (x.take j) * F (x.drop j)) = sm W fun x => sm W fun y => sm W fun z => if x = y ++ z then v (y ++ z) * N y * F z else 0 := sm_congr fun x hx => by
    rw [cut_one h hx fun y z => v (y ++ z) * N y * F z]
    refine rs_congr fun j _ => ?_
    rw [List.take_append_drop]
  rw [e1, sm_swap]
  refine sm_congr fun y hy => ?_
  rw [sm_swap]
  refine sm_congr fun z hz => ?_
  by_cases q : y ++ z ∈ W
  · rw [sm_ite h.nd q fun _ => v (y ++ z) * N y * F z]
  · rw [hv _ q]
    rw [sm_zero fun x hx => by split <;> grind]
    grind
/-- what a vector comes to over rows -/
def Lw (W : List Word) (v : Vec) (p : List (List Rat)) : Rat := sm W fun x => v x * Fr x p
/-- two pieces -/
theorem Lw_app {W : List Word} (h : Cl W) {R : Fam} {v : Vec} (hv : ∀ x, x ∉ W → v x = 0) (he : ∀ y z, v (y ++ z) = sm R fun e => sm R fun g => v (e.1 ++ g.1) * e.2 y * g.2 z) (p q : List (List Rat)) : Lw W v (p ++ q) = sm R fun e => sm R fun g => v (e.1 ++ g.1) * Lw W e.2 p * Lw W g.2 q := by
  have e1 : Lw W v (p ++ q) = sm W fun x => rs (x.length + 1) fun j => v x * Fr (x.take j) p * Fr (x.drop j) q := sm_congr fun x hx => by
    rw [chen q p x, ← rs_mul]
    exact rs_congr fun j _ => by grind
  rw [e1, cut_pairs h hv (fun y => Fr y p) fun z => Fr z q]
  have e2 : (sm W fun y => sm W fun z => v (y ++ z) * Fr y p * Fr z q) = sm W fun y => sm W fun z => sm R fun e => sm R fun g => v (e.1 ++ g.1) * (e.2 y * Fr y p) * (g.2 z * Fr z q) := sm_congr fun y _ => sm_congr fun z _ => by
    rw [he, Rat.mul_assoc, ← sm_mulr]
    refine sm_congr fun e _ => ?_
    rw [← sm_mulr]
    exact sm_congr fun g _ => by grind
  rw [e2]
  have e3 : ∀ y, (sm W fun z => sm R fun e => sm R fun g => v (e.1 ++ g.1) * (e.2 y * Fr y p) * (g.2 z * Fr z q)) = sm R fun e => sm R fun g => v (e.1 ++ g.1) * (e.2 y * Fr y p) * Lw W g.2 q := fun y => by
    rw [sm_swap]
    refine sm_congr fun e _ => ?_
    rw [sm_swap]
    refine sm_congr fun g _ => ?_
    rw [sm_mul] <;> rfl
  rw [sm_congr fun y _ => e3 y, sm_swap]
  refine sm_congr fun e _ => ?_
  rw [sm_swap]
  refine sm_congr fun g _ => ?_
  rw [sm_mulr, sm_mul] <;> rfl
/-- sums over heads are sums over words -/
theorem sm_heads {W : List Word} (nd : W.Nodup) {R : Fam} (s : ∀ e ∈ R, e.1 ∈ W) (c : Word × Vec → Rat) (G : Word → Rat) : (sm W fun y => (sm R fun e => if y = e.1 then c e else 0) * G y) = sm R fun e => c e * G e.1 := by
  have e1 : (sm W fun y => (sm R fun e => if y = e.1 then c e else 0) * G y) = sm W fun y => sm R fun e => if y = e.1 then c e * G y else 0 := sm_congr fun y _ => by
    rw [← sm_mulr]
    refine sm_congr fun e _ => ?_
    split <;> grind
  rw [e1, sm_swap]
  exact sm_congr fun e he => sm_ite nd (s e he) fun y => c e * G y
/-- the joining by cuts -/
theorem cuts_heads {W : List Word} (h : Cl W) {R : Fam} (s : ∀ e ∈ R, e.1 ∈ W) {v : Vec} (hv : ∀ x, x ∉ W → v x = 0) (c d : Word × Vec → Rat) : (sm W fun x => rs (x.length + 1) fun j => v x * (sm R fun e => if x.take j = e.1 then c e else 0) * (sm R fun e => if x.drop j = e.1 then d e else 0)) = sm R fun e => sm R fun g => v (e.1 ++ g.1) * c e * d g := by
  rw [cut_pairs h hv (fun y => sm R fun e => if y = e.1 then c e else 0) fun z => sm R fun e => if z = e.1 then d e else 0]
  have e1 : (sm W fun y => sm W fun z => v (y ++ z) * (sm R fun e => if y = e.1 then c e else 0) * (sm R fun e => if z = e.1 then d e else 0)) = sm W fun y => (sm R fun e => if y = e.1 then c e else 0) * sm R fun g => d g * v (y ++ g.1) := sm_congr fun y _ => by
    rw [← sm_heads h.nd s d fun z => v (y ++ z), ← sm_mul]
    exact sm_congr fun z _ => by grind
  rw [e1, sm_heads h.nd s c fun y => sm R fun g => d g * v (y ++ g.1)]
  refine sm_congr fun e _ => ?_
  rw [← sm_mul]
  exact sm_congr fun g _ => by grind
end RM
set_option Elab.async false
set_option linter.all false
set_option maxHeartbeats 2000001
/-! MF: reduced families: one more vector; equal lists; how many. -/
namespace RM
open L2.K3
/-- one more vector that is told by the family -/
theorem Red.same {A : Vec → Prop} {R : Fam} (h : Red A R) {f : Vec} (e : ∀ x, f x = expd R f x) : Red (fun g => A g ∨ g = f) R where
  d := h.d
  sp := fun p hp => (h.sp p hp).mono fun _ a => .inl a
  ge := fun g a => by
    rcases a with a | rfl
    · exact h.ge g a
    · refine Spn.to (Spn.sum (l := R) (c := fun p => g p.1) (v := fun p => p.2) fun p hp => .mem ⟨p, hp, rfl⟩) fun x => ?_
      exact (e x).symm
  low := h.low
/-- one more vector that is not -/
def growF (R : Fam) (h : Word) (g : Vec) : Fam := R.map (fun p => (p.1, fun x => p.2 x - p.2 h * (g x / g h))) ++ [(h, fun x => g x / g h)]
theorem Red.grow {A : Vec → Prop} {R : Fam} (h : Red A R) {f g : Vec} {w : Word} (e : ∀ x, g x = f x - expd R f x) (hw : g w ≠ 0) (low : ∀ x, wordLt x w = true → g x = 0) : Red (fun k => A k ∨ k = f) (growF R w g) := by
  have g0 : ∀ p ∈ R, g p.1 = 0 := fun p hp => by
    rw [e]
    unfold expd
    rw [sm_one h.d.nd hp fun q hq hne => by rw [h.d.oth q hq p hp fun z => hne z.symm]; grind, h.d.one p hp]
    grind
  have wn : ∀ p ∈ R, p.1 ≠ w := fun p hp z => hw (by rw [← z]; exact g0 p hp)
  have v1 : g w / g w = 1 := by grind
  have gs : Spn (fun k => A k ∨ k = f) g := by
    have s1 : Spn (fun k => A k ∨ k = f) f := .mem (.inr rfl)
    have s2 : Spn (fun k => A k ∨ k = f) (expd R f) := Spn.sum (l := R) (c := fun p => f p.1) (v := fun p => p.2) fun p hp => (h.sp p hp).mono fun _ a => .inl a
    exact (s1.less s2 1).to fun x => by rw [e]; grind
  have vs : Spn (fun k => A k ∨ k = f) fun x => g x / g w := (Spn.smul (1 / g w) gs).to fun x => by grind
  have mem1 : ∀ p ∈ R, (p.1, fun x => p.2 x - p.2 w * (g x / g w)) ∈ growF R w g := fun p hp => List.mem_append.mpr (.inl (List.mem_map.mpr ⟨p, hp, rfl⟩))
  have mem2 : (w, fun x => g x / g w) ∈ growF R w g := List.mem_append.mpr (.inr (List.mem_singleton.mpr rfl))
  have cs : ∀ q ∈ growF R w g, (∃ p ∈ R, q = (p.1, fun x => p.2 x - p.2 w * (g x / g w))) ∨ q = (w, fun x => g x / g w) := fun q hq => by
    rcases List.mem_append.mp hq with z | z
    · obtain ⟨p, hp, rfl⟩ := List.mem_map.mp z
      exact .inl ⟨p, hp, rfl⟩
    · exact .inr (List.mem_singleton.mp z)
  refine ⟨⟨?_, ?_, ?_⟩, ?_, ?_, ?_⟩
  · unfold growF
    rw [List.map_append, List.map_map]
    have e2 : (R.map ((fun x : Word × Vec => x.1) ∘ fun p => (p.1, fun x => p.2 x - p.2 w * (g x / g w)))) = R.map (·.1) := rfl
    rw [e2]
    refine List.nodup_append.mpr ⟨h.d.nd, by simp, fun a ha b hb => ?_⟩
    obtain ⟨p, hp, rfl⟩ := List.mem_map.mp ha
    rw [List.map_singleton, List.mem_singleton] at hb
    rw [hb]
    exact wn p hp
  · intro q hq
    rcases cs q hq with ⟨p, hp, rfl⟩ | rfl
    · show p.2 p.1 - p.2 w * (g p.1 / g w) = 1
      rw [h.d.one p hp, g0 p hp]
      grind
    · exact v1
  · intro q hq r hr hne
    rcases cs q hq with ⟨p, hp, rfl⟩ | rfl
    · rcases cs r hr with ⟨s, hs, rfl⟩ | rfl
      · show p.2 s.1 - p.2 w * (g s.1 / g w) = 0
        rw [h.d.oth p hp s hs hne, g0 s hs]
        grind
      · show p.2 w - p.2 w * (g w / g w) = 0
        rw [v1]
        grind
    · rcases cs r hr with ⟨s, hs, rfl⟩ | rfl
      · show g s.1 / g w = 0
        rw [g0 s hs]
        grind
      · exact absurd rfl hne
  · intro q hq
    rcases cs q hq with ⟨p, hp, rfl⟩ | rfl
    · exact ((h.sp p hp).mono fun _ a => .inl a).less vs (p.2 w)
    · exact vs
  · have back : ∀ p ∈ R, Spn (inF (growF R w g)) p.2 := fun p hp => by
      refine (Spn.add (.mem ⟨_, mem1 p hp, rfl⟩) (.smul (p.2 w) (.mem ⟨_, mem2, rfl⟩))).to fun x => ?_
      show p.2 x - p.2 w * (g x / g w) + p.2 w * (g x / g w) = p.2 x
      grind
    intro k a
    rcases a with a | rfl
    · refine (h.ge k a).imp fun u hu => ?_
      obtain ⟨p, hp, rfl⟩ := hu
      exact back p hp
    · have s1 : Spn (inF (growF R w g)) (expd R k) := Spn.sum (l := R) (c := fun p => k p.1) (v := fun p => p.2) fun p hp => back p hp
      have s2 : Spn (inF (growF R w g)) fun x => g w * (g x / g w) := .smul (g w) (.mem ⟨_, mem2, rfl⟩)
      refine (Spn.add s1 s2).to fun x => ?_
      have := e x
      grind
  · intro q hq x hx
    rcases cs q hq with ⟨p, hp, rfl⟩ | rfl
    · show p.2 x - p.2 w * (g x / g w) = 0
      have hx' : wordLt x p.1 = true := hx
      rw [h.low p hp x hx']
      rcases stot_word.tri w p.1 with z | z | z
      · rw [h.low p hp w z]
        grind
      · exact absurd z.symm (wn p hp)
      · rw [low x (stot_word.tr _ _ _ hx' z)]
        grind
    · show g x / g w = 0
      rw [low x hx]
      grind
/-- sorted by heads -/
abbrev Srtd (R : Fam) : Prop := R.Pairwise fun a b => wordLt a.1 b.1 = true
theorem sorted_eq : ∀ {R S : Fam}, Srtd R → Srtd S → (∀ p, p ∈ R ↔ p ∈ S) → R = S
  | [], [], _, _, _ => rfl
  | [], b :: S, _, _, h => absurd ((h b).mpr List.mem_cons_self) (by simp)
  | a :: R, [], _, _, h => absurd ((h a).mp List.mem_cons_self) (by simp)
  | a :: R, b :: S, hr, hs, h => by
    rw [Srtd, List.pairwise_cons] at hr hs
    have e : a = b := by
      rcases List.mem_cons.mp ((h a).mp List.mem_cons_self) with q | q
      · exact q
      · rcases List.mem_cons.mp ((h b).mpr List.mem_cons_self) with q2 | q2
        · exact q2.symm
        · have h1 := hs.1 a q
          have h2 := hr.1 b q2
          rw [stot_word.asym h1] at h2
          cases h2
    subst e
    congr 1
    refine sorted_eq hr.2 hs.2 fun p => ?_
    have hp := h p
    constructor
    · intro q
      rcases List.mem_cons.mp (hp.mp (List.mem_cons_of_mem _ q)) with z | z
      · have := hr.1 p q
        rw [z, stot_word.irr] at this
        cases this
      · exact z
    · intro q
      rcases List.mem_cons.mp (hp.mpr (List.mem_cons_of_mem _ q)) with z | z
      · have := hs.1 p q
        rw [z, stot_word.irr] at this
        cases this
      · exact z
theorem Red.eq {A : Vec → Prop} {R S : Fam} (h : Red A R) (g : Red A S) (hr : Srtd R) (hs : Srtd S) : R = S := sorted_eq hr hs fun _ => ⟨h.uniq g, g.uniq h⟩
/-! ## how many -/
theorem nodup_len {α : Type} [DecidableEq α] : ∀ {l m : List α}, l.Nodup → (∀ x ∈ l, x ∈ m) → l.length ≤ m.length
  | [], _, _, _ => Nat.zero_le _
  | a :: l, m, nd, s => by
    rw [List.nodup_cons] at nd
    have h1 := nodup_len (l := l) (m := m.erase a) nd.2 fun x hx => by
      refine (List.mem_erase_of_ne fun e => nd.1 (by rw [← e]; exact hx)).mpr (s x (List.mem_cons_of_mem _ hx))
    have h2 := List.length_erase_of_mem (s a List.mem_cons_self)
    have h3 := List.length_pos_of_mem (s a List.mem_cons_self)
    rw [List.length_cons]
    omega
theorem Spn.at0 {A : Vec → Prop} {f : Vec} (s : Spn A f) {x : Word} (h : ∀ f, A f → f x = 0) : f x = 0 := by
  induction s with
  | zero => rfl
  | add _ _ a b => dsimp only; rw [a, b]; grind
  | smul c _ a => dsimp only; rw [a]; grind
  | mem q => exact h _ q
/-- at most one head is long -/
theorem few {A : Vec → Prop} {R : Fam} (d : Delta R) (sp : ∀ p ∈ R, Spn A p.2) {L : List Word} (short : ∀ f, A f → ∀ x, x.length ≤ 1 → f x ≠ 0 → x ∈ L) {T : Vec} (long : ∀ f, A f → ∃ c : Rat, ∀ x, 2 ≤ x.length → f x = c * T x) : R.length ≤ L.length + 1 := by
  have short2 : ∀ f, Spn A f → ∀ x, x.length ≤ 1 → x ∉ L → f x = 0 := fun f s x hx hn => s.at0 fun f q => Classical.byContradiction fun z => hn (short f q x hx z)
  have long2 : ∀ f, Spn A f → ∃ c : Rat, ∀ x, 2 ≤ x.length → f x = c * T x := fun f s => by
    induction s with
    | zero => exact ⟨0, fun x _ => by grind⟩
    | add _ _ a b =>
      obtain ⟨c1, h1⟩ := a
      obtain ⟨c2, h2⟩ := b
      exact ⟨c1 + c2, fun x hx => by dsimp only; rw [h1 x hx, h2 x hx]; grind⟩
    | smul c _ a =>
      obtain ⟨c1, h1⟩ := a
      exact ⟨c * c1, fun x hx => by dsimp only; rw [h1 x hx]; grind⟩
    | mem q => exact long _ q
  have one : ∀ p ∈ R, ∀ q ∈ R, 2 ≤ p.1.length → 2 ≤ q.1.length → p.1 = q.1 := fun p hp q hq h1 h2 => Classical.byContradiction fun ne => by
    obtain ⟨c, hc⟩ := long2 _ (sp p hp)
    obtain ⟨b, hb⟩ := long2 _ (sp q hq)
    have a1 := hc _ h1
    have a2 := hc _ h2
    have a3 := hb _ h2
    rw [d.one p hp] at a1
    rw [d.oth p hp q hq fun z => ne z.symm] at a2
    rw [d.one q hq] at a3
    have cn : c ≠ 0 := fun z => by rw [z] at a1; grind
    have tn : T q.1 ≠ 0 := fun z => by rw [z] at a3; grind
    have := mul_nz cn tn
    exact this a2.symm
  have inL : ∀ p ∈ R, p.1.length ≤ 1 → p.1 ∈ L := fun p hp h1 => Classical.byContradiction fun z => by
    have := short2 _ (sp p hp) p.1 h1 z
    rw [d.one p hp] at this
    exact absurd this (by decide)
  have hl : (R.map (·.1)).length = R.length := List.length_map _
  by_cases hx : ∃ p ∈ R, 2 ≤ p.1.length
  · obtain ⟨p, hp, hp2⟩ := hx
    have := nodup_len (m := p.1 :: L) d.nd fun x hx => by
      obtain ⟨q, hq, rfl⟩ := List.mem_map.mp hx
      by_cases h2 : 2 ≤ q.1.length
      · rw [one q hq p hp h2 hp2]
        exact List.mem_cons_self
      · exact List.mem_cons_of_mem _ (inL q hq (by omega))
    rw [hl, List.length_cons] at this
    exact this
  · have := nodup_len (m := L) d.nd fun x hx2 => by
      obtain ⟨q, hq, rfl⟩ := List.mem_map.mp hx2
      exact inL q hq (Nat.le_of_not_lt fun z => hx ⟨q, hq, z⟩)
    omega
where
  mul_nz {a b : Rat} (ha : a ≠ 0) (hb : b ≠ 0) : a * b ≠ 0 := fun h => by
    rcases Rat.mul_eq_zero.mp h with z | z
    · exact ha z
    · exact hb z
end RM
set_option Elab.async false
set_option linter.all false
set_option maxHeartbeats 2000001
/-! MG: association lists as vectors; the middles of a tally. -/
namespace L2.K3
open RM Sol
/-! ## association lists -/
theorem valM_nil (x : Word) : valM [] x = 0 := rfl
theorem valM_put (k : Kv) (u x : Word) (f : Rat) : valM (dput k u f) x = if x = u then f else valM k x := by
  unfold valM
  rw [dget_put]
  by_cases h : x = u
  · rw [if_pos h, if_pos h] <;> rfl
  · rw [if_neg h, if_neg h]
theorem valM_out {k : Kv} {x : Word} (h : x ∉ k.map (·.1)) : valM k x = 0 := by
  unfold valM
  rw [dget_none.mpr h] <;> rfl
theorem dget_in {k : Kv} (nd : NdK k) {p : Word × Rat} (h : p ∈ k) : dget k p.1 = some p.2 := by
  obtain ⟨i, hi⟩ := List.getElem?_of_mem h
  exact dget_of nd (i := i) (by rw [hi])
theorem valM_in {k : Kv} (nd : NdK k) {p : Word × Rat} (h : p ∈ k) : valM k p.1 = p.2 := by
  unfold valM
  rw [dget_in nd h] <;> rfl
theorem dput_nil (u : Word) (f : Rat) : dput ([] : Kv) u f = [(u, f)] := rfl
/-- keys that differ: putting them one by one gives the list -/
theorem dmerge_id {β : Type} {k : List (Word × β)} (nd : (k.map (·.1)).Nodup) : dmerge k = k := by
  have : ∀ (l acc : List (Word × β)), ((acc ++ l).map (·.1)).Nodup → l.foldl (fun acc p => dput acc p.1 p.2) acc = acc ++ l := by
    intro l
    induction l with
    | nil => intro acc _; rw [List.append_nil] <;> rfl
    | cons p l ih =>
      intro acc h
      have hn : dget acc p.1 = none := dget_none.mpr fun hm => by
        rw [List.map_append, List.map_cons] at h
        exact (List.nodup_append.mp h).2.2 _ hm _ List.mem_cons_self rfl
      rw [List.foldl_cons, dput_new hn, ih _ (by rw [List.append_assoc]; exact h), List.append_assoc]
      rfl
  exact this k [] nd
/-- keys differ, no value is 0 -/
structure NzK (k : Kv) : Prop where
  nd : NdK k
  nz : ∀ p ∈ k, p.2 ≠ 0
theorem NzK.some {k : Kv} (h : NzK k) (x : Word) : (dget k x).isSome = true ↔ valM k x ≠ 0 := by
  cases e : dget k x with
  | none =>
    have : valM k x = 0 := by unfold valM; rw [e] <;> rfl
    simp [this]
  | some y =>
    have h1 : valM k x = y := by unfold valM; rw [e] <;> rfl
    obtain ⟨i, hi⟩ := dget_at e
    have := h.nz _ (List.mem_of_getElem? hi)
    simp [h1, this]
theorem NzK.key {k : Kv} (h : NzK k) (x : Word) : x ∈ k.map (·.1) ↔ valM k x ≠ 0 := by
  rw [← h.some]
  constructor
  · intro hx
    obtain ⟨y, hy⟩ := dget_mem hx
    rw [hy] <;> rfl
  · intro hx
    refine Classical.byContradiction fun hn => ?_
    rw [dget_none.mpr hn] at hx
    cases hx
theorem NzK.len {k : Kv} (h : NzK k) {W : List Word} (hv : ∀ x, x ∉ W → valM k x = 0) : k.length ≤ W.length := by
  have := nodup_len (m := W) h.nd fun x hx => Classical.byContradiction fun hn => (h.key x).mp hx (hv x hn)
  rw [List.length_map] at this
  exact this
theorem nzK_map {ks : List Word} (nd : ks.Nodup) {f : Word → Rat} (nz : ∀ x ∈ ks, f x ≠ 0) : NzK (ks.map fun x => (x, f x)) := by
  constructor
  · show ((ks.map fun x => (x, f x)).map (·.1)).Nodup
    rw [List.map_map]
    have : (ks.map ((fun x : Word × Rat => x.1) ∘ fun x => (x, f x))) = ks := List.map_id' ks
    rw [this]
    exact nd
  · intro p hp
    obtain ⟨x, hx, rfl⟩ := List.mem_map.mp hp
    exact nz x hx
theorem valM_map {ks : List Word} (nd : ks.Nodup) (f : Word → Rat) (x : Word) : valM (ks.map fun x => (x, f x)) x = if x ∈ ks then f x else 0 := by
  by_cases h : x ∈ ks
  · rw [if_pos h]
    have nd2 : NdK (ks.map fun x => (x, f x)) := by
      show ((ks.map fun x => (x, f x)).map (·.1)).Nodup
      rw [List.map_map]
      have : (ks.map ((fun x : Word × Rat => x.1) ∘ fun x => (x, f x))) = ks := List.map_id' ks
      rw [this]
      exact nd
    exact valM_in nd2 (List.mem_map.mpr ⟨x, h, rfl⟩)
  · rw [if_neg h]
    refine valM_out ?_
    rw [List.map_map]
    have : (ks.map ((fun x : Word × Rat => x.1) ∘ fun x => (x, f x))) = ks := List.map_id' ks
    rw [this]
    exact h
/-! ## middles -/
def mval (A : Mids) (a : Word × Word) (u : Word) : Rat := valM ((dget A a).getD []) u
theorem mval_put (A : Mids) (a b : Word × Word) (u v : Word) (f : Rat) : mval (midPut A a u f) b v = if b = a ∧ v = u then f else mval A b v := by
  unfold mval midPut
  rw [dget_put]
  by_cases h : b = a
  · rw [if_pos h, Option.getD_some, valM_put]
    by_cases h2 : v = u
    · rw [if_pos h2, if_pos ⟨h, h2⟩]
    · rw [if_neg h2, if_neg fun z => h2 z.2, h]
  · rw [if_neg h, if_neg fun z => h z.1]
theorem mval_high (A : Mids) (x : Word) (f : Rat) (low : Nat) (b : Word × Word) (v : Word) : ∀ n, ((∃ h, h < n ∧ b = (x.take low, x.drop (low + h)) ∧ v = (x.drop low).take h) → mval (midHigh A x f low n) b v = f) ∧ ((¬ ∃ h, h < n ∧ b = (x.take low, x.drop (low + h)) ∧ v = (x.drop low).take h) → mval (midHigh A x f low n) b v = mval A b v)
  | 0 => ⟨fun ⟨h, h1, _⟩ => absurd h1 (Nat.not_lt_zero _), fun _ => rfl⟩
  | n + 1 => by
    obtain ⟨i1, i2⟩ := mval_high A x f low b v n
    rw [midHigh_succ, mval_put]
    constructor
    · rintro ⟨h, h1, h2⟩
      by_cases e : b = (x.take low, x.drop (low + n)) ∧ v = (x.drop low).take n
      · rw [if_pos e]
      · rw [if_neg e]
        refine i1 ⟨h, ?_, h2⟩
        have : h ≠ n := fun z => e (z ▸ h2)
        omega
    · intro hn
      rw [if_neg fun e => hn ⟨n, Nat.lt_succ_self n, e⟩]
      exact i2 fun ⟨h, h1, h2⟩ => hn ⟨h, Nat.lt_succ_of_lt h1, h2⟩
theorem mval_low (A : Mids) (x : Word) (f : Rat) (b : Word × Word) (v : Word) : ∀ n, ((∃ low, low < n ∧ ∃ h, h < x.length + 1 - low ∧ b = (x.take low, x.drop (low + h)) ∧ v = (x.drop low).take h) → mval (midLow A x f n) b v = f) ∧ ((¬ ∃ low, low < n ∧ ∃ h, h < x.length + 1 - low ∧ b = (x.take low, x.drop (low + h)) ∧ v = (x.drop low).take h) → mval (midLow A x f n) b v = mval A b v)
  | 0 => ⟨fun ⟨h, h1, _⟩ => absurd h1 (Nat.not_lt_zero _), fun _ => rfl⟩
  | n + 1 => by
    obtain ⟨i1, i2⟩ := mval_low A x f b v n
    obtain ⟨j1, j2⟩ := mval_high (midLow A x f n) x f n b v (x.length + 1 - n)
    rw [midLow_succ]
    constructor
    · rintro ⟨low, h1, h2⟩
      by_cases e : ∃ h, h < x.length + 1 - n ∧ b = (x.take n, x.drop (n + h)) ∧ v = (x.drop n).take h
      · exact j1 e
      · rw [j2 e]
        refine i1 ⟨low, ?_, h2⟩
        have : low ≠ n := fun z => e (z ▸ h2)
        omega
    · intro hn
      rw [j2 fun e => hn ⟨n, Nat.lt_succ_self n, e⟩]
      exact i2 fun ⟨h, h1, h2⟩ => hn ⟨h, Nat.lt_succ_of_lt h1, h2⟩
theorem cut3 (x : Word) (b : Word × Word) (v : Word) : (∃ low, low < x.length + 1 ∧ ∃ h, h < x.length + 1 - low ∧ b = (x.take low, x.drop (low + h)) ∧ v = (x.drop low).take h) ↔ b.1 ++ v ++ b.2 = x := by
  constructor
  · rintro ⟨low, h1, h, h2, rfl, rfl⟩
    show x.take low ++ (x.drop low).take h ++ x.drop (low + h) = x
    rw [List.append_assoc, ← List.drop_drop, List.take_append_drop, List.take_append_drop]
  · rintro rfl
    obtain ⟨b1, b2⟩ := b
    refine ⟨b1.length, ?_, v.length, ?_, ?_, ?_⟩
    · simp only [List.length_append]; omega
    · simp only [List.length_append]; omega
    · show (b1, b2) = _
      rw [List.append_assoc, List.take_left, ← List.drop_drop, List.drop_left, List.drop_left]
    · show v = _
      rw [List.append_assoc, List.drop_left, List.take_left]
theorem mval_one (A : Mids) (x : Word) (f : Rat) (b : Word × Word) (v : Word) : mval (midLow A x f (x.length + 1)) b v = if b.1 ++ v ++ b.2 = x then f else mval A b v := by
  obtain ⟨h1, h2⟩ := mval_low A x f b v (x.length + 1)
  rw [cut3] at h1 h2
  by_cases e : b.1 ++ v ++ b.2 = x
  · rw [if_pos e, h1 e]
  · rw [if_neg e, h2 e]
/-- a middle tells the tally's factors -/
theorem mval_all (parts : Kv) (b : Word × Word) (v : Word) : mval (midM parts) b v = valM (dmerge parts) (b.1 ++ v ++ b.2) := by
  have : ∀ (l : Kv) (A : Mids) (acc : Kv), mval A b v = valM acc (b.1 ++ v ++ b.2) → mval (l.foldl (fun A p => midLow A p.1 p.2 (p.1.length + 1)) A) b v = valM (l.foldl (fun acc p => dput acc p.1 p.2) acc) (b.1 ++ v ++ b.2) := by
    intro l
    induction l with
    | nil => exact fun A acc h => h
    | cons p l ih =>
      intro A acc h
      refine ih _ _ ?_
      rw [mval_one, valM_put, h]
  exact this parts [] [] rfl
/-! ### what the middles hold -/
structure MidIn (parts : Kv) (A : Mids) : Prop where
  nd : (A.map (·.1)).Nodup
  k : ∀ a k, dget A a = some k → NdK k ∧ ∀ p ∈ k, ∃ q ∈ parts, a.1 ++ p.1 ++ a.2 = q.1 ∧ p.2 = q.2
theorem dput_mem {k : Kv} {u : Word} {f : Rat} {p : Word × Rat} (h : p ∈ dput k u f) : p ∈ k ∨ p = (u, f) := by
  unfold dput at h
  split at h
  · obtain ⟨q, hq, e⟩ := List.mem_map.mp h
    split at e
    · rename_i z
      rw [z] at e
      exact .inr e.symm
    · exact .inl (e ▸ hq)
  · rcases List.mem_append.mp h with q | q
    · exact .inl q
    · exact .inr (List.mem_singleton.mp q)
theorem MidIn.put {parts : Kv} {A : Mids} (h : MidIn parts A) {a : Word × Word} {u : Word} {f : Rat} (q : ∃ q ∈ parts, a.1 ++ u ++ a.2 = q.1 ∧ f = q.2) : MidIn parts (midPut A a u f) := by
  refine ⟨dput_keys _ _ h.nd, fun b k hb => ?_⟩
  unfold midPut at hb
  rw [dget_put] at hb
  by_cases e : b = a
  · subst e
    rw [if_pos rfl] at hb
    cases hb
    have : NdK ((dget A b).getD []) ∧ ∀ p ∈ (dget A b).getD [], ∃ q ∈ parts, b.1 ++ p.1 ++ b.2 = q.1 ∧ p.2 = q.2 := by
      cases e2 : dget A b with
      | none => exact ⟨List.nodup_nil, fun p hp => nomatch hp⟩
      | some k => exact h.k b k e2
    refine ⟨dput_keys _ _ this.1, fun p hp => ?_⟩
    rcases dput_mem hp with z | rfl
    · exact this.2 p z
    · exact q
  · rw [if_neg e] at hb
    exact h.k b k hb
theorem midIn_high {parts : Kv} {p : Word × Rat} (hp : p ∈ parts) (low : Nat) {A : Mids} (h : MidIn parts A) : ∀ n, MidIn parts (midHigh A p.1 p.2 low n)
  | 0 => h
  | n + 1 => by
    rw [midHigh_succ]
    refine (midIn_high hp low h n).put ⟨p, hp, ?_, rfl⟩
    show p.1.take low ++ (p.1.drop low).take n ++ p.1.drop (low + n) = p.1
    rw [List.append_assoc, ← List.drop_drop, List.take_append_drop, List.take_append_drop]
theorem midIn_low {parts : Kv} {p : Word × Rat} (hp : p ∈ parts) {A : Mids} (h : MidIn parts A) : ∀ n, MidIn parts (midLow A p.1 p.2 n)
  | 0 => h
  | n + 1 => by
    rw [midLow_succ]
    exact midIn_high hp n (midIn_low hp h n) _
theorem midIn_all (parts : Kv) : MidIn parts (midM parts) := by
  have : ∀ (l : Kv) (A : Mids), (∀ p ∈ l, p ∈ parts) → MidIn parts A → MidIn parts (l.foldl (fun A p => midLow A p.1 p.2 (p.1.length + 1)) A) := by
    intro l
    induction l with
    | nil => exact fun A _ h => h
    | cons p l ih => exact fun A s h => ih _ (fun q hq => s q (List.mem_cons_of_mem _ hq)) (midIn_low (s p List.mem_cons_self) h _)
  exact this parts [] (fun p hp => hp) ⟨List.nodup_nil, fun a k h => nomatch h⟩
/-- a middle is one of the list -/
theorem mids_mem {A : Mids} (m : List (Word × Rat)) : m ∈ midsV A ↔ ∃ a, dget A a = some m := by
  unfold midsV
  rw [List.mem_map]
  constructor
  · rintro ⟨a, ha, rfl⟩
    obtain ⟨y, hy⟩ := dget_mem ((srt_perm _).mem_iff.mp ha)
    exact ⟨a, by rw [hy] <;> rfl⟩
  · rintro ⟨a, ha⟩
    refine ⟨a, (srt_perm _).mem_iff.mpr ?_, by rw [ha] <;> rfl⟩
    refine Classical.byContradiction fun hn => ?_
    rw [dget_none.mpr hn] at ha
    cases ha
end L2.K3
set_option Elab.async false
set_option linter.all false
set_option maxHeartbeats 2000001
/-! MJ: the law's parts: what is known of them; joined again they are the same. -/
namespace L2.K3
open RM Sol
structure Good (c : Int) (parts : Kv) : Prop where
  n : parts.length ≤ 3
  st : parts.Pairwise fun a b => wordLt a.1 b.1 = true
  k : NzK parts
  w : ∀ p ∈ parts, WordD c 2 p.1
  v : ∀ p ∈ parts, BD 2 18 p.2
theorem lsum_nd (ps : List NPart) : ∀ i, i ≤ ps.length → NdK (lsumM ps i)
  | 0, _ => List.nodup_nil
  | i + 1, h => by
    rw [lsumM_succ h]
    exact dput_keys _ _ (lsum_nd ps i (Nat.le_of_succ_le h))
theorem lsum_keys (ps : List NPart) : ∀ i, i ≤ ps.length → ∀ x ∈ (lsumM ps i).map (·.1), ∃ p ∈ ps, x = p.1
  | 0, _ => fun x h => nomatch h
  | i + 1, hi => fun x h => by
    rw [lsumM_succ hi] at h
    obtain ⟨p, hp, rfl⟩ := List.mem_map.mp h
    unfold lputM at hp
    rcases dput_mem hp with z | rfl
    · exact lsum_keys ps i (Nat.le_of_succ_le hi) _ (List.mem_map.mpr ⟨p, z, rfl⟩)
    · exact ⟨_, List.getElem_mem hi, rfl⟩
/-- sorted, keys that differ: strictly -/
theorem srt_strict {ks : List Word} (nd : ks.Nodup) : (srt wordLt ks).Pairwise fun a b => wordLt a b = true := by
  have h1 := srt_pw stot_word.swo ks
  have h2 : (srt wordLt ks).Nodup := (srt_perm ks).nodup_iff.mpr nd
  refine (List.Pairwise.and h1 h2).imp fun {a b} h => ?_
  rcases stot_word.tri a b with q | q | q
  · exact q
  · exact absurd q h.2
  · rw [h.1] at q; cases q
theorem pw_nd {l : List Word} (h : l.Pairwise fun a b => wordLt a b = true) : l.Nodup := h.imp fun {a b} q e => by
  rw [e, stot_word.irr] at q
  cases q
theorem srt_same {l : List Word} (h : l.Pairwise fun a b => wordLt a b = true) : srt wordLt l = l := by
  refine (srt_uniq stot_word.swo (fun a b _ _ q r => stot_word.anti r q |>.symm ▸ rfl) (List.Perm.refl l) (h.imp fun {a b} q => stot_word.asym q)).symm
theorem good_of {c : Int} {parts : Kv} (h : PartsD c 3 2 parts) : Good c parts := by
  obtain ⟨ps, hp, rfl⟩ := h
  have nd := lsum_nd ps ps.length (Nat.le_refl _)
  have ss := srt_strict nd
  have pre := hp.pre (by decide)
  generalize hK : lsumM ps ps.length = kvs at *
  have sub : ∀ x, x ∈ (srt wordLt (kvs.map (·.1))).filter (fun k => !decide ((dget kvs k).getD 0 = 0)) → x ∈ kvs.map (·.1) ∧ valM kvs x ≠ 0 := fun x hx => by
    obtain ⟨h1, h2⟩ := List.mem_filter.mp hx
    exact ⟨(srt_perm _).mem_iff.mp h1, by simpa [valM] using h2⟩
  have fs : ((srt wordLt (kvs.map (·.1))).filter (fun k => !decide ((dget kvs k).getD 0 = 0))).Pairwise fun a b => wordLt a b = true := ss.filter _
  have el : ljoinP ps = ((srt wordLt (kvs.map (·.1))).filter (fun k => !decide ((dget kvs k).getD 0 = 0))).map fun k => (k, valM kvs k) := by
    unfold ljoinP ltoldP
    rw [hK]
    rfl
  rw [el]
  refine ⟨?_, ?_, ?_, ?_, ?_⟩
  · rw [List.length_map]
    have h1 := List.length_filter_le (fun k => !decide ((dget kvs k).getD 0 = 0)) (srt wordLt (kvs.map (·.1)))
    rw [(srt_perm _).length_eq, List.length_map, ← hK] at h1
    have h2 := lsumM_len ps ps.length (Nat.le_refl _)
    have h3 := hp.n
    rw [← hK]
    omega
  · exact List.pairwise_map.mpr fs
  · exact nzK_map (pw_nd fs) fun x hx => (sub x hx).2
  · intro p hp2
    obtain ⟨x, hx, rfl⟩ := List.mem_map.mp hp2
    obtain ⟨q, hq, e⟩ := lsum_keys ps ps.length (Nat.le_refl _) x (by rw [hK]; exact (sub x hx).1)
    show WordD c 2 x
    rw [e]
    exact hp.w q hq
  · intro p hp2
    obtain ⟨x, hx, rfl⟩ := List.mem_map.mp hp2
    have := lsum_bd pre ps.length (Nat.le_refl _) x
    rw [hK] at this
    have h3 := hp.n
    exact this.mono (by omega)
/-! ## the parts joined again -/
theorem den_dvd {D N : Nat} {q : Rat} (h : BD D N q) : q.den ∣ D := by
  obtain ⟨h0, k, h1, rfl⟩ := h
  rw [Rat.den_divInt, if_neg (by omega), Int.natAbs_natCast]
  exact Nat.div_dvd_of_dvd (by
    have := Int.gcd_dvd_left (a := (D : Int)) (b := k)
    exact Int.natCast_dvd_natCast.mp this)
theorem num_le {D N : Nat} {q : Rat} (h : BD D N q) : q.num.natAbs ≤ N := by
  obtain ⟨h0, k, h1, rfl⟩ := h
  exact Nat.le_trans (div_num_le k (by omega)) h1
theorem lcms_bd {D N : Nat} (hD : 0 < D) {xs : List Rat} (h : ∀ q ∈ xs, BD D N q) : (lcms xs).natAbs ∣ D := by
  have : ∀ (l : List Rat) (b : Int), b.natAbs ∣ D → (∀ q ∈ l, BD D N q) → (l.foldl (fun b q => ((Nat.lcm b.natAbs q.den : Nat) : Int)) b).natAbs ∣ D := by
    intro l
    induction l with
    | nil => exact fun b h _ => h
    | cons q l ih =>
      intro b hb hl
      refine ih _ ?_ fun r hr => hl r (List.mem_cons_of_mem _ hr)
      rw [Int.natAbs_natCast]
      exact Nat.lcm_dvd hb (den_dvd (hl q List.mem_cons_self))
  exact this xs 1 (Nat.one_dvd D) h
theorem preW_bd {D N : Nat} {xs : List Rat} (h : ∀ q ∈ xs, BD D N q) (hD : D < 2 ^ 64) (hN : N < 2 ^ 64) (h0 : 0 < D) : preW xs := by
  constructor
  · intro q hq
    refine ⟨Nat.lt_of_lt_of_le (Nat.lt_of_le_of_lt (num_le (h q hq)) hN) (Nat.pow_le_pow_right (by decide) (by decide)), ?_⟩
    exact Nat.lt_of_le_of_lt (Nat.le_of_dvd h0 (den_dvd (h q hq))) hD
  · intro i _
    exact Nat.lt_of_le_of_lt (Nat.le_of_dvd h0 (lcms_bd h0 fun q hq => h q (List.mem_of_mem_take hq))) hD
theorem sums_zip : ∀ (l acc : List (Word × Int)), ((acc ++ l).map (·.1)).Nodup → ∀ xs : List ((Word × Rat) × Int), xs.map (fun x => (x.1.1, x.2)) = l → xs.foldl putM acc = acc ++ l := by
  intro l
  induction l with
  | nil =>
    intro acc _ xs h
    rw [List.map_eq_nil_iff.mp h, List.append_nil] <;> rfl
  | cons p l ih =>
    intro acc nd xs h
    cases xs with
    | nil => cases h
    | cons x xs =>
      rw [List.map_cons, List.cons.injEq] at h
      obtain ⟨h1, h2⟩ := h
      have hn : dget acc x.1.1 = none := dget_none.mpr fun hm => by
        rw [List.map_append, List.map_cons, ← h1] at nd
        exact (List.nodup_append.mp nd).2.2 _ hm _ List.mem_cons_self rfl
      rw [List.foldl_cons]
      have e : putM acc x = acc ++ [p] := by
        unfold putM
        rw [hn, dput_new hn, ← h1]
        show acc ++ [(x.1.1, 0 + x.2)] = _
        rw [Int.zero_add]
      rw [e, ih _ (by rw [List.append_assoc]; exact nd) xs h2, List.append_assoc]
      rfl
theorem join_same {parts : Kv} (st : parts.Pairwise fun a b => wordLt a.1 b.1 = true) (nz : NzK parts) : joinP parts = parts := by
  have hw := over_whol (parts.map (·.2))
  have hl : (whol (parts.map (·.2))).length = parts.length := by unfold whol; rw [List.length_map, List.length_map]
  have e1 : sumsM (parts.zip (whol (parts.map (·.2)))) (parts.zip (whol (parts.map (·.2)))).length = (parts.map (·.1)).zip (whol (parts.map (·.2))) := by
    unfold sumsM
    rw [List.take_length]
    have ek : ((parts.map (·.1)).zip (whol (parts.map (·.2)))).map (·.1) = parts.map (·.1) := by
      rw [List.map_fst_zip]
      rw [List.length_map, hl]
      exact Nat.le_refl _
    refine (sums_zip ((parts.map (·.1)).zip (whol (parts.map (·.2)))) [] ?_ _ ?_).trans (List.nil_append _)
    · rw [List.nil_append, ek]
      exact nz.nd
    · apply List.ext_getElem
      · rw [List.length_map, List.length_zip, List.length_zip, List.length_map]
      · intro i h1 h2
        simp only [List.getElem_map, List.getElem_zip]
  unfold joinP toldP
  rw [e1]
  have ek : ((parts.map (·.1)).zip (whol (parts.map (·.2)))).map (·.1) = parts.map (·.1) := by
    rw [List.map_fst_zip]
    rw [List.length_map, hl]
    exact Nat.le_refl _
  rw [ek, srt_same (List.pairwise_map.mpr st)]
  have at_ : ∀ i (h : i < parts.length), (dget ((parts.map (·.1)).zip (whol (parts.map (·.2)))) (parts[i]).1).getD 0 = (whol (parts.map (·.2)))[i]'(by rw [hl]; exact h) := fun i h => by
    have : dget ((parts.map (·.1)).zip (whol (parts.map (·.2)))) (parts[i]).1 = some ((whol (parts.map (·.2)))[i]'(by rw [hl]; exact h)) := by
      refine dget_of (by rw [ek]; exact nz.nd) (i := i) ?_
      rw [List.getElem?_eq_getElem (by rw [List.length_zip, List.length_map, hl]; omega), List.getElem_zip, List.getElem_map]
    rw [this] <;> rfl
  have val : ∀ i (h : i < parts.length), (((whol (parts.map (·.2)))[i]'(by rw [hl]; exact h) : Int) : Rat) = parts[i].2 * (lcms (parts.map (·.2)) : Rat) := fun i h => by
    have := hw.at (i := i) (by rw [hl]; exact h) (by rw [List.length_map]; exact h)
    rw [List.getElem_map] at this
    exact this
  have ln := lcms_ne (parts.map (·.2))
  have lr : (lcms (parts.map (·.2)) : Rat) ≠ 0 := by exact_mod_cast ln
  have ff : (parts.map (·.1)).filter (fun k => !decide ((dget ((parts.map (·.1)).zip (whol (parts.map (·.2)))) k).getD 0 = 0)) = parts.map (·.1) := by
    rw [List.filter_eq_self]
    intro x hx
    obtain ⟨p, hp, rfl⟩ := List.mem_map.mp hx
    obtain ⟨i, hi, rfl⟩ := List.getElem_of_mem hp
    rw [at_ i hi, Bool.not_eq_true', decide_eq_false]
    intro z
    have := val i hi
    rw [z] at this
    have h0 : parts[i].2 * (lcms (parts.map (·.2)) : Rat) = 0 := by rw [← this] <;> rfl
    rcases Rat.mul_eq_zero.mp h0 with q | q
    · exact nz.nz _ hp q
    · exact lr q
  rw [ff]
  apply List.ext_getElem
  · rw [List.length_map, List.length_map]
  · intro i h1 h2
    rw [List.getElem_map, List.getElem_map]
    refine Prod.ext rfl ?_
    show Rat.divInt ((dget _ parts[i].1).getD 0) _ = parts[i].2
    rw [at_ i h2]
    exact over_div (val i h2) ln
end L2.K3
set_option Elab.async false
set_option linter.all false
set_option maxHeartbeats 2000001
/-! MK: the middles as vectors: their words, their span. -/
namespace L2.K3
open RM Sol
/-! ## words of the middles -/
theorem keys_put {β : Type} (k : List (Word × β)) (u x : Word) (f : β) : x ∈ (dput k u f).map (·.1) ↔ x = u ∨ x ∈ k.map (·.1) := by
  have h1 : x ∈ (dput k u f).map (·.1) ↔ dget (dput k u f) x ≠ none := by
    rw [Ne, dget_none, Classical.not_not]
  have h2 : x ∈ k.map (·.1) ↔ dget k x ≠ none := by
    rw [Ne, dget_none, Classical.not_not]
  rw [h1, h2, dget_put]
  by_cases e : x = u
  · rw [if_pos e]
    exact ⟨fun _ => .inl e, fun _ z => nomatch z⟩
  · rw [if_neg e]
    exact ⟨.inr, fun z => z.resolve_left e⟩
theorem mem_put1 (m : List (Word × Rat)) (x : Word) : ∀ acc : List (Word × Bool), x ∈ (m.foldl (fun acc p => dput acc p.1 true) acc).map (·.1) ↔ x ∈ m.map (·.1) ∨ x ∈ acc.map (·.1) := by
  induction m with
  | nil => exact fun acc => ⟨.inr, fun h => h.resolve_left (fun z => nomatch z)⟩
  | cons p m ih =>
    intro acc
    rw [List.foldl_cons, ih, keys_put, List.map_cons, List.mem_cons]
    constructor
    · rintro (h | h | h)
      · exact .inl (.inr h)
      · exact .inl (.inl h)
      · exact .inr h
    · rintro ((h | h) | h)
      · exact .inr (.inl h)
      · exact .inl h
      · exact .inr (.inr h)
theorem mem_words (x : Word) (ms : List (List (Word × Rat))) : x ∈ (wordsM ms).map (·.1) ↔ ∃ m ∈ ms, x ∈ m.map (·.1) := by
  have : ∀ (ms : List (List (Word × Rat))) (acc : List (Word × Bool)), x ∈ (ms.foldl (fun acc m => m.foldl (fun acc p => dput acc p.1 true) acc) acc).map (·.1) ↔ (∃ m ∈ ms, x ∈ m.map (·.1)) ∨ x ∈ acc.map (·.1) := by
    intro ms
    induction ms with
    | nil => exact fun acc => ⟨.inr, fun h => h.resolve_left fun ⟨m, hm, _⟩ => nomatch hm⟩
    | cons m ms ih =>
      intro acc
      rw [List.foldl_cons, ih, mem_put1]
      constructor
      · rintro (⟨k, hk, h⟩ | h | h)
        · exact .inl ⟨k, List.mem_cons_of_mem _ hk, h⟩
        · exact .inl ⟨m, List.mem_cons_self, h⟩
        · exact .inr h
      · rintro (⟨k, hk, h⟩ | h)
        · rcases List.mem_cons.mp hk with e | e
          · exact .inr (.inl (e ▸ h))
          · exact .inl ⟨k, e, h⟩
        · exact .inr (.inr h)
  rw [show wordsM ms = ms.foldl (fun acc m => m.foldl (fun acc p => dput acc p.1 true) acc) [] from rfl, this]
  exact ⟨fun h => h.resolve_right fun z => (nomatch z), .inl⟩
theorem words_nd (ms : List (List (Word × Rat))) : ((wordsM ms).map (·.1)).Nodup := by
  have h1 : ∀ (m : List (Word × Rat)) (acc : List (Word × Bool)), (acc.map (·.1)).Nodup → ((m.foldl (fun acc p => dput acc p.1 true) acc).map (·.1)).Nodup := by
    intro m
    induction m with
    | nil => exact fun acc h => h
    | cons p m ih => exact fun acc h => ih _ (dput_keys _ _ h)
  have : ∀ (ms : List (List (Word × Rat))) (acc : List (Word × Bool)), (acc.map (·.1)).Nodup → ((ms.foldl (fun acc m => m.foldl (fun acc p => dput acc p.1 true) acc) acc).map (·.1)).Nodup := by
    intro ms
    induction ms with
    | nil => exact fun acc h => h
    | cons p m ih => exact fun acc h => ih _ (h1 _ _ h)
  exact this ms [] List.nodup_nil
theorem some_pw (ms : List (List (Word × Rat))) : (someM ms).Pairwise fun a b => wordLt a b = true := srt_strict (words_nd ms)
theorem some_nd (ms : List (List (Word × Rat))) : (someM ms).Nodup := pw_nd (some_pw ms)
theorem mem_some (x : Word) (ms : List (List (Word × Rat))) : x ∈ someM ms ↔ ∃ m ∈ ms, x ∈ m.map (·.1) := by
  unfold someM
  rw [(srt_perm _).mem_iff, mem_words]
/-! ## middles of good parts -/
/-- the middles as vectors -/
def AP (parts : Kv) : Vec → Prop := fun f => ∃ m ∈ midsV (midM parts), f = valM m
abbrev WP (parts : Kv) : List Word := someM (midsV (midM parts))
section
variable {c : Int} {parts : Kv}
theorem Good.mid (g : Good c parts) {m : Kv} (h : m ∈ midsV (midM parts)) : NzK m ∧ ∃ a : Word × Word, (∀ u, valM m u = valM parts (a.1 ++ u ++ a.2)) ∧ ∀ p ∈ m, ∃ q ∈ parts, a.1 ++ p.1 ++ a.2 = q.1 := by
  obtain ⟨a, ha⟩ := (mids_mem m).mp h
  obtain ⟨h1, h2⟩ := (midIn_all parts).k a m ha
  refine ⟨⟨h1, fun p hp => ?_⟩, a, fun u => ?_, fun p hp => ?_⟩
  · obtain ⟨q, hq, _, e⟩ := h2 p hp
    rw [e]
    exact g.k.nz q hq
  · have := mval_all parts a u
    rw [dmerge_id g.k.nd] at this
    rw [← this]
    unfold mval
    rw [ha] <;> rfl
  · obtain ⟨q, hq, e, _⟩ := h2 p hp
    exact ⟨q, hq, e⟩
/-- every shift of the tally is in the span -/
theorem Good.shift (g : Good c parts) (a : Word × Word) : Spn (AP parts) fun u => valM parts (a.1 ++ u ++ a.2) := by
  have e : ∀ u, mval (midM parts) a u = valM parts (a.1 ++ u ++ a.2) := fun u => by
    rw [mval_all, dmerge_id g.k.nd]
  cases h : dget (midM parts) a with
  | none =>
    refine Spn.zero.to fun u => ?_
    rw [← e u]
    unfold mval
    rw [h] <;> rfl
  | some m =>
    refine (Spn.mem ⟨m, (mids_mem m).mpr ⟨a, h⟩, rfl⟩).to fun u => ?_
    rw [← e u]
    unfold mval
    rw [h] <;> rfl
theorem Good.self (g : Good c parts) : Spn (AP parts) (valM parts) := (g.shift ([], [])).to fun u => by
  show valM parts ([] ++ u ++ []) = _
  rw [List.append_nil, List.nil_append]
theorem Good.left (g : Good c parts) {f : Vec} (s : Spn (AP parts) f) (z : Word) : Spn (AP parts) fun y => f (y ++ z) := by
  induction s with
  | zero => exact .zero
  | add _ _ a b => exact .add a b
  | smul k _ a => exact .smul k a
  | mem q =>
    obtain ⟨m, hm, rfl⟩ := q
    obtain ⟨_, a, e, _⟩ := g.mid hm
    refine (g.shift (a.1, z ++ a.2)).to fun u => ?_
    rw [e]
    simp only [List.append_assoc]
theorem Good.right (g : Good c parts) {f : Vec} (s : Spn (AP parts) f) (y : Word) : Spn (AP parts) fun z => f (y ++ z) := by
  induction s with
  | zero => exact .zero
  | add _ _ a b => exact .add a b
  | smul k _ a => exact .smul k a
  | mem q =>
    obtain ⟨m, hm, rfl⟩ := q
    obtain ⟨_, a, e, _⟩ := g.mid hm
    refine (g.shift (a.1 ++ y, a.2)).to fun u => ?_
    rw [e]
    simp only [List.append_assoc]
/-- by heads, both sides -/
theorem Good.two (g : Good c parts) {R : Fam} (h : Red (AP parts) R) {v : Vec} (s : Spn (AP parts) v) (y z : Word) : v (y ++ z) = sm R fun e => sm R fun f => v (e.1 ++ f.1) * e.2 y * f.2 z := by
  have h1 := h.d.expd ((g.left s z).imp h.ge) y
  rw [h1]
  unfold expd
  refine sm_congr fun e _ => ?_
  have h2 := h.d.expd ((g.right s e.1).imp h.ge) z
  show v (e.1 ++ z) * e.2 y = _
  rw [h2]
  unfold expd
  rw [← sm_mulr]
  exact sm_congr fun f _ => by grind
/-! ### words -/
theorem Good.word (g : Good c parts) (x : Word) : x ∈ WP parts ↔ ∃ p ∈ parts, ∃ a b, a ++ x ++ b = p.1 := by
  rw [mem_some]
  constructor
  · rintro ⟨m, hm, hx⟩
    obtain ⟨_, a, _, h⟩ := g.mid hm
    obtain ⟨p, hp, rfl⟩ := List.mem_map.mp hx
    obtain ⟨q, hq, e⟩ := h p hp
    exact ⟨q, hq, a.1, a.2, e⟩
  · rintro ⟨p, hp, a, b, e⟩
    have h1 : mval (midM parts) (a, b) x = p.2 := by
      rw [mval_all, dmerge_id g.k.nd]
      show valM parts (a ++ x ++ b) = _
      rw [e]
      exact valM_in g.k.nd hp
    have h2 := g.k.nz p hp
    cases h : dget (midM parts) (a, b) with
    | none =>
      unfold mval at h1
      rw [h] at h1
      exact absurd h1.symm h2
    | some m =>
      have hm := (mids_mem m).mpr ⟨_, h⟩
      refine ⟨m, hm, ((g.mid hm).1.key x).mpr ?_⟩
      unfold mval at h1
      rw [h] at h1
      rw [show valM m x = p.2 from h1]
      exact h2
theorem Good.cl (g : Good c parts) : Cl (WP parts) := by
  refine ⟨some_nd _, fun x hx j => ?_, fun x hx j => ?_⟩
  · obtain ⟨p, hp, a, b, e⟩ := (g.word x).mp hx
    refine (g.word _).mpr ⟨p, hp, a, x.drop j ++ b, ?_⟩
    rw [← e, List.append_assoc, ← List.append_assoc (x.take j), List.take_append_drop, List.append_assoc]
  · obtain ⟨p, hp, a, b, e⟩ := (g.word x).mp hx
    refine (g.word _).mpr ⟨p, hp, a ++ x.take j, b, ?_⟩
    rw [← e, List.append_assoc a, List.take_append_drop]
theorem fac4 {x a u b : Word} (hx : x.length ≤ 2) (e : a ++ u ++ b = x) : u ∈ [[], x.take 1, x.drop 1, x] := by
  subst e
  match a, u, b, hx with
  | [], [], _, _ => simp
  | _ :: _, [], _, _ => simp
  | [], [l], [], _ => simp
  | [], [l], _ :: _, _ => simp
  | [l], [m], b, h =>
    have : b = [] := by
      simp only [List.length_append, List.length_cons, List.length_nil] at h
      exact List.eq_nil_of_length_eq_zero (by omega)
    subst this
    simp
  | [], [l, m], b, h =>
    have : b = [] := by
      simp only [List.length_append, List.length_cons, List.length_nil] at h
      exact List.eq_nil_of_length_eq_zero (by omega)
    subst this
    simp
  | _ :: _ :: _, [m], b, h => simp only [List.length_append, List.length_cons, List.length_nil] at h; omega
  | _ :: _, _ :: _ :: _, b, h => simp only [List.length_append, List.length_cons] at h; omega
  | [], _ :: _ :: _ :: _, b, h => simp only [List.length_append, List.length_cons, List.length_nil] at h; omega
theorem flat_len {α β : Type} (f : α → List β) (n : Nat) : ∀ l : List α, (∀ x ∈ l, (f x).length ≤ n) → (l.flatMap f).length ≤ n * l.length
  | [], _ => Nat.zero_le _
  | a :: l, h => by
    have h1 := h a List.mem_cons_self
    have h2 := flat_len f n l fun x hx => h x (List.mem_cons_of_mem _ hx)
    rw [List.flatMap_cons, List.length_append, List.length_cons, Nat.mul_succ]
    omega
theorem Good.len2 (g : Good c parts) {p : Word × Rat} (hp : p ∈ parts) : p.1.length ≤ 2 := by
  have := (g.w p hp).1
  omega
theorem Good.many (g : Good c parts) : (WP parts).length ≤ 12 := by
  have h1 := nodup_len (m := parts.flatMap fun p => [[], p.1.take 1, p.1.drop 1, p.1]) (some_nd (midsV (midM parts))) fun x hx => by
    obtain ⟨p, hp, a, b, e⟩ := (g.word x).mp hx
    exact List.mem_flatMap.mpr ⟨p, hp, fac4 (g.len2 hp) e⟩
  have h2 := flat_len (fun p : Word × Rat => [[], p.1.take 1, p.1.drop 1, p.1]) 4 parts fun _ _ => Nat.le_refl _
  have := g.n
  have h3 : (WP parts).length ≤ _ := h1
  omega
theorem Good.wlen (g : Good c parts) {x : Word} (hx : x ∈ WP parts) : x.length ≤ 2 ∧ ∀ y ∈ x, LetD c y := by
  obtain ⟨p, hp, a, b, e⟩ := (g.word x).mp hx
  have h1 := g.len2 hp
  rw [← e] at h1
  simp only [List.length_append] at h1
  refine ⟨by omega, fun y hy => (g.w p hp).2 y ?_⟩
  rw [← e]
  exact List.mem_append.mpr (.inl (List.mem_append.mpr (.inr hy)))
theorem Good.out1 (g : Good c parts) {f : Vec} (h : AP parts f) {x : Word} (hx : x ∉ WP parts) : f x = 0 := by
  obtain ⟨m, hm, rfl⟩ := h
  exact valM_out fun z => hx ((mem_some x _).mpr ⟨m, hm, z⟩)
theorem Good.out (g : Good c parts) {f : Vec} (s : Spn (AP parts) f) {x : Word} (hx : x ∉ WP parts) : f x = 0 := s.at0 fun _ h => g.out1 h hx
theorem Good.bd (g : Good c parts) (x : Word) : BD 2 18 (valM parts x) := by
  by_cases h : x ∈ parts.map (·.1)
  · obtain ⟨p, hp, rfl⟩ := List.mem_map.mp h
    rw [valM_in g.k.nd hp]
    exact g.v p hp
  · rw [valM_out h]
    exact BD.zero (by decide)
theorem Good.bdm (g : Good c parts) {m : Kv} (h : m ∈ midsV (midM parts)) (x : Word) : BD 2 18 (valM m x) := by
  obtain ⟨_, a, e, _⟩ := g.mid h
  rw [e]
  exact g.bd _
/-- at most eight -/
theorem Good.few (g : Good c parts) {R : Fam} (d : Delta R) (sp : ∀ p ∈ R, Spn (AP parts) p.2) : R.length ≤ 8 := by
  have h1 := RM.few d sp (L := [] :: parts.flatMap fun p => [p.1.take 1, p.1.drop 1]) (T := valM parts) (fun f hf x hx hne => ?_) fun f hf => ?_
  · have h2 := flat_len (fun p : Word × Rat => [p.1.take 1, p.1.drop 1]) 2 parts fun _ _ => Nat.le_refl _
    have := g.n
    rw [List.length_cons] at h1
    omega
  · have hw : x ∈ WP parts := Classical.byContradiction fun z => hne (g.out1 hf z)
    obtain ⟨p, hp, a, b, e⟩ := (g.word x).mp hw
    have h4 := fac4 (g.len2 hp) e
    have in2 : ∀ y, y = p.1.take 1 ∨ y = p.1.drop 1 → y ∈ [] :: parts.flatMap fun p => [p.1.take 1, p.1.drop 1] := fun y hy => by
      refine List.mem_cons_of_mem _ (List.mem_flatMap.mpr ⟨p, hp, ?_⟩)
      rcases hy with rfl | rfl <;> simp
    rw [List.mem_cons, List.mem_cons, List.mem_cons, List.mem_singleton] at h4
    rcases h4 with h4 | h4 | h4 | h4
    · rw [h4]; exact List.mem_cons_self
    · exact in2 x (.inl h4)
    · exact in2 x (.inr h4)
    · refine in2 x (.inl ?_)
      rw [← h4, List.take_of_length_le hx]
  · obtain ⟨m, hm, rfl⟩ := hf
    obtain ⟨_, a, e, _⟩ := g.mid hm
    by_cases ha : a.1 = [] ∧ a.2 = []
    · refine ⟨1, fun x _ => ?_⟩
      rw [e, ha.1, ha.2, List.append_nil, List.nil_append, Rat.one_mul]
    · refine ⟨0, fun x hx => ?_⟩
      rw [e, Rat.zero_mul]
      refine valM_out fun z => ?_
      obtain ⟨p, hp, ep⟩ := List.mem_map.mp z
      have h1 := g.len2 hp
      rw [ep] at h1
      simp only [List.length_append] at h1
      have h2 : a.1.length = 0 := by omega
      have h3 : a.2.length = 0 := by omega
      exact ha ⟨List.eq_nil_of_length_eq_zero h2, List.eq_nil_of_length_eq_zero h3⟩
end
end L2.K3
set_option Elab.async false
set_option linter.all false
set_option maxHeartbeats 2000001
/-! ML: the law's own room is the reduced family. -/
namespace L2.K3
open RM Sol
theorem minW_le {l : List Word} {x : Word} (h : x ∈ l) : wordLt x (minW l) = false := by
  have : ∀ (l : List Word) (a : Word), wordLt a (l.foldl (fun a y => if wordLt y a = true then y else a) a) = false ∧ ∀ x ∈ l, wordLt x (l.foldl (fun a y => if wordLt y a = true then y else a) a) = false := by
    intro l
    induction l with
    | nil => exact fun a => ⟨stot_word.irr a, fun x hx => nomatch hx⟩
    | cons b l ih =>
      intro a
      obtain ⟨h1, h2⟩ := ih (if wordLt b a = true then b else a)
      have h3 : wordLt a (if wordLt b a = true then b else a) = false ∧ wordLt b (if wordLt b a = true then b else a) = false := by
        by_cases e : wordLt b a = true
        · rw [if_pos e]; exact ⟨stot_word.asym e, stot_word.irr b⟩
        · rw [if_neg e]; exact ⟨stot_word.irr a, by simpa using e⟩
      refine ⟨stot_word.swo.tr _ _ _ h1 h3.1, fun x hx => ?_⟩
      rcases List.mem_cons.mp hx with rfl | q
      · exact stot_word.swo.tr _ _ _ h1 h3.2
      · exact h2 x q
  cases l with
  | nil => cases h
  | cons a l =>
    rcases List.mem_cons.mp h with rfl | q
    · exact (this l x).1
    · exact (this l a).2 x q
theorem dget_valM {k : Kv} {x : Word} : (dget k x).getD 0 = valM k x := rfl
/-! ## less -/
theorem lessN_val {r o : Kv} (hr : NdK r) (ho : NdK o) (c : Rat) : ∀ i, i ≤ (o.map (·.1)).length → NdK (lessN r o c i) ∧ ∀ x, valM (lessN r o c i) x = valM r x - if x ∈ (o.map (·.1)).take i then c * valM o x else 0
  | 0, _ => by
    have e : lessN r o c 0 = r := by
      unfold lessN
      rw [List.take_zero, List.foldl_nil, dmerge_id hr]
    rw [e]
    refine ⟨hr, fun x => ?_⟩
    rw [List.take_zero, if_neg (fun z => nomatch z)]
    grind
  | i + 1, h => by
    obtain ⟨h1, h2⟩ := lessN_val hr ho c i (Nat.le_of_succ_le h)
    rw [lessN_succ h]
    unfold dstep
    refine ⟨dput_keys _ _ h1, fun x => ?_⟩
    rw [valM_put, take_succ' h, dget_valM, h2]
    have hn : (o.map (·.1))[i] ∉ (o.map (·.1)).take i := fun z => by
      have hnd : (o.map (·.1)).Nodup := ho
      rw [← List.take_append_drop i (o.map (·.1)), List.drop_eq_getElem_cons h] at hnd
      exact (List.nodup_append.mp hnd).2.2 _ z _ List.mem_cons_self rfl
    by_cases e : x = (o.map (·.1))[i]
    · rw [if_pos e, if_neg hn, if_pos (by rw [e]; exact List.mem_append.mpr (.inr (List.mem_singleton.mpr rfl))), ← e]
      grind
    · rw [if_neg e, h2]
      by_cases q : x ∈ (o.map (·.1)).take i
      · rw [if_pos q, if_pos (List.mem_append.mpr (.inl q))]
      · rw [if_neg q, if_neg fun z => (List.mem_append.mp z).elim q fun w => e (List.mem_singleton.mp w)]
theorem cutZ_val {f : Kv} (h : NdK f) : NzK (cutZ f) ∧ ∀ x, valM (cutZ f) x = valM f x := by
  have nd : ((f.map (·.1)).filter fun k => !decide (valM f k = 0)).Nodup := nodup_filter h
  have e : cutZ f = ((f.map (·.1)).filter fun k => !decide (valM f k = 0)).map fun k => (k, valM f k) := by
    unfold cutZ
    refine dmerge_id ?_
    rw [List.map_map]
    exact (List.map_id' _).symm ▸ nd
  have hin : ∀ x, x ∈ (f.map (·.1)).filter (fun k => !decide (valM f k = 0)) ↔ valM f x ≠ 0 := fun x => by
    rw [List.mem_filter]
    constructor
    · intro q
      simpa using q.2
    · intro q
      exact ⟨Classical.byContradiction fun z => q (valM_out z), by simpa using q⟩
  rw [e]
  refine ⟨nzK_map nd fun x hx => (hin x).mp hx, fun x => ?_⟩
  rw [valM_map nd]
  by_cases q : valM f x = 0
  · rw [if_neg fun z => (hin x).mp z q, q]
  · rw [if_pos ((hin x).mpr q)]
theorem less_val {r o : Kv} (hr : NdK r) (ho : NdK o) (h : Word) : NzK (lessM r h o) ∧ ∀ x, valM (lessM r h o) x = valM r x - valM r h * valM o x := by
  obtain ⟨h1, h2⟩ := lessN_val hr ho (valM r h) (o.map (·.1)).length (Nat.le_refl _)
  obtain ⟨h3, h4⟩ := cutZ_val h1
  refine ⟨h3, fun x => ?_⟩
  show valM (cutZ _) x = _
  rw [h4, h2, List.take_length]
  by_cases q : x ∈ o.map (·.1)
  · rw [if_pos q]
  · rw [if_neg q, valM_out q]
    grind
theorem step_val {r : Kv} (hr : NzK r) {e : Word × Kv} (he : NdK e.2) : NzK (lrStep r e) ∧ ∀ x, valM (lrStep r e) x = valM r x - valM r e.1 * valM e.2 x := by
  unfold lrStep
  by_cases h : (dget r e.1).isSome = true
  · rw [if_pos h]
    exact less_val hr.nd he e.1
  · rw [if_neg h]
    refine ⟨hr, fun x => ?_⟩
    have : valM r e.1 = 0 := Classical.byContradiction fun z => h ((hr.some _).mpr z)
    rw [this]
    grind
/-- a room as a family -/
def famL (room : Rm) : Fam := room.map fun e => (e.1, valM e.2)
theorem mem_famL {room : Rm} {p : Word × Vec} : p ∈ famL room ↔ ∃ e ∈ room, p = (e.1, valM e.2) := by
  unfold famL
  rw [List.mem_map]
  exact ⟨fun ⟨e, he, q⟩ => ⟨e, he, q.symm⟩, fun ⟨e, he, q⟩ => ⟨e, he, q.symm⟩⟩
structure LR (A : Vec → Prop) (room : Rm) : Prop where
  red : Red A (famL room)
  nz : ∀ e ∈ room, NzK e.2
theorem LR.nd {A : Vec → Prop} {room : Rm} (h : LR A room) : (room.map (·.1)).Nodup := by
  have := h.red.d.nd
  unfold famL at this
  rw [List.map_map] at this
  exact this
theorem LR.oth {A : Vec → Prop} {room : Rm} (h : LR A room) {i j : Nat} (hi : i < room.length) (hj : j < room.length) (ne : i ≠ j) : valM room[i].2 room[j].1 = 0 := by
  refine h.red.d.oth (room[i].1, valM room[i].2) (mem_famL.mpr ⟨_, List.getElem_mem hi, rfl⟩) (room[j].1, valM room[j].2) (mem_famL.mpr ⟨_, List.getElem_mem hj, rfl⟩) fun e => ne ?_
  have hi2 : i < (room.map (·.1)).length := by rw [List.length_map]; exact hi
  have hj2 : j < (room.map (·.1)).length := by rw [List.length_map]; exact hj
  have e2 : (room.map (·.1))[j] = (room.map (·.1))[i] := by
    rw [List.getElem_map, List.getElem_map]
    exact e
  have pw := List.pairwise_iff_getElem.mp h.nd
  rcases Nat.lt_trichotomy i j with q | q | q
  · exact absurd e2.symm (pw i j hi2 hj2 q)
  · exact q
  · exact absurd e2 (pw j i hj2 hi2 q)
/-- the row less what the first j of the room take of it -/
theorem LR.red_val {A : Vec → Prop} {room : Rm} (h : LR A room) {row : Kv} (hr : NzK row) : ∀ j, j ≤ room.length → NzK (lred room row j) ∧ ∀ x, valM (lred room row j) x = valM row x - sm (room.take j) fun e => valM row e.1 * valM e.2 x
  | 0, _ => ⟨hr, fun x => by rw [List.take_zero, sm_nil]; show valM row x = _; grind⟩
  | j + 1, hj => by
    obtain ⟨h1, h2⟩ := h.red_val hr j (Nat.le_of_succ_le hj)
    rw [lred_succ hj]
    obtain ⟨h3, h4⟩ := step_val h1 (h.nz _ (List.getElem_mem hj)).nd
    refine ⟨h3, fun x => ?_⟩
    rw [h4, h2, h2, take_succ' hj, sm_append, sm_cons, sm_nil]
    have : (sm (room.take j) fun e => valM row e.1 * valM e.2 room[j].1) = 0 := sm_zero fun e he => by
      obtain ⟨i, hi, rfl⟩ := List.getElem_of_mem he
      rw [List.length_take] at hi
      rw [List.getElem_take, h.oth (i := i) (j := j) (by omega) hj (by omega)]
      grind
    rw [this]
    grind
theorem LR.red_all {A : Vec → Prop} {room : Rm} (h : LR A room) {row : Kv} (hr : NzK row) : NzK (lred room row room.length) ∧ ∀ x, valM (lred room row room.length) x = valM row x - expd (famL room) (valM row) x := by
  obtain ⟨h1, h2⟩ := h.red_val hr room.length (Nat.le_refl _)
  refine ⟨h1, fun x => ?_⟩
  rw [h2, List.take_length]
  unfold expd famL
  rw [sm_map]
theorem new_val {r : Kv} (hr : NzK r) (h0 : valM r (headOf r) ≠ 0) : NzK (lnew r) ∧ ∀ x, valM (lnew r) x = valM r x / valM r (headOf r) := by
  have nd : (r.map (·.1)).Nodup := hr.nd
  have e : lnew r = (r.map (·.1)).map fun k => (k, valM r k * loneM r) := by
    unfold lnew
    refine dmerge_id ?_
    rw [List.map_map]
    exact (List.map_id' _).symm ▸ nd
  have hm : ∀ x, valM r x * loneM r = valM r x / valM r (headOf r) := fun x => by
    unfold loneM
    grind
  rw [e]
  refine ⟨nzK_map nd fun x hx z => ?_, fun x => ?_⟩
  · have h1 := (hr.key x).mp hx
    rw [hm] at z
    have : valM r x = 0 := by
      have : valM r x = valM r x / valM r (headOf r) * valM r (headOf r) := by grind
      rw [z] at this
      grind
    exact h1 this
  · rw [valM_map nd]
    by_cases q : x ∈ r.map (·.1)
    · rw [if_pos q, hm]
    · rw [if_neg q, valM_out q]
      grind
theorem up_val {room : Rm} {r n : Kv} {h : Word} (hn : NdK n) {e : Word × Kv} (he : NzK e.2) : NzK (upRow h n e).2 ∧ ∀ x, valM (upRow h n e).2 x = valM e.2 x - valM e.2 h * valM n x := by
  unfold upRow
  by_cases q : (dget e.2 h).isSome = true
  · rw [if_pos q]
    exact less_val he.nd hn h
  · rw [if_neg q]
    refine ⟨he, fun x => ?_⟩
    have : valM e.2 h = 0 := Classical.byContradiction fun z => q ((he.some _).mpr z)
    rw [this]
    grind
theorem head_nz {r : Kv} (hr : NzK r) (h : r.length ≠ 0) : valM r (headOf r) ≠ 0 := (hr.key _).mp (minW_mem h)
theorem head_low {r : Kv} (hr : NzK r) {x : Word} (h : wordLt x (headOf r) = true) : valM r x = 0 := Classical.byContradiction fun z => by
  have := minW_le ((hr.key x).mpr z)
  rw [show minW (r.map (·.1)) = headOf r from rfl, h] at this
  cases this
/-- one more row -/
theorem LR.step {A : Vec → Prop} {room : Rm} (h : LR A room) {row : Kv} (hr : NzK row) : LR (fun g => A g ∨ g = valM row) (lstepM room row) := by
  obtain ⟨h1, h2⟩ := h.red_all hr
  unfold lstepM
  generalize hrr : lred room row room.length = r at h1 h2
  unfold laddM
  by_cases z : r.length = 0
  · rw [if_pos z]
    refine ⟨h.red.same fun x => ?_, h.nz⟩
    have := h2 x
    rw [List.eq_nil_of_length_eq_zero z, valM_nil] at this
    grind
  · rw [if_neg z]
    have h0 := head_nz h1 z
    obtain ⟨n1, n2⟩ := new_val h1 h0
    have e : famL (room.map (upRow (headOf r) (lnew r)) ++ [(headOf r, lnew r)]) = growF (famL room) (headOf r) (valM r) := by
      unfold famL growF
      rw [List.map_append, List.map_map, List.map_map, List.map_singleton]
      congr 1
      · refine List.map_congr_left fun q hq => Prod.ext rfl (funext fun x => ?_)
        show valM (upRow (headOf r) (lnew r) q).2 x = valM q.2 x - valM q.2 (headOf r) * (valM r x / valM r (headOf r))
        rw [(up_val (room := room) (r := r) n1.nd (h.nz q hq)).2 x, n2]
      · exact congrArg (fun v : Vec => [(headOf r, v)]) (funext n2)
    refine ⟨?_, fun q hq => ?_⟩
    · rw [e]
      exact h.red.grow (fun x => h2 x) h0 fun x hx => head_low h1 hx
    · rcases List.mem_append.mp hq with q1 | q1
      · obtain ⟨p, hp, rfl⟩ := List.mem_map.mp q1
        exact (up_val (room := room) (r := r) n1.nd (h.nz p hp)).1
      · rw [List.mem_singleton.mp q1]
        exact n1
theorem LR.to {A B : Vec → Prop} {room : Rm} (h : LR A room) (e : ∀ f, A f ↔ B f) : LR B room := by
  have : A = B := funext fun f => propext (e f)
  exact this ▸ h
/-- the room over the first middles -/
theorem room_red {mids : List Kv} (hm : ∀ m ∈ mids, NzK m) : ∀ i, i ≤ mids.length → LR (fun f => ∃ m ∈ mids.take i, f = valM m) (lroomN mids i)
  | 0, _ => ⟨⟨⟨List.nodup_nil, (fun p hp => nomatch hp), (fun p hp => nomatch hp)⟩, (fun p hp => nomatch hp), (fun f ⟨m, hm, _⟩ => nomatch hm), (fun p hp => nomatch hp)⟩, (fun e he => nomatch he)⟩
  | i + 1, h => by
    rw [lroomN_succ h]
    refine ((room_red hm i (Nat.le_of_succ_le h)).step (hm _ (List.getElem_mem h))).to fun f => ?_
    rw [take_succ' h]
    constructor
    · rintro (⟨m, h1, h2⟩ | rfl)
      · exact ⟨m, List.mem_append.mpr (.inl h1), h2⟩
      · exact ⟨_, List.mem_append.mpr (.inr (List.mem_singleton.mpr rfl)), rfl⟩
    · rintro ⟨m, h1, rfl⟩
      rcases List.mem_append.mp h1 with q | q
      · exact .inl ⟨m, q, rfl⟩
      · rw [List.mem_singleton.mp q]
        exact .inr rfl
/-! ## the told room, sorted -/
theorem pair_of {β : Type} {k : List (Word × β)} (nd : (k.map (·.1)).Nodup) : (srt hdLt k).Pairwise fun a b => wordLt a.1 b.1 = true := by
  have h1 := srt_pw swo_hd k
  have h2 : ((srt hdLt k).map (·.1)).Nodup := ((srt_perm k).map _).nodup_iff.mpr nd
  refine (List.Pairwise.and h1 (List.pairwise_map.mp h2)).imp fun {a b} h => ?_
  rcases stot_word.tri a.1 b.1 with q | q | q
  · exact q
  · exact absurd q h.2
  · have := h.1
    unfold hdLt at this
    rw [this] at q; cases q
theorem dget_perm {k l : Kv} (p : k.Perm l) (nd : NdK k) (x : Word) : valM k x = valM l x := by
  have nl : NdK l := (p.map _).nodup_iff.mp nd
  by_cases h : x ∈ k.map (·.1)
  · obtain ⟨q, hq, rfl⟩ := List.mem_map.mp h
    rw [valM_in nd hq, valM_in nl (p.mem_iff.mp hq)]
  · rw [valM_out h, valM_out fun z => h ((p.map _).mem_iff.mpr z)]
theorem law_mem {mids : List Kv} (e : Word × Kv) : e ∈ lawRoom mids ↔ ∃ q ∈ lroomN mids mids.length, e = (q.1, srt hdLt q.2) := by
  unfold lawRoom
  rw [(srt_perm _).mem_iff, List.mem_map]
  exact ⟨fun ⟨q, hq, h⟩ => ⟨q, hq, h.symm⟩, fun ⟨q, hq, h⟩ => ⟨q, hq, h.symm⟩⟩
theorem NzK.perm {k l : Kv} (h : NzK k) (p : l.Perm k) : NzK l := ⟨(p.map _).nodup_iff.mpr h.nd, fun q hq => h.nz q (p.mem_iff.mp hq)⟩
/-- the law's room is a reduced family, sorted by heads -/
theorem Red.perm {A : Vec → Prop} {R S : Fam} (h : Red A R) (p : S.Perm R) : Red A S where
  d := ⟨(p.map _).nodup_iff.mpr h.d.nd, fun q hq => h.d.one q (p.mem_iff.mp hq), fun q hq r hr => h.d.oth q (p.mem_iff.mp hq) r (p.mem_iff.mp hr)⟩
  sp := fun q hq => h.sp q (p.mem_iff.mp hq)
  ge := fun f a => (h.ge f a).mono fun g ⟨q, hq, e⟩ => ⟨q, p.mem_iff.mpr hq, e⟩
  low := fun q hq => h.low q (p.mem_iff.mp hq)
theorem law_room {mids : List Kv} (hm : ∀ m ∈ mids, NzK m) : LR (fun f => ∃ m ∈ mids, f = valM m) (lawRoom mids) ∧ Srtd (famL (lawRoom mids)) := by
  have h := room_red hm mids.length (Nat.le_refl _)
  rw [List.take_length] at h
  have e : famL ((lroomN mids mids.length).map fun x => (x.1, srt hdLt x.2)) = famL (lroomN mids mids.length) := by
    unfold famL
    rw [List.map_map]
    exact List.map_congr_left fun q hq => Prod.ext rfl (funext fun x => (dget_perm (srt_perm q.2).symm (h.nz q hq).nd x).symm)
  have p : (famL (lawRoom mids)).Perm (famL (lroomN mids mids.length)) := by
    rw [← e]
    exact (srt_perm _).map _
  refine ⟨⟨Red.perm h.red p, fun q hq => ?_⟩, ?_⟩
  · obtain ⟨r, hr, rfl⟩ := (law_mem q).mp hq
    exact (h.nz r hr).perm (srt_perm _)
  · unfold famL Srtd
    refine List.pairwise_map.mpr (pair_of ?_)
    rw [List.map_map]
    exact h.nd
end L2.K3
set_option Elab.async false
set_option linter.all false
set_option maxHeartbeats 2000001
/-! MN: sizes in the law's room. -/
namespace RM
/-! ## bounds -/
theorem pm {a b n m : Nat} (h : a ≤ 2 ^ n) (k : b ≤ 2 ^ m) : a * b ≤ 2 ^ (n + m) := by
  rw [Nat.pow_add]
  exact Nat.mul_le_mul h k
theorem pn {a n m : Nat} (h : a ≤ 2 ^ n) (k : n ≤ m) : a ≤ 2 ^ m := Nat.le_trans h (Nat.pow_le_pow_right (by decide) k)
theorem BD.szp {D N : Nat} (n : Nat) {q : Rat} (h : BD D N q) (hN : N ≤ 2 ^ n) (hD : D ≤ 2 ^ n) (hn : n < 4400) : Sz 4400 q := h.sz (n + 1) (Nat.lt_of_le_of_lt hN (Nat.pow_lt_pow_right (by decide) (Nat.lt_succ_self n))) (Nat.lt_of_le_of_lt hD (Nat.pow_lt_pow_right (by decide) (Nat.lt_succ_self n))) hn
theorem BD.sm {α : Type} {D N : Nat} (hD : 0 < D) {l : List α} {f : α → Rat} (h : ∀ a ∈ l, BD D N (f a)) : BD D (l.length * N) (RM.sm l f) := by
  induction l with
  | nil => rw [sm_nil, List.length_nil, Nat.zero_mul]; exact BD.zero hD
  | cons a l ih =>
    rw [sm_cons, List.length_cons, Nat.succ_mul, Nat.add_comm]
    exact (h a List.mem_cons_self).add (ih fun b hb => h b (List.mem_cons_of_mem _ hb))
theorem BD.over {D N : Nat} {p : Rat} (h : BD D N p) {b : Int} (hb : b ≠ 0) : BD b.natAbs N (p / Rat.divInt b (D : Int)) := by
  obtain ⟨h0, k, h1, rfl⟩ := h
  have hD : (D : Rat) ≠ 0 := natR_ne h0
  have hbr : (b : Rat) ≠ 0 := by exact_mod_cast hb
  have e : Rat.divInt k (D : Int) / Rat.divInt b (D : Int) = (k : Rat) / (b : Rat) := by
    rw [dv, dv]
    grind
  rw [e]
  by_cases s : 0 < b
  · refine ⟨by omega, k, h1, ?_⟩
    rw [show ((b.natAbs : Nat) : Int) = b by omega, Rat.divInt_eq_div]
  · refine ⟨by omega, -k, by omega, ?_⟩
    rw [show ((b.natAbs : Nat) : Int) = -b by omega, Rat.divInt_eq_div, Rat.intCast_neg, Rat.intCast_neg]
    grind
end RM
namespace L2.K3
open RM Sol
/-! ## the law's room -/
def MM : Nat → Nat
  | 0 => 1
  | 1 => 18
  | r + 2 => 36 * (r + 2) * MM (r + 1) ^ 2
theorem MM_le {r : Nat} (h : r ≤ 8) : MM r ≤ 2 ^ 1376 := by
  have : ∀ r : Fin 9, MM r.val ≤ 2 ^ 1376 := by decide +kernel
  exact this ⟨r, by omega⟩
theorem MM_pos : ∀ r, 0 < MM r
  | 0 => by decide
  | 1 => by decide
  | r + 2 => by
    unfold MM
    exact Nat.mul_pos (Nat.mul_pos (by decide) (Nat.succ_pos _)) (Nat.pow_pos (MM_pos (r + 1)))
/-- a bottom and a bound for the whole room -/
structure LZ (d M : Nat) (room : Rm) : Prop where
  p : 0 < d
  l : d ≤ M
  b : ∀ e ∈ room, ∀ x, BD d M (valM e.2 x)
theorem LZ.red {A : Vec → Prop} {d M : Nat} {room : Rm} (z : LZ d M room) (h : LR A room) {row : Kv} (hr : NzK row) (hb : ∀ x, BD 2 18 (valM row x)) {j : Nat} (hj : j ≤ room.length) (x : Word) : BD (2 * d) (18 * (j + 1) * M) (valM (lred room row j) x) := by
  rw [(h.red_val hr j hj).2 x]
  have h1 : BD (2 * d) (18 * M) (valM row x) := ((hb x).scale z.p).mono (Nat.mul_le_mul_left _ z.l)
  have h2 := BD.sm (Nat.mul_pos (by decide) z.p) (D := 2 * d) (N := 18 * M) (l := room.take j) (f := fun e => valM row e.1 * valM e.2 x) fun e he => (hb e.1).mul (z.b e (List.mem_of_mem_take he) x)
  rw [List.length_take, Nat.min_eq_left hj] at h2
  refine (h1.sub h2).mono (Nat.le_of_eq ?_)
  rw [show 18 * (j + 1) = 18 + j * 18 by omega, Nat.add_mul, Nat.mul_assoc]
/-- the new vector -/
theorem LZ.new {D N : Nat} {r : Kv} (hb : ∀ x, BD D N (valM r x)) (hr : NzK r) (h0 : valM r (headOf r) ≠ 0) : ∃ E, 0 < E ∧ E ≤ N ∧ BD E D (loneM r) ∧ ∀ x, BD E N (valM (lnew r) x) := by
  obtain ⟨hD, b, h1, h2⟩ := hb (headOf r)
  have bn : b ≠ 0 := fun z => h0 (by rw [h2, z, Rat.zero_divInt])
  refine ⟨b.natAbs, by omega, h1, ?_, fun x => ?_⟩
  · unfold loneM
    rw [h2]
    refine BD.over ⟨hD, D, by omega, ?_⟩ bn
    rw [dv]
    have := natR_ne hD
    have e : (((D : Nat) : Int) : Rat) = (D : Rat) := Rat.intCast_natCast D
    rw [e]
    grind
  · rw [(new_val hr h0).2, h2]
    exact (hb x).over bn
theorem LZ.step {A : Vec → Prop} {d : Nat} {room : Rm} (z : LZ d (MM room.length) room) (h : LR A room) {row : Kv} (hr : NzK row) (hb : ∀ x, BD 2 18 (valM row x)) : ∃ d2, LZ d2 (MM (lstepM room row).length) (lstepM room row) := by
  obtain ⟨h1, _⟩ := h.red_all hr
  have hz := fun x => z.red h hr hb (Nat.le_refl _) x
  unfold lstepM
  generalize hrr : lred room row room.length = r at h1 hz
  unfold laddM
  by_cases q : r.length = 0
  · rw [if_pos q]
    exact ⟨d, z⟩
  · rw [if_neg q]
    have h0 := head_nz h1 q
    obtain ⟨E, e0, e1, _, e2⟩ := LZ.new hz h1 h0
    have hM := MM_pos room.length
    rw [List.length_append, List.length_map, List.length_singleton]
    cases hl : room.length with
    | zero =>
      have hd : d = 1 := by
        have h5 := z.l
        have h6 := z.p
        rw [hl] at h5
        have : MM 0 = 1 := rfl
        omega
      have hnil : room = [] := List.eq_nil_of_length_eq_zero hl
      rw [hl] at e1 e2
      subst hnil
      refine ⟨E, e0, e1, fun e he => ?_⟩
      rw [List.map_nil, List.nil_append] at he
      rw [List.mem_singleton.mp he]
      exact e2
    | succ k =>
      rw [hl] at e1 e2 hM
      have zl := z.l
      have zb := z.b
      rw [hl] at zl zb
      generalize hMM : MM (k + 1) = M at *
      have eM : MM (k + 1 + 1) = 36 * (k + 2) * M ^ 2 := by
        rw [← hMM] <;> rfl
      rw [eM]
      have a1 : 18 * (k + 1 + 1) * M * M ≤ 36 * (k + 2) * M ^ 2 := by
        rw [Nat.pow_two, ← Nat.mul_assoc]
        exact Nat.mul_le_mul_right _ (Nat.mul_le_mul_right _ (Nat.mul_le_mul_right _ (by decide)))
      have a2 : M * E + M * (18 * (k + 1 + 1) * M) ≤ 36 * (k + 2) * M ^ 2 := by
        have : M * E ≤ M * (18 * (k + 1 + 1) * M) := Nat.mul_le_mul_left _ e1
        have e3 : 36 * (k + 2) * M ^ 2 = M * (18 * (k + 1 + 1) * M) + M * (18 * (k + 1 + 1) * M) := by
          rw [Nat.pow_two, show 36 * (k + 2) = 18 * (k + 1 + 1) + 18 * (k + 1 + 1) by omega, Nat.add_mul, ← Nat.mul_assoc, Nat.mul_comm M (18 * (k + 1 + 1) * M)]
        omega
      refine ⟨d * E, Nat.mul_pos z.p e0, ?_, fun e he x => ?_⟩
      · refine Nat.le_trans (Nat.mul_le_mul zl e1) ?_
        rw [Nat.mul_comm]
        exact a1
      · rcases List.mem_append.mp he with w | w
        · obtain ⟨p, hp, rfl⟩ := List.mem_map.mp w
          have nn := (new_val h1 h0).1
          rw [(up_val (room := room) (r := r) nn.nd (h.nz p hp)).2 x]
          exact (((zb p hp x).scale e0).sub ((zb p hp _).mul (e2 x))).mono a2
        · rw [List.mem_singleton.mp w]
          have := (e2 x).scale z.p
          rw [Nat.mul_comm E d] at this
          refine this.mono (Nat.le_trans (Nat.mul_le_mul_left _ zl) a1)
theorem room_size {mids : List Kv} (hm : ∀ m ∈ mids, NzK m) (hb : ∀ m ∈ mids, ∀ x, BD 2 18 (valM m x)) : ∀ i, i ≤ mids.length → ∃ d, LZ d (MM (lroomN mids i).length) (lroomN mids i)
  | 0, _ => ⟨1, by decide, Nat.le_refl 1, fun e he => nomatch he⟩
  | i + 1, h => by
    obtain ⟨d, z⟩ := room_size hm hb i (Nat.le_of_succ_le h)
    rw [lroomN_succ h]
    exact z.step (room_red hm i (Nat.le_of_succ_le h)) (hm _ (List.getElem_mem h)) (hb _ (List.getElem_mem h))
/-! ## what the walk asks -/
section
variable {c : Int} {parts : Kv}
theorem Good.pre (g : Good c parts) : preMp parts := ⟨by have := g.n; omega, fun p hp => by have := g.len2 hp; omega⟩
theorem Good.nz (g : Good c parts) : ∀ m ∈ midsV (midM parts), NzK m := fun m hm => (g.mid hm).1
theorem Good.ap {parts : Kv} {i : Nat} {f : Vec} (h : ∃ m ∈ (midsV (midM parts)).take i, f = valM m) : AP parts f := by
  obtain ⟨m, hm, e⟩ := h
  exact ⟨m, List.mem_of_mem_take hm, e⟩
theorem Good.roomN (g : Good c parts) {i : Nat} (h : i ≤ (midsV (midM parts)).length) : (lroomN (midsV (midM parts)) i).length ≤ 8 := by
  have r := room_red g.nz i h
  have := g.few r.red.d fun p hp => (r.red.sp p hp).mono fun f => Good.ap
  unfold famL at this
  rw [List.length_map] at this
  exact this
theorem Good.short (g : Good c parts) {k : Kv} (hk : NzK k) (s : Spn (AP parts) (valM k)) : k.length ≤ 12 := Nat.le_trans (hk.len fun x hx => g.out s hx) g.many
/-- sizes of a turn of less -/
theorem pre_less {D N E M n : Nat} {r o : Kv} {h : Word} (hr : NzK r) (ho : NzK o) (h1 : valM r h ≠ 0) (l1 : r.length ≤ 1000) (l2 : o.length ≤ 1000) (b1 : ∀ x, BD D N (valM r x)) (b2 : ∀ x, BD E M (valM o x)) (pD : D ≤ 2 ^ n) (pN : N ≤ 2 ^ n) (pE : E ≤ 2 ^ n) (pM : M ≤ 2 ^ n) (hn : n ≤ 2000) (E0 : 0 < E) : preLs (r, h, o) := by
  have p2 : ∀ x, BD (D * E) (N * M) (valM r h * valM o x) := fun x => (b1 h).mul (b2 x)
  have q1 : D * E ≤ 2 ^ (n + n) := pm pD pE
  have q2 : N * M ≤ 2 ^ (n + n) := pm pN pM
  have q3 : N * E ≤ 2 ^ (n + n) := pm pN pE
  refine ⟨(hr.some h).mpr h1, l1, l2, (b1 h).szp n pN pD (by omega), fun k _ => (b2 k).szp n pM pE (by omega), fun k _ => (p2 k).szp (n + n) q2 q1 (by omega), fun i hi k => ?_⟩
  rw [(lessN_val hr.nd ho.nd (valM r h) i hi).2 k]
  have s1 : BD (D * E) (N * E) (valM r k) := (b1 k).scale E0
  have s2 : BD (D * E) (N * M) (if k ∈ (o.map (·.1)).take i then valM r h * valM o k else 0) := by
    split
    · exact p2 k
    · exact BD.zero (p2 k).1
  refine (s1.sub s2).szp (n + n + 1) ?_ (pn q1 (by omega)) (by omega)
  rw [Nat.pow_succ]
  omega
theorem Good.lr (g : Good c parts) : preLr parts := by
  have hlast := room_red g.nz (midsV (midM parts)).length (Nat.le_refl _)
  refine ⟨g.pre, fun i hi => ?_, fun i hi => ?_, hlast.nd, fun x hx => (hlast.nz x hx).nd⟩
  · have r := room_red g.nz i (Nat.le_of_lt hi)
    obtain ⟨d, z⟩ := room_size g.nz (fun m hm => g.bdm hm) i (Nat.le_of_lt hi)
    have l8 := g.roomN (Nat.le_of_lt hi)
    have hM := MM_le l8
    have hm := List.getElem_mem hi
    generalize (midsV (midM parts))[i] = row at *
    generalize lroomN (midsV (midM parts)) i = room at *
    generalize MM room.length = M at *
    refine ⟨by omega, fun j hj hs => ?_⟩
    obtain ⟨h1, h2⟩ := r.red_val (g.nz row hm) j (Nat.le_of_lt hj)
    have ej := List.getElem_mem hj
    have sv : ∀ e ∈ room, Spn (AP parts) (valM e.2) := fun e he => (r.red.sp (e.1, valM e.2) (mem_famL.mpr ⟨e, he, rfl⟩)).mono fun f => Good.ap
    have sl : Spn (AP parts) (valM (lred room row j)) := by
      have s1 : Spn (AP parts) (valM row) := .mem ⟨row, hm, rfl⟩
      have s2 : Spn (AP parts) fun x => sm (room.take j) fun e => valM row e.1 * valM e.2 x := Spn.sum (l := room.take j) (c := fun e => valM row e.1) (v := fun e => valM e.2) fun e he => sv e (List.mem_of_mem_take he)
      refine (s1.less s2 1).to fun x => ?_
      rw [h2]
      grind
    have b1 := fun x => z.red r (g.nz row hm) (g.bdm hm) (Nat.le_of_lt hj) x
    have k1 := g.short h1 sl
    have k2 := g.short (r.nz _ ej) (sv _ ej)
    have d1 : d ≤ 2 ^ 1376 := Nat.le_trans z.l hM
    refine pre_less (n := 1386) h1 (r.nz _ ej) ((h1.some _).mp hs) (by omega) (by omega) b1 (z.b _ ej) ?_ ?_ (pn d1 (by decide)) (pn hM (by decide)) (by decide) z.p
    · exact pn (pm (show 2 ≤ 2 ^ 1 by decide) d1) (by decide)
    · exact pn (pm (show 18 * (j + 1) ≤ 2 ^ 8 by omega) hM) (by decide)
  · have r := room_red g.nz i (Nat.le_of_lt hi)
    obtain ⟨d, z⟩ := room_size g.nz (fun m hm => g.bdm hm) i (Nat.le_of_lt hi)
    have l8 := g.roomN (Nat.le_of_lt hi)
    have hM := MM_le l8
    have hm := List.getElem_mem hi
    generalize (midsV (midM parts))[i] = row at *
    generalize lroomN (midsV (midM parts)) i = room at *
    generalize MM room.length = M at *
    obtain ⟨h1, h2⟩ := r.red_all (g.nz row hm)
    have b1 := fun x => z.red r (g.nz row hm) (g.bdm hm) (Nat.le_refl _) x
    have sv : ∀ e ∈ room, Spn (AP parts) (valM e.2) := fun e he => (r.red.sp (e.1, valM e.2) (mem_famL.mpr ⟨e, he, rfl⟩)).mono fun f => Good.ap
    have sl : Spn (AP parts) (valM (lred room row room.length)) := by
      have s1 : Spn (AP parts) (valM row) := .mem ⟨row, hm, rfl⟩
      have s2 : Spn (AP parts) (expd (famL room) (valM row)) := Spn.sum (l := famL room) (c := fun p => valM row p.1) (v := fun p => p.2) fun p hp => (r.red.sp p hp).mono fun f => Good.ap
      refine (s1.less s2 1).to fun x => ?_
      rw [h2]
      grind
    generalize lred room row room.length = rr at *
    have d1 : d ≤ 2 ^ 1376 := Nat.le_trans z.l hM
    have pD : 2 * d ≤ 2 ^ 1386 := pn (pm (show 2 ≤ 2 ^ 1 by decide) d1) (by decide)
    have pN : 18 * (room.length + 1) * M ≤ 2 ^ 1386 := pn (pm (show 18 * (room.length + 1) ≤ 2 ^ 8 by omega) hM) (by decide)
    have k1 := g.short h1 sl
    refine ⟨by omega, fun q => head_nz h1 q, fun q => (b1 _).szp 1386 pN pD (by decide), fun q => ?_, fun k _ => (b1 k).szp 1386 pN pD (by decide), fun q e he hs => ?_⟩
    · obtain ⟨E, e0, e1, e2, _⟩ := LZ.new b1 h1 (head_nz h1 q)
      exact e2.szp 1386 pD (Nat.le_trans e1 pN) (by decide)
    · obtain ⟨E, e0, e1, _, e2⟩ := LZ.new b1 h1 (head_nz h1 q)
      obtain ⟨n1, n2⟩ := new_val h1 (head_nz h1 q)
      have k2 := g.short (r.nz e he) (sv e he)
      have k3 := g.short n1 ((Spn.smul (1 / valM rr (headOf rr)) sl).to fun x => by rw [n2]; grind)
      exact pre_less (n := 1386) (r.nz e he) n1 (((r.nz e he).some _).mp hs) (by omega) (by omega) (z.b e he) e2 (pn d1 (by decide)) (pn hM (by decide)) (Nat.le_trans e1 pN) pN (by decide) e0
end
end L2.K3
set_option Elab.async false
set_option linter.all false
set_option maxHeartbeats 2000001
/-! MO: the package's steps of whole numbers: rows as vectors. -/
namespace Sol
open RM L2.K3
theorem getD_map0 {f : Int → Int} (h : f 0 = 0) (row : List Int) (i : Nat) : (row.map f).getD i 0 = f (row.getD i 0) := by
  rw [List.getD_eq_getElem?_getD, List.getD_eq_getElem?_getD, List.getElem?_map]
  cases row[i]? with
  | none => exact h.symm
  | some y => rfl
theorem getD_le {row : List Int} {N : Nat} (h : ∀ x ∈ row, x.natAbs ≤ N) (i : Nat) : (row.getD i 0).natAbs ≤ N := by
  rw [List.getD_eq_getElem?_getD]
  cases e : row[i]? with
  | none => exact Nat.zero_le _
  | some y => exact h y (List.mem_of_getElem? e)
theorem gcdN_dvd (row : List Int) : ∀ x ∈ row, gcdN row ∣ x.natAbs := by
  have : ∀ (l : List Int) (c : Nat), (l.foldl (fun c n => Nat.gcd c n.natAbs) c ∣ c) ∧ ∀ x ∈ l, l.foldl (fun c n => Nat.gcd c n.natAbs) c ∣ x.natAbs := by
    intro l
    induction l with
    | nil => exact fun c => ⟨Nat.dvd_refl c, fun x hx => nomatch hx⟩
    | cons a l ih =>
      intro c
      obtain ⟨h1, h2⟩ := ih (Nat.gcd c a.natAbs)
      refine ⟨Nat.dvd_trans h1 (Nat.gcd_dvd_left _ _), fun x hx => ?_⟩
      rcases List.mem_cons.mp hx with rfl | q
      · exact Nat.dvd_trans h1 (Nat.gcd_dvd_right _ _)
      · exact h2 x q
  exact (this row 0).2
/-- bare: a whole number times it gives the row -/
theorem bare_val (row : List Int) : ∃ g : Int, g ≠ 0 ∧ ∀ i, row.getD i 0 = g * (bareRow row).getD i 0 := by
  unfold bareRow
  by_cases h : 1 < gcdN row
  · rw [if_pos h]
    refine ⟨(gcdN row : Int), by omega, fun i => ?_⟩
    rw [getD_map0 (by rw [Int.zero_fdiv])]
    have hd : ((gcdN row : Nat) : Int) ∣ row.getD i 0 := by
      rw [List.getD_eq_getElem?_getD]
      cases e : row[i]? with
      | none => exact Int.dvd_zero _
      | some y => exact Int.natAbs_dvd_natAbs.mp (gcdN_dvd row y (List.mem_of_getElem? e))
    exact (Int.mul_fdiv_cancel' hd).symm
  · rw [if_neg h]
    exact ⟨1, by decide, fun i => (Int.one_mul _).symm⟩
def Bnd (N : Nat) (row : List Int) : Prop := ∀ x ∈ row, x.natAbs ≤ N
theorem Bnd.mono {N M : Nat} {row : List Int} (h : Bnd N row) (e : N ≤ M) : Bnd M row := fun x hx => Nat.le_trans (h x hx) e
theorem bare_bd {N : Nat} {row : List Int} (h : Bnd N row) : Bnd N (bareRow row) := by
  unfold bareRow
  by_cases q : 1 < gcdN row
  · rw [if_pos q]
    intro x hx
    obtain ⟨y, hy, rfl⟩ := List.mem_map.mp hx
    have hd : ((gcdN row : Nat) : Int) ∣ y := Int.natAbs_dvd_natAbs.mp (gcdN_dvd row y hy)
    have e := Int.mul_fdiv_cancel' hd
    have := congrArg Int.natAbs e
    rw [Int.natAbs_mul, Int.natAbs_natCast] at this
    have h2 := h y hy
    have h3 : (y.fdiv (gcdN row : Int)).natAbs ≤ gcdN row * (y.fdiv (gcdN row : Int)).natAbs := Nat.le_mul_of_pos_left _ (by omega)
    omega
  · rw [if_neg q]
    exact h
theorem headed_val (row : List Int) (p : Nat) : ∃ g : Int, g ≠ 0 ∧ ∀ i, row.getD i 0 = g * (headedM row p).getD i 0 := by
  obtain ⟨g, h1, h2⟩ := bare_val row
  unfold headedM
  by_cases h : 0 < (bareRow row).getD p 0
  · rw [if_pos h]
    exact ⟨g, h1, h2⟩
  · rw [if_neg h]
    refine ⟨-g, by omega, fun i => ?_⟩
    rw [getD_map0 (f := fun n => 0 - n) rfl, h2 i, Int.zero_sub, Int.neg_mul_neg]
theorem headed_bd {N : Nat} {row : List Int} (h : Bnd N row) (p : Nat) : Bnd N (headedM row p) := by
  unfold headedM
  by_cases q : 0 < (bareRow row).getD p 0
  · rw [if_pos q]
    exact bare_bd h
  · rw [if_neg q]
    intro x hx
    obtain ⟨y, hy, rfl⟩ := List.mem_map.mp hx
    have := bare_bd h y hy
    omega
theorem zip_getD {row head : List Int} (h : head.length = row.length) (a b : Int) (i : Nat) : ((row.zip head).map fun x => a * x.1 - b * x.2).getD i 0 = a * row.getD i 0 - b * head.getD i 0 := by
  by_cases hi : i < row.length
  · have h1 : i < ((row.zip head).map fun x => a * x.1 - b * x.2).length := by rw [List.length_map, List.length_zip, h]; omega
    rw [List.getD_eq_getElem?_getD, List.getD_eq_getElem?_getD, List.getD_eq_getElem?_getD, List.getElem?_eq_getElem h1, List.getElem?_eq_getElem hi, List.getElem?_eq_getElem (by omega), List.getElem_map, List.getElem_zip]
    rfl
  · have h1 : ¬ i < ((row.zip head).map fun x => a * x.1 - b * x.2).length := by rw [List.length_map, List.length_zip, h]; omega
    rw [List.getD_eq_getElem?_getD, List.getD_eq_getElem?_getD, List.getD_eq_getElem?_getD, List.getElem?_eq_none (by omega), List.getElem?_eq_none (by omega), List.getElem?_eq_none (by omega)]
    show (0 : Int) = a * 0 - b * 0
    rw [Int.mul_zero, Int.mul_zero]
    rfl
theorem cleared_val {row head : List Int} {p : Nat} (h : head.length = row.length) (hp : head.getD p 0 ≠ 0) : ∃ g a b : Int, g ≠ 0 ∧ a ≠ 0 ∧ (∀ i, g * (clearedM row head p).getD i 0 = a * row.getD i 0 + b * head.getD i 0) ∧ (clearedM row head p).getD p 0 = 0 := by
  unfold clearedM
  by_cases q : row.getD p 0 = 0
  · rw [if_pos q]
    exact ⟨1, 1, 0, by decide, by decide, fun i => by rw [Int.zero_mul, Int.add_zero], q⟩
  · rw [if_neg q]
    obtain ⟨g, h1, h2⟩ := bare_val ((row.zip head).map fun x => head.getD p 0 * x.1 - row.getD p 0 * x.2)
    have h3 : ∀ i, g * (bareRow ((row.zip head).map fun x => head.getD p 0 * x.1 - row.getD p 0 * x.2)).getD i 0 = head.getD p 0 * row.getD i 0 + (-(row.getD p 0)) * head.getD i 0 := fun i => by
      rw [← h2 i, zip_getD h, Int.neg_mul]
      rfl
    refine ⟨g, head.getD p 0, -(row.getD p 0), h1, hp, h3, ?_⟩
    have := h3 p
    rw [Int.neg_mul, Int.mul_comm (head.getD p 0), Int.add_right_neg] at this
    exact (Int.mul_eq_zero.mp this).resolve_left h1
theorem cleared_bd {N : Nat} {row head : List Int} (hN : 0 < N) (h1 : Bnd N row) (h2 : Bnd N head) (p : Nat) : Bnd (2 * N ^ 2) (clearedM row head p) := by
  unfold clearedM
  by_cases q : row.getD p 0 = 0
  · rw [if_pos q]
    refine h1.mono ?_
    have : N * 1 ≤ N * N := Nat.mul_le_mul_left _ hN
    rw [Nat.pow_two]
    omega
  · rw [if_neg q]
    refine bare_bd fun x hx => ?_
    obtain ⟨y, hy, rfl⟩ := List.mem_map.mp hx
    obtain ⟨m1, m2⟩ := List.of_mem_zip (a := y.1) (b := y.2) hy
    have e1 : (head.getD p 0 * y.1).natAbs ≤ N * N := by
      rw [Int.natAbs_mul]
      exact Nat.mul_le_mul (getD_le h2 p) (h1 _ m1)
    have e2 : (row.getD p 0 * y.2).natAbs ≤ N * N := by
      rw [Int.natAbs_mul]
      exact Nat.mul_le_mul (getD_le h1 p) (h2 _ m2)
    rw [Nat.pow_two]
    generalize head.getD p 0 * y.1 = u at *
    generalize row.getD p 0 * y.2 = w at *
    generalize N * N = K at *
    omega
/-! ## rows as vectors -/
def rowV (W : List Word) (row : List Int) : Vec := fun x => ((row.getD (W.idxOf x) 0 : Int) : Rat)
def inR (W : List Word) (rows : Rows) : Vec → Prop := fun g => ∃ r ∈ rows, g = rowV W r
def PP : Nat → Nat
  | 0 => 18
  | r + 1 => 2 * PP r ^ 2
theorem PP_le {r : Nat} (h : r ≤ 8) : PP r < 2 ^ 1400 := by
  have : ∀ r : Fin 9, PP r.val < 2 ^ 1400 := by decide +kernel
  exact this ⟨r, by omega⟩
theorem PP_pos : ∀ r, 0 < PP r
  | 0 => by decide
  | r + 1 => Nat.mul_pos (by decide) (Nat.pow_pos (PP_pos r))
theorem PP_mono (r : Nat) : PP r ≤ PP (r + 1) := by
  show PP r ≤ 2 * PP r ^ 2
  have := PP_pos r
  have h2 : PP r * 1 ≤ PP r * PP r := Nat.mul_le_mul_left _ this
  rw [Nat.pow_two]
  omega
/-- at place k: the rows left, the rows found with their places -/
structure GJ (A : Vec → Prop) (W : List Word) (k : Nat) (left : Rows) (fs : List (Nat × List Int)) : Prop where
  n1 : ∀ r ∈ left, r.length = W.length
  n2 : ∀ q ∈ fs, q.2.length = W.length
  lt : ∀ q ∈ fs, q.1 < k
  kw : k ≤ W.length
  pw : fs.Pairwise fun a b => a.1 < b.1
  pv : ∀ q ∈ fs, q.2.getD q.1 0 ≠ 0
  oth : ∀ q ∈ fs, ∀ t ∈ fs, t.1 ≠ q.1 → q.2.getD t.1 0 = 0
  low : ∀ q ∈ fs, ∀ i, i < q.1 → q.2.getD i 0 = 0
  zl : ∀ r ∈ left, ∀ i, i < k → r.getD i 0 = 0
  s1 : ∀ q ∈ fs, Spn A (rowV W q.2)
  s2 : ∀ r ∈ left, Spn A (rowV W r)
  ge : ∀ f, A f → Spn (inR W (left ++ fs.map (·.2))) f
  b1 : ∀ q ∈ fs, Bnd (PP fs.length) q.2
  b2 : ∀ r ∈ left, Bnd (PP fs.length) r
theorem idx_at {W : List Word} (nd : W.Nodup) {i : Nat} (h : i < W.length) : W.idxOf (W.getD i []) = i := by
  rw [List.getD_eq_getElem?_getD, List.getElem?_eq_getElem h]
  have h2 : W.idxOf W[i] < W.length := List.idxOf_lt_length_of_mem (List.getElem_mem h)
  have e : W[W.idxOf W[i]] = W[i] := List.getElem_idxOf h2
  have pw := List.pairwise_iff_getElem.mp nd
  show W.idxOf W[i] = i
  rcases Nat.lt_trichotomy (W.idxOf W[i]) i with q | q | q
  · exact absurd e (pw _ _ h2 h q)
  · exact q
  · exact absurd e.symm (pw _ _ h h2 q)
theorem rowV_at {W : List Word} (nd : W.Nodup) (row : List Int) {i : Nat} (h : i < W.length) : rowV W row (W.getD i []) = ((row.getD i 0 : Int) : Rat) := by
  unfold rowV
  rw [idx_at nd h]
/-- the rows found as a family -/
def famP (W : List Word) (fs : List (Nat × List Int)) : Fam := fs.map fun q => (W.getD q.1 [], fun x => rowV W q.2 x / ((q.2.getD q.1 0 : Int) : Rat))
theorem mem_famP {W : List Word} {fs : List (Nat × List Int)} {p : Word × Vec} : p ∈ famP W fs ↔ ∃ q ∈ fs, p = (W.getD q.1 [], fun x => rowV W q.2 x / ((q.2.getD q.1 0 : Int) : Rat)) := by
  unfold famP
  rw [List.mem_map]
  exact ⟨fun ⟨e, he, q⟩ => ⟨e, he, q.symm⟩, fun ⟨e, he, q⟩ => ⟨e, he, q.symm⟩⟩
theorem at_lt {W : List Word} (pw : W.Pairwise fun a b => wordLt a b = true) {i j : Nat} (h : i < j) (hj : j < W.length) : wordLt (W.getD i []) (W.getD j []) = true := by
  rw [List.getD_eq_getElem?_getD, List.getD_eq_getElem?_getD, List.getElem?_eq_getElem hj, List.getElem?_eq_getElem (Nat.lt_trans h hj)]
  exact List.pairwise_iff_getElem.mp pw i j _ _ h
theorem GJ.sorted {A : Vec → Prop} {W : List Word} {k : Nat} {left : Rows} {fs : List (Nat × List Int)} (g : GJ A W k left fs) (pw : W.Pairwise fun a b => wordLt a b = true) : Srtd (famP W fs) := by
  unfold famP Srtd
  refine List.pairwise_map.mpr (List.Pairwise.imp_of_mem (fun {a b} ha hb h => ?_) g.pw)
  exact at_lt pw h (Nat.lt_of_lt_of_le (g.lt b hb) g.kw)
theorem GJ.delta {A : Vec → Prop} {W : List Word} {k : Nat} {left : Rows} {fs : List (Nat × List Int)} (g : GJ A W k left fs) (pw : W.Pairwise fun a b => wordLt a b = true) : Delta (famP W fs) ∧ ∀ p ∈ famP W fs, Spn A p.2 := by
  have nd := pw_nd pw
  refine ⟨⟨pw_nd (List.pairwise_map.mpr (g.sorted pw)), fun p hp => ?_, fun p hp r hr ne => ?_⟩, fun p hp => ?_⟩
  · obtain ⟨q, hq, rfl⟩ := mem_famP.mp hp
    show rowV W q.2 (W.getD q.1 []) / _ = 1
    rw [rowV_at nd _ (Nat.lt_of_lt_of_le (g.lt q hq) g.kw)]
    have : ((q.2.getD q.1 0 : Int) : Rat) ≠ 0 := by exact_mod_cast g.pv q hq
    grind
  · obtain ⟨q, hq, rfl⟩ := mem_famP.mp hp
    obtain ⟨t, ht, rfl⟩ := mem_famP.mp hr
    show rowV W q.2 (W.getD t.1 []) / _ = 0
    rw [rowV_at nd _ (Nat.lt_of_lt_of_le (g.lt t ht) g.kw), g.oth q hq t ht fun e => ne (by show W.getD t.1 [] = W.getD q.1 []; rw [e])]
    show ((0 : Int) : Rat) / _ = 0
    have : ((0 : Int) : Rat) = 0 := rfl
    rw [this]
    grind
  · obtain ⟨q, hq, rfl⟩ := mem_famP.mp hp
    exact (Spn.smul (1 / ((q.2.getD q.1 0 : Int) : Rat)) (g.s1 q hq)).to fun x => by grind
/-- c times a row is a sum: so in the spans -/
theorem spn_of {B : Vec → Prop} {W : List Word} {r s t : List Int} {g a b : Int} (hg : g ≠ 0) (e : ∀ i, g * r.getD i 0 = a * s.getD i 0 + b * t.getD i 0) (h1 : Spn B (rowV W s)) (h2 : Spn B (rowV W t)) : Spn B (rowV W r) := by
  have hr : (g : Rat) ≠ 0 := by exact_mod_cast hg
  refine (Spn.smul (1 / (g : Rat)) (Spn.add (Spn.smul (a : Rat) h1) (Spn.smul (b : Rat) h2))).to fun x => ?_
  have := congrArg (fun z : Int => (z : Rat)) (e (W.idxOf x))
  simp only [Rat.intCast_mul, Rat.intCast_add] at this
  unfold rowV
  rw [← this]
  grind
/-- one place more -/
theorem GJ.step {A : Vec → Prop} {W : List Word} {k : Nat} {left : Rows} {fs : List (Nat × List Int)} (g : GJ A W k left fs) (hk : k < W.length) : ∃ fs2 : List (Nat × List Int), (stepM (left, fs.map (·.2)) k).2 = fs2.map (·.2) ∧ GJ A W (k + 1) (stepM (left, fs.map (·.2)) k).1 fs2 := by
  unfold stepM
  cases hf : firstIx left k with
  | none =>
    refine ⟨fs, rfl, g.n1, g.n2, fun q hq => Nat.lt_succ_of_lt (g.lt q hq), hk, g.pw, g.pv, g.oth, g.low, fun r hr i hi => ?_, g.s1, g.s2, g.ge, g.b1, g.b2⟩
    rcases Nat.lt_or_ge i k with q | q
    · exact g.zl r hr i q
    · have e : i = k := by omega
      rw [e]
      have := List.findIdx?_eq_none_iff.mp hf r hr
      simpa using this
  | some i =>
    obtain ⟨hi, hne⟩ := firstIx_some hf
    have hget : left.getD i [] = left[i] := by rw [List.getD_eq_getElem?_getD, List.getElem?_eq_getElem hi] <;> rfl
    rw [hget] at hne
    dsimp only
    rw [hget]
    have hmem := List.getElem_mem hi
    have hsplit : ∀ r ∈ left, r = left[i] ∨ r ∈ left.take i ++ left.drop (i + 1) := fun r hr => by
      rw [← List.take_append_drop i left, List.drop_eq_getElem_cons hi] at hr
      rcases List.mem_append.mp hr with q | q
      · exact .inr (List.mem_append.mpr (.inl q))
      · rcases List.mem_cons.mp q with q | q
        · exact .inl q
        · exact .inr (List.mem_append.mpr (.inr q))
    have hsub : ∀ r ∈ left.take i ++ left.drop (i + 1), r ∈ left := fun r hr => by
      rcases List.mem_append.mp hr with q | q
      · exact List.mem_of_mem_take q
      · exact List.mem_of_mem_drop q
    generalize left[i] = row at *
    obtain ⟨c, c1, c2⟩ := headed_val row k
    have hl : (headedM row k).length = W.length := by rw [headedM_len, g.n1 row hmem]
    have hb := headed_bd (g.b2 row hmem) k
    generalize headedM row k = hd at *
    have hp : hd.getD k 0 ≠ 0 := fun z => hne (by rw [c2, z, Int.mul_zero])
    have hz : ∀ j, j < k → hd.getD j 0 = 0 := fun j hj => by
      have := c2 j
      rw [g.zl row hmem j hj] at this
      exact (Int.mul_eq_zero.mp this.symm).resolve_left c1
    have hs : Spn A (rowV W hd) := spn_of (a := 1) (b := 0) c1 (fun j => by rw [← c2, Int.one_mul, Int.zero_mul, Int.add_zero]) (g.s2 row hmem) (g.s2 row hmem)
    have hlen : ((fs.map fun q => (q.1, clearedM q.2 hd k)) ++ [(k, hd)]).length = fs.length + 1 := by
      rw [List.length_append, List.length_map] <;> rfl
    have hN := PP_pos fs.length
    have cs : ∀ q ∈ (fs.map fun q => (q.1, clearedM q.2 hd k)) ++ [(k, hd)], (∃ p ∈ fs, q = (p.1, clearedM p.2 hd k)) ∨ q = (k, hd) := fun q hq => by
      rcases List.mem_append.mp hq with z | z
      · obtain ⟨p, hp, rfl⟩ := List.mem_map.mp z
        exact .inl ⟨p, hp, rfl⟩
      · exact .inr (List.mem_singleton.mp z)
    have cl2 : ∀ q ∈ fs, ∃ e a b : Int, e ≠ 0 ∧ a ≠ 0 ∧ (∀ i, e * (clearedM q.2 hd k).getD i 0 = a * q.2.getD i 0 + b * hd.getD i 0) ∧ (clearedM q.2 hd k).getD k 0 = 0 := fun q hq => cleared_val (by rw [hl, g.n2 q hq]) hp
    have cl1 : ∀ r ∈ left, ∃ e a b : Int, e ≠ 0 ∧ a ≠ 0 ∧ (∀ i, e * (clearedM r hd k).getD i 0 = a * r.getD i 0 + b * hd.getD i 0) ∧ (clearedM r hd k).getD k 0 = 0 := fun r hr => cleared_val (by rw [hl, g.n1 r hr]) hp
    have below : ∀ q ∈ fs, ∀ j, j < k → ((clearedM q.2 hd k).getD j 0 = 0 ↔ q.2.getD j 0 = 0) := fun q hq j hj => by
      obtain ⟨e, a, b, h1, h2, h3, _⟩ := cl2 q hq
      have := h3 j
      rw [hz j hj, Int.mul_zero, Int.add_zero] at this
      constructor
      · intro z
        rw [z, Int.mul_zero] at this
        exact (Int.mul_eq_zero.mp this.symm).resolve_left h2
      · intro z
        rw [z, Int.mul_zero] at this
        exact (Int.mul_eq_zero.mp this).resolve_left h1
    refine ⟨(fs.map fun q => (q.1, clearedM q.2 hd k)) ++ [(k, hd)], ?_, ?_⟩
    · show ((fs.map (·.2)).map fun r => clearedM r hd k) ++ [hd] = _
      rw [List.map_append, List.map_map, List.map_map] <;> rfl
    show GJ A W (k + 1) ((left.take i ++ left.drop (i + 1)).map fun r => clearedM r hd k) _
    refine ⟨fun r hr => ?_, fun q hq => ?_, fun q hq => ?_, hk, ?_, fun q hq => ?_, fun q hq t ht ne => ?_, fun q hq j hj => ?_, fun r hr j hj => ?_, fun q hq => ?_, fun r hr => ?_, fun f hf => ?_, fun q hq => ?_, fun r hr => ?_⟩
    · obtain ⟨s, hs1, rfl⟩ := List.mem_map.mp hr
      have := g.n1 s (hsub s hs1)
      rw [clearedM_len _ (by rw [hl, this]), this]
    · rcases cs q hq with ⟨p, hp1, rfl⟩ | rfl
      · have := g.n2 p hp1
        show (clearedM p.2 hd k).length = _
        rw [clearedM_len _ (by rw [hl, this]), this]
      · exact hl
    · rcases cs q hq with ⟨p, hp1, rfl⟩ | rfl
      · exact Nat.lt_succ_of_lt (g.lt p hp1)
      · exact Nat.lt_succ_self k
    · refine List.pairwise_append.mpr ⟨List.pairwise_map.mpr g.pw, List.pairwise_singleton _ _, fun a ha b hb => ?_⟩
      obtain ⟨p, hp1, rfl⟩ := List.mem_map.mp ha
      rw [List.mem_singleton.mp hb]
      exact g.lt p hp1
    · rcases cs q hq with ⟨p, hp1, rfl⟩ | rfl
      · exact fun z => g.pv p hp1 ((below p hp1 p.1 (g.lt p hp1)).mp z)
      · exact hp
    · rcases cs q hq with ⟨p, hp1, rfl⟩ | rfl
      · rcases cs t ht with ⟨s, hs1, rfl⟩ | rfl
        · exact (below p hp1 s.1 (g.lt s hs1)).mpr (g.oth p hp1 s hs1 ne)
        · obtain ⟨_, _, _, _, _, _, h4⟩ := cl2 p hp1
          exact h4
      · rcases cs t ht with ⟨s, hs1, rfl⟩ | rfl
        · exact hz s.1 (g.lt s hs1)
        · exact absurd rfl ne
    · rcases cs q hq with ⟨p, hp1, rfl⟩ | rfl
      · have hj' : j < p.1 := hj
        exact (below p hp1 j (Nat.lt_trans hj' (g.lt p hp1))).mpr (g.low p hp1 j hj')
      · exact hz j hj
    · obtain ⟨s, hs1, rfl⟩ := List.mem_map.mp hr
      obtain ⟨e, a, b, h1, h2, h3, h4⟩ := cl1 s (hsub s hs1)
      rcases Nat.lt_or_ge j k with q | q
      · have := h3 j
        rw [g.zl s (hsub s hs1) j q, hz j q, Int.mul_zero, Int.mul_zero, Int.add_zero] at this
        exact (Int.mul_eq_zero.mp this).resolve_left h1
      · have e2 : j = k := by omega
        rw [e2]
        exact h4
    · rcases cs q hq with ⟨p, hp1, rfl⟩ | rfl
      · obtain ⟨e, a, b, h1, h2, h3, h4⟩ := cl2 p hp1
        exact spn_of h1 h3 (g.s1 p hp1) hs
      · exact hs
    · obtain ⟨s, hs1, rfl⟩ := List.mem_map.mp hr
      obtain ⟨e, a, b, h1, h2, h3, h4⟩ := cl1 s (hsub s hs1)
      exact spn_of h1 h3 (g.s2 s (hsub s hs1)) hs
    · have hdm : Spn (inR W (((left.take i ++ left.drop (i + 1)).map fun r => clearedM r hd k) ++ ((fs.map fun q => (q.1, clearedM q.2 hd k)) ++ [(k, hd)]).map (·.2))) (rowV W hd) := .mem ⟨hd, List.mem_append.mpr (.inr (List.mem_map.mpr ⟨(k, hd), List.mem_append.mpr (.inr (List.mem_singleton.mpr rfl)), rfl⟩)), rfl⟩
      refine (g.ge f hf).imp fun u hu => ?_
      obtain ⟨r, hr, rfl⟩ := hu
      have back : ∀ s : List Int, (∃ e a b : Int, e ≠ 0 ∧ a ≠ 0 ∧ (∀ i, e * (clearedM s hd k).getD i 0 = a * s.getD i 0 + b * hd.getD i 0) ∧ (clearedM s hd k).getD k 0 = 0) → (clearedM s hd k ∈ ((left.take i ++ left.drop (i + 1)).map fun r => clearedM r hd k) ++ ((fs.map fun q => (q.1, clearedM q.2 hd k)) ++ [(k, hd)]).map (·.2)) → Spn (inR W (((left.take i ++ left.drop (i + 1)).map fun r => clearedM r hd k) ++ ((fs.map fun q => (q.1, clearedM q.2 hd k)) ++ [(k, hd)]).map (·.2))) (rowV W s) := fun s ⟨e, a, b, h1, h2, h3, _⟩ hm => spn_of (a := e) (b := -b) h2 (fun j => by rw [h3, Int.neg_mul, Int.add_assoc, Int.add_right_neg, Int.add_zero]) (.mem ⟨_, hm, rfl⟩) hdm
      rcases List.mem_append.mp hr with q | q
      · rcases hsplit r q with q1 | q1
        · rw [q1]
          exact spn_of (g := 1) (a := c) (b := 0) (by decide) (fun j => by rw [c2, Int.one_mul, Int.zero_mul, Int.add_zero]) hdm hdm
        · exact back r (cl1 r q) (List.mem_append.mpr (.inl (List.mem_map.mpr ⟨r, q1, rfl⟩)))
      · obtain ⟨p, hp1, rfl⟩ := List.mem_map.mp q
        exact back p.2 (cl2 p hp1) (List.mem_append.mpr (.inr (List.mem_map.mpr ⟨(p.1, clearedM p.2 hd k), List.mem_append.mpr (.inl (List.mem_map.mpr ⟨p, hp1, rfl⟩)), rfl⟩)))
    · rw [hlen]
      rcases cs q hq with ⟨p, hp1, rfl⟩ | rfl
      · exact cleared_bd hN (g.b1 p hp1) hb k
      · exact hb.mono (PP_mono _)
    · rw [hlen]
      obtain ⟨s, hs1, rfl⟩ := List.mem_map.mp hr
      exact cleared_bd hN (g.b2 s (hsub s hs1)) hb k
theorem GJ.all {A : Vec → Prop} {W : List Word} {rows : Rows} (g : GJ A W 0 rows []) : ∀ k, k ≤ W.length → ∃ fs, (stepN rows k).2 = fs.map (·.2) ∧ GJ A W k (stepN rows k).1 fs
  | 0, _ => ⟨[], rfl, g⟩
  | k + 1, h => by
    obtain ⟨fs, e, g1⟩ := g.all k (Nat.le_of_succ_le h)
    have e2 : stepN rows k = ((stepN rows k).1, fs.map (·.2)) := Prod.ext rfl e
    rw [stepN_succ, e2]
    exact g1.step h
/-- at the end: the reduced family -/
theorem GJ.red {A : Vec → Prop} {W : List Word} {left : Rows} {fs : List (Nat × List Int)} (g : GJ A W W.length left fs) (pw : W.Pairwise fun a b => wordLt a b = true) : Red A (famP W fs) := by
  obtain ⟨d, sp⟩ := g.delta pw
  have nd := pw_nd pw
  have out : ∀ row : List Int, row.length = W.length → ∀ x, x ∉ W → rowV W row x = 0 := fun row hl x hx => by
    unfold rowV
    rw [List.idxOf_eq_length hx, List.getD_eq_getElem?_getD, List.getElem?_eq_none (by omega)]
    rfl
  have get : ∀ x ∈ W, W.getD (W.idxOf x) [] = x := fun x hx => by
    have h := List.idxOf_lt_length_of_mem hx
    rw [List.getD_eq_getElem?_getD, List.getElem?_eq_getElem h]
    exact List.getElem_idxOf h
  refine ⟨d, sp, fun f hf => ?_, fun p hp x hx => ?_⟩
  · refine (g.ge f hf).imp fun u hu => ?_
    obtain ⟨r, hr, rfl⟩ := hu
    rcases List.mem_append.mp hr with q | q
    · refine Spn.zero.to fun x => ?_
      by_cases hx : x ∈ W
      · unfold rowV
        rw [g.zl r q _ (List.idxOf_lt_length_of_mem hx)] <;> rfl
      · exact (out r (g.n1 r q) x hx).symm
    · obtain ⟨p, hp, rfl⟩ := List.mem_map.mp q
      have hne : ((p.2.getD p.1 0 : Int) : Rat) ≠ 0 := by exact_mod_cast g.pv p hp
      refine (Spn.smul ((p.2.getD p.1 0 : Int) : Rat) (.mem ⟨_, mem_famP.mpr ⟨p, hp, rfl⟩, rfl⟩)).to fun x => ?_
      dsimp only
      grind
  · obtain ⟨q, hq, rfl⟩ := mem_famP.mp hp
    have : rowV W q.2 x = 0 := by
      by_cases hxw : x ∈ W
      · have hi := List.idxOf_lt_length_of_mem hxw
        have hlt : W.idxOf x < q.1 := by
          rcases Nat.lt_trichotomy (W.idxOf x) q.1 with z | z | z
          · exact z
          · exfalso
            have h1 : wordLt x (W.getD q.1 []) = true := hx
            rw [← z, get x hxw, stot_word.irr] at h1
            cases h1
          · exfalso
            have h1 : wordLt x (W.getD q.1 []) = true := hx
            have h2 := at_lt pw z hi
            rw [get x hxw, stot_word.asym h1] at h2
            cases h2
        unfold rowV
        rw [g.low q hq _ hlt] <;> rfl
      · exact out q.2 (g.n2 q hq) x hxw
    show rowV W q.2 x / _ = 0
    rw [this]
    grind
end Sol
set_option Elab.async false
set_option linter.all false
set_option maxHeartbeats 2000001
/-! MP: the package's room is the reduced family, too. -/
namespace L2.K3
open RM Sol
/-! ## the grid -/
theorem whol_len (xs : List Rat) : (whol xs).length = xs.length := by unfold whol; rw [List.length_map]
theorem whol_val (xs : List Rat) (i : Nat) : (((whol xs).getD i 0 : Int) : Rat) = xs.getD i 0 * (lcms xs : Rat) := by
  by_cases h : i < xs.length
  · rw [List.getD_eq_getElem?_getD, List.getD_eq_getElem?_getD, List.getElem?_eq_getElem h, List.getElem?_eq_getElem (by rw [whol_len]; exact h)]
    exact (over_whol xs).at (by rw [whol_len]; exact h) h
  · have h2 := whol_len xs
    rw [List.getD_eq_getElem?_getD, List.getD_eq_getElem?_getD, List.getElem?_eq_none (l := whol xs) (by omega), List.getElem?_eq_none (l := xs) (by omega)]
    show ((0 : Int) : Rat) = 0 * _
    have : ((0 : Int) : Rat) = 0 := rfl
    rw [this, Rat.zero_mul]
theorem whol_bd {xs : List Rat} (h : ∀ q ∈ xs, BD 2 18 q) : Bnd 18 (whol xs) := fun n hn => by
  obtain ⟨i, hi, rfl⟩ := List.getElem_of_mem hn
  rw [whol_len] at hi
  have e := (over_whol xs).at (by rw [whol_len]; exact hi) hi
  obtain ⟨_, k, h1, h2⟩ := h _ (List.getElem_mem hi)
  have hL : (lcms xs).natAbs ≤ 2 := Nat.le_of_dvd (by decide) (lcms_bd (by decide) h)
  generalize (whol xs)[i]'(by rw [whol_len]; exact hi) = n at e ⊢
  generalize lcms xs = L at *
  rw [h2, dv] at e
  have e2 : ((2 * n : Int) : Rat) = ((k * L : Int) : Rat) := by
    rw [Rat.intCast_mul, Rat.intCast_mul, e]
    have : ((2 : Int) : Rat) = ((2 : Nat) : Rat) := rfl
    rw [this]
    have := natR_ne (show 0 < 2 by decide)
    grind
  have e3 : 2 * n = k * L := by exact_mod_cast e2
  have e4 := congrArg Int.natAbs e3
  rw [Int.natAbs_mul, Int.natAbs_mul] at e4
  have : k.natAbs * L.natAbs ≤ 18 * 2 := Nat.mul_le_mul h1 hL
  have e5 : (2 : Int).natAbs = 2 := rfl
  rw [e5] at e4
  omega
abbrev gridRow (W : List Word) (m : Kv) : List Rat := W.map fun x => (dget m x).getD 0
theorem grid_at {W : List Word} (m : Kv) {x : Word} (h : x ∈ W) : (gridRow W m).getD (W.idxOf x) 0 = valM m x := by
  have hi := List.idxOf_lt_length_of_mem h
  rw [List.getD_eq_getElem?_getD, List.getElem?_map, List.getElem?_eq_getElem hi]
  show (dget m W[W.idxOf x]).getD 0 = _
  rw [List.getElem_idxOf hi] <;> rfl
theorem grid_row {W : List Word} {m : Kv} (hv : ∀ x, x ∉ W → valM m x = 0) (x : Word) : rowV W (whol (gridRow W m)) x = valM m x * (lcms (gridRow W m) : Rat) := by
  unfold rowV
  rw [whol_val]
  by_cases h : x ∈ W
  · rw [grid_at m h]
  · rw [hv x h, List.idxOf_eq_length h, List.getD_eq_getElem?_getD, List.getElem?_eq_none (by rw [List.length_map]; exact Nat.le_refl _)]
    rfl
section
variable {c : Int} {parts : Kv}
abbrev gRows (parts : Kv) : Rows := (gridM (midsV (midM parts))).map whol
theorem mem_rows {r : List Int} : r ∈ gRows parts ↔ ∃ m ∈ midsV (midM parts), r = whol (gridRow (WP parts) m) := by
  show r ∈ ((midsV (midM parts)).map fun m => gridRow (WP parts) m).map whol ↔ _
  rw [List.map_map, List.mem_map]
  exact ⟨fun ⟨m, hm, e⟩ => ⟨m, hm, e.symm⟩, fun ⟨m, hm, e⟩ => ⟨m, hm, e.symm⟩⟩
theorem row_len {r : List Int} (h : r ∈ gRows parts) : r.length = (WP parts).length := by
  obtain ⟨m, _, rfl⟩ := mem_rows.mp h
  rw [whol_len, List.length_map]
theorem Good.gj0 (g : Good c parts) : GJ (AP parts) (WP parts) 0 (gRows parts) [] := by
  have hv : ∀ m ∈ midsV (midM parts), ∀ x, x ∉ WP parts → valM m x = 0 := fun m hm x hx => g.out1 ⟨m, hm, rfl⟩ hx
  have hb : ∀ m ∈ midsV (midM parts), ∀ q ∈ gridRow (WP parts) m, BD 2 18 q := fun m hm q hq => by
    obtain ⟨x, _, rfl⟩ := List.mem_map.mp hq
    exact g.bdm hm x
  refine ⟨fun r hr => row_len hr, (fun q hq => nomatch hq), (fun q hq => nomatch hq), Nat.zero_le _, List.Pairwise.nil, (fun q hq => nomatch hq), (fun q hq => nomatch hq), (fun q hq => nomatch hq), (fun r _ i hi => absurd hi (Nat.not_lt_zero i)), (fun q hq => nomatch hq), fun r hr => ?_, fun f hf => ?_, (fun q hq => nomatch hq), fun r hr => ?_⟩
  · obtain ⟨m, hm, rfl⟩ := mem_rows.mp hr
    exact (Spn.smul (lcms (gridRow (WP parts) m) : Rat) (.mem ⟨m, hm, rfl⟩)).to fun x => by rw [grid_row (hv m hm), Rat.mul_comm]
  · obtain ⟨m, hm, rfl⟩ := hf
    have hn : (lcms (gridRow (WP parts) m) : Rat) ≠ 0 := by exact_mod_cast lcms_ne _
    refine (Spn.smul (1 / (lcms (gridRow (WP parts) m) : Rat)) (.mem ⟨_, List.mem_append.mpr (.inl (mem_rows.mpr ⟨m, hm, rfl⟩)), rfl⟩)).to fun x => ?_
    rw [grid_row (hv m hm)]
    grind
  · obtain ⟨m, hm, rfl⟩ := mem_rows.mp hr
    exact whol_bd (hb m hm)
theorem width_of (parts : Kv) : widthM (gRows parts) = (WP parts).length := by
  unfold widthM
  cases h : gRows parts with
  | nil =>
    have e : midsV (midM parts) = [] := by
      have h1 := congrArg List.length h
      rw [List.length_map] at h1
      unfold gridM at h1
      rw [List.length_map] at h1
      exact List.eq_nil_of_length_eq_zero h1
    show (0 : Nat) = (someM (midsV (midM parts))).length
    rw [e]
    unfold someM
    rw [(srt_perm _).length_eq] <;> rfl
  | cons r l => exact row_len (by rw [h]; exact List.mem_cons_self)
/-- the places and rows found -/
theorem Good.found (g : Good c parts) {k : Nat} (hk : k ≤ (WP parts).length) : ∃ fs, (stepN (gRows parts) k).2 = fs.map (·.2) ∧ GJ (AP parts) (WP parts) k (stepN (gRows parts) k).1 fs ∧ fs.length ≤ 8 := by
  obtain ⟨fs, e, h⟩ := g.gj0.all k hk
  refine ⟨fs, e, h, ?_⟩
  obtain ⟨d, sp⟩ := h.delta (some_pw _)
  have := g.few d sp
  unfold famP at this
  rw [List.length_map] at this
  exact this
theorem bd_sz {N n : Nat} {r : List Int} (h : Bnd N r) (k : N < 2 ^ n) : SzI n r := fun x hx => Nat.lt_of_le_of_lt (h x hx) k
theorem PP_39 {r : Nat} (h : r ≤ 8) : PP r < 2 ^ 3900 := Nat.lt_of_lt_of_le (PP_le h) (Nat.pow_le_pow_right (by decide) (by decide))
theorem head_at {row : List Int} {p : Nat} (hp : p < row.length) (h0 : row.getD p 0 ≠ 0) (hl : ∀ i, i < p → row.getD i 0 = 0) : headM row = p := by
  unfold headM
  have get : ∀ i (h : i < row.length), row.getD i 0 = row[i] := fun i h => by
    rw [List.getD_eq_getElem?_getD, List.getElem?_eq_getElem h] <;> rfl
  rw [List.findIdx_eq hp]
  refine ⟨?_, fun j hj => ?_⟩
  · rw [← get p hp]
    exact decide_eq_true h0
  · rw [← get j (by omega), hl j hj]
    rfl
theorem mids_len (g : Good c parts) : (midsV (midM parts)).length ≤ 243 := by
  have h := (Sm.all (parts := parts) (fun p hp => by have := g.len2 hp; omega) parts.length (Nat.le_refl _)).l
  rw [List.take_length] at h
  have := g.n
  unfold midsV
  rw [List.length_map, (srt_perm _).length_eq, List.length_map]
  omega
theorem Good.fr (g : Good c parts) : preFr parts := by
  have hlen := mids_len g
  have hW := g.many
  have hwd := width_of parts
  refine ⟨g.pre, ⟨fun r hr => ?_, ⟨fun r hr => ?_, ?_, ?_, fun k hk => ?_, fun k hk i hi => ?_⟩, ?_⟩, by omega, fun m hm => ?_⟩
  · obtain ⟨m, hm, rfl⟩ := List.mem_map.mp hr
    refine preW_bd (D := 2) (N := 18) (fun q hq => ?_) (by decide) (by decide) (by decide)
    obtain ⟨x, _, rfl⟩ := List.mem_map.mp hq
    exact g.bdm hm x
  · exact (row_len hr).trans hwd.symm
  · show widthM (gRows parts) ≤ 1000
    rw [hwd]
    omega
  · rw [List.length_map]
    unfold gridM
    rw [List.length_map]
    omega
  · have hk' : k ≤ (WP parts).length := by rw [← hwd]; exact hk
    obtain ⟨fs, e, h, h8⟩ := g.found hk'
    constructor
    · intro r hr
      exact bd_sz (h.b2 r hr) (PP_39 h8)
    · intro r hr
      rw [show stepN (List.map whol (gridM (midsV (midM parts)))) k = stepN (gRows parts) k from rfl, e] at hr
      obtain ⟨q, hq, rfl⟩ := List.mem_map.mp hr
      exact bd_sz (h.b1 q hq) (PP_39 h8)
  · have hk' : k ≤ (WP parts).length := by rw [← hwd]; exact Nat.le_of_lt hk
    obtain ⟨fs, e, h, h8⟩ := g.found hk'
    obtain ⟨hi2, _⟩ := firstIx_some hi
    refine bd_sz (headed_bd (h.b2 _ ?_) k) (PP_39 h8)
    rw [List.getD_eq_getElem?_getD, List.getElem?_eq_getElem hi2]
    exact List.getElem_mem hi2
  · obtain ⟨fs, e, h, h8⟩ := g.found (Nat.le_refl _)
    have e2 : stepsM (gRows parts) = fs.map (·.2) := by
      unfold stepsM
      rw [hwd]
      exact e
    show preTold (stepsM (gRows parts))
    rw [e2]
    refine ⟨by rw [List.length_map]; omega, fun r hr => ?_⟩
    obtain ⟨q, hq, rfl⟩ := List.mem_map.mp hr
    refine ⟨bd_sz (h.b1 q hq) (PP_39 h8), ?_⟩
    have hl : q.1 < q.2.length := by rw [h.n2 q hq]; exact h.lt q hq
    rw [head_at hl (h.pv q hq) (h.low q hq)]
    exact hl
  · have := g.short (g.nz m hm) (.mem ⟨m, hm, rfl⟩)
    omega
/-! ## the told room -/
theorem told_val (row : List Int) (i : Nat) : (toldM row).getD i 0 = ((row.getD i 0 : Int) : Rat) / ((row.getD (headM row) 0 : Int) : Rat) := by
  unfold toldM
  rw [List.getD_eq_getElem?_getD, List.getElem?_map, List.getD_eq_getElem?_getD (l := row) (i := i)]
  cases row[i]? with
  | none =>
    show (0 : Rat) = ((0 : Int) : Rat) / _
    have : ((0 : Int) : Rat) = 0 := rfl
    rw [this]
    grind
  | some y =>
    show Rat.divInt y _ = _
    rw [Rat.divInt_eq_div] <;> rfl
theorem rowD_val {W : List Word} (nd : W.Nodup) {T : List Rat} (hl : T.length = W.length) : NzK (rowD W T) ∧ ∀ x, valM (rowD W T) x = T.getD (W.idxOf x) 0 := by
  have ek : (W.zip T).map (·.1) = W := List.map_fst_zip (by omega)
  have ndf : (((W.zip T).filter fun p => decide (p.2 ≠ 0)).map (·.1)).Nodup := by
    have h1 : (((W.zip T).filter fun p => decide (p.2 ≠ 0)).map (·.1)).Sublist ((W.zip T).map (·.1)) := List.filter_sublist.map _
    rw [ek] at h1
    exact h1.nodup nd
  have e : rowD W T = (W.zip T).filter fun p => decide (p.2 ≠ 0) := dmerge_id ndf
  have nz : NzK (rowD W T) := by
    rw [e]
    exact ⟨ndf, fun p hp => of_decide_eq_true (List.mem_filter.mp hp).2⟩
  refine ⟨nz, fun x => ?_⟩
  by_cases hx : x ∈ W
  · have hi := List.idxOf_lt_length_of_mem hx
    have hT : W.idxOf x < T.length := by omega
    have hg : T.getD (W.idxOf x) 0 = T[W.idxOf x] := by rw [List.getD_eq_getElem?_getD, List.getElem?_eq_getElem hT] <;> rfl
    have hm : (x, T[W.idxOf x]) ∈ W.zip T := by
      have hz : W.idxOf x < (W.zip T).length := by rw [List.length_zip]; omega
      have := List.getElem_mem hz
      rw [List.getElem_zip, List.getElem_idxOf hi] at this
      exact this
    rw [hg]
    by_cases h0 : T[W.idxOf x] = 0
    · rw [h0]
      refine valM_out fun z => ?_
      rw [e] at z
      obtain ⟨p, hp, ep⟩ := List.mem_map.mp z
      obtain ⟨p1, p2⟩ := List.mem_filter.mp hp
      have h3 : p = (x, T[W.idxOf x]) := key_inj (k := (·.1)) (by rw [ek]; exact nd) p1 hm ep
      rw [h3] at p2
      exact of_decide_eq_true p2 h0
    · have : (x, T[W.idxOf x]) ∈ rowD W T := by
        rw [e]
        exact List.mem_filter.mpr ⟨hm, decide_eq_true h0⟩
      exact valM_in nz.nd this
  · rw [List.idxOf_eq_length hx, List.getD_eq_getElem?_getD, List.getElem?_eq_none (by omega)]
    refine valM_out fun z => hx ?_
    rw [e] at z
    obtain ⟨p, hp, rfl⟩ := List.mem_map.mp z
    rw [← ek]
    exact List.mem_map.mpr ⟨p, (List.mem_filter.mp hp).1, rfl⟩
theorem min_is {k : Kv} (hk : NzK k) {h : Word} (h0 : valM k h ≠ 0) (low : ∀ x, wordLt x h = true → valM k x = 0) : minW (k.map (·.1)) = h := by
  have hm := (hk.key h).mpr h0
  have hl : k.length ≠ 0 := fun z => by rw [List.eq_nil_of_length_eq_zero z] at hm; cases hm
  have h1 := minW_le hm
  have h2 : valM k (minW (k.map (·.1))) ≠ 0 := (hk.key _).mp (minW_mem hl)
  rcases stot_word.tri (minW (k.map (·.1))) h with q | q | q
  · exact absurd (low _ q) h2
  · exact q
  · rw [h1] at q; cases q
def famK (rm : Room_) : Fam := rm.map fun k => (minW (k.map (·.1)), valM k)
theorem heads_fam (rm : Room_) : headsM rm = (famK rm).map (·.1) := by
  unfold headsM famK
  rw [List.map_map] <;> rfl
theorem Good.room (g : Good c parts) : Red (AP parts) (famK (roomP parts)) ∧ Srtd (famK (roomP parts)) ∧ ∀ k ∈ roomP parts, NzK k := by
  obtain ⟨fs, e, h, h8⟩ := g.found (Nat.le_refl _)
  have e2 : stepsM (gRows parts) = fs.map (·.2) := by
    unfold stepsM
    rw [width_of]
    exact e
  have e3 : roomP parts = fs.map fun q => rowD (WP parts) (toldM q.2) := by
    show ((stepsM (gRows parts)).map toldM).map (rowD (WP parts)) = _
    rw [e2, List.map_map, List.map_map] <;> rfl
  have nd := some_nd (midsV (midM parts))
  have tl : ∀ q ∈ fs, (toldM q.2).length = (WP parts).length := fun q hq => by
    unfold toldM
    rw [List.length_map, h.n2 q hq]
  have hv : ∀ q ∈ fs, ∀ x, valM (rowD (WP parts) (toldM q.2)) x = rowV (WP parts) q.2 x / ((q.2.getD q.1 0 : Int) : Rat) := fun q hq x => by
    have hl : q.1 < q.2.length := by rw [h.n2 q hq]; exact h.lt q hq
    rw [(rowD_val nd (tl q hq)).2, told_val, head_at hl (h.pv q hq) (h.low q hq)]
    rfl
  have r := h.red (some_pw _)
  have ef : famK (roomP parts) = famP (WP parts) fs := by
    rw [e3]
    unfold famK famP
    rw [List.map_map]
    refine List.map_congr_left fun q hq => ?_
    have hm := (mem_famP (W := WP parts)).mpr ⟨q, hq, rfl⟩
    refine Prod.ext ?_ (funext (hv q hq))
    refine min_is (rowD_val nd (tl q hq)).1 ?_ fun x hx => ?_
    · rw [hv q hq]
      have := r.d.one _ hm
      intro z
      have h1 : (0 : Rat) = 1 := z.symm.trans this
      exact absurd h1 (by decide)
    · rw [hv q hq]
      exact r.low _ hm x hx
  rw [ef]
  refine ⟨r, h.sorted (some_pw _), fun k hk => ?_⟩
  rw [e3] at hk
  obtain ⟨q, hq, rfl⟩ := List.mem_map.mp hk
  exact (rowD_val nd (tl q hq)).1
/-- both rooms are the same family -/
theorem Good.same (g : Good c parts) : famK (roomP parts) = famL (lawRoom (midsV (midM parts))) := by
  obtain ⟨h1, h2, _⟩ := g.room
  obtain ⟨h3, h4⟩ := law_room g.nz
  exact h1.eq h3.red h2 h4
end
end L2.K3
set_option Elab.async false
set_option linter.all false
set_option maxHeartbeats 2000001
/-! MQ: sums over rows of the rooms' vectors: what they are, how great. -/
namespace L2.K3
open RM Sol
/-! ## words over rows -/
/-- a word of at most two letters, powers up to 2 -/
abbrev Wd2 (c : Int) (x : Word) : Prop := x.length ≤ 2 ∧ ∀ y ∈ x, LetD c y
section
variable {c : Int} {p : List (List Rat)} {x : Word}
theorem sml_of (hc : c ≤ 2) (hp : RowsD c 9 p) {l : Letter} (hl : LetD c l) {r : List Rat} (hr : r ∈ p) : SmL (l.zip r) := by
  obtain ⟨h1, h2⟩ := hp.2 r hr
  refine ⟨?_, fun y hy => ?_⟩
  · rw [List.length_zip]
    have := hl.1
    omega
  · obtain ⟨m1, m2⟩ := List.of_mem_zip (a := y.1) (b := y.2) hy
    obtain ⟨a, b⟩ := hl.2 _ m1
    exact ⟨a, b, h2 _ m2⟩
theorem worth_bd (hc : c ≤ 2) (hp : RowsD c 9 p) {l : Letter} (hl : LetD c l) {r : List Rat} (hr : r ∈ p) : BD 64 46656 (worthR l r) := by
  rw [worth_wv]
  exact wv_bd3 (sml_of hc hp hl hr)
theorem la_of (hc : c ≤ 2) (hp : RowsD c 9 p) (hx : Wd2 c x) : preLa (p, x) := ⟨by have h1 := hp.1; show p.length ≤ 9; omega, hx.1, fun l hl r hr => sml_of hc hp (hx.2 l hl) hr⟩
theorem ah_of (hc : c ≤ 2) (hp : RowsD c 9 p) (hx : Wd2 c x) : preAh (p, x) := by
  refine ⟨by have h1 := hp.1; show p.length ≤ 40; omega, by have := hx.1; show x.length ≤ 8; omega, fun l hl r hr => ⟨?_, fun q hq => ?_, fun q hq => ?_⟩, fun l hl => ?_⟩
  · have := (hx.2 l hl).1
    show l.length ≤ 3
    omega
  · have := (hx.2 l hl).2 q hq
    exact ⟨this.1, by omega⟩
  · have hb := (hp.2 r hr).2 q hq
    constructor
    · exact Nat.le_trans (num_le hb) (by decide)
    · show ((q.den : Nat) : Int).natAbs ≤ 2 ^ 16
      rw [Int.natAbs_natCast]
      exact Nat.le_trans (Nat.le_of_dvd (by decide) (den_dvd hb)) (by decide)
  · refine preW_bd (D := 64) (N := 46656) (fun q hq => ?_) (by decide) (by decide) (by decide)
    obtain ⟨r, hr, rfl⟩ := List.mem_map.mp hq
    exact worth_bd hc hp (hx.2 l hl) hr
theorem last_fr (x : Word) (p : List (List Rat)) : lastR (aheadR p x) = Fr x p := ahead_last p x
theorem fr_bd (hc : c ≤ 2) (hp : RowsD c 9 p) (hx : Wd2 c x) : BD 4096 (2 ^ 38) (Fr x p) := by
  have h9 : p.length ≤ 9 := by have h1 := hp.1; omega
  have hW : ∀ ws ∈ (x.map fun letter => p.map (worthR letter)), ws.length = p.length ∧ ∀ q ∈ ws, BD 64 46656 q := fun ws hws => by
    obtain ⟨l, hl, rfl⟩ := List.mem_map.mp hws
    refine ⟨List.length_map _, fun q hq => ?_⟩
    obtain ⟨r, hr, rfl⟩ := List.mem_map.mp hq
    exact worth_bd hc hp (hx.2 l hl) hr
  have h := (aheadF_bd h9 hW (x.map fun letter => p.map (worthR letter)).length (Nat.le_refl _)).1
  rw [List.take_length, List.length_map] at h
  have e : aheadF p.length (x.map fun letter => p.map (worthR letter)) = aheadR p x := rfl
  rw [e] at h
  have hne := ahead_ne p x
  have hm : lastR (aheadR p x) ∈ aheadR p x := by
    unfold lastR
    rw [List.getLastD_eq_getLast?, List.getLast?_eq_some_getLast hne]
    exact List.getLast_mem hne
  have b := h _ hm
  rw [last_fr] at b
  have hl := hx.1
  have hh : x.length = 0 ∨ x.length = 1 ∨ x.length = 2 := by omega
  rcases hh with q | q | q
  · rw [q] at b
    exact (b.scale (E := 4096) (by decide)).mono (by decide)
  · rw [q] at b
    exact (b.scale (E := 64) (by decide)).mono (by decide)
  · rw [q] at b
    exact BD.mono b (by decide)
end
/-! ## sums of a tally over rows -/
theorem rsum_sm (l : List Rat) : rsum l = sm l fun q => q := by
  unfold rsum
  have h := sm_foldl l (fun q : Rat => q) 0
  rw [show l.foldl (fun t a => t + a) 0 = l.foldl (· + ·) 0 from rfl] at h
  rw [h]
  grind
theorem ltalN_sm (p : List (List Rat)) (k : Kv) (i : Nat) : ltalN p k i = sm (k.take i) fun e => Fr e.1 p * e.2 := by
  unfold ltalN
  have h := sm_foldl (k.take i) (fun e : Word × Rat => lastR (aheadR p e.1) * e.2) 0
  rw [h, Rat.zero_add]
  exact sm_congr fun e _ => by rw [last_fr]
/-- within the words -/
theorem ltal_lw {W : List Word} (nd : W.Nodup) {k : Kv} (hk : NzK k) (hv : ∀ x, x ∉ W → valM k x = 0) (p : List (List Rat)) : ltalM p k = Lw W (valM k) p := by
  unfold ltalM
  rw [ltalN_sm, List.take_length]
  have e : (sm k fun e => Fr e.1 p * e.2) = sm (k.map (·.1)) fun x => valM k x * Fr x p := by
    rw [sm_map]
    exact sm_congr fun e he => by rw [valM_in hk.nd he, Rat.mul_comm]
  rw [e]
  refine sm_sub hk.nd nd (fun x hx => ?_) fun x _ hx => ?_
  · exact Classical.byContradiction fun z => (hk.key x).mp hx (hv x z)
  · rw [valM_out hx, Rat.zero_mul]
theorem worthK_lw {W : List Word} (nd : W.Nodup) {k : Kv} (hk : NzK k) (hv : ∀ x, x ∉ W → valM k x = 0) (p : List (List Rat)) : worthK k p = Lw W (valM k) p := by
  unfold worthK
  rw [rsum_sm, sm_map]
  have e : (sm (keysM k) fun x => valM k x * lastR (aheadR p x)) = sm (keysM k) fun x => valM k x * Fr x p := sm_congr fun x _ => by rw [last_fr]
  rw [e]
  have hp : (keysM k).Perm (k.map (·.1)) := srt_perm _
  refine sm_sub (hp.nodup_iff.mpr hk.nd) nd (fun x hx => ?_) fun x _ hx => ?_
  · exact Classical.byContradiction fun z => (hk.key x).mp (hp.mem_iff.mp hx) (hv x z)
  · rw [valM_out fun z => hx (hp.mem_iff.mpr z), Rat.zero_mul]
theorem Lw_bd {c : Int} {W : List Word} (hc : c ≤ 2) (hW : ∀ x ∈ W, Wd2 c x) (hl : W.length ≤ 12) {D N : Nat} (hD : 0 < D) {v : Vec} (hv : ∀ x, BD D N (v x)) {p : List (List Rat)} (hp : RowsD c 9 p) : BD (D * 4096) (12 * (N * 2 ^ 38)) (Lw W v p) := by
  have h := BD.sm (Nat.mul_pos hD (by decide)) (D := D * 4096) (N := N * 2 ^ 38) (l := W) (f := fun x => v x * Fr x p) fun x hx => (hv x).mul (fr_bd hc hp (hW x hx))
  exact h.mono (Nat.mul_le_mul_right _ hl)
section
variable {c : Int} {parts : Kv}
/-- a bottom for the told room -/
theorem Good.size (g : Good c parts) : ∃ d, 0 < d ∧ d ≤ 2 ^ 1376 ∧ ∀ e ∈ famL (lawRoom (midsV (midM parts))), ∀ x, BD d (2 ^ 1376) (e.2 x) := by
  obtain ⟨d, z⟩ := room_size g.nz (fun m hm => g.bdm hm) (midsV (midM parts)).length (Nat.le_refl _)
  have hM := MM_le (g.roomN (Nat.le_refl _))
  have r := room_red g.nz (midsV (midM parts)).length (Nat.le_refl _)
  refine ⟨d, z.p, Nat.le_trans z.l hM, fun e he x => ?_⟩
  obtain ⟨q, hq, rfl⟩ := mem_famL.mp he
  obtain ⟨t, ht, rfl⟩ := (law_mem q).mp hq
  show BD d _ (valM (srt hdLt t.2) x)
  rw [← dget_perm (srt_perm t.2).symm (r.nz t ht).nd x]
  exact (z.b t ht x).mono hM
theorem Good.wd (g : Good c parts) : ∀ x ∈ WP parts, Wd2 c x := fun x hx => g.wlen hx
/-- the family of both rooms -/
abbrev FP (parts : Kv) : Fam := famK (roomP parts)
theorem Good.redP (g : Good c parts) : Red (AP parts) (FP parts) := g.room.1
theorem Good.outP (g : Good c parts) {e : Word × Vec} (he : e ∈ FP parts) {x : Word} (hx : x ∉ WP parts) : e.2 x = 0 := g.out (g.redP.sp e he) hx
theorem Good.headW (g : Good c parts) {e : Word × Vec} (he : e ∈ FP parts) : e.1 ∈ WP parts := Classical.byContradiction fun z => by
  have h1 := g.redP.d.one e he
  rw [g.outP he z] at h1
  exact absurd h1 (by decide)
theorem Good.lenP (g : Good c parts) : (FP parts).length ≤ 8 := g.few g.redP.d g.redP.sp
theorem lenK (parts : Kv) : (FP parts).length = (roomP parts).length := List.length_map _
theorem memK {k : Kv} (h : k ∈ roomP parts) : (minW (k.map (·.1)), valM k) ∈ FP parts := List.mem_map.mpr ⟨k, h, rfl⟩
/-- the worths of the law, by the family -/
theorem Good.wm (g : Good c parts) (p : List (List Rat)) : Wm parts p = (FP parts).map fun e => Lw (WP parts) e.2 p := by
  obtain ⟨h, _⟩ := law_room g.nz
  have e := g.same
  unfold Wm
  show _ = (famK (roomP parts)).map _
  rw [e]
  unfold famL
  rw [List.map_map]
  refine List.map_congr_left fun q hq => ?_
  have hm := mem_famL.mpr ⟨q, hq, rfl⟩
  exact ltal_lw (some_nd _) (h.nz q hq) (fun x hx => g.out (h.red.sp _ hm) hx) p
theorem Good.ke (g : Good c parts) (p : List (List Rat)) : keptM parts p = Wm parts p := by
  rw [g.wm]
  unfold keptM FP famK
  rw [List.map_map]
  refine List.map_congr_left fun k hk => ?_
  exact worthK_lw (some_nd _) (g.room.2.2 k hk) (fun x hx => g.outP (memK hk) hx) p
/-- sizes: of the vectors, of the worths -/
theorem Good.sizeP (g : Good c parts) : ∃ d, 0 < d ∧ d ≤ 2 ^ 1376 ∧ ∀ e ∈ FP parts, ∀ x, BD d (2 ^ 1376) (e.2 x) := by
  have := g.size
  rw [← g.same] at this
  exact this
theorem near_num : 12 * (2 ^ 1376 * 2 ^ 38) ≤ 2 ^ 1418 := by
  have h : (12 : Nat) ≤ 2 ^ 4 := by decide
  exact pn (pm h (pm (Nat.le_refl (2 ^ 1376)) (Nat.le_refl (2 ^ 38)))) (by decide)
theorem Good.near (g : Good c parts) (hc : c ≤ 2) {d : Nat} (d0 : 0 < d) (hd : ∀ e ∈ FP parts, ∀ x, BD d (2 ^ 1376) (e.2 x)) {p : List (List Rat)} (hp : RowsD c 9 p) : ∀ q ∈ Wm parts p, BD (d * 4096) (2 ^ 1418) q := fun q hq => by
  rw [g.wm] at hq
  obtain ⟨e, he, rfl⟩ := List.mem_map.mp hq
  exact (Lw_bd hc g.wd g.many d0 (hd e he) hp).mono near_num
/-! ## the joining -/
/-- of two pieces, by the family -/
def JJ (parts : Kv) (v : Vec) (p q : List (List Rat)) : Rat := sm (FP parts) fun e => sm (FP parts) fun f => v (e.1 ++ f.1) * Lw (WP parts) e.2 p * Lw (WP parts) f.2 q
theorem Good.join (g : Good c parts) {v : Vec} (s : Spn (AP parts) v) (p q : List (List Rat)) : Lw (WP parts) v (p ++ q) = JJ parts v p q := Lw_app g.cl (fun x hx => g.out s hx) (fun y z => g.two g.redP s y z) p q
theorem pick_one {R : Fam} (d : Delta R) {i : Nat} (h : i < R.length) (f : Word × Vec → Rat) : (sm R fun e => if R[i].1 = e.1 then f e else 0) = f R[i] := by
  rw [sm_one d.nd (List.getElem_mem h) fun q _ ne => if_neg fun z => ne z.symm, if_pos rfl]
theorem pick_none {R : Fam} {y : Word} (h : y ∉ R.map (·.1)) (f : Word × Vec → Rat) : (sm R fun e => if y = e.1 then f e else 0) = 0 := sm_zero fun e he => if_neg fun z => h (List.mem_map.mpr ⟨e, he, z.symm⟩)
theorem places_eq {hs : List Word} (nd : hs.Nodup) : placesM hs = hs.zip (upF 0 hs.length) := by
  have hl : (upF 0 hs.length).length = hs.length := by unfold upF; rw [List.length_map, List.length_range]
  have ek : (hs.zip (upF 0 hs.length)).map (·.1) = hs := List.map_fst_zip (by omega)
  have h1 : placesM hs = dmerge (hs.zip (upF 0 hs.length)) := by
    unfold placesM placesN dmerge
    rw [List.take_length]
    have : ∀ (a : List Int) (b : List Word) (acc : List (Word × Int)), (a.zip b).foldl (fun acc p => dput acc p.2 p.1) acc = (b.zip a).foldl (fun acc p => dput acc p.1 p.2) acc := by
      intro a
      induction a with
      | nil => intro b acc; cases b <;> rfl
      | cons x a ih =>
        intro b acc
        cases b with
        | nil => rfl
        | cons y b => exact ih b _
    exact this _ _ _
  rw [h1]
  exact dmerge_id (by rw [ek]; exact nd)
theorem places_at {hs : List Word} (nd : hs.Nodup) {i : Nat} (h : i < hs.length) : dget (placesM hs) hs[i] = some (i : Int) := by
  have hl : (upF 0 hs.length).length = hs.length := by unfold upF; rw [List.length_map, List.length_range]
  have ek : (hs.zip (upF 0 hs.length)).map (·.1) = hs := List.map_fst_zip (by omega)
  rw [places_eq nd]
  refine dget_of (by rw [ek]; exact nd) (i := i) ?_
  rw [List.getElem?_eq_getElem (by rw [List.length_zip]; omega), List.getElem_zip]
  unfold upF
  rw [List.getElem_map, List.getElem_range, Int.zero_add]
theorem places_in {hs : List Word} (nd : hs.Nodup) {y : Word} {i : Int} (h : dget (placesM hs) y = some i) : ∃ j : Nat, ∃ hj : j < hs.length, i = (j : Int) ∧ hs[j] = y := by
  have hl : (upF 0 hs.length).length = hs.length := by unfold upF; rw [List.length_map, List.length_range]
  have ek : (hs.zip (upF 0 hs.length)).map (·.1) = hs := List.map_fst_zip (by omega)
  have hy : y ∈ hs := Classical.byContradiction fun z => by
    rw [places_eq nd, dget_none.mpr (by rw [ek]; exact z)] at h
    cases h
  obtain ⟨j, hj, rfl⟩ := List.getElem_of_mem hy
  rw [places_at nd hj] at h
  cases h
  exact ⟨j, hj, rfl, rfl⟩
def numAt (pl : List (Word × Int)) (near : List Rat) (y : Word) : Rat := match dget pl y with
  | some i => near.getD i.toNat 0
  | none => 0
/-- a head's number, 0 elsewhere -/
theorem place_num {R : Fam} (d : Delta R) (f : Word × Vec → Rat) (y : Word) : numAt (placesM (R.map (·.1))) (R.map f) y = sm R fun e => if y = e.1 then f e else 0 := by
  unfold numAt
  cases h : dget (placesM (R.map (·.1))) y with
  | none =>
    refine (pick_none (fun z => ?_) f).symm
    obtain ⟨j, hj, rfl⟩ := List.getElem_of_mem z
    rw [places_at d.nd hj] at h
    cases h
  | some i =>
    obtain ⟨j, hj, rfl, rfl⟩ := places_in d.nd h
    have hj2 : j < R.length := by rw [List.length_map] at hj; exact hj
    rw [List.getElem_map, pick_one d hj2]
    show (R.map f).getD ((j : Int).toNat) 0 = _
    rw [Int.toNat_natCast, List.getD_eq_getElem?_getD, List.getElem?_eq_getElem (by rw [List.length_map]; exact hj2), List.getElem_map]
    rfl
theorem cut_step (pl : List (Word × Int)) (near far : List Rat) (q : Rat) (x : Word) (tot : Rat) (j : Nat) : cutStep pl near far q x tot j = tot + q * numAt pl near (x.take j) * numAt pl far (x.drop j) := by
  unfold cutStep numAt
  cases dget pl (x.take j) with
  | none => dsimp only; grind
  | some u =>
    cases dget pl (x.drop j) with
    | none => dsimp only; grind
    | some v => rfl
theorem cuts_w (pl : List (Word × Int)) (near far : List Rat) (q : Rat) (x : Word) (tot : Rat) : ∀ n, cutsW pl near far q x tot n = tot + rs n fun j => q * numAt pl near (x.take j) * numAt pl far (x.drop j)
  | 0 => by show tot = tot + 0; grind
  | n + 1 => by
    rw [cutsW_succ, cut_step, cuts_w pl near far q x tot n]
    show _ = tot + (rs n _ + _)
    grind
theorem cuts_m (k : Kv) (pl : List (Word × Int)) (near far : List Rat) (n : Nat) : cutsM k pl near far n = sm ((keysM k).take n) fun x => rs (x.length + 1) fun j => valM k x * numAt pl near (x.take j) * numAt pl far (x.drop j) := by
  unfold cutsM
  have e : (fun (tot : Rat) (x : Word) => cutsW pl near far (valM k x) x tot (x.length + 1)) = fun tot x => tot + rs (x.length + 1) fun j => valM k x * numAt pl near (x.take j) * numAt pl far (x.drop j) := funext fun tot => funext fun x => cuts_w ..
  rw [e, sm_foldl, Rat.zero_add]
theorem Good.numP (g : Good c parts) (p : List (List Rat)) (y : Word) : numAt (placesM (headsM (roomP parts))) (Wm parts p) y = sm (FP parts) fun e => if y = e.1 then Lw (WP parts) e.2 p else 0 := by
  rw [g.wm, heads_fam]
  exact place_num g.redP.d (fun e => Lw (WP parts) e.2 p) y
theorem Good.je (g : Good c parts) (p q : List (List Rat)) : joinedM parts (Wm parts p) (Wm parts q) = Wm parts (p ++ q) := by
  rw [g.wm (p ++ q)]
  unfold joinedM FP famK
  rw [List.map_map]
  refine List.map_congr_left fun k hk => ?_
  show _ = Lw (WP parts) (valM k) (p ++ q)
  have hm := memK hk
  have nz := g.room.2.2 k hk
  have hp : (keysM k).Perm (k.map (·.1)) := srt_perm _
  have ho : ∀ x, x ∉ WP parts → valM k x = 0 := fun x hx => g.outP hm hx
  rw [g.join (g.redP.sp _ hm), cuts_m, List.take_length]
  have e2 : (sm (keysM k) fun x => rs (x.length + 1) fun j => valM k x * numAt (placesM (headsM (roomP parts))) (Wm parts p) (x.take j) * numAt (placesM (headsM (roomP parts))) (Wm parts q) (x.drop j)) = sm (WP parts) fun x => rs (x.length + 1) fun j => valM k x * (sm (FP parts) fun e => if x.take j = e.1 then Lw (WP parts) e.2 p else 0) * (sm (FP parts) fun e => if x.drop j = e.1 then Lw (WP parts) e.2 q else 0) := by
    have e3 : ∀ x, (rs (x.length + 1) fun j => valM k x * numAt (placesM (headsM (roomP parts))) (Wm parts p) (x.take j) * numAt (placesM (headsM (roomP parts))) (Wm parts q) (x.drop j)) = rs (x.length + 1) fun j => valM k x * (sm (FP parts) fun e => if x.take j = e.1 then Lw (WP parts) e.2 p else 0) * (sm (FP parts) fun e => if x.drop j = e.1 then Lw (WP parts) e.2 q else 0) := fun x => rs_congr fun j _ => by rw [g.numP, g.numP]
    rw [sm_congr fun x _ => e3 x]
    refine sm_sub (hp.nodup_iff.mpr nz.nd) (some_nd _) (fun x hx => ?_) fun x _ hx => ?_
    · exact Classical.byContradiction fun z => (nz.key x).mp (hp.mem_iff.mp hx) (ho x z)
    · refine rs_zero fun j _ => ?_
      rw [valM_out fun z => hx (hp.mem_iff.mpr z)]
      grind
  rw [e2]
  exact cuts_heads g.cl (fun e he => g.headW he) ho (fun e => Lw (WP parts) e.2 p) fun e => Lw (WP parts) e.2 q
/-! ### the law's own joining -/
theorem sgn0 {q : Rat} (h : sgn q = 0) : q = 0 := by
  unfold sgn at h
  have h0 : q.num = 0 := by
    rcases Int.lt_trichotomy q.num 0 with z | z | z
    · rw [if_neg (by rw [decide_eq_false (by omega)]; exact Bool.false_ne_true), if_pos (decide_eq_true z)] at h
      omega
    · exact z
    · rw [if_pos (decide_eq_true z), if_neg (by rw [decide_eq_false (by omega)]; exact Bool.false_ne_true)] at h
      omega
  rw [← Rat.num_divInt_den q, h0, Rat.zero_divInt]
theorem mixI_sm (one : Rat) (l : List (Rat × Rat)) (t : Rat) (k : Nat) : mixI one l t k = t + sm (l.take k) fun x => x.1 * one * x.2 := by
  unfold mixI
  have e : (fun (t : Rat) (x : Rat × Rat) => if sgn x.1 = 0 then t else t + x.1 * one * x.2) = fun t x => t + x.1 * one * x.2 := funext fun t => funext fun x => by
    by_cases h : sgn x.1 = 0
    · rw [if_pos h, sgn0 h]
      grind
    · rw [if_neg h]
  rw [e, sm_foldl]
theorem mixR_sm (rows : List (List Rat)) (ns os : List Rat) (j : Nat) : mixR rows ns os j = sm ((rows.zip ns).take j) fun x => sm (x.1.zip os) fun y => y.1 * x.2 * y.2 := by
  unfold mixR
  have e : (fun (t : Rat) (x : List Rat × Rat) => mixI x.2 (x.1.zip os) t (x.1.zip os).length) = fun t x => t + sm (x.1.zip os) fun y => y.1 * x.2 * y.2 := funext fun t => funext fun x => by
    rw [mixI_sm, List.take_length]
  rw [e, sm_foldl, Rat.zero_add]
theorem zmap {α β γ : Type} (f : α → β) (h : α → γ) : ∀ l : List α, (l.map f).zip (l.map h) = l.map fun a => (f a, h a)
  | [] => rfl
  | a :: l => by
    rw [List.map_cons, List.map_cons, List.map_cons, List.zip_cons_cons, zmap f h l]
theorem joining_fam (parts : Kv) : joiningM (roomP parts) = (FP parts).map fun k => (FP parts).map fun e => (FP parts).map fun f => k.2 (e.1 ++ f.1) := by
  unfold joiningM
  rw [heads_fam]
  unfold FP famK
  simp only [List.map_map]
  rfl
theorem Good.me (g : Good c parts) (p q : List (List Rat)) : mixM (joiningM (roomP parts)) (Wm parts p) (Wm parts q) = Wm parts (p ++ q) := by
  rw [joining_fam, g.wm, g.wm, g.wm]
  unfold mixM
  rw [List.map_map]
  refine List.map_congr_left fun k hk => ?_
  show mixR _ _ _ _ = Lw (WP parts) k.2 (p ++ q)
  rw [mixR_sm, List.take_length, zmap, sm_map, g.join (g.redP.sp k hk)]
  refine sm_congr fun e _ => ?_
  dsimp only
  rw [zmap, sm_map]
/-! ### the tally itself -/
theorem Good.nzp (g : Good c parts) (p : List (List Rat)) : ltalM p parts = Lw (WP parts) (valM parts) p := ltal_lw (some_nd _) g.k (fun x hx => g.out g.self hx) p
theorem Good.te (g : Good c parts) (p : List (List Rat)) : worthP parts p = ltalM p parts := by
  unfold worthP ltalM
  rw [rsum_sm, ltalN_sm, List.take_length, sm_map]
  exact sm_congr fun e _ => by rw [last_fr, Rat.mul_comm]
theorem wsum_sm (xs : List (Rat × Rat)) (i : Nat) : wsum xs i = sm (xs.take i) fun x => x.1 * x.2 := by
  unfold wsum
  rw [sm_foldl, Rat.zero_add]
theorem Good.whole (g : Good c parts) : wholeM parts = (FP parts).map fun e => valM parts e.1 := by
  unfold wholeM
  rw [heads_fam, dmerge_id g.k.nd, List.map_map] <;> rfl
theorem Good.we (g : Good c parts) (p : List (List Rat)) : wsum ((wholeM parts).zip (Wm parts p)) ((wholeM parts).zip (Wm parts p)).length = ltalM p parts := by
  rw [wsum_sm, List.take_length, g.whole, g.wm, zmap, sm_map, g.nzp]
  unfold Lw
  have e : ∀ x, valM parts x = sm (FP parts) fun e => valM parts e.1 * e.2 x := fun x => g.redP.d.expd (g.self.imp g.redP.ge) x
  have e2 : (sm (WP parts) fun x => valM parts x * Fr x p) = sm (WP parts) fun x => sm (FP parts) fun e => valM parts e.1 * (e.2 x * Fr x p) := sm_congr fun x _ => by
    conv => lhs; lhs; rw [e x]
    rw [← sm_mulr]
    exact sm_congr fun e _ => by grind
  rw [e2, sm_swap]
  refine sm_congr fun e _ => ?_
  rw [sm_mul]
end
end L2.K3
set_option Elab.async false
set_option linter.all false
set_option maxHeartbeats 2000001
/-! MR: the sizes that the walk asks; all facts. -/
namespace L2.K3
open RM Sol
theorem BD.up {D N E M : Nat} {q : Rat} (h : BD D N q) (k : D * E = M) (e : 0 < E) : BD M (N * E) q := k ▸ h.scale e
section
variable {c : Int} {parts : Kv}
/-! ### worths of a tally -/
theorem pre_lt {n D N : Nat} {k : Kv} {p : List (List Rat)} (hc : c ≤ 2) (hp : RowsD c 9 p) (hw : ∀ e ∈ k, Wd2 c e.1) (hb : ∀ e ∈ k, BD D N e.2) (hl : k.length ≤ 16) (D0 : 0 < D) (pD : D ≤ 2 ^ n) (pN : N ≤ 2 ^ n) (hn : n ≤ 4000) : preLt (k, p) := by
  have hf : ∀ e ∈ k, BD 4096 (2 ^ 38) (lastR (aheadR p e.1)) := fun e he => by
    rw [last_fr]
    exact fr_bd hc hp (hw e he)
  have ht : ∀ e ∈ k, BD (4096 * D) (2 ^ 38 * N) (lastR (aheadR p e.1) * e.2) := fun e he => (hf e he).mul (hb e he)
  have q1 : 4096 * D ≤ 2 ^ (12 + n) := pm (by decide) pD
  have q2 : 2 ^ 38 * N ≤ 2 ^ (38 + n) := pm (Nat.le_refl _) pN
  refine ⟨fun e he => la_of hc hp (hw e he), fun i hi => ?_, fun e he => (hb e he).szp n pN pD (by omega), fun e he => (hf e he).szp 38 (by decide) (by decide) (by decide), fun e he => (ht e he).szp (38 + n) q2 (pn q1 (by omega)) (by omega)⟩
  show Sz 4400 (ltalN p k i)
  rw [ltalN_sm]
  have hs := BD.sm (Nat.mul_pos (by decide) D0) (D := 4096 * D) (N := 2 ^ 38 * N) (l := k.take i) (f := fun e => Fr e.1 p * e.2) fun e he => by
    have := ht e (List.mem_of_mem_take he)
    rw [last_fr] at this
    exact this
  have h4 : (k.take i).length ≤ 2 ^ 4 := by rw [List.length_take]; omega
  exact hs.szp (4 + (38 + n)) (pm h4 q2) (pn q1 (by omega)) (by omega)
theorem Good.wdk (g : Good c parts) {k : Kv} (hk : NzK k) (s : Spn (AP parts) (valM k)) : ∀ x ∈ k.map (·.1), Wd2 c x := fun x hx => g.wd x (Classical.byContradiction fun z => (hk.key x).mp hx (g.out s z))
theorem Good.ltp (g : Good c parts) (hc : c ≤ 2) {p : List (List Rat)} (hp : RowsD c 9 p) : preLt (parts, p) := pre_lt (n := 5) hc hp (fun e he => g.wdk g.k g.self _ (List.mem_map.mpr ⟨e, he, rfl⟩)) (fun e he => g.v e he) (by have := g.n; omega) (by decide) (by decide) (by decide) (by decide)
theorem Good.lt (g : Good c parts) (hc : c ≤ 2) {p : List (List Rat)} (hp : RowsD c 9 p) : ∀ x ∈ lawRoom (midsV (midM parts)), preLt (x.2, p) := fun x hx => by
  obtain ⟨h, _⟩ := law_room g.nz
  obtain ⟨d, d0, d1, hd⟩ := g.size
  have hm := mem_famL.mpr ⟨x, hx, rfl⟩
  have s := h.red.sp _ hm
  have nz := h.nz x hx
  refine pre_lt (n := 1376) hc hp (fun e he => g.wdk nz s _ (List.mem_map.mpr ⟨e, he, rfl⟩)) (fun e he => ?_) (by have := g.short nz s; omega) d0 d1 (Nat.le_refl _) (by decide)
  have := hd _ hm e.1
  rw [show (x.1, valM x.2).2 e.1 = valM x.2 e.1 from rfl, valM_in nz.nd he] at this
  exact this
theorem pre_sum {α : Type} {l : List α} {f : α → Rat} {D N n : Nat} (D0 : 0 < D) (hb : ∀ a ∈ l, BD D N (f a)) (hl : l.length ≤ 16) (pD : D ≤ 2 ^ n) (pN : N ≤ 2 ^ n) (hn : n ≤ 4300) : preSum (l.map f) := by
  constructor
  · intro q hq
    obtain ⟨a, ha, rfl⟩ := List.mem_map.mp hq
    exact (hb a ha).szp n pN pD (by omega)
  · intro i hi
    rw [rsum_sm, ← List.map_take, sm_map]
    have hs := BD.sm D0 (l := l.take i) (f := f) fun a ha => hb a (List.mem_of_mem_take ha)
    have h4 : (l.take i).length ≤ 2 ^ 4 := by rw [List.length_take]; omega
    exact hs.szp (4 + n) (pm h4 pN) (pn pD (by omega)) (by omega)
theorem Good.kn (g : Good c parts) (hc : c ≤ 2) {p : List (List Rat)} (hp : RowsD c 9 p) : ∀ k ∈ roomP parts, preWk k p := fun k hk => by
  obtain ⟨d, d0, d1, hd⟩ := g.sizeP
  have hm := memK hk
  have nz := g.room.2.2 k hk
  have s := g.redP.sp _ hm
  have hpm : (keysM k).Perm (k.map (·.1)) := srt_perm _
  have hw : ∀ x ∈ keysM k, Wd2 c x := fun x hx => g.wdk nz s x (hpm.mem_iff.mp hx)
  have hv : ∀ x, BD d (2 ^ 1376) (valM k x) := fun x => hd _ hm x
  have hf : ∀ x ∈ keysM k, BD 4096 (2 ^ 38) (lastR (aheadR p x)) := fun x hx => by
    rw [last_fr]
    exact fr_bd hc hp (hw x hx)
  have hl : (keysM k).length ≤ 16 := by
    rw [hpm.length_eq, List.length_map]
    have := g.short nz s
    omega
  refine ⟨fun x hx => ⟨ah_of hc hp (hw x hx), (hv x).szp 1376 (Nat.le_refl _) d1 (by decide), (hf x hx).szp 38 (by decide) (by decide) (by decide)⟩, ?_⟩
  exact pre_sum (n := 1414) (Nat.mul_pos d0 (by decide)) (fun x hx => (hv x).mul (hf x hx)) hl (pn (pm d1 (show 4096 ≤ 2 ^ 12 by decide)) (by decide)) (pn (pm (Nat.le_refl (2 ^ 1376)) (Nat.le_refl (2 ^ 38))) (by decide)) (by decide)
theorem Good.tw (g : Good c parts) (hc : c ≤ 2) {p : List (List Rat)} (hp : RowsD c 9 p) : preWt parts p := by
  have hw : ∀ e ∈ parts, Wd2 c e.1 := fun e he => g.wdk g.k g.self _ (List.mem_map.mpr ⟨e, he, rfl⟩)
  have hf : ∀ e ∈ parts, BD 4096 (2 ^ 38) (lastR (aheadR p e.1)) := fun e he => by
    rw [last_fr]
    exact fr_bd hc hp (hw e he)
  refine ⟨fun e he => ⟨ah_of hc hp (hw e he), (g.v e he).szp 5 (by decide) (by decide) (by decide), (hf e he).szp 38 (by decide) (by decide) (by decide)⟩, ?_⟩
  exact pre_sum (n := 43) (D := 2 * 4096) (N := 18 * 2 ^ 38) (by decide) (fun e he => (g.v e he).mul (hf e he)) (by have := g.n; omega) (by decide) (by decide) (by decide)
/-! ### the joining's terms -/
/-- a bottom of three -/
abbrev D3 (d : Nat) : Nat := d * (d * 4096) * (d * 4096)
abbrev N2 : Nat := 2 ^ 1376 * 2 ^ 1418
abbrev N3 : Nat := 2 ^ 1376 * 2 ^ 1418 * 2 ^ 1418
theorem D3_le {d : Nat} (h : d ≤ 2 ^ 1376) : D3 d ≤ 2 ^ 4152 := by
  have h1 : d * 4096 ≤ 2 ^ (1376 + 12) := pm h (by decide)
  exact pn (pm (pm h h1) h1) (by decide)
theorem D2_le {d : Nat} (h : d ≤ 2 ^ 1376) : d * (d * 4096) ≤ 2 ^ 4152 := by
  have h1 : d * 4096 ≤ 2 ^ (1376 + 12) := pm h (by decide)
  exact pn (pm h h1) (by decide)
theorem N3_le : N3 ≤ 2 ^ 4212 := pn (pm (pm (Nat.le_refl (2 ^ 1376)) (Nat.le_refl (2 ^ 1418))) (Nat.le_refl (2 ^ 1418))) (by decide)
theorem N2_le : N2 ≤ 2 ^ 4212 := pn (pm (Nat.le_refl (2 ^ 1376)) (Nat.le_refl (2 ^ 1418))) (by decide)
theorem D3_pos {d : Nat} (h : 0 < d) : 0 < D3 d := Nat.mul_pos (Nat.mul_pos h (Nat.mul_pos h (by decide))) (Nat.mul_pos h (by decide))
/-- up to 64 terms -/
theorem sz3 {d n : Nat} {q : Rat} (d1 : d ≤ 2 ^ 1376) (h : BD (D3 d) (n * N3) q) (hn : n ≤ 64) : Sz 4400 q := h.szp (6 + 4212) (pm (show n ≤ 2 ^ 6 from hn) N3_le) (pn (D3_le d1) (by decide)) (by decide)
theorem getD_bd {D N : Nat} {l : List Rat} (D0 : 0 < D) (h : ∀ q ∈ l, BD D N q) (i : Nat) : BD D N (l.getD i 0) := by
  rw [List.getD_eq_getElem?_getD]
  cases e : l[i]? with
  | none => exact BD.zero D0
  | some q => exact h q (List.mem_of_getElem? e)
theorem numAt_bd {D N : Nat} {l : List Rat} (D0 : 0 < D) (h : ∀ q ∈ l, BD D N q) (pl : List (Word × Int)) (y : Word) : BD D N (numAt pl l y) := by
  unfold numAt
  cases dget pl y with
  | none => exact BD.zero D0
  | some i => exact getD_bd D0 h _
theorem rs_bd {D N : Nat} (D0 : 0 < D) {f : Nat → Rat} (h : ∀ j, BD D N (f j)) : ∀ n, BD D (n * N) (rs n f)
  | 0 => by rw [Nat.zero_mul]; exact BD.zero D0
  | n + 1 => by
    rw [Nat.succ_mul]
    exact (rs_bd D0 h n).add (h n)
theorem Good.wmlen (g : Good c parts) (p : List (List Rat)) : (Wm parts p).length = (roomP parts).length := by
  rw [g.wm, List.length_map, lenK]
theorem Good.ne (g : Good c parts) : NeR (roomP parts) := fun k hk z => by
  have h1 := g.redP.d.one _ (memK hk)
  rw [z] at h1
  exact absurd (show (0 : Rat) = 1 from h1) (by decide)
theorem Good.jo (g : Good c parts) : preJo (roomP parts) := by
  refine ⟨g.ne, fun h hh => ?_⟩
  rw [heads_fam] at hh
  obtain ⟨e, he, rfl⟩ := List.mem_map.mp hh
  have := (g.wd _ (g.headW he)).1
  omega
theorem Good.rlen (g : Good c parts) : (roomP parts).length ≤ 8 := by
  rw [← lenK]
  exact g.lenP
theorem Good.cu (g : Good c parts) (hc : c ≤ 2) {p q : List (List Rat)} (hp : RowsD c 9 p) (hq : RowsD c 9 q) : ∀ k ∈ roomP parts, preCu k (placesM (headsM (roomP parts))) (Wm parts p) (Wm parts q) := fun k hk => by
  obtain ⟨d, d0, d1, hd⟩ := g.sizeP
  have hm := memK hk
  have nz := g.room.2.2 k hk
  have s := g.redP.sp _ hm
  have hpm : (keysM k).Perm (k.map (·.1)) := srt_perm _
  have hw : ∀ x ∈ keysM k, Wd2 c x := fun x hx => g.wdk nz s x (hpm.mem_iff.mp hx)
  have hv : ∀ x, BD d (2 ^ 1376) (valM k x) := fun x => hd _ hm x
  have n1 := g.near hc d0 hd hp
  have n2 := g.near hc d0 hd hq
  have dn0 : 0 < d * 4096 := Nat.mul_pos d0 (by decide)
  have dn1 : d * 4096 ≤ 2 ^ 1418 := pn (pm d1 (show 4096 ≤ 2 ^ 12 by decide)) (by decide)
  have hl : (keysM k).length ≤ 12 := by
    rw [hpm.length_eq, List.length_map]
    exact g.short nz s
  have e0 := D3_pos d0
  have tm : ∀ x j, BD (D3 d) N3 (valM k x * numAt (placesM (headsM (roomP parts))) (Wm parts p) (x.take j) * numAt (placesM (headsM (roomP parts))) (Wm parts q) (x.drop j)) := fun x j => ((hv x).mul (numAt_bd dn0 n1 _ _)).mul (numAt_bd dn0 n2 _ _)
  refine ⟨fun x hx => by have := (hw x hx).1; omega, fun x i hi => ?_, fun i h j hj => ?_, fun x _ => (hv x).szp 1376 (Nat.le_refl _) d1 (by decide), fun y hy => (n1 y hy).szp 1418 (Nat.le_refl _) dn1 (by decide), fun y hy => (n2 y hy).szp 1418 (Nat.le_refl _) dn1 (by decide), fun x _ y hy => ((hv x).mul (n1 y hy)).szp 4212 N2_le (pn (D2_le d1) (by decide)) (by decide), fun x _ y hy z hz => ?_⟩
  · rw [heads_fam] at hi
    obtain ⟨t, ht, rfl, _⟩ := places_in g.redP.d.nd hi
    rw [List.length_map, lenK] at ht
    rw [g.wmlen, g.wmlen, Int.toNat_natCast]
    exact ⟨by omega, ht, ht⟩
  · rw [cuts_w, cuts_m]
    have hx2 := (hw _ (List.getElem_mem h)).1
    have b1 : BD (D3 d) (i * (3 * N3)) (sm ((keysM k).take i) fun x => rs (x.length + 1) fun j => valM k x * numAt (placesM (headsM (roomP parts))) (Wm parts p) (x.take j) * numAt (placesM (headsM (roomP parts))) (Wm parts q) (x.drop j)) := by
      refine (BD.sm e0 (N := 3 * N3) fun x hx => ?_).mono ?_
      · have := (hw x (List.mem_of_mem_take hx)).1
        exact (rs_bd e0 (tm x) (x.length + 1)).mono (Nat.mul_le_mul_right _ (by omega))
      · exact Nat.mul_le_mul_right _ (by rw [List.length_take]; omega)
    have b2 := rs_bd e0 (tm (keysM k)[i]) j
    have b3 := b1.add b2
    rw [← Nat.mul_assoc, ← Nat.add_mul] at b3
    exact sz3 d1 b3 (by omega)
  · exact sz3 (n := 1) d1 ((((hv x).mul (n1 y hy)).mul (n2 z hz)).mono (by rw [Nat.one_mul]; exact Nat.le_refl _)) (by decide)
theorem Good.jd (g : Good c parts) (hc : c ≤ 2) {p q : List (List Rat)} (hp : RowsD c 9 p) (hq : RowsD c 9 q) : JD c parts (Wm parts p) (Wm parts q) := fun b b' xs ys k hx hy => by
  refine ⟨g.fr, g.ne, by have := g.rlen; show (roomP parts).length ≤ 1000; omega, ?_, ?_, fun k hk => ?_⟩
  · have := congrArg List.length hx
    rw [List.length_map, g.wmlen] at this
    exact this
  · have := congrArg List.length hy
    rw [List.length_map, g.wmlen] at this
    exact this
  · show preCu k _ (xs.map numV) (ys.map numV)
    rw [hx, hy]
    exact g.cu hc hp hq k hk
theorem Good.mx (g : Good c parts) (hc : c ≤ 2) {p q : List (List Rat)} (hp : RowsD c 9 p) (hq : RowsD c 9 q) : preMx (joiningM (roomP parts), Wm parts p, Wm parts q) := by
  obtain ⟨d, d0, d1, hd⟩ := g.sizeP
  have n1 := g.near hc d0 hd hp
  have n2 := g.near hc d0 hd hq
  have dn0 : 0 < d * 4096 := Nat.mul_pos d0 (by decide)
  have dn1 : d * 4096 ≤ 2 ^ 1418 := pn (pm d1 (show 4096 ≤ 2 ^ 12 by decide)) (by decide)
  have e0 := D3_pos d0
  have h8 := g.lenP
  have ent : ∀ rows ∈ joiningM (roomP parts), ∀ row ∈ rows, ∀ y ∈ row, BD d (2 ^ 1376) y := fun rows h1 row h2 y h3 => by
    rw [joining_fam] at h1
    obtain ⟨k, hk, rfl⟩ := List.mem_map.mp h1
    obtain ⟨e, he, rfl⟩ := List.mem_map.mp h2
    obtain ⟨f, hf, rfl⟩ := List.mem_map.mp h3
    exact hd k hk _
  have len1 : ∀ rows ∈ joiningM (roomP parts), rows.length ≤ 8 ∧ ∀ row ∈ rows, row.length ≤ 8 := fun rows h1 => by
    rw [joining_fam] at h1
    obtain ⟨k, hk, rfl⟩ := List.mem_map.mp h1
    refine ⟨by rw [List.length_map]; exact h8, fun row h2 => ?_⟩
    obtain ⟨e, he, rfl⟩ := List.mem_map.mp h2
    rw [List.length_map]
    exact h8
  have tm : ∀ rows ∈ joiningM (roomP parts), ∀ x ∈ rows.zip (Wm parts p), ∀ y ∈ x.1.zip (Wm parts q), BD (D3 d) N3 (y.1 * x.2 * y.2) := fun rows hr x hx y hy => by
    obtain ⟨a1, a2⟩ := List.of_mem_zip (a := x.1) (b := x.2) hx
    obtain ⟨b1, b2⟩ := List.of_mem_zip (a := y.1) (b := y.2) hy
    exact ((ent rows hr _ a1 _ b1).mul (n1 _ a2)).mul (n2 _ b2)
  have one : ∀ {x : Rat}, BD (D3 d) N3 x → Sz 4400 x := fun h => sz3 (n := 1) d1 (h.mono (by rw [Nat.one_mul]; exact Nat.le_refl _)) (by decide)
  refine ⟨?_, fun rows hr j hj k hk => ?_, fun rows h1 row h2 y h3 => (ent rows h1 row h2 y h3).szp 1376 (Nat.le_refl _) d1 (by decide), fun y hy => (n1 y hy).szp 1418 (Nat.le_refl _) dn1 (by decide), fun y hy => (n2 y hy).szp 1418 (Nat.le_refl _) dn1 (by decide), fun rows h1 row h2 y h3 z hz => ((ent rows h1 row h2 y h3).mul (n1 z hz)).szp 4212 N2_le (pn (D2_le d1) (by decide)) (by decide), fun rows h1 row h2 y h3 z hz u hu => one (((ent rows h1 row h2 y h3).mul (n1 z hz)).mul (n2 u hu))⟩
  · show (joiningM (roomP parts)).length ≤ 1000
    unfold joiningM
    rw [List.length_map]
    have := g.rlen
    omega
  · show Sz 4400 (mixI _ _ (mixR rows (Wm parts p) (Wm parts q) j) k)
    have hj' : j < (rows.zip (Wm parts p)).length := hj
    have hk' : k ≤ ((rows.zip (Wm parts p))[j].1.zip (Wm parts q)).length := hk
    obtain ⟨l1, l2⟩ := len1 rows hr
    have hxm := List.getElem_mem hj'
    have rl : ∀ x ∈ rows.zip (Wm parts p), (x.1.zip (Wm parts q)).length ≤ 8 := fun x hx => by
      have := l2 _ (List.of_mem_zip (a := x.1) (b := x.2) hx).1
      rw [List.length_zip]
      omega
    have hj8 : j + 1 ≤ 8 := by rw [List.length_zip] at hj'; omega
    rw [mixI_sm, mixR_sm]
    have b1 : BD (D3 d) (j * (8 * N3)) (sm ((rows.zip (Wm parts p)).take j) fun x => sm (x.1.zip (Wm parts q)) fun y => y.1 * x.2 * y.2) := by
      refine (BD.sm e0 (N := 8 * N3) fun x hx => ?_).mono ?_
      · have hx2 := List.mem_of_mem_take hx
        exact (BD.sm e0 fun y hy => tm rows hr x hx2 y hy).mono (Nat.mul_le_mul_right _ (rl x hx2))
      · exact Nat.mul_le_mul_right _ (by rw [List.length_take]; omega)
    have b2 : BD (D3 d) (8 * N3) (sm (((rows.zip (Wm parts p))[j].1.zip (Wm parts q)).take k) fun y => y.1 * (rows.zip (Wm parts p))[j].2 * y.2) := by
      refine (BD.sm e0 (N := N3) fun y hy => tm rows hr _ hxm y (List.mem_of_mem_take hy)).mono ?_
      have := rl _ hxm
      exact Nat.mul_le_mul_right _ (by rw [List.length_take]; omega)
    have b3 := b1.add b2
    rw [← Nat.mul_assoc, ← Nat.add_mul] at b3
    exact sz3 d1 b3 (by omega)
theorem Good.ws (g : Good c parts) (hc : c ≤ 2) {p : List (List Rat)} (hp : RowsD c 9 p) : preWs ((wholeM parts).zip (Wm parts p)) := by
  obtain ⟨d, d0, d1, hd⟩ := g.sizeP
  have n1 := g.near hc d0 hd hp
  have dn0 : 0 < d * 4096 := Nat.mul_pos d0 (by decide)
  have dn1 : d * 4096 ≤ 2 ^ 1418 := pn (pm d1 (show 4096 ≤ 2 ^ 12 by decide)) (by decide)
  have hw : ∀ y ∈ wholeM parts, BD 2 18 y := fun y hy => by
    rw [g.whole] at hy
    obtain ⟨e, he, rfl⟩ := List.mem_map.mp hy
    exact g.bd _
  have hl : ((wholeM parts).zip (Wm parts p)).length ≤ 8 := by
    rw [List.length_zip, g.wmlen]
    have := g.rlen
    omega
  have tm : ∀ x ∈ (wholeM parts).zip (Wm parts p), BD 2 18 x.1 ∧ BD (d * 4096) (2 ^ 1418) x.2 := fun x hx => by
    obtain ⟨a1, a2⟩ := List.of_mem_zip (a := x.1) (b := x.2) hx
    exact ⟨hw _ a1, n1 _ a2⟩
  have q1 : 2 * (d * 4096) ≤ 2 ^ 1430 := pn (pm (show 2 ≤ 2 ^ 1 by decide) dn1) (by decide)
  have q2 : 18 * 2 ^ 1418 ≤ 2 ^ 1430 := pn (pm (show 18 ≤ 2 ^ 5 by decide) (Nat.le_refl (2 ^ 1418))) (by decide)
  refine ⟨fun x hx => ⟨(tm x hx).1.szp 5 (by decide) (by decide) (by decide), (tm x hx).2.szp 1418 (Nat.le_refl _) dn1 (by decide), ((tm x hx).1.mul (tm x hx).2).szp 1430 q2 q1 (by decide)⟩, fun i hi => ?_⟩
  rw [wsum_sm]
  have hs := BD.sm (Nat.mul_pos (by decide) dn0) (l := ((wholeM parts).zip (Wm parts p)).take i) (f := fun x => x.1 * x.2) fun x hx => (tm x (List.mem_of_mem_take hx)).1.mul (tm x (List.mem_of_mem_take hx)).2
  have h3 : (((wholeM parts).zip (Wm parts p)).take i).length ≤ 2 ^ 3 := by rw [List.length_take]; omega
  exact hs.szp (3 + 1430) (pm h3 q2) (pn q1 (by decide)) (by decide)
theorem Good.y (g : Good c parts) (hc : 0 ≤ c ∧ c ≤ 2) : preY (c, parts) := by
  refine ⟨⟨hc.1, by have := hc.2; show c ≤ 3; omega⟩, ⟨preW_bd (D := 2) (N := 18) (fun q hq => ?_) (by decide) (by decide) (by decide), by have := g.n; show parts.length ≤ 400; omega⟩, fun e he => ?_⟩
  · obtain ⟨e, he, rfl⟩ := List.mem_map.mp hq
    exact g.v e he
  · have h := g.w e he
    refine ⟨by have := g.len2 he; omega, fun l hl => ⟨(h.2 l hl).1, fun y hy => ?_⟩⟩
    have := (h.2 l hl).2 y hy
    omega
/-- all that the walk asks -/
theorem facts_of (hc0 : 0 ≤ c) (hc : c ≤ 2) (h : PartsD c 3 2 parts) : Facts c parts := by
  have g := good_of h
  exact {
    y := g.y ⟨hc0, hc⟩
    j := join_same g.st g.k
    lr := g.lr
    fr := g.fr
    ne := g.ne
    jo := g.jo
    rl := by
      have h1 := congrArg List.length g.same
      have h2 := g.lenP
      unfold famL at h1
      rw [List.length_map (f := fun e : Word × Kv => (e.1, valM e.2))] at h1
      have h3 : (famK (roomP parts)).length ≤ 8 := h2
      omega
    lt := fun p hp => g.lt hc hp
    ltp := fun p hp => g.ltp hc hp
    kn := fun p hp => g.kn hc hp
    ke := fun p _ => g.ke p
    jd := fun p q hp hq _ => g.jd hc hp hq
    je := fun p q _ _ _ => g.je p q
    mx := fun p q hp hq _ => g.mx hc hp hq
    me := fun p q _ _ _ => g.me p q
    ws := fun p hp => g.ws hc hp
    we := fun p _ => g.we p
    tw := fun p hp => g.tw hc hp
    te := fun p _ => g.te p }
end
end L2.K3
set_option Elab.async false
set_option linter.all false
set_option maxRecDepth 100000
set_option maxHeartbeats 0
/-! HdB: the facts of the top, put to the walks. -/
namespace HdF
open PySem PySem.Spec PyProof.Rows L2 L2.K3 He
abbrev CRr (K : PySem.W.Frag) : Addr := ga K "Ratio"
abbrev CTt (K : PySem.W.Frag) : Addr := ga K "Table"
abbrev CYy (K : PySem.W.Frag) : Addr := ga K "Tally"
theorem isS {α : Type} {o : Option α} (h : o.isSome = true) : ∃ x, o = some x := Option.isSome_iff_exists.mp h
theorem tx {K : PySem.W.Frag} {h : Heap} {mg : Str → Option Value} (X : K.In h) (G : h.Ns mainGlobals mg) (c : Says K) : Tx K mg (CRr K) (CTt K) (CYy K) where
  frN := fun x hx => by
    simp only [freeN, List.mem_cons, List.not_mem_nil, or_false] at hx
    rcases hx with rfl | rfl | rfl | rfl | rfl | rfl | rfl | rfl
    · exact free_ok X G (c.fact 72 (f := .free "isinstance") rfl)
    · exact free_ok X G (c.fact 73 (f := .free "int") rfl)
    · exact free_ok X G (c.fact 74 (f := .free "bool") rfl)
    · exact free_ok X G (c.fact 75 (f := .free "list") rfl)
    · exact free_ok X G (c.fact 76 (f := .free "tuple") rfl)
    · exact free_ok X G (c.fact 77 (f := .free "range") rfl)
    · exact free_ok X G (c.fact 78 (f := .free "len") rfl)
    · exact free_ok X G (c.fact 79 (f := .free "zip") rfl)
  frM := fun x hx => by
    simp only [freeM, List.mem_cons, List.not_mem_nil, or_false] at hx
    rcases hx with rfl | rfl | rfl | rfl | rfl | rfl | rfl | rfl
    · exact free_ok X G (c.fact 80 (f := .free "enumerate") rfl)
    · exact free_ok X G (c.fact 81 (f := .free "sorted") rfl)
    · exact free_ok X G (c.fact 82 (f := .free "dict") rfl)
    · exact free_ok X G (c.fact 83 (f := .free "min") rfl)
    · exact free_ok X G (c.fact 84 (f := .free "max") rfl)
    · exact free_ok X G (c.fact 85 (f := .free "abs") rfl)
    · exact free_ok X G (c.fact 86 (f := .free "divmod") rfl)
    · exact free_ok X G (c.fact 87 (f := .free "all") rfl)
  gcd := PySem.W.mg_of X G (eqO_ok (c.more 0 rfl))
  lcm := PySem.W.mg_of X G (eqO_ok (c.more 1 rfl))
  n3 := int_ok X G (c.fact 88 (f := .int "MOST_COLUMNS" 3) rfl)
  n40 := int_ok X G (c.fact 89 (f := .int "MOST_ROWS" 40) rfl)
  n8p := int_ok X G (c.fact 90 (f := .int "MOST_POWER" 8) rfl)
  n8l := int_ok X G (c.fact 91 (f := .int "MOST_LETTERS" 8) rfl)
  n400 := int_ok X G (c.fact 92 (f := .int "MOST_PARTS" 400) rfl)
  gR := glo_ok X G (c.fact 69 (f := .glo "Ratio") rfl)
  gT := glo_ok X G (c.fact 70 (f := .glo "Table") rfl)
  gY := glo_ok X G (c.fact 71 (f := .glo "Tally") rfl)
  R := ⟨cls_ok (c.fact 93 (f := .cls "Ratio") rfl), eqO_ok (c.more 2 rfl), of_decide_eq_true (c.more 3 rfl)⟩
  T := ⟨cls_ok (c.fact 95 (f := .cls "Table") rfl), eqO_ok (c.more 4 rfl), of_decide_eq_true (c.more 5 rfl)⟩
  Y := ⟨cls_ok (c.fact 97 (f := .cls "Tally") rfl), eqO_ok (c.more 6 rfl), of_decide_eq_true (c.more 7 rfl)⟩
  ig := eqO_ok (c.more 8 rfl)
  it := of_decide_eq_true (c.more 9 rfl)
  Rt := noat_ok (c.fact 99 (f := .noat "Ratio" "own_top") rfl)
  Rb := noat_ok (c.fact 100 (f := .noat "Ratio" "own_bottom") rfl)
  Tc := noat_ok (c.fact 101 (f := .noat "Table" "own_columns") rfl)
  Tr := noat_ok (c.fact 102 (f := .noat "Table" "own_rows") rfl)
  Yc := noat_ok (c.fact 103 (f := .noat "Tally" "own_columns") rfl)
  Yp := noat_ok (c.fact 104 (f := .noat "Tally" "own_parts") rfl)
  Yk := noat_ok (c.fact 105 (f := .noat "Tally" "own_kept") rfl)
  kRI := of_decide_eq_true (c.more 10 rfl)
  kIR := of_decide_eq_true (c.more 11 rfl)
  Rf := c.more 12 rfl
  Rn := eqO_ok (c.more 13 rfl)
  Ra := ⟨_, eqO_ok (c.more 14 rfl)⟩
  ia := isS (c.more 15 rfl)
  ir := isS (c.more 16 rfl)
  iR := of_decide_eq_true (c.more 17 rfl)

/-- all parameters by keywords, the last first -/
theorem kwB2 {K : PySem.W.Frag} {x qual : Str} {params : Arguments} {body : List Stmt} {scope : Scope} {f : Addr} {fd : FuncData} {ps : List Str} (F : FunD K x qual params body scope [] [] f fd)
    (h : ∀ (kV doc pm : Value) (an : Option Addr) (cdv ct : Value) (us : List Value), us.length = ps.length → bindArgs (PySem.W.fnOf x qual params body scope .none kV doc pm an cdv ct) ⟨[], ps.reverse.zip us⟩ = pure (ps.zip us.reverse)) (s : Shared) (us : List Value) (_ : K.In s.heap) (hl : us.length = ps.length) : BindsTo s fd ⟨[], ps.reverse.zip us⟩ (ps.zip us.reverse) := by
  obtain ⟨oc, od, dV, kV, doc, pm, an, cdv, ct, osl, rfl, lk, hcd, hD, hK⟩ := F.ex
  rcases hD with ⟨_, rfl⟩ | ⟨e, _⟩
  · exact .of_eq (h kV doc pm an cdv ct us hl)
  · exact absurd rfl e
section
variable {P : Program} {w : World} {K : PySem.W.Frag} {mg : Str → Option Value} {base : Heap}

/-- the law's def, its function object told -/
theorem fn_law {f : Addr} {fd : FuncData} {CR CT CY : Addr} (Fd : FnP K "law" (top 103) f fd) (T : Tx K mg CR CT CY) (c1 : Cal P w K mg base "_law_pot" 1 ["_law_script", "_law_k"] [] (sp_pot K)) (c2 : Cal P w K mg base "_law_right" 10 ["_law_pot_here"] [] sp_right) : FnOk P w K mg base CX0 11 f fd ["_law_script"] (sp_law K) := by
  refine fn_mk Fd sc_law (fun _ => rfl) fun cdv A outer s H E ns F hr hp ce => ?_
  refine g_retGA c2 hr (ga_valK (ev_callN c1 (hr.mono (by decide)) ns (eva_cons (ev_name 0 rfl) (eva_one ev_int)) trivial) fun k hk => ga_nil ⟨k, trivial, rfl, nd_one, fun q hq => hq, fun F v h => h⟩)
theorem facts {h : Heap} {f : Addr} (X : K.In h) (G : h.Ns mainGlobals mg) (hfa : mg ("law" : Str) = some (.ref f)) (c : Says K) :
    ∃ fd : FuncData, (∀ (s : Shared) (v : Value), BindsTo s fd ⟨[v], []⟩ [("_law_script", v)]) ∧ ∀ base : Heap, FnOk P w K mg base CX0 11 f fd ["_law_script"] (sp_law K) := by
  have T := tx X G c
  obtain ⟨fd_is_integer, F_is_integer⟩ := c.def_ 0 (d := dP "is_integer" 17) rfl
  have g_is_integer := glo_ok X G (c.fact 0 (f := .glo "is_integer") rfl)
  obtain ⟨fd_is_count, F_is_count⟩ := c.def_ 1 (d := dP "is_count" 18) rfl
  have g_is_count := glo_ok X G (c.fact 1 (f := .glo "is_count") rfl)
  obtain ⟨fd_divisor_of, F_divisor_of⟩ := c.def_ 2 (d := dP "divisor_of" 24) rfl
  have g_divisor_of := glo_ok X G (c.fact 2 (f := .glo "divisor_of") rfl)
  obtain ⟨fd_told_pair, F_told_pair⟩ := c.def_ 3 (d := dP "told_pair" 26) rfl
  have g_told_pair := glo_ok X G (c.fact 3 (f := .glo "told_pair") rfl)
  obtain ⟨fd_is_number, F_is_number⟩ := c.def_ 4 (d := dP "is_number" 27) rfl
  have g_is_number := glo_ok X G (c.fact 4 (f := .glo "is_number") rfl)
  obtain ⟨fd_ratio_of, F_ratio_of⟩ := c.def_ 5 (d := dP "ratio_of" 28) rfl
  have g_ratio_of := glo_ok X G (c.fact 5 (f := .glo "ratio_of") rfl)
  obtain ⟨fd_total_of, F_total_of⟩ := c.def_ 6 (d := dP "total_of" 31) rfl
  have g_total_of := glo_ok X G (c.fact 6 (f := .glo "total_of") rfl)
  obtain ⟨fd_wholes, F_wholes⟩ := c.def_ 7 (d := dP "wholes" 30) rfl
  have g_wholes := glo_ok X G (c.fact 7 (f := .glo "wholes") rfl)
  obtain ⟨fd_ints_of, F_ints_of⟩ := c.def_ 8 (d := dP "ints_of" 33) rfl
  have g_ints_of := glo_ok X G (c.fact 8 (f := .glo "ints_of") rfl)
  obtain ⟨fd_bare_row, F_bare_row⟩ := c.def_ 9 (d := dP "bare_row" 34) rfl
  have g_bare_row := glo_ok X G (c.fact 9 (f := .glo "bare_row") rfl)
  obtain ⟨fd_cleared, F_cleared⟩ := c.def_ 10 (d := dP "cleared" 35) rfl
  have g_cleared := glo_ok X G (c.fact 10 (f := .glo "cleared") rfl)
  obtain ⟨fd_first_at, F_first_at⟩ := c.def_ 11 (d := dP "first_at" 36) rfl
  have g_first_at := glo_ok X G (c.fact 11 (f := .glo "first_at") rfl)
  obtain ⟨fd_headed_row, F_headed_row⟩ := c.def_ 12 (d := dP "headed_row" 37) rfl
  have g_headed_row := glo_ok X G (c.fact 12 (f := .glo "headed_row") rfl)
  obtain ⟨fd_int_steps, F_int_steps⟩ := c.def_ 13 (d := dP "int_steps" 38) rfl
  have g_int_steps := glo_ok X G (c.fact 13 (f := .glo "int_steps") rfl)
  obtain ⟨fd_head_of, F_head_of⟩ := c.def_ 14 (d := dP "head_of" 39) rfl
  have g_head_of := glo_ok X G (c.fact 14 (f := .glo "head_of") rfl)
  obtain ⟨fd_told_rows, F_told_rows⟩ := c.def_ 15 (d := dP "told_rows" 40) rfl
  have g_told_rows := glo_ok X G (c.fact 15 (f := .glo "told_rows") rfl)
  obtain ⟨fd_steps_of, F_steps_of⟩ := c.def_ 16 (d := dP "steps_of" 41) rfl
  have g_steps_of := glo_ok X G (c.fact 16 (f := .glo "steps_of") rfl)
  obtain ⟨fd_is_list, F_is_list⟩ := c.def_ 17 (d := dP "is_list" 19) rfl
  have g_is_list := glo_ok X G (c.fact 17 (f := .glo "is_list") rfl)
  obtain ⟨fd_want_at_most, F_want_at_most⟩ := c.def_ 18 (d := dP "want_at_most" 20) rfl
  have g_want_at_most := glo_ok X G (c.fact 18 (f := .glo "want_at_most") rfl)
  obtain ⟨fd_want_columns, F_want_columns⟩ := c.def_ 19 (d := dP "want_columns" 45) rfl
  have g_want_columns := glo_ok X G (c.fact 19 (f := .glo "want_columns") rfl)
  obtain ⟨fd_want_like, F_want_like⟩ := c.def_ 20 (d := dP "want_like" 51) rfl
  have g_want_like := glo_ok X G (c.fact 20 (f := .glo "want_like") rfl)
  obtain ⟨fd_is_row, F_is_row⟩ := c.def_ 21 (d := dP "is_row" 46) rfl
  have g_is_row := glo_ok X G (c.fact 21 (f := .glo "is_row") rfl)
  obtain ⟨fd_told_row, F_told_row⟩ := c.def_ 22 (d := dP "told_row" 47) rfl
  have g_told_row := glo_ok X G (c.fact 22 (f := .glo "told_row") rfl)
  obtain ⟨fd_table_of, F_table_of⟩ := c.def_ 23 (d := dP "table_of" 49) rfl
  have g_table_of := glo_ok X G (c.fact 23 (f := .glo "table_of") rfl)
  obtain ⟨fd_want_table, F_want_table⟩ := c.def_ 24 (d := dP "want_table" 50) rfl
  have g_want_table := glo_ok X G (c.fact 24 (f := .glo "want_table") rfl)
  obtain ⟨fd_joined, F_joined⟩ := c.def_ 25 (d := dP "joined" 52) rfl
  have g_joined := glo_ok X G (c.fact 25 (f := .glo "joined") rfl)
  obtain ⟨fd_is_letter_of, F_is_letter_of⟩ := c.def_ 26 (d := dP "is_letter_of" 56) rfl
  have g_is_letter_of := glo_ok X G (c.fact 26 (f := .glo "is_letter_of") rfl)
  obtain ⟨fd_is_word_of, F_is_word_of⟩ := c.def_ 27 (d := dP "is_word_of" 57) rfl
  have g_is_word_of := glo_ok X G (c.fact 27 (f := .glo "is_word_of") rfl)
  obtain ⟨fd_worth_at, F_worth_at⟩ := c.def_ 28 (d := dP "worth_at" 58) rfl
  have g_worth_at := glo_ok X G (c.fact 28 (f := .glo "worth_at") rfl)
  obtain ⟨fd_worths_at, F_worths_at⟩ := c.def_ 29 (d := dP "worths_at" 59) rfl
  have g_worths_at := glo_ok X G (c.fact 29 (f := .glo "worths_at") rfl)
  obtain ⟨fd_ahead_sums, F_ahead_sums⟩ := c.def_ 30 (d := dP "ahead_sums" 60) rfl
  have g_ahead_sums := glo_ok X G (c.fact 30 (f := .glo "ahead_sums") rfl)
  obtain ⟨fd_put_more, F_put_more⟩ := c.def_ 31 (d := dP "put_more" 63) rfl
  have g_put_more := glo_ok X G (c.fact 31 (f := .glo "put_more") rfl)
  obtain ⟨fd_sums_told, F_sums_told⟩ := c.def_ 32 (d := dP "sums_told" 64) rfl
  have g_sums_told := glo_ok X G (c.fact 32 (f := .glo "sums_told") rfl)
  obtain ⟨fd_parts_joined, F_parts_joined⟩ := c.def_ 33 (d := dP "parts_joined" 65) rfl
  have g_parts_joined := glo_ok X G (c.fact 33 (f := .glo "parts_joined") rfl)
  obtain ⟨fd_is_word_part, F_is_word_part⟩ := c.def_ 34 (d := dP "is_word_part" 66) rfl
  have g_is_word_part := glo_ok X G (c.fact 34 (f := .glo "is_word_part") rfl)
  obtain ⟨fd_want_tally, F_want_tally⟩ := c.def_ 35 (d := dP "want_tally" 68) rfl
  have g_want_tally := glo_ok X G (c.fact 35 (f := .glo "want_tally") rfl)
  obtain ⟨fd_worth_of_tally, F_worth_of_tally⟩ := c.def_ 36 (d := dP "worth_of_tally" 69) rfl
  have g_worth_of_tally := glo_ok X G (c.fact 36 (f := .glo "worth_of_tally") rfl)
  obtain ⟨fd_tally_worth, F_tally_worth⟩ := c.def_ 37 (d := dP "tally_worth" 70) rfl
  have g_tally_worth := glo_ok X G (c.fact 37 (f := .glo "tally_worth") rfl)
  obtain ⟨fd_middle_parts, F_middle_parts⟩ := c.def_ 38 (d := dP "middle_parts" 72) rfl
  have g_middle_parts := glo_ok X G (c.fact 38 (f := .glo "middle_parts") rfl)
  obtain ⟨fd_found_room, F_found_room⟩ := c.def_ 39 (d := dP "found_room" 73) rfl
  have g_found_room := glo_ok X G (c.fact 39 (f := .glo "found_room") rfl)
  obtain ⟨fd_room_of, F_room_of⟩ := c.def_ 40 (d := dP "room_of" 74) rfl
  have g_room_of := glo_ok X G (c.fact 40 (f := .glo "room_of") rfl)
  obtain ⟨fd_heads_of, F_heads_of⟩ := c.def_ 41 (d := dP "heads_of" 75) rfl
  have g_heads_of := glo_ok X G (c.fact 41 (f := .glo "heads_of") rfl)
  obtain ⟨fd_worth_over, F_worth_over⟩ := c.def_ 42 (d := dP "worth_over" 76) rfl
  have g_worth_over := glo_ok X G (c.fact 42 (f := .glo "worth_over") rfl)
  obtain ⟨fd_joining_of, F_joining_of⟩ := c.def_ 43 (d := dP "joining_of" 77) rfl
  have g_joining_of := glo_ok X G (c.fact 43 (f := .glo "joining_of") rfl)
  obtain ⟨fd_joining, F_joining⟩ := c.def_ 44 (d := dP "joining" 78) rfl
  have g_joining := glo_ok X G (c.fact 44 (f := .glo "joining") rfl)
  obtain ⟨fd_whole_numbers, F_whole_numbers⟩ := c.def_ 45 (d := dP "whole_numbers" 79) rfl
  have g_whole_numbers := glo_ok X G (c.fact 45 (f := .glo "whole_numbers") rfl)
  obtain ⟨fd_kept_numbers, F_kept_numbers⟩ := c.def_ 46 (d := dP "kept_numbers" 80) rfl
  have g_kept_numbers := glo_ok X G (c.fact 46 (f := .glo "kept_numbers") rfl)
  obtain ⟨fd_want_kept, F_want_kept⟩ := c.def_ 47 (d := dP "want_kept" 81) rfl
  have g_want_kept := glo_ok X G (c.fact 47 (f := .glo "want_kept") rfl)
  obtain ⟨fd_joined_by_cuts, F_joined_by_cuts⟩ := c.def_ 48 (d := dP "joined_by_cuts" 82) rfl
  have g_joined_by_cuts := glo_ok X G (c.fact 48 (f := .glo "joined_by_cuts") rfl)
  obtain ⟨fd_joined_numbers, F_joined_numbers⟩ := c.def_ 49 (d := dP "joined_numbers" 83) rfl
  have g_joined_numbers := glo_ok X G (c.fact 49 (f := .glo "joined_numbers") rfl)
  obtain ⟨fd__law_pot, F__law_pot⟩ := c.def_ 50 (d := dP "_law_pot" 85) rfl
  have g__law_pot := glo_ok X G (c.fact 50 (f := .glo "_law_pot") rfl)
  obtain ⟨fd__law_draw, F__law_draw⟩ := c.def_ 51 (d := dP "_law_draw" 86) rfl
  have g__law_draw := glo_ok X G (c.fact 51 (f := .glo "_law_draw") rfl)
  obtain ⟨fd__law_pick, F__law_pick⟩ := c.def_ 52 (d := dP "_law_pick" 87) rfl
  have g__law_pick := glo_ok X G (c.fact 52 (f := .glo "_law_pick") rfl)
  obtain ⟨fd__law_letter, F__law_letter⟩ := c.def_ 53 (d := dP "_law_letter" 91) rfl
  have g__law_letter := glo_ok X G (c.fact 53 (f := .glo "_law_letter") rfl)
  obtain ⟨fd__law_word, F__law_word⟩ := c.def_ 54 (d := dP "_law_word" 92) rfl
  have g__law_word := glo_ok X G (c.fact 54 (f := .glo "_law_word") rfl)
  obtain ⟨fd__law_number, F__law_number⟩ := c.def_ 55 (d := dP "_law_number" 93) rfl
  have g__law_number := glo_ok X G (c.fact 55 (f := .glo "_law_number") rfl)
  obtain ⟨fd__law_joined, F__law_joined⟩ := c.def_ 56 (d := dP "_law_joined" 94) rfl
  have g__law_joined := glo_ok X G (c.fact 56 (f := .glo "_law_joined") rfl)
  obtain ⟨fd__law_parts, F__law_parts⟩ := c.def_ 57 (d := dP "_law_parts" 95) rfl
  have g__law_parts := glo_ok X G (c.fact 57 (f := .glo "_law_parts") rfl)
  obtain ⟨fd__law_row, F__law_row⟩ := c.def_ 58 (d := dP "_law_row" 96) rfl
  have g__law_row := glo_ok X G (c.fact 58 (f := .glo "_law_row") rfl)
  obtain ⟨fd__law_rows, F__law_rows⟩ := c.def_ 59 (d := dP "_law_rows" 97) rfl
  have g__law_rows := glo_ok X G (c.fact 59 (f := .glo "_law_rows") rfl)
  obtain ⟨fd__law_worth, F__law_worth⟩ := c.def_ 60 (d := dP "_law_worth" 88) rfl
  have g__law_worth := glo_ok X G (c.fact 60 (f := .glo "_law_worth") rfl)
  obtain ⟨fd__law_ahead, F__law_ahead⟩ := c.def_ 61 (d := dP "_law_ahead" 89) rfl
  have g__law_ahead := glo_ok X G (c.fact 61 (f := .glo "_law_ahead") rfl)
  obtain ⟨fd__law_tally, F__law_tally⟩ := c.def_ 62 (d := dP "_law_tally" 90) rfl
  have g__law_tally := glo_ok X G (c.fact 62 (f := .glo "_law_tally") rfl)
  obtain ⟨fd__law_mixed, F__law_mixed⟩ := c.def_ 63 (d := dP "_law_mixed" 101) rfl
  have g__law_mixed := glo_ok X G (c.fact 63 (f := .glo "_law_mixed") rfl)
  obtain ⟨fd__law_middle, F__law_middle⟩ := c.def_ 64 (d := dP "_law_middle" 98) rfl
  have g__law_middle := glo_ok X G (c.fact 64 (f := .glo "_law_middle") rfl)
  obtain ⟨fd__law_less, F__law_less⟩ := c.def_ 65 (d := dP "_law_less" 99) rfl
  have g__law_less := glo_ok X G (c.fact 65 (f := .glo "_law_less") rfl)
  obtain ⟨fd__law_room, F__law_room⟩ := c.def_ 66 (d := dP "_law_room" 100) rfl
  have g__law_room := glo_ok X G (c.fact 66 (f := .glo "_law_room") rfl)
  obtain ⟨fd__law_right, F__law_right⟩ := c.def_ 67 (d := dP "_law_right" 102) rfl
  have g__law_right := glo_ok X G (c.fact 67 (f := .glo "_law_right") rfl)
  obtain ⟨fd_law, F_law⟩ := c.def_ 68 (d := dP "law" 103) rfl
  have g_law := glo_ok X G (c.fact 68 (f := .glo "law") rfl)
  obtain ⟨fd_Ratio_init, F_Ratio_init⟩ := c.def_ 69 (d := dM "Ratio" "__init__" "Ratio.__init__" (sR 0) [.int 1]) rfl
  obtain ⟨fd_Table_init, F_Table_init⟩ := c.def_ 70 (d := dM "Table" "__init__" "Table.__init__" (sT 0) []) rfl
  obtain ⟨fd_Tally_init, F_Tally_init⟩ := c.def_ 71 (d := dM "Tally" "__init__" "Tally.__init__" (sY 0) []) rfl
  obtain ⟨fd_R_add, F_R_add⟩ := c.def_ 72 (d := dM "Ratio" "__add__" "Ratio.__add__" (sR 6) []) rfl
  obtain ⟨fd_R_sub, F_R_sub⟩ := c.def_ 73 (d := dM "Ratio" "__sub__" "Ratio.__sub__" (sR 8) []) rfl
  obtain ⟨fd_R_mul, F_R_mul⟩ := c.def_ 74 (d := dM "Ratio" "__mul__" "Ratio.__mul__" (sR 10) []) rfl
  obtain ⟨fd_R_over, F_R_over⟩ := c.def_ 75 (d := dM "Ratio" "over" "Ratio.over" (sR 13) []) rfl
  obtain ⟨fd_R_eq, F_R_eq⟩ := c.def_ 76 (d := dM "Ratio" "__eq__" "Ratio.__eq__" (sR 17) []) rfl
  obtain ⟨fd_R_sign, F_R_sign⟩ := c.def_ 77 (d := dG "Ratio" "sign" "Ratio.sign" (sR 3)) rfl
  obtain ⟨fd_R_is_whole, F_R_is_whole⟩ := c.def_ 78 (d := dG "Ratio" "is_whole" "Ratio.is_whole" (sR 4)) rfl
  obtain ⟨fd_R_top, F_R_top⟩ := c.def_ 79 (d := dG "Ratio" "top" "Ratio.top" (sR 1)) rfl
  have e := hfa.symm.trans g_law
  cases e
  have b := FunD.bindsA (ps := ["_law_script"]) F_law fun _ _ _ _ _ _ us hl => match us, hl with | [_], _ => rfl
  refine ⟨fd_law, fun s v => b s [v] rfl, fun base => ?_⟩
  have k_is_integer := ok_is_integer (P := P) (w := w) (base := base) F_is_integer g_is_integer T
  have k_is_count := ok_is_count (P := P) (w := w) (base := base) F_is_count g_is_count T k_is_integer
  have k_divisor_of := ok_divisor_of (P := P) (w := w) (base := base) F_divisor_of g_divisor_of T
  have k_told_pair := ok_told_pair (P := P) (w := w) (base := base) F_told_pair g_told_pair T k_is_integer
  obtain ⟨ds1, hv1, hb1⟩ := FunD.binds1 (ps := ["self", "top", "bottom"]) F_Ratio_init 2 0 (List.cons_ne_nil _ _) rfl fun T kV doc pm an cdv ct us its hl hi => match us, hl, its, hi with | [_, _], _, [_], _ => ⟨_, rfl, rfl⟩
  obtain ⟨ds2, hv2, hb2⟩ := FunD.binds1 (ps := ["self", "top", "bottom"]) F_Ratio_init 3 1 (List.cons_ne_nil _ _) rfl fun T kV doc pm an cdv ct us its hl hi => match us, hl, its, hi with | [_, _, _], _, [_], _ => ⟨_, rfl, rfl⟩
  have kRo := ok_Ratio (P := P) (w := w) (base := base) F_Ratio_init T k_is_integer k_divisor_of
  have kR1 : CalR1 P w K mg base (CRr K) := ⟨_, _, ds1, kRo, T.gR, mkr_ok (c.fact 94 (f := .mkr "Ratio") rfl), hb1, hv1⟩
  have kR2 : CalR2 P w K mg base (CRr K) := ⟨_, _, ds2, kRo, T.gR, mkr_ok (c.fact 94 (f := .mkr "Ratio") rfl), hb2, hv2⟩
  have m_add := meth_ok (c.fact 106 (f := .meth "Ratio" "__add__") rfl)
  have kAdd : CalB P w K mg base (CRr K) "__add__" (· + ·) := ⟨_, _, ok_radd (P := P) (w := w) (base := base) F_R_add T k_told_pair kR2, m_add.1, m_add.2, m_add.3, F_R_add.bindsN fun _ _ _ _ _ _ us hl => match us, hl with | [_, _], _ => rfl⟩
  have m_sub := meth_ok (c.fact 107 (f := .meth "Ratio" "__sub__") rfl)
  have kSub : CalB P w K mg base (CRr K) "__sub__" (· - ·) := ⟨_, _, ok_rsub (P := P) (w := w) (base := base) F_R_sub T k_told_pair kR2, m_sub.1, m_sub.2, m_sub.3, F_R_sub.bindsN fun _ _ _ _ _ _ us hl => match us, hl with | [_, _], _ => rfl⟩
  have m_mul := meth_ok (c.fact 108 (f := .meth "Ratio" "__mul__") rfl)
  have kMul : CalB P w K mg base (CRr K) "__mul__" (· * ·) := ⟨_, _, ok_rmul (P := P) (w := w) (base := base) F_R_mul T k_told_pair kR2, m_mul.1, m_mul.2, m_mul.3, F_R_mul.bindsN fun _ _ _ _ _ _ us hl => match us, hl with | [_, _], _ => rfl⟩
  have m_over := meth_ok (c.fact 109 (f := .meth "Ratio" "over") rfl)
  have kOver : CalM P w K mg base (CRr K) "over" 4 ["self", "other"] (sp_over (CRr K)) := ⟨_, _, ok_rover (P := P) (w := w) (base := base) F_R_over T k_told_pair kR2, m_over.1, m_over.2, m_over.3, F_R_over.bindsN fun _ _ _ _ _ _ us hl => match us, hl with | [_, _], _ => rfl⟩
  have m_eq := meth_ok (c.fact 110 (f := .meth "Ratio" "__eq__") rfl)
  have kE : CalE P w K mg base (CRr K) := ⟨_, _, ok_req (P := P) (w := w) (base := base) F_R_eq T, m_eq.1, m_eq.2, m_eq.3, F_R_eq.bindsN fun _ _ _ _ _ _ us hl => match us, hl with | [_, _], _ => rfl⟩
  have kSign : CalPr P w K mg base (CRr K) "sign" 1 (sp_sign (CRr K)) := ⟨_, _, _, ⟨eqO_ok (c.more 18 rfl), eqO_ok (c.more 19 rfl), of_decide_eq_true (c.more 20 rfl), isPg_ok (c.more 21 rfl)⟩, ok_rsign (P := P) (w := w) (base := base) F_R_sign T, F_R_sign.bindsN fun _ _ _ _ _ _ us hl => match us, hl with | [_], _ => rfl⟩
  have kWh : CalPr P w K mg base (CRr K) "is_whole" 1 (sp_whole (CRr K)) := ⟨_, _, _, ⟨eqO_ok (c.more 22 rfl), eqO_ok (c.more 23 rfl), of_decide_eq_true (c.more 24 rfl), isPg_ok (c.more 25 rfl)⟩, ok_rwhole (P := P) (w := w) (base := base) F_R_is_whole T, F_R_is_whole.bindsN fun _ _ _ _ _ _ us hl => match us, hl with | [_], _ => rfl⟩
  have kTop : CalPr P w K mg base (CRr K) "top" 1 (sp_top (CRr K)) := ⟨_, _, _, ⟨eqO_ok (c.more 26 rfl), eqO_ok (c.more 27 rfl), of_decide_eq_true (c.more 28 rfl), isPg_ok (c.more 29 rfl)⟩, ok_rtop (P := P) (w := w) (base := base) F_R_top T, F_R_top.bindsN fun _ _ _ _ _ _ us hl => match us, hl with | [_], _ => rfl⟩
  have k_is_number := ok_is_number (P := P) (w := w) (base := base) F_is_number g_is_number T k_is_integer
  have k_ratio_of := ok_ratio_of (P := P) (w := w) (base := base) F_ratio_of g_ratio_of T kR1
  have k_total_of := ok_total_of (P := P) (w := w) (base := base) F_total_of g_total_of T kR1 kAdd
  have k_wholes := ok_wholes (P := P) (w := w) (base := base) F_wholes g_wholes T
  have k_ints_of := ok_ints_of (P := P) (w := w) (base := base) F_ints_of g_ints_of k_wholes
  have k_bare_row := ok_bare_row (P := P) (w := w) (base := base) F_bare_row g_bare_row k_divisor_of
  have k_cleared := ok_cleared (P := P) (w := w) (base := base) F_cleared g_cleared T k_bare_row
  have k_first_at := ok_first_at (P := P) (w := w) (base := base) F_first_at g_first_at T
  have k_headed_row := ok_headed_row (P := P) (w := w) (base := base) F_headed_row g_headed_row k_bare_row
  have k_int_steps := ok_int_steps (P := P) (w := w) (base := base) F_int_steps g_int_steps T k_first_at k_headed_row k_cleared
  have k_head_of := ok_head_of (P := P) (w := w) (base := base) F_head_of g_head_of
  have k_told_rows := ok_told_rows (P := P) (w := w) (base := base) F_told_rows g_told_rows k_head_of kR2
  have k_steps_of := ok_steps_of (P := P) (w := w) (base := base) F_steps_of g_steps_of k_ints_of k_int_steps k_told_rows
  have k_is_listL_tRatCR := ok_is_listL (P := P) (w := w) (base := base) (tRat (CRr K)) F_is_list g_is_list T
  have k_is_listL_tRrowCR := ok_is_listL (P := P) (w := w) (base := base) (tRrow (CRr K)) F_is_list g_is_list T
  have k_is_listL_tPartCR := ok_is_listL (P := P) (w := w) (base := base) (tPart (CRr K)) F_is_list g_is_list T
  have k_is_listL_tNumVCR := ok_is_listL (P := P) (w := w) (base := base) (tNumV (CRr K)) F_is_list g_is_list T
  have k_is_listT_tNumVCR := ok_is_listT (P := P) (w := w) (base := base) (tNumV (CRr K)) F_is_list g_is_list T
  have k_want_at_most := ok_want_at_most (P := P) (w := w) (base := base) F_want_at_most g_want_at_most
  have k_want_columns := ok_want_columns (P := P) (w := w) (base := base) F_want_columns g_want_columns T k_is_count
  have k_want_like := ok_want_like (P := P) (w := w) (base := base) F_want_like g_want_like
  have k_is_row := ok_is_row (P := P) (w := w) (base := base) F_is_row g_is_row T k_is_listL_tRatCR k_is_number
  have k_told_row := ok_told_row (P := P) (w := w) (base := base) F_told_row g_told_row T k_ratio_of
  have kT : CalT P w K mg base (CRr K) (CTt K) := ⟨_, _, [], ok_Table (P := P) (w := w) (base := base) F_Table_init T k_want_columns k_is_listL_tRrowCR k_is_row k_told_row, T.gT, mkr_ok (c.fact 96 (f := .mkr "Table") rfl), F_Table_init.bindsN fun _ _ _ _ _ _ us hl => match us, hl with | [_, _, _], _ => rfl, .nil⟩
  have k_table_of := ok_table_of (P := P) (w := w) (base := base) F_table_of g_table_of T kT
  have k_want_table := ok_want_table (P := P) (w := w) (base := base) F_want_table g_want_table T
  have k_joined := ok_joined (P := P) (w := w) (base := base) F_joined g_joined T k_want_table k_want_like k_want_at_most k_table_of
  have k_is_letter_of := ok_is_letter_of (P := P) (w := w) (base := base) F_is_letter_of g_is_letter_of T k_is_count
  have k_is_word_of := ok_is_word_of (P := P) (w := w) (base := base) F_is_word_of g_is_word_of T k_is_letter_of
  have k_worth_at := ok_worth_at (P := P) (w := w) (base := base) F_worth_at g_worth_at T kR2
  have k_worths_at := ok_worths_at (P := P) (w := w) (base := base) F_worths_at g_worths_at k_worth_at
  have k_ahead_sums := ok_ahead_sums (P := P) (w := w) (base := base) F_ahead_sums g_ahead_sums T k_worths_at k_wholes kR2
  have k_put_more := ok_put_more (P := P) (w := w) (base := base) F_put_more g_put_more
  have k_sums_told := ok_sums_told (P := P) (w := w) (base := base) F_sums_told g_sums_told T kR2
  have k_parts_joined := ok_parts_joined (P := P) (w := w) (base := base) F_parts_joined g_parts_joined T k_wholes k_ratio_of k_put_more k_sums_told
  have k_is_word_part := ok_is_word_part (P := P) (w := w) (base := base) F_is_word_part g_is_word_part T k_is_word_of k_is_number
  have kY : CalY P w K mg base (CRr K) (CYy K) := ⟨_, _, [], ok_Tally (P := P) (w := w) (base := base) F_Tally_init T k_want_columns k_is_listL_tPartCR k_is_word_part k_parts_joined, T.gY, mkr_ok (c.fact 98 (f := .mkr "Tally") rfl), F_Tally_init.bindsN fun _ _ _ _ _ _ us hl => match us, hl with | [_, _, _], _ => rfl, .nil⟩
  have k_want_tally := ok_want_tally (P := P) (w := w) (base := base) F_want_tally g_want_tally T
  have k_worth_of_tally := ok_worth_of_tally (P := P) (w := w) (base := base) F_worth_of_tally g_worth_of_tally T k_ahead_sums k_total_of kMul
  have k_tally_worth := ok_tally_worth (P := P) (w := w) (base := base) F_tally_worth g_tally_worth T k_want_tally k_want_table k_want_like k_worth_of_tally
  have k_middle_parts := ok_middle_parts (P := P) (w := w) (base := base) F_middle_parts g_middle_parts T
  have k_found_room := ok_found_room (P := P) (w := w) (base := base) F_found_room g_found_room T k_middle_parts kR1 k_steps_of kSign
  have k_room_of := ok_room_of (P := P) (w := w) (base := base) F_room_of g_room_of T k_found_room
  have k_heads_of := ok_heads_of (P := P) (w := w) (base := base) F_heads_of g_heads_of T
  have k_worth_over := ok_worth_over (P := P) (w := w) (base := base) F_worth_over g_worth_over T k_ahead_sums k_total_of kMul
  have k_joining_of := ok_joining_of (P := P) (w := w) (base := base) F_joining_of g_joining_of T k_heads_of kR1
  have k_joining := ok_joining (P := P) (w := w) (base := base) F_joining g_joining k_want_tally k_room_of k_joining_of
  have k_whole_numbers := ok_whole_numbers (P := P) (w := w) (base := base) F_whole_numbers g_whole_numbers T k_want_tally k_room_of k_heads_of kR1
  have k_kept_numbers := ok_kept_numbers (P := P) (w := w) (base := base) F_kept_numbers g_kept_numbers T k_want_tally k_want_table k_want_like k_room_of k_worth_over
  have kw_kept_numbers := fok_kept_numbers (P := P) (w := w) (base := base) F_kept_numbers T k_want_tally k_want_table k_want_like k_room_of k_worth_over
  have kk_kept_numbers : CalKw P w K mg base "kept_numbers" 8 ["tally", "table"] (sp_kept_numbers w (CRr K) (CTt K) (CYy K)) := ⟨_, _, kw_kept_numbers, g_kept_numbers, F_kept_numbers.kp, kwB2 F_kept_numbers fun _ _ _ _ _ _ us hl => match us, hl with | [_, _], _ => rfl⟩
  have k_want_kept := ok_want_kept (P := P) (w := w) (base := base) F_want_kept g_want_kept T k_is_listL_tNumVCR k_is_listT_tNumVCR k_is_number k_ratio_of
  have k_joined_by_cuts := ok_joined_by_cuts (P := P) (w := w) (base := base) F_joined_by_cuts g_joined_by_cuts T kR1 kAdd kMul
  have k_joined_numbers := ok_joined_numbers (P := P) (w := w) (base := base) F_joined_numbers g_joined_numbers T k_want_tally k_room_of k_want_kept k_heads_of k_joined_by_cuts
  have kw_joined_numbers := fok_joined_numbers (P := P) (w := w) (base := base) F_joined_numbers T k_want_tally k_room_of k_want_kept k_heads_of k_joined_by_cuts
  have kk_joined_numbers : CalKw P w K mg base "joined_numbers" 8 ["tally", "numbers", "others"] (sp_joined_numbers w (CRr K) (CYy K)) := ⟨_, _, kw_joined_numbers, g_joined_numbers, F_joined_numbers.kp, kwB2 F_joined_numbers fun _ _ _ _ _ _ us hl => match us, hl with | [_, _, _], _ => rfl⟩
  have k_pot := ok_pot (P := P) (w := w) (base := base) F__law_pot g__law_pot T
  have k_draw := ok_draw (P := P) (w := w) (base := base) F__law_draw g__law_draw T
  have k_pick_tInt := ok_pick (P := P) (w := w) (base := base) tInt F__law_pick g__law_pick T k_draw
  have k_pick_tNumVCR := ok_pick (P := P) (w := w) (base := base) (tNumV (CRr K)) F__law_pick g__law_pick T k_draw
  have k_letter := ok_letter (P := P) (w := w) (base := base) F__law_letter g__law_letter T k_pick_tInt
  have k_word := ok_word (P := P) (w := w) (base := base) F__law_word g__law_word T k_draw k_letter
  have k_number := ok_number (P := P) (w := w) (base := base) F__law_number g__law_number T k_pick_tNumVCR kR2
  have k_ljoined := ok_ljoined (P := P) (w := w) (base := base) F__law_joined g__law_joined T kR1 kAdd kE
  have k_parts := ok_parts (P := P) (w := w) (base := base) F__law_parts g__law_parts T k_draw k_word k_number k_ljoined
  have k_row := ok_row (P := P) (w := w) (base := base) F__law_row g__law_row T k_draw k_pick_tInt kR2
  have k_rows := ok_rows (P := P) (w := w) (base := base) F__law_rows g__law_rows T k_draw k_row
  have k_lworth := ok_lworth (P := P) (w := w) (base := base) F__law_worth g__law_worth T kR1 kMul
  have k_lahead := ok_lahead (P := P) (w := w) (base := base) F__law_ahead g__law_ahead T kR1 kAdd kMul k_lworth
  have k_ltally := ok_ltally (P := P) (w := w) (base := base) F__law_tally g__law_tally T kR1 kAdd kMul k_lahead
  have k_mixed := ok_mixed (P := P) (w := w) (base := base) F__law_mixed g__law_mixed T kR1 kAdd kMul kSign
  have k_lmiddle := ok_lmiddle (P := P) (w := w) (base := base) F__law_middle g__law_middle T
  have k_lless := ok_lless (P := P) (w := w) (base := base) F__law_less g__law_less T kR1 kSub kMul kE
  have k_lroom := ok_lroom (P := P) (w := w) (base := base) F__law_room g__law_room T k_lmiddle k_lless kR1 kMul kOver
  have all : CalAll P w K mg base (CRr K) (CTt K) (CYy K) := ⟨k_pick_tInt, k_parts, k_rows, k_lroom, k_ltally, k_mixed, kY, kT, kR1, kE, kAdd, kMul, kWh, kTop, k_kept_numbers, kk_kept_numbers, k_joined_numbers, kk_joined_numbers, k_joining, k_joined, k_whole_numbers, k_tally_worth⟩
  have k_right := ok_right (P := P) (w := w) (base := base) F__law_right g__law_right T all fun c parts h0 h2 hp => facts_of h0 h2 hp
  exact fn_law F_law T k_pot k_right
end
end HdF
set_option Elab.async false
set_option linter.all false
set_option maxRecDepth 100000
set_option maxHeartbeats 0
/-! HdC: the end. -/
namespace HdF
open PySem PySem.Spec PyProof.Rows L2 L2.K3 He
theorem law_says {K : PySem.W.Frag} {H : Hp} {a : Addr} {ns : List Int} (hS : SqL K H a (ns.map V.int)) : sp_law K [.ref a] H (fun v _ => v = .bl true) fun _ _ _ => False :=
  ⟨ns, H, trivial, .cons ⟨a, rfl, hS⟩ .nil, (fun _ _ h => h), ⟨List.nodup_nil, fun _ h => nomatch h⟩, fun _ _ _ _ h => h⟩
end HdF
open PySem PySem.W PySem.Calls PyProof.Rows
theorem PySem.Challenge.cw_aheadsums_k82_whole_pieces_put_together_holds : PySem.Challenge.rw_aheadsums_k82_whole_pieces_put_together.Holds := by
  w_on; o_law
  refine HandSHeadRun.head_imp (r := HdF.R) (q := HdF.qv) (H := HdF.hk) (ob := HdF.ob) (M := 15000) (loose := HdF.names) (d := HandSHeadRun.topDef HdF.R.prog 103) (kwd := []) HdF.ob_eq HdF.run
    (by kernel_rfl) (by kernel_rfl) (by kernel_rfl) (by rfl) (by first | assumption | decide +kernel) (by decide +kernel) ⟨rfl, rfl, rfl, rfl, rfl, by decide +kernel⟩ ?hw ?hc
  case hw => w_witness2
  case hc =>
    refine L2.walk_ofE (l := PySem.Challenge.rw_aheadsums_k82_whole_pieces_put_together) (n := 63) (k := 11) (x := "_law_script") (CX := L2.CX0) rfl (by decide) (by kernel_rfl) ⟨rfl, by decide, by decide⟩ ?F (fun _ _ _ _ z => z)
    intro w mg fa h Y G hmg0
    obtain ⟨K, KX, c⟩ := Y
    have hmg : mg ("law" : PySem.Str) = some (.ref fa) := by
      have e : (HandSHeadRun.topDef HdF.R.prog 103).name = ("law" : PySem.Str) := by kernel_rfl
      rw [← e]
      exact hmg0
    obtain ⟨fd, hb, hF⟩ := HdF.facts (P := (PySem.Challenge.rw_aheadsums_k82_whole_pieces_put_together).prog) (w := w) KX G hmg c
    exact ⟨K, fd, L2.K3.sp_law K, KX, hb, fun H a ns _ _ hS => HdF.law_says hS, fun base _ _ => hF base⟩

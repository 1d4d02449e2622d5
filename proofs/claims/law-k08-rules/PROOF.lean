import PyProof.Rows.All
import Wide.All
import OpenK.AllK
import Wide.FinOn
import HandS.ForMost
import HandS.ForExc
import HandS.Flow
import HandS.Defaults
import HandS.TryMany
import HandS.Walk
import HandS.Zip
import HandS.TupAny
import HandS.IsInst
import HandS.Deep
import HandS.Wide
import HandS.CallSlots
import HandS.Style
import HandS.TupMul
import HandS.Replace
import HandS.StrMore
import PyProof.ListStr
import PyProof.Rows.SortShellAny
import KE.DataMinMax
import HandS.Conv
import HandS.More
import KE.GoesZip
import KE.GoesMore
import PyProof.EnumMake
import HandS.SetFor
import PyProof.CollectStr
import HandS.Small
import KE.KTupSum
import KE.KIntText
import HandS.Head0
import HandS.Head1
import HandS.Head2
import HandS.HeadEnd
import HandS.HeadHook1
import HandS.HeadHook2
import HandS.Strs
import HandS.ExcIs
import KE.GoesComp
import KE.GoesRaise
import KE.KStateDown
import PySem.Challenge.RW_frontcut_k08_rules
set_option Elab.async false
set_option linter.all false
set_option maxRecDepth 100000
set_option maxHeartbeats 4000000
set_option autoImplicit false
namespace PX
open PySem PySem.Spec PyProof.Rows L2
/-! ### the head, with these tuples -/
def TupsOk (ta : List (Str × List Str)) (K : PySem.W.Frag) : Bool := ta.all fun t => He.tupB K t.1 (t.2.map He.Dv.str)
def obsT (ta : List (Str × List Str)) (fa : List He.Fa) (fn : List He.DefD) (K : PySem.W.Frag) : He.AlD := ((He.obsD fa fn K).1 && TupsOk ta K, (He.obsD fa fn K).2)
def obsTG (n : Nat) (ta : List (Str × List Str)) (fa : List He.Fa) (fn : List He.DefD) (g : Addr → Option Obj) : He.AlD := obsT ta fa fn (He.frG g (He.asD g n))
def hookT (n : Nat) (ta : List (Str × List Str)) (fa : List He.Fa) (fn : List He.DefD) : PySem.W.Hook where
  α := He.AlD
  obs := fun s => obsTG n ta fa fn s.heap.get?
  val := fun _ => He.valD fn
  says := fun _ h => ∃ K : PySem.W.Frag, K.In h ∧ obsT ta fa fn K = He.valD fn
  of := fun _ _ e => ⟨_, He.frG_in, e⟩
  keeps := fun _ _ _ ⟨K, hK, c⟩ k => ⟨K, PySem.W.Frag.In.keeps hK k, c⟩
theorem obsTG_eq {n : Nat} {ta : List (Str × List Str)} {fa : List He.Fa} {fn : List He.DefD} {g : Addr → Option Obj} {s : Shared} (h : ∀ a, g a = s.heap.get? a) : obsTG n ta fa fn g = (hookT n ta fa fn).obs s := by
  have e : g = s.heap.get? := funext h
  rw [e] <;> rfl
theorem saysT {ta : List (Str × List Str)} {fa : List He.Fa} {fn : List He.DefD} {K : PySem.W.Frag} (c : obsT ta fa fn K = He.valD fn) : He.SaysD fa fn K ∧ TupsOk ta K = true := by
  have c := Prod.ext_iff.mp c
  have c3 := Bool.and_eq_true_iff.mp (show ((He.obsD fa fn K).1 && TupsOk ta K) = true from c.1)
  exact ⟨Prod.ext c3.1 c.2, c3.2⟩
theorem tups_get {ta : List (Str × List Str)} {K : PySem.W.Frag} (c : TupsOk ta K = true) {x : Str} {zs : List Str} (i : Nat) (h : ta[i]? = some (x, zs) := by rfl) (H : Hp) : SqT K H (He.ga K x) (zs.map V.str) := by
  have := List.all_eq_true.mp c (x, zs) (List.mem_of_getElem? h)
  have := He.tupB_ok this H
  rw [List.map_map] at this
  exact this
end PX
namespace PX
open PySem PySem.Spec PyProof.Rows L2
/-! ### the head, with what the classes of exceptions tell isinstance -/
def obsB (B : PySem.W.Frag → Bool) (fa : List He.Fa) (fn : List He.DefD) (K : PySem.W.Frag) : He.AlD := ((He.obsD fa fn K).1 && B K, (He.obsD fa fn K).2)
def obsBG (n : Nat) (B : PySem.W.Frag → Bool) (fa : List He.Fa) (fn : List He.DefD) (g : Addr → Option Obj) : He.AlD := obsB B fa fn (He.frG g (He.asD g n))
def hookB (n : Nat) (B : PySem.W.Frag → Bool) (fa : List He.Fa) (fn : List He.DefD) : PySem.W.Hook where
  α := He.AlD
  obs := fun s => obsBG n B fa fn s.heap.get?
  val := fun _ => He.valD fn
  says := fun _ h => ∃ K : PySem.W.Frag, K.In h ∧ obsB B fa fn K = He.valD fn
  of := fun _ _ e => ⟨_, He.frG_in, e⟩
  keeps := fun _ _ _ ⟨K, hK, c⟩ k => ⟨K, PySem.W.Frag.In.keeps hK k, c⟩
theorem obsBG_eq {n : Nat} {B : PySem.W.Frag → Bool} {fa : List He.Fa} {fn : List He.DefD} {g : Addr → Option Obj} {s : Shared} (h : ∀ a, g a = s.heap.get? a) : obsBG n B fa fn g = (hookB n B fa fn).obs s := by
  have e : g = s.heap.get? := funext h
  rw [e] <;> rfl
theorem saysB {B : PySem.W.Frag → Bool} {fa : List He.Fa} {fn : List He.DefD} {K : PySem.W.Frag} (c : obsB B fa fn K = He.valD fn) : He.SaysD fa fn K ∧ B K = true := by
  have c := Prod.ext_iff.mp c
  have c3 := Bool.and_eq_true_iff.mp (show ((He.obsD fa fn K).1 && B K) = true from c.1)
  exact ⟨Prod.ext c3.1 c.2, c3.2⟩
def excCB (K : PySem.W.Frag) (C : Addr) : Bool :=
  He.eqO (PySem.W.findIn K (.ref C) "__getattribute__") (some (some (.builtin "BaseException.__getattribute__"))) && (He.eqO (PySem.W.findIn K (.ref C) "__getattr__") (some none) && (decide (PySem.W.subIn K (.ref C) (.type "BaseException") = some true) && (PySem.W.hasDictIn K C &&
  (He.eqO (PySem.W.findIn K (.ref C) "__class__") (some (some (.builtin "object.__class__"))) && (He.eqO (PySem.W.specialIn K (.builtin "object.__class__") "__get__") (some (some (.builtin "getset_descriptor.__get__"))) && (decide (PySem.W.takesIn K (.builtin "object.__class__") = some true) && decide (PySem.W.mroIn K C (.type "object") = some true)))))))
theorem excC_ok {K : PySem.W.Frag} {C : Addr} (h : excCB K C = true) : ExcC K C := by
  unfold excCB at h
  simp only [Bool.and_eq_true] at h
  obtain ⟨h1, h2, h3, h4, h5, h6, h7, h8⟩ := h
  exact ⟨He.eqO_ok h1, He.eqO_ok h2, of_decide_eq_true h3, h4, He.eqO_ok h5, He.eqO_ok h6, of_decide_eq_true h7, of_decide_eq_true h8⟩
def exKit (es : List Str) (K : PySem.W.Frag) : Bool := es.all fun x => excCB K (He.ga K x) && (decide (PySem.W.kitOne K (.ref (He.ga K x)) (.type "ValueError") = some true) && es.all fun y => decide (PySem.W.kitOne K (.ref (He.ga K x)) (.ref (He.ga K y)) = some (decide (y = "CutError") || decide (x = y))))
theorem exKit_get {es : List Str} {K : PySem.W.Frag} (h : exKit es K = true) {x : Str} (hx : x ∈ es) : ExcC K (He.ga K x) ∧ PySem.W.kitOne K (.ref (He.ga K x)) (.type "ValueError") = some true ∧ ∀ y ∈ es, PySem.W.kitOne K (.ref (He.ga K x)) (.ref (He.ga K y)) = some (decide (y = "CutError") || decide (x = y)) := by
  have := List.all_eq_true.mp h x hx
  simp only [Bool.and_eq_true] at this
  obtain ⟨h1, h2, h3⟩ := this
  exact ⟨excC_ok h1, of_decide_eq_true h2, fun y hy => of_decide_eq_true (List.all_eq_true.mp h3 y hy)⟩
end PX
namespace K08
open PySem PySem.Spec PyProof.Rows L2
def top (i : Nat) : Stmt := PySem.Challenge.pw_frontcut_k08_rules.main.body.getD i (.Pass ⟨0, 0, 0, 0⟩)
abbrev s__law_seed : Stmt := top 59
abbrev s__law_cell : Stmt := top 57
abbrev s__law_pick : Stmt := top 60
abbrev s__law_letters : Stmt := top 62
abbrev s__law_rules : Stmt := top 61
abbrev s__law_in : Stmt := top 64
abbrev s__law_are_rules : Stmt := top 67
abbrev s__law_mix : Stmt := top 58
abbrev s_is_within : Stmt := top 14
abbrev s_is_word : Stmt := top 15
abbrev s_is_rules : Stmt := top 16
abbrev s_word_read : Stmt := top 54
abbrev s_read : Stmt := top 55
abbrev s__law_read : Stmt := top 68
abbrev s__law_read_here : Stmt := top 69
abbrev s_look : Stmt := top 17
abbrev s_shown : Stmt := top 53
abbrev s__law_as : Stmt := top 63
abbrev s_is_row : Stmt := top 18
abbrev s_look_row : Stmt := top 19
abbrev s_word_of : Stmt := top 20
abbrev s_has_ended : Stmt := top 21
abbrev s_next_of : Stmt := top 22
abbrev s_told_by : Stmt := top 50
abbrev s_meet : Stmt := top 49
abbrev s_times_of : Stmt := top 34
abbrev s_told_of : Stmt := top 30
abbrev s_is_whole : Stmt := top 29
abbrev s_share : Stmt := top 35
abbrev s_all_parts : Stmt := top 38
abbrev s_words_to : Stmt := top 46
abbrev s_part_of : Stmt := top 37
abbrev s_fate_of : Stmt := top 42
abbrev s_sorted_out : Stmt := top 47
abbrev s_next_row : Stmt := top 23
abbrev s_after : Stmt := top 24
abbrev s_image : Stmt := top 31
abbrev s_ahead_of : Stmt := top 26
abbrev s_leading : Stmt := top 51
abbrev s_course : Stmt := top 25
abbrev s_before : Stmt := top 27
abbrev s_root_of : Stmt := top 32
abbrev s_root : Stmt := top 33
abbrev s_grows_by : Stmt := top 36
abbrev s_fate : Stmt := top 43
abbrev s_behind : Stmt := top 44
abbrev s_is_fate : Stmt := top 45
abbrev s_longest : Stmt := top 48
abbrev s__law_asked : Stmt := top 66
abbrev s__law_told : Stmt := top 65
abbrev s_law : Stmt := top 70
def d__law_seed : He.DefD := ⟨("_law_seed", none), "_law_seed", "_law_seed", defArgs s__law_seed, defBody s__law_seed, defScope s__law_seed, [], []⟩
def d__law_cell : He.DefD := ⟨("_law_cell", none), "_law_cell", "_law_cell", defArgs s__law_cell, defBody s__law_cell, defScope s__law_cell, [], []⟩
def d__law_pick : He.DefD := ⟨("_law_pick", none), "_law_pick", "_law_pick", defArgs s__law_pick, defBody s__law_pick, defScope s__law_pick, [], []⟩
def d__law_letters : He.DefD := ⟨("_law_letters", none), "_law_letters", "_law_letters", defArgs s__law_letters, defBody s__law_letters, defScope s__law_letters, [], []⟩
def d__law_rules : He.DefD := ⟨("_law_rules", none), "_law_rules", "_law_rules", defArgs s__law_rules, defBody s__law_rules, defScope s__law_rules, [], []⟩
def d__law_in : He.DefD := ⟨("_law_in", none), "_law_in", "_law_in", defArgs s__law_in, defBody s__law_in, defScope s__law_in, [], []⟩
def d__law_are_rules : He.DefD := ⟨("_law_are_rules", none), "_law_are_rules", "_law_are_rules", defArgs s__law_are_rules, defBody s__law_are_rules, defScope s__law_are_rules, [], []⟩
def d__law_mix : He.DefD := ⟨("_law_mix", none), "_law_mix", "_law_mix", defArgs s__law_mix, defBody s__law_mix, defScope s__law_mix, [], []⟩
def d_is_within : He.DefD := ⟨("is_within", none), "is_within", "is_within", defArgs s_is_within, defBody s_is_within, defScope s_is_within, [], []⟩
def d_is_word : He.DefD := ⟨("is_word", none), "is_word", "is_word", defArgs s_is_word, defBody s_is_word, defScope s_is_word, [], []⟩
def d_is_rules : He.DefD := ⟨("is_rules", none), "is_rules", "is_rules", defArgs s_is_rules, defBody s_is_rules, defScope s_is_rules, [], []⟩
def d_word_read : He.DefD := ⟨("word_read", none), "word_read", "word_read", defArgs s_word_read, defBody s_word_read, defScope s_word_read, [], []⟩
def d_read : He.DefD := ⟨("read", none), "read", "read", defArgs s_read, defBody s_read, defScope s_read, [], []⟩
def d__law_read : He.DefD := ⟨("_law_read", none), "_law_read", "_law_read", defArgs s__law_read, defBody s__law_read, defScope s__law_read, [], []⟩
def d__law_read_here : He.DefD := ⟨("_law_read_here", none), "_law_read_here", "_law_read_here", defArgs s__law_read_here, defBody s__law_read_here, defScope s__law_read_here, [], []⟩
def d_look : He.DefD := ⟨("look", none), "look", "look", defArgs s_look, defBody s_look, defScope s_look, [], []⟩
def d_shown : He.DefD := ⟨("shown", none), "shown", "shown", defArgs s_shown, defBody s_shown, defScope s_shown, [], []⟩
def d__law_as : He.DefD := ⟨("_law_as", none), "_law_as", "_law_as", defArgs s__law_as, defBody s__law_as, defScope s__law_as, [], []⟩
def d_is_row : He.DefD := ⟨("is_row", none), "is_row", "is_row", defArgs s_is_row, defBody s_is_row, defScope s_is_row, [], []⟩
def d_look_row : He.DefD := ⟨("look_row", none), "look_row", "look_row", defArgs s_look_row, defBody s_look_row, defScope s_look_row, [], []⟩
def d_word_of : He.DefD := ⟨("word_of", none), "word_of", "word_of", defArgs s_word_of, defBody s_word_of, defScope s_word_of, [], []⟩
def d_has_ended : He.DefD := ⟨("has_ended", none), "has_ended", "has_ended", defArgs s_has_ended, defBody s_has_ended, defScope s_has_ended, [], []⟩
def d_next_of : He.DefD := ⟨("next_of", none), "next_of", "next_of", defArgs s_next_of, defBody s_next_of, defScope s_next_of, [], []⟩
def d_told_by : He.DefD := ⟨("told_by", none), "told_by", "told_by", defArgs s_told_by, defBody s_told_by, defScope s_told_by, [], []⟩
def d_meet : He.DefD := ⟨("meet", none), "meet", "meet", defArgs s_meet, defBody s_meet, defScope s_meet, [], []⟩
def d_times_of : He.DefD := ⟨("times_of", none), "times_of", "times_of", defArgs s_times_of, defBody s_times_of, defScope s_times_of, [], []⟩
def d_told_of : He.DefD := ⟨("told_of", none), "told_of", "told_of", defArgs s_told_of, defBody s_told_of, defScope s_told_of, [], []⟩
def d_is_whole : He.DefD := ⟨("is_whole", none), "is_whole", "is_whole", defArgs s_is_whole, defBody s_is_whole, defScope s_is_whole, [], []⟩
def d_share : He.DefD := ⟨("share", none), "share", "share", defArgs s_share, defBody s_share, defScope s_share, [], []⟩
def d_all_parts : He.DefD := ⟨("all_parts", none), "all_parts", "all_parts", defArgs s_all_parts, defBody s_all_parts, defScope s_all_parts, [], []⟩
def d_words_to : He.DefD := ⟨("words_to", none), "words_to", "words_to", defArgs s_words_to, defBody s_words_to, defScope s_words_to, [], []⟩
def d_part_of : He.DefD := ⟨("part_of", none), "part_of", "part_of", defArgs s_part_of, defBody s_part_of, defScope s_part_of, [], []⟩
def d_fate_of : He.DefD := ⟨("fate_of", none), "fate_of", "fate_of", defArgs s_fate_of, defBody s_fate_of, defScope s_fate_of, [], []⟩
def d_sorted_out : He.DefD := ⟨("sorted_out", none), "sorted_out", "sorted_out", defArgs s_sorted_out, defBody s_sorted_out, defScope s_sorted_out, [], []⟩
def d_next_row : He.DefD := ⟨("next_row", none), "next_row", "next_row", defArgs s_next_row, defBody s_next_row, defScope s_next_row, [], []⟩
def d_after : He.DefD := ⟨("after", none), "after", "after", defArgs s_after, defBody s_after, defScope s_after, [], []⟩
def d_image : He.DefD := ⟨("image", none), "image", "image", defArgs s_image, defBody s_image, defScope s_image, [], []⟩
def d_ahead_of : He.DefD := ⟨("ahead_of", none), "ahead_of", "ahead_of", defArgs s_ahead_of, defBody s_ahead_of, defScope s_ahead_of, [], []⟩
def d_leading : He.DefD := ⟨("leading", none), "leading", "leading", defArgs s_leading, defBody s_leading, defScope s_leading, [], []⟩
def d_course : He.DefD := ⟨("course", none), "course", "course", defArgs s_course, defBody s_course, defScope s_course, [], []⟩
def d_before : He.DefD := ⟨("before", none), "before", "before", defArgs s_before, defBody s_before, defScope s_before, [], []⟩
def d_root_of : He.DefD := ⟨("root_of", none), "root_of", "root_of", defArgs s_root_of, defBody s_root_of, defScope s_root_of, [], []⟩
def d_root : He.DefD := ⟨("root", none), "root", "root", defArgs s_root, defBody s_root, defScope s_root, [], []⟩
def d_grows_by : He.DefD := ⟨("grows_by", none), "grows_by", "grows_by", defArgs s_grows_by, defBody s_grows_by, defScope s_grows_by, [], []⟩
def d_fate : He.DefD := ⟨("fate", none), "fate", "fate", defArgs s_fate, defBody s_fate, defScope s_fate, [], []⟩
def d_behind : He.DefD := ⟨("behind", none), "behind", "behind", defArgs s_behind, defBody s_behind, defScope s_behind, [], []⟩
def d_is_fate : He.DefD := ⟨("is_fate", none), "is_fate", "is_fate", defArgs s_is_fate, defBody s_is_fate, defScope s_is_fate, [], []⟩
def d_longest : He.DefD := ⟨("longest", none), "longest", "longest", defArgs s_longest, defBody s_longest, defScope s_longest, [], []⟩
def d__law_asked : He.DefD := ⟨("_law_asked", none), "_law_asked", "_law_asked", defArgs s__law_asked, defBody s__law_asked, defScope s__law_asked, [], []⟩
def d__law_told : He.DefD := ⟨("_law_told", none), "_law_told", "_law_told", defArgs s__law_told, defBody s__law_told, defScope s__law_told, [], []⟩
def d_law : He.DefD := ⟨("law", none), "law", "law", defArgs s_law, defBody s_law, defScope s_law, [], []⟩
def fn : List He.DefD := [d__law_seed, d__law_cell, d__law_pick, d__law_letters, d__law_rules, d__law_in, d__law_are_rules, d__law_mix, d_is_within, d_is_word, d_is_rules, d_word_read, d_read, d__law_read, d__law_read_here, d_look, d_shown, d__law_as, d_is_row, d_look_row, d_word_of, d_has_ended, d_next_of, d_told_by, d_meet, d_times_of, d_told_of, d_is_whole, d_share, d_all_parts, d_words_to, d_part_of, d_fate_of, d_sorted_out, d_next_row, d_after, d_image, d_ahead_of, d_leading, d_course, d_before, d_root_of, d_root, d_grows_by, d_fate, d_behind, d_is_fate, d_longest, d__law_asked, d__law_told, d_law]
def fa : List He.Fa := ([.glo "_law_seed", .glo "_law_cell", .glo "_law_pick", .glo "_law_letters", .glo "_law_rules", .glo "_law_in", .glo "_law_are_rules", .glo "_law_mix", .glo "is_within", .glo "is_word", .glo "is_rules", .glo "word_read", .glo "read", .glo "_law_read", .glo "_law_read_here", .glo "look", .glo "shown", .glo "_law_as", .glo "is_row", .glo "look_row", .glo "word_of", .glo "has_ended", .glo "next_of", .glo "told_by", .glo "meet", .glo "times_of", .glo "told_of", .glo "is_whole", .glo "share", .glo "all_parts"] : List He.Fa) ++ ([.glo "words_to", .glo "part_of", .glo "fate_of", .glo "sorted_out", .glo "next_row", .glo "after", .glo "image", .glo "ahead_of", .glo "leading", .glo "course", .glo "before", .glo "root_of", .glo "root", .glo "grows_by", .glo "fate", .glo "behind", .glo "is_fate", .glo "longest", .glo "_law_asked", .glo "_law_told", .glo "law", .free "bool", .free "enumerate", .free "int", .free "isinstance", .free "len", .free "list", .free "range", .free "sorted", .free "str"] : List He.Fa) ++ ([.free "tuple", .free "zip", .str "LETTERS" "abc", .int "MOST_CUT" 3, .int "MOST_CUTS" 200, .int "MOST_LONG" 120, .int "MOST_ROW" 24, .int "MOST_WORD" 4, .exc "BadCount", .glo "BadCount", .exc "BadRow", .glo "BadRow", .exc "BadRules", .glo "BadRules", .exc "BadText", .glo "BadText", .exc "BadWord", .glo "BadWord", .exc "Ended", .glo "Ended", .exc "TooMany", .glo "TooMany", .exm "CutError" "BadCount" false, .exm "BadRules" "BadCount" false, .exm "BadRow" "BadCount" false, .exm "BadCount" "BadCount" true, .exm "BadWord" "BadCount" false, .exm "Ended" "BadCount" false, .exm "TooMany" "BadCount" false, .exm "BadText" "BadCount" false] : List He.Fa) ++ ([.exm "CutError" "BadRow" false, .exm "BadRules" "BadRow" false, .exm "BadRow" "BadRow" true, .exm "BadCount" "BadRow" false, .exm "BadWord" "BadRow" false, .exm "Ended" "BadRow" false, .exm "TooMany" "BadRow" false, .exm "BadText" "BadRow" false, .exm "CutError" "BadRules" false, .exm "BadRules" "BadRules" true, .exm "BadRow" "BadRules" false, .exm "BadCount" "BadRules" false, .exm "BadWord" "BadRules" false, .exm "Ended" "BadRules" false, .exm "TooMany" "BadRules" false, .exm "BadText" "BadRules" false, .exm "CutError" "BadText" false, .exm "BadRules" "BadText" false, .exm "BadRow" "BadText" false, .exm "BadCount" "BadText" false, .exm "BadWord" "BadText" false, .exm "Ended" "BadText" false, .exm "TooMany" "BadText" false, .exm "BadText" "BadText" true, .exm "CutError" "BadWord" false, .exm "BadRules" "BadWord" false, .exm "BadRow" "BadWord" false, .exm "BadCount" "BadWord" false, .exm "BadWord" "BadWord" true, .exm "Ended" "BadWord" false] : List He.Fa) ++ ([.exm "TooMany" "BadWord" false, .exm "BadText" "BadWord" false, .exm "CutError" "Ended" false, .exm "BadRules" "Ended" false, .exm "BadRow" "Ended" false, .exm "BadCount" "Ended" false, .exm "BadWord" "Ended" false, .exm "Ended" "Ended" true, .exm "TooMany" "Ended" false, .exm "BadText" "Ended" false, .exm "CutError" "TooMany" false, .exm "BadRules" "TooMany" false, .exm "BadRow" "TooMany" false, .exm "BadCount" "TooMany" false, .exm "BadWord" "TooMany" false, .exm "Ended" "TooMany" false, .exm "TooMany" "TooMany" true, .exm "BadText" "TooMany" false] : List He.Fa)
def loose : List PySem.Str := (["__name__", "CutError", "BadRules", "BadRow", "BadCount", "BadWord", "Ended", "TooMany", "BadText", "LETTERS", "MOST_CUT", "MOST_WORD", "MOST_ROW", "is_within", "is_word", "is_rules", "look", "is_row", "look_row", "word_of", "has_ended", "next_of", "next_row", "after", "course", "ahead_of", "before", "is_whole", "told_of", "image"] : List PySem.Str) ++ (["root_of", "root", "times_of", "share", "grows_by", "part_of", "all_parts", "MOST_CUTS", "MOST_LONG", "fate_of", "fate", "behind", "is_fate", "words_to", "sorted_out", "longest", "meet", "told_by", "leading", "shown", "word_read", "read", "_law_cell", "_law_mix", "_law_seed", "_law_pick", "_law_rules", "_law_letters", "_law_as", "_law_in"] : List PySem.Str) ++ (["_law_told", "_law_asked", "_law_are_rules", "_law_read", "_law_read_here"] : List PySem.Str)
def ta : List (PySem.Str × List PySem.Str) := []
abbrev R : PySem.W.OpenRow := PySem.W.OpenLaw.row PySem.Challenge.rw_frontcut_k08_rules
abbrev hk : PySem.W.Hook := He.hookD 5 fa fn
def ob (s : PySem.W.SharedT) : He.AlD := He.obsDG 5 fa fn (HandSHeadRun.getT s)
theorem ob_eq (s : PySem.W.SharedT) : ob s = hk.obs s.abs := He.obsDG_eq (HandSHeadRun.getT_eq s)
theorem run (w : World) : HandSHeadRun.RunEq R (PySem.W.view R.prog [70]) hk ob 20000 loose w := by
  intro os
  kernel_rfl
end K08
/-! The pure layer, part 1: data, results, how slots and heaps bear them. -/
namespace PX
open PySem PySem.Spec PyProof.Rows L2
abbrev D := PyData
/-- the program's own exception classes -/
inductive EC where
  | cut | rules | row | count | word | ended | many | text | names | pass | nothing
  deriving DecidableEq
inductive Res (α : Type) where
  | ok (a : α) | er (c : EC) | stk
def Res.bind {α β : Type} : Res α → (α → Res β) → Res β
  | .ok a, f => f a
  | .er c, _ => .er c
  | .stk, _ => .stk
@[simp] theorem Res.bind_ok {α β : Type} (a : α) (f : α → Res β) : (Res.ok a).bind f = f a := rfl
@[simp] theorem Res.bind_er {α β : Type} (c : EC) (f : α → Res β) : (Res.er c : Res α).bind f = .er c := rfl
@[simp] theorem Res.bind_stk {α β : Type} (f : α → Res β) : (Res.stk : Res α).bind f = .stk := rfl
def Res.of {α : Type} : Option α → Res α
  | some a => .ok a
  | none => .stk
@[simp] theorem Res.of_some {α : Type} (a : α) : Res.of (some a) = .ok a := rfl
@[simp] theorem Res.of_none {α : Type} : Res.of (none : Option α) = .stk := rfl
instance : Monad Res where
  pure := .ok
  bind := Res.bind
@[simp] theorem Res.pure_eq {α : Type} (a : α) : (pure a : Res α) = .ok a := rfl
@[simp] theorem Res.bind_eq {α β : Type} (r : Res α) (f : α → Res β) : (r >>= f) = r.bind f := rfl
/-- what a slot holds: a value; a list of the def's own; a dict of its own -/
inductive Sl where
  | val (d : D) | own (l : List D) | dct (kvs : List (Str × D))
def Sl.isVal : Sl → Bool
  | .val _ => true
  | _ => false
abbrev Rho := List (Option Sl)
/-! ### heaps -/
/-- from (P, H) to (P', H'): P grows, all of H stays, what of H lies without P stays without -/
structure Ex (P H P' H' : Hp) : Prop where
  pp : Same P P'
  ph : Same P' H'
  hh : Same H H'
  fr : ∀ a, H a ≠ none → P a = none → P' a = none
theorem Ex.refl {P H : Hp} (s : Same P H) : Ex P H P H := ⟨Same.refl _, s, Same.refl _, fun _ _ h => h⟩
theorem some_of_same {H H' : Hp} (s : Same H H') {a : Addr} (h : H a ≠ none) : H' a ≠ none := by
  cases e : H a with
  | none => exact absurd e h
  | some o => rw [s a o e]; exact fun z => nomatch z
theorem Ex.trans {P H P1 H1 P2 H2 : Hp} (a : Ex P H P1 H1) (b : Ex P1 H1 P2 H2) : Ex P H P2 H2 :=
  ⟨a.pp.trans b.pp, b.ph, a.hh.trans b.hh, fun x h p => b.fr x (some_of_same a.hh h) (a.fr x h p)⟩
theorem same_upd {H : Hp} {p : Addr} {o : HO} (h : H p = none) : Same H (upd H p o) := fun b u e => by
  rw [upd_ne (ne_of_none e h)]; exact e
/-- a new object, into P too -/
theorem Ex.new {P H : Hp} {p : Addr} {o : HO} (s : Same P H) (h : H p = none) : Ex P H (upd P p o) (upd H p o) := by
  refine ⟨same_upd (Same.free s h), fun b u e => ?_, same_upd h, fun a ha hp => ?_⟩
  · by_cases hb : b = p
    · subst hb; rw [upd_same] at e ⊢; exact e
    · rw [upd_ne hb] at e ⊢; exact s b u e
  · by_cases hb : a = p
    · subst hb; exact absurd h ha
    · rw [upd_ne hb]; exact hp
/-- a new object that P does not know -/
theorem Ex.out {P H : Hp} {p : Addr} {o : HO} (s : Same P H) (h : H p = none) : Ex P H P (upd H p o) :=
  ⟨Same.refl _, s.trans (same_upd h), same_upd h, fun _ _ h => h⟩
theorem seqT_mono {K : PySem.W.Frag} {H H' : Hp} {a : Addr} {xs : List V} (e : Same H H') (h : SqT K H a xs) : SqT K H' a xs := by
  rcases h with (h | ⟨o, h⟩) | h
  · exact .inl (.inl (e _ _ h))
  · exact .inl (.inr ⟨o, e _ _ h⟩)
  · exact .inr h
mutual
/-- a value is a datum: its lists stand in the heap (none of the written part) -/
inductive Dr (K : PySem.W.Frag) (H : Hp) : V → PyData → Prop
  | non : Dr K H .non .none
  | bl (b : Bool) : Dr K H (.bl b) (.bool b)
  | int (i : Int) : Dr K H (.int i) (.int i)
  | str (x : Str) : Dr K H (.str x) (.str x)
  | lst {a : Addr} {xs : List V} {ds : List PyData} : Rd H a (.lst xs) → DrAll K H xs ds → Dr K H (.ref a) (.list ds)
  | tup {a : Addr} {xs : List V} {ds : List PyData} : SqT K H a xs → DrAll K H xs ds → Dr K H (.ref a) (.tuple ds)
  /-- the script: a list of ints that is only read -/
  | scr {a : Addr} {ns : List Int} : SqL K H a (ns.map V.int) → Dr K H (.ref a) (.dict (ns.map fun n => (.int n, .none)))
inductive DrAll (K : PySem.W.Frag) (H : Hp) : List V → List PyData → Prop
  | nil : DrAll K H [] []
  | cons {v : V} {vs : List V} {d : PyData} {ds : List PyData} : Dr K H v d → DrAll K H vs ds → DrAll K H (v :: vs) (d :: ds)
end
theorem rd_mono {H H' : Hp} {a : Addr} {u : HO} (e : Same H H') (h : Rd H a u) : Rd H' a u := by
  rcases h with h | ⟨o, h⟩
  · exact .inl (e _ _ h)
  · exact .inr ⟨o, e _ _ h⟩
mutual
theorem dr_dp {K : PySem.W.Frag} {P : Hp} : ∀ (d : D) (x : V), Dr K P x d → d.canLay0 = true → Dp K P x d
  | .none, x, h, _ => by cases h; exact .non
  | .bool b, x, h, _ => by cases h; exact .bl b
  | .int i, x, h, _ => by cases h; exact .int i
  | .str s, x, h, _ => by cases h; exact .str s
  | .list ds, x, h, q => by
    cases h with
    | lst s r => exact .lst (.inl s) (drs_dps ds _ r (by simpa only [PyData.canLay0] using q))
  | .tuple ds, x, h, q => by
    cases h with
    | tup s r => exact .tup s (drs_dps ds _ r (by simpa only [PyData.canLay0] using q))
  | .dict _, x, h, q => by simp [PyData.canLay0] at q
theorem drs_dps {K : PySem.W.Frag} {P : Hp} : ∀ (ds : List D) (xs : List V), DrAll K P xs ds → PyData.canLayAll0 ds = true → DpAll K P xs ds
  | [], xs, h, _ => by cases h; exact .nil
  | d :: ds, xs, h, q => by
    have q : d.canLay0 = true ∧ PyData.canLayAll0 ds = true := by simpa [PyData.canLayAll0] using q
    cases h with
    | cons a r => exact .cons (dr_dp d _ a q.1) (drs_dps ds _ r q.2)
end
theorem Dr.dp {K : PySem.W.Frag} {P : Hp} {x : V} {d : D} (h : Dr K P x d) (q : SeqAt.shaped d = true) : Dp K P x d := dr_dp d x h (SeqAt.canLay_of_shaped q)
theorem DrAll.dps {K : PySem.W.Frag} {P : Hp} {xs : List V} {ds : List D} (h : DrAll K P xs ds) (q : SeqAt.shaped (.list ds) = true) : DpAll K P xs ds := drs_dps ds xs h (by simpa only [PyData.canLay0] using SeqAt.canLay_of_shaped q)
mutual
theorem dp_mono {K : PySem.W.Frag} {P P' : Hp} (e : Same P P') : ∀ (d : D) (x : V), Dr K P x d → Dr K P' x d
  | .none, x, h => by cases h; exact .non
  | .bool b, x, h => by cases h; exact .bl b
  | .int i, x, h => by cases h; exact .int i
  | .str s, x, h => by cases h; exact .str s
  | .list ds, x, h => by
    cases h with
    | lst s r => exact .lst (rd_mono e s) (dps_mono e ds _ r)
  | .tuple ds, x, h => by
    cases h with
    | tup s r => exact .tup (seqT_mono e s) (dps_mono e ds _ r)
  | .dict _, x, h => by
    cases h with
    | scr q => exact .scr (e.seq q)
theorem dps_mono {K : PySem.W.Frag} {P P' : Hp} (e : Same P P') : ∀ (ds : List D) (xs : List V), DrAll K P xs ds → DrAll K P' xs ds
  | [], xs, h => by cases h; exact .nil
  | d :: ds, xs, h => by
    cases h with
    | cons a r => exact .cons (dp_mono e d _ a) (dps_mono e ds _ r)
end
theorem Dr.mono {K : PySem.W.Frag} {P P' : Hp} {x : V} {d : D} (h : Dr K P x d) (e : Same P P') : Dr K P' x d := dp_mono e d x h
theorem DrAll.mono {K : PySem.W.Frag} {P P' : Hp} {xs : List V} {ds : List D} (h : DrAll K P xs ds) (e : Same P P') : DrAll K P' xs ds := dps_mono e ds xs h
section
variable {K : PySem.W.Frag} {P : Hp}
theorem dps_length : ∀ {xs : List V} {ds : List D}, DrAll K P xs ds → xs.length = ds.length
  | _, _, .nil => rfl
  | _, _, .cons _ r => by simp [dps_length r]
theorem dps_get : ∀ {xs : List V} {ds : List D} {i : Nat} {d : D}, DrAll K P xs ds → ds[i]? = some d → ∃ x, xs[i]? = some x ∧ Dr K P x d
  | _, _, _, _, .nil, e => by simp at e
  | _, _, 0, d, .cons h r, e => by simp at e; subst e; exact ⟨_, rfl, h⟩
  | _, _, i + 1, d, .cons h r, e => by
    obtain ⟨x, h1, h2⟩ := dps_get (i := i) r (by simpa using e)
    exact ⟨x, by simpa using h1, h2⟩
theorem dps_getV : ∀ {xs : List V} {ds : List D} {i : Nat} {x : V}, DrAll K P xs ds → xs[i]? = some x → ∃ d, ds[i]? = some d ∧ Dr K P x d
  | _, _, _, _, .nil, e => by simp at e
  | _, _, 0, d, .cons h r, e => by simp at e; subst e; exact ⟨_, rfl, h⟩
  | _, _, i + 1, d, .cons h r, e => by
    obtain ⟨x, h1, h2⟩ := dps_getV (i := i) r (by simpa using e)
    exact ⟨x, by simpa using h1, h2⟩
theorem dps_append : ∀ {xs ys : List V} {ds es : List D}, DrAll K P xs ds → DrAll K P ys es → DrAll K P (xs ++ ys) (ds ++ es)
  | _, _, _, _, .nil, h => h
  | _, _, _, _, .cons a r, h => .cons a (dps_append r h)
theorem dps_take : ∀ {xs : List V} {ds : List D} (n : Nat), DrAll K P xs ds → DrAll K P (xs.take n) (ds.take n)
  | _, _, 0, _ => .nil
  | _, _, _ + 1, .nil => .nil
  | _, _, n + 1, .cons a r => .cons a (dps_take n r)
theorem dps_drop : ∀ {xs : List V} {ds : List D} (n : Nat), DrAll K P xs ds → DrAll K P (xs.drop n) (ds.drop n)
  | _, _, 0, h => h
  | _, _, _ + 1, .nil => .nil
  | _, _, n + 1, .cons a r => dps_drop n r
theorem dps_set : ∀ {xs : List V} {ds : List D} (i : Nat) {x : V} {d : D}, DrAll K P xs ds → Dr K P x d → DrAll K P (xs.set i x) (ds.set i d)
  | _, _, _, _, _, .nil, _ => .nil
  | _, _, 0, _, _, .cons a r, h => .cons h r
  | _, _, i + 1, _, _, .cons a r, h => .cons a (dps_set i r h)
theorem dps_reverse : ∀ {xs : List V} {ds : List D}, DrAll K P xs ds → DrAll K P xs.reverse ds.reverse
  | _, _, .nil => .nil
  | _, _, .cons a r => by
    rw [List.reverse_cons, List.reverse_cons]
    exact dps_append (dps_reverse r) (.cons a .nil)
theorem dps_replicate (n : Nat) {x : V} {d : D} (h : Dr K P x d) : DrAll K P (List.replicate n x) (List.replicate n d) := by
  induction n with
  | zero => exact .nil
  | succ n ih => exact .cons h ih
theorem dps_one {x : V} {d : D} (h : Dr K P x d) : DrAll K P [x] [d] := .cons h .nil
end
/-- the pairs of a dict of one's own, keys texts -/
inductive KVs (K : PySem.W.Frag) (P : Hp) : List (Key × V) → List (Str × D) → Prop
  | nil : KVs K P [] []
  | cons {k : Str} {v : V} {d : D} {ws : List (Key × V)} {kvs : List (Str × D)} : Dr K P v d → KVs K P ws kvs → KVs K P ((.inr k, v) :: ws) ((k, d) :: kvs)
theorem KVs.mono {K : PySem.W.Frag} {P P' : Hp} (e : Same P P') : ∀ {kvs : List (Str × D)} {ws : List (Key × V)}, KVs K P ws kvs → KVs K P' ws kvs
  | [], _, .nil => .nil
  | _ :: _, _, .cons h r => .cons (h.mono e) (KVs.mono e r)
/-- a slot's value bears what the slot is said to hold -/
def RS (K : PySem.W.Frag) (H0 P H : Hp) (x : V) : Sl → Prop
  | .val d => Dr K P x d
  | .own l => ∃ a vs, x = .ref a ∧ H a = some (.lst vs) ∧ P a = none ∧ H0 a = none ∧ DrAll K P vs l
  | .dct kvs => ∃ a ws, x = .ref a ∧ H a = some (.dK ws) ∧ P a = none ∧ H0 a = none ∧ KVs K P ws kvs
theorem RS.step {K : PySem.W.Frag} {H0 P H P' H' : Hp} {x : V} {s : Sl} (h : RS K H0 P H x s) (e : Ex P H P' H') : RS K H0 P' H' x s := by
  cases s with
  | val d => exact Dr.mono h e.pp
  | own l =>
    obtain ⟨a, vs, rfl, h1, h2, h3, h4⟩ := h
    exact ⟨a, vs, rfl, e.hh _ _ h1, e.fr a (by rw [h1]; exact fun z => nomatch z) h2, h3, h4.mono e.pp⟩
  | dct kvs =>
    obtain ⟨a, ws, rfl, h1, h2, h3, h4⟩ := h
    exact ⟨a, ws, rfl, e.hh _ _ h1, e.fr a (by rw [h1]; exact fun z => nomatch z) h2, h3, h4.mono e.pp⟩
/-- the slots: H0, P0 the entry, P what is known for good, H the heap -/
structure ER (K : PySem.W.Frag) (H0 P0 P H : Hp) (σ : L2.St) (ρ : Rho) : Prop where
  sub : Same P H
  bs : Ex P0 H0 P H
  len : ρ.length = σ.length
  slot : ∀ (i : Nat) (s : Sl), ρ[i]? = some (some s) → ∃ x, σ[i]? = some (some x) ∧ RS K H0 P H x s
  sep : ∀ (i j : Nat) (a : Addr) (s t : Sl), i ≠ j → ρ[i]? = some (some s) → ρ[j]? = some (some t) → s.isVal = false → t.isVal = false → σ[i]? = some (some (.ref a)) → σ[j]? ≠ some (some (.ref a))
section
variable {K : PySem.W.Frag} {H0 P0 P H P' H' : Hp} {σ : L2.St} {ρ : Rho}
theorem ER.step (r : ER K H0 P0 P H σ ρ) (e : Ex P H P' H') : ER K H0 P0 P' H' σ ρ :=
  ⟨e.ph, r.bs.trans e, r.len, fun i s h => let ⟨x, h1, h2⟩ := r.slot i s h; ⟨x, h1, h2.step e⟩, r.sep⟩
/-- a slot gets a value -/
theorem ER.set (r : ER K H0 P0 P H σ ρ) {i : Nat} {x : V} {d : D} (h : Dr K P x d) : ER K H0 P0 P H (σ.set i (some x)) (ρ.set i (some (.val d))) := by
  refine ⟨r.sub, r.bs, by simp [r.len], fun j s hs => ?_, fun j k a s t ne hj hk sv tv => ?_⟩
  · by_cases e : i = j
    · subst e
      by_cases hl : i < ρ.length
      · rw [List.getElem?_set_self hl] at hs
        cases hs
        exact ⟨x, by rw [List.getElem?_set_self (by rw [← r.len]; exact hl)], h⟩
      · rw [List.getElem?_eq_none (by simpa using hl)] at hs
        cases hs
    · rw [List.getElem?_set_ne e] at hs ⊢
      exact r.slot j s hs
  · have fj : i ≠ j := fun e => by
      subst e
      by_cases hl : i < ρ.length
      · rw [List.getElem?_set_self hl] at hj
        cases hj
        cases sv
      · rw [List.getElem?_eq_none (by simpa using hl)] at hj
        cases hj
    have fk : i ≠ k := fun e => by
      subst e
      by_cases hl : i < ρ.length
      · rw [List.getElem?_set_self hl] at hk
        cases hk
        cases tv
      · rw [List.getElem?_eq_none (by simpa using hl)] at hk
        cases hk
    rw [List.getElem?_set_ne fj] at hj ⊢
    rw [List.getElem?_set_ne fk] at hk ⊢
    exact r.sep j k a s t ne hj hk sv tv
/-- a slot gets a fresh object of one's own -/
theorem ER.setOwn (r : ER K H0 P0 P H σ ρ) {i : Nat} {a : Addr} {o : HO} {s : Sl} (ha : H a = none) (sv : s.isVal = false) (hs : RS K H0 P (upd H a o) (.ref a) s) : ER K H0 P0 P (upd H a o) (σ.set i (some (.ref a))) (ρ.set i (some s)) := by
  have e1 : Ex P H P (upd H a o) := Ex.out r.sub ha
  have r1 := r.step e1
  refine ⟨r1.sub, r1.bs, by simp [r.len], fun j t ht => ?_, fun j k b t u ne hj hk tv uv h1 h2 => ?_⟩
  · by_cases e : i = j
    · subst e
      by_cases hl : i < ρ.length
      · rw [List.getElem?_set_self hl] at ht
        cases ht
        exact ⟨_, by rw [List.getElem?_set_self (by rw [← r.len]; exact hl)], hs⟩
      · rw [List.getElem?_eq_none (by simpa using hl)] at ht
        cases ht
    · rw [List.getElem?_set_ne e] at ht ⊢
      exact r1.slot j t ht
  · -- the other own slots stand at old addresses
    have old : ∀ (j : Nat) (t : Sl) (b : Addr), i ≠ j → (ρ.set i (some s))[j]? = some (some t) → t.isVal = false → (σ.set i (some (V.ref a)))[j]? = some (some (.ref b)) → b ≠ a := by
      intro j t b e hj tv h1 z
      rw [List.getElem?_set_ne e] at hj h1
      obtain ⟨x, hx, rs⟩ := r.slot j t hj
      rw [hx] at h1
      cases h1
      cases t with
      | val d => cases tv
      | own l =>
        obtain ⟨c, vs, e1, h1, _⟩ := rs
        cases e1
        rw [z, ha] at h1; cases h1
      | dct l =>
        obtain ⟨c, vs, e1, h1, _⟩ := rs
        cases e1
        rw [z, ha] at h1; cases h1
    have self : ∀ (j : Nat) (b : Addr), i = j → (σ.set i (some (V.ref a)))[j]? = some (some (.ref b)) → b = a := by
      intro j b e h1
      subst e
      by_cases hl : i < σ.length
      · rw [List.getElem?_set_self hl] at h1
        cases h1; rfl
      · rw [List.getElem?_eq_none (by simpa using hl)] at h1
        cases h1
    by_cases ej : i = j
    · have ek : i ≠ k := fun z => ne (ej.symm.trans z)
      have q := self j b ej h1
      exact old k u b ek hk uv h2 q
    · by_cases ek : i = k
      · have q := self k b ek h2
        exact old j t b ej hj tv h1 q
      · rw [List.getElem?_set_ne ej] at hj h1
        rw [List.getElem?_set_ne ek] at hk h2
        exact r.sep j k b t u ne hj hk tv uv h1 h2
/-- an own object changes -/
theorem ER.write (r : ER K H0 P0 P H σ ρ) {i : Nat} {a : Addr} {o : HO} {s s' : Sl} (hi : ρ[i]? = some (some s)) (sv : s.isVal = false) (hx : σ[i]? = some (some (.ref a))) (hp : P a = none) (h0 : H0 a = none)
    (sv' : s'.isVal = false) (hs : RS K H0 P (upd H a o) (.ref a) s') : ER K H0 P0 P (upd H a o) σ (ρ.set i (some s')) := by
  have su : Same P (upd H a o) := fun b u e => by
    rw [upd_ne (ne_of_none e hp)]; exact r.sub b u e
  refine ⟨su, ⟨r.bs.pp, su, fun b u e => ?_, r.bs.fr⟩, by simp [r.len], fun j t ht => ?_, fun j k b t u ne hj hk tv uv h1 h2 => ?_⟩
  · rw [upd_ne (ne_of_none e h0)]; exact r.bs.hh b u e
  · by_cases e : i = j
    · subst e
      by_cases hl : i < ρ.length
      · rw [List.getElem?_set_self hl] at ht
        cases ht
        exact ⟨_, hx, hs⟩
      · rw [List.getElem?_eq_none (by simpa using hl)] at ht
        cases ht
    · rw [List.getElem?_set_ne e] at ht
      obtain ⟨x, h1, h2⟩ := r.slot j t ht
      refine ⟨x, h1, ?_⟩
      cases t with
      | val d => exact h2
      | own l =>
        obtain ⟨c, vs, rfl, q1, q2, q3, q4⟩ := h2
        have hca : c ≠ a := fun z => by
          subst z
          exact r.sep i j c s _ e hi ht sv rfl hx h1
        exact ⟨c, vs, rfl, by rw [upd_ne hca]; exact q1, q2, q3, q4⟩
      | dct l =>
        obtain ⟨c, vs, rfl, q1, q2, q3, q4⟩ := h2
        have hca : c ≠ a := fun z => by
          subst z
          exact r.sep i j c s _ e hi ht sv rfl hx h1
        exact ⟨c, vs, rfl, by rw [upd_ne hca]; exact q1, q2, q3, q4⟩
  · have back : ∀ (j : Nat) (t : Sl), (ρ.set i (some s'))[j]? = some (some t) → t.isVal = false → ∃ t0, ρ[j]? = some (some t0) ∧ t0.isVal = false := by
      intro j t hj tv
      by_cases e : i = j
      · subst e
        exact ⟨s, hi, sv⟩
      · rw [List.getElem?_set_ne e] at hj
        exact ⟨t, hj, tv⟩
    obtain ⟨t0, hj0, tv0⟩ := back j t hj tv
    obtain ⟨u0, hk0, uv0⟩ := back k u hk uv
    exact r.sep j k b t0 u0 ne hj0 hk0 tv0 uv0 h1 h2
/-- a list of one's own is let go: from now on it is a value -/
theorem ER.freeze (r : ER K H0 P0 P H σ ρ) {i : Nat} {l : List D} (hi : ρ[i]? = some (some (.own l))) : ∃ P', Same P P' ∧ ER K H0 P0 P' H σ (ρ.set i (some (.val (.list l)))) := by
  obtain ⟨x, hx, a, vs, rfl, h1, h2, h3, h4⟩ := r.slot i _ hi
  have sp : Same P (upd P a (.lst vs)) := same_upd h2
  have su : Same (upd P a (.lst vs)) H := fun b u e => by
    by_cases hb : b = a
    · subst hb; rw [upd_same] at e; cases e; exact h1
    · rw [upd_ne hb] at e; exact r.sub b u e
  refine ⟨upd P a (.lst vs), sp, su, ⟨r.bs.pp.trans sp, su, r.bs.hh, fun b hb pb => ?_⟩, by simp [r.len], fun j t ht => ?_, fun j k b t u ne hj hk tv uv q1 q2 => ?_⟩
  · have hba : b ≠ a := fun z => by subst z; exact hb h3
    rw [upd_ne hba]; exact r.bs.fr b hb pb
  · by_cases e : i = j
    · subst e
      by_cases hl : i < ρ.length
      · rw [List.getElem?_set_self hl] at ht
        cases ht
        exact ⟨_, hx, .lst (.inl upd_same) (h4.mono sp)⟩
      · rw [List.getElem?_eq_none (by simpa using hl)] at ht
        cases ht
    · rw [List.getElem?_set_ne e] at ht
      obtain ⟨x, q1, q2⟩ := r.slot j t ht
      refine ⟨x, q1, ?_⟩
      cases t with
      | val d => exact Dr.mono q2 sp
      | own l =>
        obtain ⟨c, ws, rfl, z1, z2, z3, z4⟩ := q2
        have hca : c ≠ a := fun z => by
          subst z
          exact r.sep i j c _ _ e hi ht rfl rfl hx q1
        exact ⟨c, ws, rfl, z1, by rw [upd_ne hca]; exact z2, z3, z4.mono sp⟩
      | dct l =>
        obtain ⟨c, ws, rfl, z1, z2, z3, z4⟩ := q2
        have hca : c ≠ a := fun z => by
          subst z
          exact r.sep i j c _ _ e hi ht rfl rfl hx q1
        exact ⟨c, ws, rfl, z1, by rw [upd_ne hca]; exact z2, z3, z4.mono sp⟩
  · have fr : ∀ (j : Nat) (t : Sl), (ρ.set i (some (.val (.list l))))[j]? = some (some t) → t.isVal = false → ρ[j]? = some (some t) := by
      intro j t hj tv
      by_cases e : i = j
      · subst e
        by_cases hl : i < ρ.length
        · rw [List.getElem?_set_self hl] at hj
          cases hj
          cases tv
        · rw [List.getElem?_eq_none (by simpa using hl)] at hj
          cases hj
      · rw [List.getElem?_set_ne e] at hj
        exact hj
    exact r.sep j k b t u ne (fr j t hj tv) (fr k u hk uv) tv uv q1 q2
/-- a slot is forgotten -/
theorem ER.forget (r : ER K H0 P0 P H σ ρ) {i : Nat} : ER K H0 P0 P H (σ.set i none) (ρ.set i none) := by
  have fr : ∀ {j : Nat} {t : Sl}, (ρ.set i none)[j]? = some (some t) → i ≠ j ∧ ρ[j]? = some (some t) := by
    intro j t hj
    by_cases e : i = j
    · subst e
      by_cases hl : i < ρ.length
      · rw [List.getElem?_set_self hl] at hj
        cases hj
      · rw [List.getElem?_eq_none (by simpa using hl)] at hj
        cases hj
    · rw [List.getElem?_set_ne e] at hj
      exact ⟨e, hj⟩
  refine ⟨r.sub, r.bs, by simp [r.len], fun j s hs => ?_, fun j k a s t ne hj hk sv tv => ?_⟩
  · obtain ⟨e, h⟩ := fr hs
    rw [List.getElem?_set_ne e]
    exact r.slot j s h
  · obtain ⟨ej, hj⟩ := fr hj
    obtain ⟨ek, hk⟩ := fr hk
    rw [List.getElem?_set_ne ej, List.getElem?_set_ne ek]
    exact r.sep j k a s t ne hj hk sv tv
end
/-! ### satisfaction -/
/-- what is wanted holds of what r gives -/
def Sat {α β : Type} (R : Hp → Hp → β → α → Prop) (ca : EC → Addr) (W : WX) (σ : L2.St) (P H : Hp) (r : Res α) (Q : β → Hp → Prop) : Prop :=
  match r with
  | .ok d => ∀ P' H' x, Ex P H P' H' → R P' H' x d → Q x H'
  | .er c => ∀ P' H', Ex P H P' H' → W (.ref (ca c)) none σ H'
  | .stk => False
section
variable {α β γ : Type} {R : Hp → Hp → β → α → Prop} {ca : EC → Addr} {W : WX} {σ : L2.St} {P H P' H' : Hp} {r : Res α} {Q Q' : β → Hp → Prop}
theorem Sat.step (h : Sat R ca W σ P H r Q) (e : Ex P H P' H') : Sat R ca W σ P' H' r Q := by
  cases r with
  | ok d => exact fun P2 H2 x e2 q => h P2 H2 x (e.trans e2) q
  | er c => exact fun P2 H2 e2 => h P2 H2 (e.trans e2)
  | stk => exact h
theorem Sat.imp (h : Sat R ca W σ P H r Q) (q : ∀ x H, Q x H → Q' x H) : Sat R ca W σ P H r Q' := by
  cases r with
  | ok d => exact fun P2 H2 x e2 z => q _ _ (h P2 H2 x e2 z)
  | er c => exact h
  | stk => exact h
end
/-- the reading of an expression (test, argument list ..) -/
def tG {α β : Type} (K : PySem.W.Frag) (R : Hp → Hp → β → α → Prop) (ca : EC → Addr) (W : WX) (m : Rho → Res α) : L2.St → Hp → (β → Hp → Prop) → Prop := fun σ H Q =>
  ∃ H0 P0 P ρ, ER K H0 P0 P H σ ρ ∧ Sat R ca W σ P H (m ρ) Q
theorem tG_bind {α β α' β' : Type} {K : PySem.W.Frag} {R : Hp → Hp → β → α → Prop} {R' : Hp → Hp → β' → α' → Prop} {ca : EC → Addr} {W : WX} {σ : L2.St} {H0 P0 P H : Hp} {ρ : Rho} {m : Rho → Res α} {k : α → Res α'} {Q : β' → Hp → Prop} {Q1 : β → Hp → Prop}
    (er : ER K H0 P0 P H σ ρ) (h : Sat R' ca W σ P H ((m ρ).bind k) Q) (hk : ∀ P1 H1 x d, Ex P H P1 H1 → R P1 H1 x d → Sat R' ca W σ P1 H1 (k d) Q → Q1 x H1) : tG K R ca W m σ H Q1 := by
  refine ⟨H0, P0, P, ρ, er, ?_⟩
  cases e : m ρ with
  | ok d =>
    rw [e] at h
    exact fun P1 H1 x e1 r => hk P1 H1 x d e1 r (h.step e1)
  | er c =>
    rw [e] at h
    exact h
  | stk =>
    rw [e] at h
    exact h
abbrev rD (K : PySem.W.Frag) : Hp → Hp → V → D → Prop := fun P _ x d => Dr K P x d
abbrev rDs (K : PySem.W.Frag) : Hp → Hp → List V → List D → Prop := fun P _ xs ds => DrAll K P xs ds
abbrev rB : Hp → Hp → Bool → Bool → Prop := fun _ _ b c => b = c
/-- a list that is read: a value or one's own -/
abbrev rL (K : PySem.W.Frag) : Hp → Hp → V → List D → Prop := fun P H x l => ∃ a vs, x = .ref a ∧ Rd H a (.lst vs) ∧ DrAll K P vs l
structure ME (X : Cx) (ca : EC → Addr) (W : WX) (e : Expr) (m : Rho → Res D) : Prop where
  pe : PE X e (tG X.K (rD X.K) ca W m)
structure MB (X : Cx) (ca : EC → Addr) (W : WX) (e : Expr) (m : Rho → Res (List D)) : Prop where
  pe : PE X e (tG X.K (rL X.K) ca W m)
structure MA (X : Cx) (ca : EC → Addr) (W : WX) (es : List Expr) (m : Rho → Res (List D)) : Prop where
  pa : PA X es (tG X.K (rDs X.K) ca W m)
structure MT (X : Cx) (ca : EC → Addr) (W : WX) (e : Expr) (m : Rho → Res Bool) : Prop where
  pt : PT X e (tG X.K rB ca W m)
/-- a fresh list: its address, then the heap with it -/
def tF (K : PySem.W.Frag) (ca : EC → Addr) (W : WX) (m : Rho → Res (List D)) : TE := fun σ H Q =>
  ∃ H0 P0 P ρ, ER K H0 P0 P H σ ρ ∧ match m ρ with
    | .ok l => ∀ P' H' a vs, Ex P H P' H' → H' a = none → DrAll K P' vs l → Q (.ref a) (upd H' a (.lst vs))
    | .er c => ∀ P' H', Ex P H P' H' → W (.ref (ca c)) none σ H'
    | .stk => False
structure MF (X : Cx) (ca : EC → Addr) (W : WX) (e : Expr) (m : Rho → Res (List D)) : Prop where
  pe : PE X e (tF X.K ca W m)
theorem _root_.L2.PE.imp {X : Cx} {e : Expr} {t t' : TE} (h : PE X e t) (i : ∀ σ H Q, t' σ H Q → t σ H Q) : PE X e t' := ⟨fun pins s σ H Q I q => h.run pins s σ H Q I (i _ _ _ q)⟩
theorem _root_.L2.PT.imp {X : Cx} {e : Expr} {t t' : TT} (h : PT X e t) (i : ∀ σ H Q, t' σ H Q → t σ H Q) : PT X e t' := ⟨fun pins s σ H Q I q => h.run pins s σ H Q I (i _ _ _ q)⟩
theorem _root_.L2.PA.imp {X : Cx} {es : List Expr} {t t' : TA} (h : PA X es t) (i : ∀ σ H Q, t' σ H Q → t σ H Q) : PA X es t' := ⟨fun pos pins s σ H Q I q => h.run pos pins s σ H Q I (i _ _ _ q)⟩
theorem _root_.L2.PS.imp {X : Cx} {st : Stmt} {t t' : TS} (h : PS X st t) (i : ∀ D σ H, t' D σ H → t D σ H) : PS X st t' := ⟨fun pins s σ H D I q => h.run pins s σ H D I (i _ _ _ q)⟩
theorem _root_.L2.PSs.imp {X : Cx} {st : List Stmt} {t t' : TS} (h : PSs X st t) (i : ∀ D σ H, t' D σ H → t D σ H) : PSs X st t' := ⟨fun pins s σ H D I q => h.run pins s σ H D I (i _ _ _ q)⟩
end PX
/-! The pure layer, part 2: expressions. -/
namespace PX
open PySem PySem.Spec PyProof.Rows L2
/-! ### the mirror's words for expressions -/
def mVar (i : Nat) : Rho → Res D := fun ρ => match ρ[i]? with
  | some (some (.val d)) => .ok d
  | _ => .stk
def mC (d : D) : Rho → Res D := fun _ => .ok d
def mBin (f : D → D → Option D) (a b : Rho → Res D) : Rho → Res D := fun ρ => (a ρ).bind fun x => (b ρ).bind fun y => .of (f x y)
def mUn (f : D → Option D) (a : Rho → Res D) : Rho → Res D := fun ρ => (a ρ).bind fun x => .of (f x)
def dBool : D → Option Bool
  | .bool b => some b
  | _ => none
/-- a value as a test -/
def dTru : D → Option Bool
  | .none => some false
  | .bool b => some b
  | .int i => some (i != 0)
  | .str s => if s.length ≤ sizeLine then some ((s.length : Int) != 0) else none
  | .list l => some (!l.isEmpty)
  | .tuple l => some (!l.isEmpty)
  | .dict _ => none
/-- what a list is not known to be: the script -/
def mTst (a : Rho → Res D) : Rho → Res Bool := fun ρ => (a ρ).bind fun x => .of (dBool x)
def mTru (a : Rho → Res D) : Rho → Res Bool := fun ρ => (a ρ).bind fun x => .of (dTru x)
def mNotT (a : Rho → Res Bool) : Rho → Res Bool := fun ρ => (a ρ).bind fun b => .ok (!b)
def mAndT (a b : Rho → Res Bool) : Rho → Res Bool := fun ρ => (a ρ).bind fun c => if c = true then b ρ else .ok false
def mOrT (a b : Rho → Res Bool) : Rho → Res Bool := fun ρ => (a ρ).bind fun c => if c = true then .ok true else b ρ
def mIf (c : Rho → Res Bool) (a b : Rho → Res D) : Rho → Res D := fun ρ => (c ρ).bind fun k => if k = true then a ρ else b ρ
def mAnd (a b : Rho → Res D) : Rho → Res D := fun ρ => (a ρ).bind fun x => (Res.of (dTru x)).bind fun k => if k = true then b ρ else .ok x
def mOr (a b : Rho → Res D) : Rho → Res D := fun ρ => (a ρ).bind fun x => (Res.of (dTru x)).bind fun k => if k = true then .ok x else b ρ
def mNot (a : Rho → Res D) : Rho → Res D := fun ρ => (a ρ).bind fun x => (Res.of (dTru x)).bind fun k => .ok (.bool !k)
/-- a op b op' c -/
def mChain (f g : D → D → Option D) (a b c : Rho → Res D) : Rho → Res D := fun ρ => (a ρ).bind fun x => (b ρ).bind fun y => (Res.of ((f x y).bind dBool)).bind fun k =>
  if k = true then (c ρ).bind fun z => .of (g y z) else .ok (.bool false)
def mNil : Rho → Res (List D) := fun _ => .ok []
def mCons (a : Rho → Res D) (r : Rho → Res (List D)) : Rho → Res (List D) := fun ρ => (a ρ).bind fun x => (r ρ).bind fun xs => .ok (x :: xs)
def mTup (r : Rho → Res (List D)) : Rho → Res D := fun ρ => (r ρ).bind fun xs => if xs.length ≤ sizeLine then .ok (.tuple xs) else .stk
def mLst (r : Rho → Res (List D)) : Rho → Res (List D) := fun ρ => (r ρ).bind fun xs => if xs.length ≤ sizeLine then .ok xs else .stk
def mList (m : Rho → Res (List D)) : Rho → Res D := fun ρ => (m ρ).bind fun l => .ok (.list l)
def mCall (g : List D → Res D) (ms : Rho → Res (List D)) : Rho → Res D := fun ρ => (ms ρ).bind g
/-- a built-in's call -/
def mCB (g : List D → Option D) (ms : Rho → Res (List D)) : Rho → Res D := fun ρ => (ms ρ).bind fun xs => .of (g xs)
/-- .. of a list that is read -/
def mCL (g : List D → Option D) (m : Rho → Res (List D)) : Rho → Res D := mCB g m
/-- a method of a built-in -/
def mBM (g : D → List D → Option D) (a : Rho → Res D) (ms : Rho → Res (List D)) : Rho → Res D := fun ρ => (a ρ).bind fun x => (ms ρ).bind fun xs => .of (g x xs)
def mLM (g : List D → List D → Option D) (a : Rho → Res (List D)) (ms : Rho → Res (List D)) : Rho → Res D := fun ρ => (a ρ).bind fun x => (ms ρ).bind fun xs => .of (g x xs)
def mOwn (i : Nat) : Rho → Res (List D) := fun ρ => match ρ[i]? with
  | some (some (.own l)) => .ok l
  | _ => .stk
def dLst : D → Option (List D)
  | .list l => some l
  | _ => none
/-- a value that is a list -/
def mOfL (a : Rho → Res D) : Rho → Res (List D) := fun ρ => (a ρ).bind fun x => .of (dLst x)
/-- .. read at a place -/
def mIxL (f : List D → D → Option D) (a : Rho → Res (List D)) (b : Rho → Res D) : Rho → Res D := fun ρ => (a ρ).bind fun x => (b ρ).bind fun y => .of (f x y)
/-! ### rules by values -/
/-- what an operation by values gives, by data -/
def OpS (K : PySem.W.Frag) (r : R2) (f : D → D → Option D) : Prop :=
  ∀ (P H : Hp) (x y : V) (d e z : D) (Q : VK), Same P H → Dr K P x d → Dr K P y e → f d e = some z → (∀ P' H' v, Ex P H P' H' → Dr K P' v z → Q v H') → r x y H Q
theorem OpS.left {K : PySem.W.Frag} {r r' : R2} {f : D → D → Option D} (h : OpS K r f) : OpS K (fun x y H Q => r x y H Q ∨ r' x y H Q) f := fun P H x y d e z Q s a b c q => .inl (h P H x y d e z Q s a b c q)
theorem OpR.or {X : Cx} {f : Value → Value → Sem Value} {r r' : R2} (h : OpR X f r) (h' : OpR X f r') : OpR X f (fun x y H Q => r x y H Q ∨ r' x y H Q) := fun pins s σ H x y v u Q I rx ry q =>
  q.elim (h pins s σ H x y v u Q I rx ry) (h' pins s σ H x y v u Q I rx ry)
/-- one rule, else another -/
def orElse2 (f g : D → D → Option D) : D → D → Option D := fun d e => match f d e with
  | some z => some z
  | none => g d e
theorem OpS.or {K : PySem.W.Frag} {r r' : R2} {f g : D → D → Option D} (h : OpS K r f) (h' : OpS K r' g) : OpS K (fun x y H Q => r x y H Q ∨ r' x y H Q) (orElse2 f g) := by
  intro P H x y d e z Q s a b c q
  unfold orElse2 at c
  cases hf : f d e with
  | some w =>
    rw [hf] at c
    cases c
    exact .inl (h P H x y d e _ Q s a b hf q)
  | none =>
    rw [hf] at c
    exact .inr (h' P H x y d e z Q s a b c q)
def CaS (K : PySem.W.Frag) (r : List V → Hp → VK → Prop) (g : List D → Option D) : Prop :=
  ∀ (P H : Hp) (xs : List V) (ds : List D) (z : D) (Q : VK), Same P H → DrAll K P xs ds → g ds = some z → (∀ P' H' v, Ex P H P' H' → Dr K P' v z → Q v H') → r xs H Q
/-- .. of one list that is read -/
def ClS (K : PySem.W.Frag) (r : List V → Hp → VK → Prop) (g : List D → Option D) : Prop :=
  ∀ (P H : Hp) (a : Addr) (xs : List V) (ds : List D) (z : D) (Q : VK), Same P H → Rd H a (.lst xs) → DrAll K P xs ds → g ds = some z → (∀ P' H' v, Ex P H P' H' → Dr K P' v z → Q v H') → r [.ref a] H Q
def MeS (K : PySem.W.Frag) (T : String) (r : V → List V → Hp → VK → Prop) (g : D → List D → Option D) : Prop :=
  ∀ (P H P1 H1 : Hp) (x : V) (xs : List V) (d : D) (ds : List D) (z : D) (Q : VK), Same P H → Dr K P x d → Ex P H P1 H1 → DrAll K P1 xs ds → g d ds = some z → (∀ P' H' v, Ex P1 H1 P' H' → Dr K P' v z → Q v H') → tyV K T x H ∧ r x xs H1 Q
section
variable {X : Cx} {ca : EC → Addr} {W : WX} {pos : Pos}
abbrev Cx.KK (X : Cx) := X.K
/-! ### names, constants -/
theorem me_var (i : Nat) {x : Str} {pos : Pos} (hN : X.N[i]? = some x := by rfl) (hv : Vis X.env.scope x := by first | exact Or.inl rfl | exact Or.inr (Or.inl rfl) | exact Or.inr (Or.inr rfl)) (hd : (x == ("__debug__" : Str)) = false := by decide)
    (hcd : (x == ("__classdict__" : Str)) = false := by decide) : ME X ca W (.Name x pos) (mVar i) := by
  refine ⟨(pe_var hN hv hd hcd).imp fun σ H Q ⟨H0, P0, P, ρ, er, h⟩ => ?_⟩
  unfold mVar at h
  cases e : ρ[i]? with
  | none => rw [e] at h; exact h.elim
  | some o =>
    rw [e] at h
    cases o with
    | none => exact h.elim
    | some s =>
      cases s with
      | val d =>
        obtain ⟨v, hv, rv⟩ := er.slot i _ e
        exact ⟨v, hv, h P H v (Ex.refl er.sub) rv⟩
      | own l => exact h.elim
      | dct l => exact h.elim
theorem mb_own (i : Nat) {x : Str} {pos : Pos} (hN : X.N[i]? = some x := by rfl) (hv : Vis X.env.scope x := by first | exact Or.inl rfl | exact Or.inr (Or.inl rfl) | exact Or.inr (Or.inr rfl)) (hd : (x == ("__debug__" : Str)) = false := by decide)
    (hcd : (x == ("__classdict__" : Str)) = false := by decide) : MB X ca W (.Name x pos) (mOwn i) := by
  refine ⟨(pe_var hN hv hd hcd).imp fun σ H Q ⟨H0, P0, P, ρ, er, h⟩ => ?_⟩
  unfold mOwn at h
  cases e : ρ[i]? with
  | none => rw [e] at h; exact h.elim
  | some o =>
    rw [e] at h
    cases o with
    | none => exact h.elim
    | some s =>
      cases s with
      | val d => exact h.elim
      | own l =>
        obtain ⟨v, hv, a, vs, rfl, h1, h2, h3, h4⟩ := er.slot i _ e
        exact ⟨_, hv, h P H _ (Ex.refl er.sub) ⟨a, vs, rfl, .inl h1, h4⟩⟩
      | dct l => exact h.elim
theorem me_c {e : Expr} {v : V} {d : D} (h : PE X e (tC v)) (hd : ∀ P, Dr X.K P v d) : ME X ca W e (mC d) :=
  ⟨h.imp fun σ H Q ⟨H0, P0, P, ρ, er, h⟩ => h P H v (Ex.refl er.sub) (hd P)⟩
theorem me_int {i : Int} {j : Nat} : ME X ca W (.Constant (.int i) j pos) (mC (.int i)) := me_c pe_int fun _ => .int i
theorem me_bl {b : Bool} {j : Nat} : ME X ca W (.Constant (.bool b) j pos) (mC (.bool b)) := me_c pe_bl fun _ => .bl b
theorem me_non {j : Nat} : ME X ca W (.Constant .none j pos) (mC .none) := me_c pe_non fun _ => .non
theorem me_str {x : Str} {j : Nat} : ME X ca W (.Constant (.str x) j pos) (mC (.str x)) := me_c pe_str fun _ => .str x
theorem me_gstr {x z : Str} (hm : ∃ t, X.mg x = some (.str z t)) (hg : Gl X x := by rfl) (hd : (x == ("__debug__" : Str)) = false := by decide) : ME X ca W (.Name x pos) (mC (.str z)) := by
  obtain ⟨t, hm⟩ := hm
  exact me_c (v := .str z) (pe_glob hg hm ⟨t, rfl⟩ hd) fun _ => .str z
theorem me_gint {x : Str} {i : Int} (hm : ∃ t, X.mg x = some (.int i t)) (hg : Gl X x := by rfl) (hd : (x == ("__debug__" : Str)) = false := by decide) : ME X ca W (.Name x pos) (mC (.int i)) := by
  obtain ⟨t, hm⟩ := hm
  exact me_c (v := .int i) (pe_glob hg hm ⟨t, rfl⟩ hd) fun _ => .int i
/-! ### operators -/
variable {a b c : Expr} {ma mb mc : Rho → Res D} {r r' : R2} {f g : D → D → Option D}
theorem me_op {op : Operator} (ho : OpR X (binaryOp op) r) (hs : OpS X.K r f) (ha : ME X ca W a ma) (hb : ME X ca W b mb) : ME X ca W (.BinOp a op b pos) (mBin f ma mb) := by
  refine ⟨(pe_op ho ha.pe hb.pe).imp fun σ H Q ⟨H0, P0, P, ρ, er, h⟩ => tG_bind er h fun P1 H1 x d e1 rx h1 => tG_bind (er.step e1) h1 fun P2 H2 y e e2 ry h2 => ?_⟩
  cases q : f d e with
  | none => rw [q] at h2; exact h2.elim
  | some z =>
    rw [q] at h2
    exact hs P2 H2 x y d e z Q e2.ph (Dr.mono rx e2.pp) ry q fun P' H' v ex rv => h2 P' H' v ex rv
theorem me_cmp {op : CmpOp} (ho : OpR X (compareOp op) r) (hs : OpS X.K r f) (ha : ME X ca W a ma) (hb : ME X ca W b mb) (hm : behindInMarks op b = false) : ME X ca W (.Compare a [op] [b] pos) (mBin f ma mb) := by
  refine ⟨(pe_cmpR ho ha.pe hb.pe hm).imp fun σ H Q ⟨H0, P0, P, ρ, er, h⟩ => tG_bind er h fun P1 H1 x d e1 rx h1 => tG_bind (er.step e1) h1 fun P2 H2 y e e2 ry h2 => ?_⟩
  cases q : f d e with
  | none => rw [q] at h2; exact h2.elim
  | some z =>
    rw [q] at h2
    exact hs P2 H2 x y d e z Q e2.ph (Dr.mono rx e2.pp) ry q fun P' H' v ex rv => h2 P' H' v ex rv
theorem mt_cmp {op : CmpOp} (ho : OpR X (compareOp op) r) (hs : OpS X.K r f) (ha : ME X ca W a ma) (hb : ME X ca W b mb) (hm : behindInMarks op b = false) : MT X ca W (.Compare a [op] [b] pos) (mTst (mBin f ma mb)) := by
  refine ⟨(pt_cmpR ho ha.pe hb.pe hm).imp fun σ H Q ⟨H0, P0, P, ρ, er, h⟩ => ?_⟩
  have h : Sat rB ca W σ P H ((ma ρ).bind fun x => (mb ρ).bind fun y => (Res.of (f x y)).bind fun z => .of (dBool z)) Q := by
    have e : mTst (mBin f ma mb) ρ = ((ma ρ).bind fun x => (mb ρ).bind fun y => (Res.of (f x y)).bind fun z => .of (dBool z)) := by
      unfold mTst mBin
      cases ma ρ with
      | ok x => cases mb ρ <;> rfl
      | er c => rfl
      | stk => rfl
    rw [← e]; exact h
  refine tG_bind er h fun P1 H1 x d e1 rx h1 => tG_bind (er.step e1) h1 fun P2 H2 y e e2 ry h2 => ?_
  cases q : f d e with
  | none => rw [q] at h2; exact h2.elim
  | some z =>
    rw [q] at h2
    cases z with
    | bool k =>
      refine hs P2 H2 x y d e _ _ e2.ph (Dr.mono rx e2.pp) ry q fun P' H' v ex rv => ?_
      cases rv
      exact ⟨k, rfl, h2 P' H' k ex rfl⟩
    | _ => exact h2.elim
theorem tru_of {K : PySem.W.Frag} {P H : Hp} {x : V} {d : D} {k : Bool} (s : Same P H) (h : Dr K P x d) (e : dTru d = some k) : TruV K x H k := by
  cases h with
  | non => cases e; rfl
  | bl b => cases e; rfl
  | int i => cases e; rfl
  | str y =>
    have e : (if y.length ≤ sizeLine then some ((y.length : Int) != 0) else none) = some k := e
    by_cases hl : y.length ≤ sizeLine
    · rw [if_pos hl] at e
      cases e
      exact ⟨hl, rfl⟩
    · rw [if_neg hl] at e; cases e
  | @lst a vs ds q r =>
    cases e
    refine .inl ⟨vs, .inl (rd_mono s q), ?_⟩
    cases r <;> rfl
  | @tup a vs ds q r =>
    cases e
    refine .inr (.inl ⟨vs, seqT_mono s q, ?_⟩)
    cases r <;> rfl
  | scr q => cases e
theorem mt_tru (ha : ME X ca W a ma) (he : ∀ whole, isTrue a X.env whole = (do let v ← whole; standAt a.pos; holding [v] (truthy v)) := by intro _; rfl) : MT X ca W a (mTru ma) := by
  refine ⟨(pt_truth ha.pe he).imp fun σ H Q ⟨H0, P0, P, ρ, er, h⟩ => tG_bind er h fun P1 H1 x d e1 rx h1 => ?_⟩
  cases q : dTru d with
  | none => rw [q] at h1; exact h1.elim
  | some k =>
    rw [q] at h1
    exact ⟨k, tru_of e1.ph rx q, h1 P1 H1 k (Ex.refl e1.ph) rfl⟩
theorem mt_tst (ha : ME X ca W a ma) (he : ∀ whole, isTrue a X.env whole = (do let v ← whole; standAt a.pos; holding [v] (truthy v)) := by intro _; rfl) : MT X ca W a (mTst ma) := by
  refine ⟨(pt_truth ha.pe he).imp fun σ H Q ⟨H0, P0, P, ρ, er, h⟩ => tG_bind er h fun P1 H1 x d e1 rx h1 => ?_⟩
  cases d with
  | bool k =>
    cases rx
    exact ⟨k, rfl, h1 P1 H1 k (Ex.refl e1.ph) rfl⟩
  | _ => exact h1.elim
theorem mb_tru {m : Rho → Res (List D)} (ha : MB X ca W a m) (he : ∀ whole, isTrue a X.env whole = (do let v ← whole; standAt a.pos; holding [v] (truthy v)) := by intro _; rfl) : MT X ca W a (fun ρ => (m ρ).bind fun l => .ok (!l.isEmpty)) := by
  refine ⟨(pt_truth ha.pe he).imp fun σ H Q ⟨H0, P0, P, ρ, er, h⟩ => tG_bind er h fun P1 H1 x d e1 rx h1 => ?_⟩
  obtain ⟨p, vs, rfl, q, rr⟩ := rx
  refine ⟨!vs.isEmpty, .inl ⟨vs, .inl q, rfl⟩, h1 P1 H1 _ (Ex.refl e1.ph) ?_⟩
  cases rr <;> rfl
variable {ta tb tc : Rho → Res Bool} {rest : List Expr}
theorem mt_not (ha : MT X ca W a ta) : MT X ca W (.UnaryOp .Not a pos) (mNotT ta) := by
  refine ⟨(pt_not ha.pt).imp fun σ H Q ⟨H0, P0, P, ρ, er, h⟩ => tG_bind er h fun P1 H1 x d e1 rx h1 => ?_⟩
  subst rx
  exact h1 P1 H1 _ (Ex.refl e1.ph) rfl
/-- and, or in tests: a whole -/
structure MW (X : Cx) (ca : EC → Addr) (W : WX) (e : Expr) (m : Rho → Res Bool) : Prop where
  pw : PW X e (tG X.K rB ca W m)
theorem PWimp {X : Cx} {e : Expr} {t t' : TT} (h : PW X e t) (i : ∀ σ H Q, t' σ H Q → t σ H Q) : PW X e t' := ⟨fun wh pins s σ H Q I q => h.run wh pins s σ H Q I (i _ _ _ q)⟩
theorem mt_w {e : Expr} (h : MW X ca W e ta) : MT X ca W e ta := ⟨h.pw.pt⟩
theorem mw_and1 (ha : MT X ca W a ta) : MW X ca W (.BoolOp .And [a] pos) ta := ⟨pw_and1 ha.pt⟩
theorem mw_or1 (ha : MT X ca W a ta) : MW X ca W (.BoolOp .Or [a] pos) ta := ⟨pw_or1 ha.pt⟩
theorem mw_and (ha : MT X ca W a ta) (hb : MW X ca W (.BoolOp .And (b :: rest) pos) tb) : MW X ca W (.BoolOp .And (a :: b :: rest) pos) (mAndT ta tb) := by
  refine ⟨PWimp (pw_and ha.pt hb.pw) fun σ H Q ⟨H0, P0, P, ρ, er, h⟩ => tG_bind er h fun P1 H1 x d e1 rx h1 => ?_⟩
  subst rx
  cases x with
  | true =>
    rw [if_pos rfl] at h1 ⊢
    exact ⟨H0, P0, P1, ρ, er.step e1, h1⟩
  | false =>
    rw [if_neg Bool.false_ne_true] at h1 ⊢
    exact h1 P1 H1 _ (Ex.refl e1.ph) rfl
theorem mw_or (ha : MT X ca W a ta) (hb : MW X ca W (.BoolOp .Or (b :: rest) pos) tb) : MW X ca W (.BoolOp .Or (a :: b :: rest) pos) (mOrT ta tb) := by
  refine ⟨PWimp (pw_or ha.pt hb.pw) fun σ H Q ⟨H0, P0, P, ρ, er, h⟩ => tG_bind er h fun P1 H1 x d e1 rx h1 => ?_⟩
  subst rx
  cases x with
  | true =>
    rw [if_pos rfl] at h1 ⊢
    exact h1 P1 H1 _ (Ex.refl e1.ph) rfl
  | false =>
    rw [if_neg Bool.false_ne_true] at h1 ⊢
    exact ⟨H0, P0, P1, ρ, er.step e1, h1⟩
theorem me_ifExp (hc : MT X ca W c tc) (ha : ME X ca W a ma) (hb : ME X ca W b mb) : ME X ca W (.IfExp c a b pos) (mIf tc ma mb) := by
  refine ⟨(pe_ifExp hc.pt ha.pe hb.pe).imp fun σ H Q ⟨H0, P0, P, ρ, er, h⟩ => tG_bind er h fun P1 H1 x d e1 rx h1 => ?_⟩
  subst rx
  cases x with
  | true =>
    rw [if_pos rfl] at h1 ⊢
    exact ⟨H0, P0, P1, ρ, er.step e1, h1⟩
  | false =>
    rw [if_neg Bool.false_ne_true] at h1 ⊢
    exact ⟨H0, P0, P1, ρ, er.step e1, h1⟩
/-! and, or, not as values -/
theorem me_one_and (ha : ME X ca W a ma) : ME X ca W (.BoolOp .And [a] pos) ma := ⟨pe_one ha.pe⟩
theorem me_one_or (ha : ME X ca W a ma) : ME X ca W (.BoolOp .Or [a] pos) ma := ⟨pe_one ha.pe⟩
theorem me_and (ha : ME X ca W a ma) (hb : ME X ca W (.BoolOp .And (b :: rest) pos) mb) : ME X ca W (.BoolOp .And (a :: b :: rest) pos) (mAnd ma mb) := by
  refine ⟨(pe_andT ha.pe hb.pe).imp fun σ H Q ⟨H0, P0, P, ρ, er, h⟩ => tG_bind er h fun P1 H1 x d e1 rx h1 => ?_⟩
  cases q : dTru d with
  | none => rw [q] at h1; exact h1.elim
  | some k =>
    rw [q] at h1
    refine ⟨k, tru_of e1.ph rx q, ?_⟩
    cases k with
    | true => exact ⟨H0, P0, P1, ρ, er.step e1, h1⟩
    | false => exact h1 P1 H1 _ (Ex.refl e1.ph) rx
theorem me_or (ha : ME X ca W a ma) (hb : ME X ca W (.BoolOp .Or (b :: rest) pos) mb) : ME X ca W (.BoolOp .Or (a :: b :: rest) pos) (mOr ma mb) := by
  refine ⟨(pe_orT ha.pe hb.pe).imp fun σ H Q ⟨H0, P0, P, ρ, er, h⟩ => tG_bind er h fun P1 H1 x d e1 rx h1 => ?_⟩
  cases q : dTru d with
  | none => rw [q] at h1; exact h1.elim
  | some k =>
    rw [q] at h1
    refine ⟨k, tru_of e1.ph rx q, ?_⟩
    cases k with
    | true => exact h1 P1 H1 _ (Ex.refl e1.ph) rx
    | false => exact ⟨H0, P0, P1, ρ, er.step e1, h1⟩
theorem me_not (ha : ME X ca W a ma) : ME X ca W (.UnaryOp .Not a pos) (mNot ma) := by
  refine ⟨(pe_notT ha.pe).imp fun σ H Q ⟨H0, P0, P, ρ, er, h⟩ => tG_bind er h fun P1 H1 x d e1 rx h1 => ?_⟩
  cases q : dTru d with
  | none => rw [q] at h1; exact h1.elim
  | some k =>
    rw [q] at h1
    exact ⟨k, tru_of e1.ph rx q, h1 P1 H1 _ (Ex.refl e1.ph) (.bl _)⟩
/-! a op b op' c -/
theorem me_chain {op op' : CmpOp} (ho : OpR X (compareOp op) r) (hs : OpS X.K r f) (ho' : OpR X (compareOp op') r') (hs' : OpS X.K r' g) (ha : ME X ca W a ma) (hb : ME X ca W b mb) (hc : ME X ca W c mc)
    (hm : lastMarks [op, op'] [b, c] = false := by with_unfolding_all rfl) : ME X ca W (.Compare a [op, op'] [b, c] pos) (mChain f g ma mb mc) := by
  refine ⟨(pe_chain ho ho' ha.pe hb.pe hc.pe hm).imp fun σ H Q ⟨H0, P0, P, ρ, er, h⟩ => tG_bind er h fun P1 H1 x d e1 rx h1 => tG_bind (er.step e1) h1 fun P2 H2 y e e2 ry h2 => ?_⟩
  cases q : f d e with
  | none => rw [q] at h2; exact h2.elim
  | some z =>
    rw [q] at h2
    cases z with
    | bool k =>
      refine hs P2 H2 x y d e _ _ e2.ph (Dr.mono rx e2.pp) ry q fun P3 H3 v e3 rv => ?_
      cases rv
      refine ⟨k, rfl, ?_⟩
      cases k with
      | true =>
        refine tG_bind ((er.step (e1.trans e2)).step e3) (Sat.step h2 e3) fun P4 H4 w z e4 rw' h4 => ?_
        cases q' : g e z with
        | none => rw [q'] at h4; exact h4.elim
        | some u =>
          rw [q'] at h4
          exact hs' P4 H4 y w e z u Q e4.ph (Dr.mono ry (e3.pp.trans e4.pp)) rw' q' fun P' H' v ex rv => h4 P' H' v ex rv
      | false => exact h2 P3 H3 _ e3 (.bl false)
    | _ => exact h2.elim
theorem mt_chain {op op' : CmpOp} (ho : OpR X (compareOp op) r) (hs : OpS X.K r f) (ho' : OpR X (compareOp op') r') (hs' : OpS X.K r' g) (ha : ME X ca W a ma) (hb : ME X ca W b mb) (hc : ME X ca W c mc)
    (hm : lastMarks [op, op'] [b, c] = false := by with_unfolding_all rfl) : MT X ca W (.Compare a [op, op'] [b, c] pos) (mTst (mChain f g ma mb mc)) := by
  refine ⟨(pt_chain ho ho' ha.pe hb.pe hc.pe hm).imp fun σ H Q ⟨H0, P0, P, ρ, er, h⟩ => ?_⟩
  have h : Sat rB ca W σ P H ((ma ρ).bind fun x => (mb ρ).bind fun y => ((Res.of ((f x y).bind dBool)).bind fun k => if k = true then (mc ρ).bind fun z => .of (g y z) else .ok (.bool false)).bind fun z => .of (dBool z)) Q := by
    have e : mTst (mChain f g ma mb mc) ρ = ((ma ρ).bind fun x => (mb ρ).bind fun y => ((Res.of ((f x y).bind dBool)).bind fun k => if k = true then (mc ρ).bind fun z => .of (g y z) else .ok (.bool false)).bind fun z => .of (dBool z)) := by
      unfold mTst mChain
      cases ma ρ with
      | ok x => cases mb ρ <;> rfl
      | er c => rfl
      | stk => rfl
    rw [← e]; exact h
  refine tG_bind er h fun P1 H1 x d e1 rx h1 => tG_bind (er.step e1) h1 fun P2 H2 y e e2 ry h2 => ?_
  cases q : f d e with
  | none => rw [q] at h2; exact h2.elim
  | some z =>
    rw [q] at h2
    cases z with
    | bool k =>
      refine hs P2 H2 x y d e _ _ e2.ph (Dr.mono rx e2.pp) ry q fun P3 H3 v e3 rv => ?_
      cases rv
      refine ⟨k, rfl, ?_⟩
      cases k with
      | true =>
        rw [if_pos rfl]
        have h2 : Sat rB ca W σ P2 H2 ((mc ρ).bind fun z => (Res.of (g e z)).bind fun z => .of (dBool z)) Q := by
          have e : ((Res.of ((some (PyData.bool true)).bind dBool)).bind fun k => if k = true then (mc ρ).bind fun z => Res.of (g e z) else .ok (.bool false)).bind (fun z => Res.of (dBool z)) = ((mc ρ).bind fun z => (Res.of (g e z)).bind fun z => .of (dBool z)) := by
            show ((mc ρ).bind fun z => Res.of (g e z)).bind _ = _
            cases mc ρ <;> rfl
          rw [← e]; exact h2
        refine tG_bind ((er.step (e1.trans e2)).step e3) (Sat.step h2 e3) fun P4 H4 w z e4 rw' h4 => ?_
        cases q' : g e z with
        | none => rw [q'] at h4; exact h4.elim
        | some u =>
          rw [q'] at h4
          cases u with
          | bool j =>
            refine hs' P4 H4 y w e z _ _ e4.ph (Dr.mono ry (e3.pp.trans e4.pp)) rw' q' fun P' H' v ex rv => ?_
            cases rv
            exact ⟨j, rfl, h4 P' H' j ex rfl⟩
          | _ => exact h4.elim
      | false =>
        rw [if_neg Bool.false_ne_true]
        exact ⟨false, rfl, h2 P3 H3 _ e3 rfl⟩
    | _ => exact h2.elim
/-! ### argument lists, displays -/
variable {e : Expr} {es : List Expr} {me : Rho → Res D} {ms : Rho → Res (List D)} {ml : Rho → Res (List D)}
theorem ma_nil : MA X ca W [] mNil := ⟨pa_nil.imp fun σ H Q ⟨H0, P0, P, ρ, er, h⟩ => h P H [] (Ex.refl er.sub) .nil⟩
theorem ma_cons (ha : ME X ca W e me) (hr : MA X ca W es ms) (hs : starEach (e :: es) X.env = (false, eval e X.env) :: starEach es X.env := by rfl) : MA X ca W (e :: es) (mCons me ms) := by
  refine ⟨(pa_cons ha.pe hr.pa hs).imp fun σ H Q ⟨H0, P0, P, ρ, er, h⟩ => tG_bind er h fun P1 H1 x d e1 rx h1 => tG_bind (er.step e1) h1 fun P2 H2 xs ds e2 rxs h2 => ?_⟩
  exact h2 P2 H2 _ (Ex.refl e2.ph) (.cons (Dr.mono rx e2.pp) rxs)
theorem me_tup {x1 : Nat} (h : MA X ca W es ms) : ME X ca W (.Tuple es x1 pos) (mTup ms) := by
  refine ⟨(pe_tup h.pa).imp fun σ H Q ⟨H0, P0, P, ρ, er, h⟩ => tG_bind er h fun P1 H1 xs ds e1 rxs h1 => ?_⟩
  by_cases hl : ds.length ≤ sizeLine
  · rw [if_pos hl] at h1
    refine ⟨by rw [dps_length rxs]; exact hl, fun p hp => ?_⟩
    exact h1 _ _ _ (Ex.new e1.ph hp) (.tup (SqT.of upd_same) (rxs.mono (same_upd (Same.free e1.ph hp))))
  · rw [if_neg hl] at h1; exact h1.elim
theorem tF_of {K : PySem.W.Frag} {σ : L2.St} {H0 P0 P H : Hp} {ρ : Rho} {m : Rho → Res (List D)} {Q : VK} (er : ER K H0 P0 P H σ ρ) (h : match m ρ with
    | .ok l => ∀ P' H' a vs, Ex P H P' H' → H' a = none → DrAll K P' vs l → Q (.ref a) (upd H' a (.lst vs))
    | .er c => ∀ P' H', Ex P H P' H' → W (.ref (ca c)) none σ H'
    | .stk => False) : tF K ca W m σ H Q := ⟨H0, P0, P, ρ, er, h⟩
theorem mf_lst (h : MA X ca W es ms) : MF X ca W (.List es pos) (mLst ms) := by
  refine ⟨(pe_lst h.pa).imp fun σ H Q ⟨H0, P0, P, ρ, er, h⟩ => ?_⟩
  unfold mLst at h
  refine ⟨H0, P0, P, ρ, er, ?_⟩
  cases q : ms ρ with
  | er c => rw [q] at h; exact h
  | stk => rw [q] at h; exact h
  | ok ds =>
    rw [q] at h
    intro P1 H1 xs e1 rxs
    by_cases hl : ds.length ≤ sizeLine
    · have h : ∀ P' H' a vs, Ex P H P' H' → H' a = none → DrAll X.K P' vs ds → Q (.ref a) (upd H' a (.lst vs)) := by
        have z : (Res.ok ds).bind (fun xs : List D => if xs.length ≤ sizeLine then Res.ok xs else Res.stk) = .ok ds := if_pos hl
        rw [z] at h
        exact h
      refine ⟨by rw [dps_length rxs]; exact hl, fun p hp => h P1 H1 p xs e1 hp rxs⟩
    · have z : (Res.ok ds).bind (fun xs : List D => if xs.length ≤ sizeLine then Res.ok xs else Res.stk) = .stk := if_neg hl
      rw [z] at h
      exact h.elim
/-- a fresh list as a value -/
theorem me_of_mf (h : MF X ca W e ml) : ME X ca W e (mList ml) := by
  refine ⟨h.pe.imp fun σ H Q ⟨H0, P0, P, ρ, er, h⟩ => ⟨H0, P0, P, ρ, er, ?_⟩⟩
  unfold mList at h
  cases q : ml ρ with
  | er c => rw [q] at h; exact h
  | stk => rw [q] at h; exact h
  | ok l =>
    rw [q] at h
    intro P1 H1 p vs e1 hp rv
    exact h _ _ _ (e1.trans (Ex.new e1.ph hp)) (.lst (.inl upd_same) (rv.mono (same_upd (Same.free e1.ph hp))))
theorem mb_of_mf (h : MF X ca W e ml) : MB X ca W e ml := by
  refine ⟨h.pe.imp fun σ H Q ⟨H0, P0, P, ρ, er, h⟩ => ⟨H0, P0, P, ρ, er, ?_⟩⟩
  cases q : ml ρ with
  | er c => rw [q] at h; exact h
  | stk => rw [q] at h; exact h
  | ok l =>
    rw [q] at h
    intro P1 H1 p vs e1 hp rv
    exact h _ _ _ (e1.trans (Ex.new e1.ph hp)) ⟨p, vs, rfl, .inl upd_same, rv.mono (same_upd (Same.free e1.ph hp))⟩
theorem mb_of_me (h : ME X ca W e me) : MB X ca W e (mOfL me) := by
  refine ⟨h.pe.imp fun σ H Q ⟨H0, P0, P, ρ, er, h⟩ => ?_⟩
  refine tG_bind er h fun P1 H1 x d e1 rx h1 => ?_
  cases rx with
  | @lst a vs ds q r => exact h1 P1 H1 _ (Ex.refl e1.ph) ⟨a, vs, rfl, rd_mono e1.ph q, r⟩
  | _ => exact h1.elim
/-! ### a[i] -/
theorem me_ix {a b : Expr} (hi : IxR X r) (hs : OpS X.K r f) (ha : ME X ca W a ma) (hb : ME X ca W b mb) (hp : PlainIx b := by exact fun _ _ => rfl) : ME X ca W (.Subscript a b pos) (mBin f ma mb) := by
  refine ⟨(pe_ix hi ha.pe hb.pe hp).imp fun σ H Q ⟨H0, P0, P, ρ, er, h⟩ => tG_bind er h fun P1 H1 x d e1 rx h1 => tG_bind (er.step e1) h1 fun P2 H2 y e e2 ry h2 => ?_⟩
  cases q : f d e with
  | none => rw [q] at h2; exact h2.elim
  | some z =>
    rw [q] at h2
    exact hs P2 H2 x y d e z Q e2.ph (Dr.mono rx e2.pp) ry q fun P' H' v ex rv => h2 P' H' v ex rv
/-! ### calls -/
variable {x : Str} {p : Pos} {id T : String} {rc : List V → Hp → VK → Prop} {gc : List D → Option D}
theorem me_callB (hc : CallR X (.builtin id) rc) (hs : CaS X.K rc gc) (hm : X.mg x = none) (hv : bootBuiltins x = some (.builtin id)) (ha : MA X ca W (e :: es) ms) (hg : Gl X x := by rfl) (hn : x ≠ "__name__" := by decide) (hdb : (x == ("__debug__" : Str)) = false := by decide)
    (he : starEach (e :: es) X.env = (false, eval e X.env) :: starEach es X.env := by rfl) (hpl : (backTo pos (starEach es X.env)).any (·.1) = false := by rfl) : ME X ca W (.Call (.Name x p) (e :: es) [] pos) (mCB gc ms) := by
  refine ⟨(pe_callB hc hg hm hv ha.pa hn hdb he hpl).imp fun σ H Q ⟨H0, P0, P, ρ, er, h⟩ => tG_bind er h fun P1 H1 xs ds e1 rxs h1 => ?_⟩
  cases q : gc ds with
  | none => rw [q] at h1; exact h1.elim
  | some z =>
    rw [q] at h1
    exact hs P1 H1 xs ds z Q e1.ph rxs q fun P' H' v ex rv => h1 P' H' v ex rv
theorem me_callTy (hc : CallR X (.type T) rc) (hs : CaS X.K rc gc) (hm : X.mg x = none) (hv : bootBuiltins x = some (.type T)) (ha : MA X ca W (e :: es) ms) (hg : Gl X x := by rfl) (hn : x ≠ "__name__" := by decide) (hdb : (x == ("__debug__" : Str)) = false := by decide)
    (he : starEach (e :: es) X.env = (false, eval e X.env) :: starEach es X.env := by rfl) (hpl : (backTo pos (starEach es X.env)).any (·.1) = false := by rfl) : ME X ca W (.Call (.Name x p) (e :: es) [] pos) (mCB gc ms) := by
  refine ⟨(pe_callTy hc hg hm hv ha.pa hn hdb he hpl).imp fun σ H Q ⟨H0, P0, P, ρ, er, h⟩ => tG_bind er h fun P1 H1 xs ds e1 rxs h1 => ?_⟩
  cases q : gc ds with
  | none => rw [q] at h1; exact h1.elim
  | some z =>
    rw [q] at h1
    exact hs P1 H1 xs ds z Q e1.ph rxs q fun P' H' v ex rv => h1 P' H' v ex rv
/-- of one list that is read -/
theorem me_callBL (hc : CallR X (.builtin id) rc) (hs : ClS X.K rc gc) (hm : X.mg x = none) (hv : bootBuiltins x = some (.builtin id)) (ha : MB X ca W e ml) (hg : Gl X x := by rfl) (hn : x ≠ "__name__" := by decide) (hdb : (x == ("__debug__" : Str)) = false := by decide)
    (he : starEach [e] X.env = (false, eval e X.env) :: starEach [] X.env := by rfl) (hpl : (backTo pos (starEach [] X.env)).any (·.1) = false := by rfl) : ME X ca W (.Call (.Name x p) [e] [] pos) (mCL gc ml) := by
  refine ⟨(pe_callB hc hg hm hv (pa_cons ha.pe pa_nil he) hn hdb he hpl).imp fun σ H Q ⟨H0, P0, P, ρ, er, h⟩ => tG_bind er h fun P1 H1 x ds e1 rx h1 => ?_⟩
  obtain ⟨a, vs, rfl, sq, rr⟩ := rx
  cases q : gc ds with
  | none => rw [q] at h1; exact h1.elim
  | some z =>
    rw [q] at h1
    exact hs P1 H1 a vs ds z Q e1.ph sq rr q fun P' H' v ex rv => h1 P' H' v ex rv
theorem me_callTyL (hc : CallR X (.type T) rc) (hs : ClS X.K rc gc) (hm : X.mg x = none) (hv : bootBuiltins x = some (.type T)) (ha : MB X ca W e ml) (hg : Gl X x := by rfl) (hn : x ≠ "__name__" := by decide) (hdb : (x == ("__debug__" : Str)) = false := by decide)
    (he : starEach [e] X.env = (false, eval e X.env) :: starEach [] X.env := by rfl) (hpl : (backTo pos (starEach [] X.env)).any (·.1) = false := by rfl) : ME X ca W (.Call (.Name x p) [e] [] pos) (mCL gc ml) := by
  refine ⟨(pe_callTy hc hg hm hv (pa_cons ha.pe pa_nil he) hn hdb he hpl).imp fun σ H Q ⟨H0, P0, P, ρ, er, h⟩ => tG_bind er h fun P1 H1 x ds e1 rx h1 => ?_⟩
  obtain ⟨a, vs, rfl, sq, rr⟩ := rx
  cases q : gc ds with
  | none => rw [q] at h1; exact h1.elim
  | some z =>
    rw [q] at h1
    exact hs P1 H1 a vs ds z Q e1.ph sq rr q fun P' H' v ex rv => h1 P' H' v ex rv
/-! ### calls of the text's own defs -/
/-- a def's promise, by its mirror -/
def spM (K : PySem.W.Frag) (ca : EC → Addr) (n : Nat) (g : List D → Res D) : Sp := fun vs H Q E => vs.length = n ∧ ∃ P ds, Same P H ∧ DrAll K P vs ds ∧ Sat (rD K) ca (fun c d _ H => E c d H) [] P H (g ds) Q
/-- the def x keeps its mirror's promise -/
def FnM (P : Program) (w : World) (K : PySem.W.Frag) (mg : Str → Option Value) (base : Heap) (ca : EC → Addr) (x : Str) (k : Nat) (ps : List Str) (g : List D → Res D) : Prop :=
  ∃ f fd, mg x = some (.ref f) ∧ PySem.W.keepIn K (.ref f) = true ∧ Binds K fd ps [] ∧ FnOk P w K mg base (L2.CX P w) k f fd ps (spM K ca ps.length g)
theorem me_call {k j : Nat} {ps : List Str} {g : List D → Res D} (F : FnM X.prog X.w X.K X.mg X.base ca x k ps g) (hr : Room j X.A) (hk : Nat.ble k j = true) (tk : Takes X W) (ha : MA X ca W (e :: es) ms) (hn : (e :: es).length = ps.length := by rfl) (hg : Gl X x := by rfl)
    (hdb : (x == ("__debug__" : Str)) = false := by decide)
    (he : starEach (e :: es) X.env = (false, eval e X.env) :: starEach es X.env := by rfl) (hpl : (backTo pos (starEach es X.env)).any (·.1) = false := by rfl)
    (hms : ∀ ρ ds, ms ρ = .ok ds → ds.length = ps.length) : ME X ca W (.Call (.Name x p) (e :: es) [] pos) (mCall g ms) := by
  obtain ⟨f, fd, hm, kp, hb, F⟩ := F
  refine ⟨(pe_callSD F (hr.mono (Nat.le_of_ble_eq_true hk)) hg hm kp hb .nil (fun σ => passAt tk σ) ha.pa hdb he hpl).imp fun σ H Q ⟨H0, P0, P, ρ, er, h⟩ => ⟨H0, P0, P, ρ, er, ?_⟩⟩
  unfold mCall at h
  cases q : ms ρ with
  | er c => rw [q] at h; exact h
  | stk => rw [q] at h; exact h
  | ok ds =>
    rw [q] at h
    intro P1 H1 xs e1 rxs
    refine ⟨by rw [List.append_nil, dps_length rxs]; exact hms ρ ds q, P1, ds, e1.ph, by rw [List.append_nil]; exact rxs, ?_⟩
    have h1 := Sat.step h e1
    have h1 : Sat (rD X.K) ca W σ P1 H1 (g ds) Q := h1
    revert h1
    cases g ds with
    | ok d => exact fun h1 => h1
    | er c => exact fun h1 => h1
    | stk => exact fun h1 => h1
theorem len_nil : ∀ (ρ : Rho) (ds : List D), mNil ρ = .ok ds → ds.length = 0 := fun ρ ds h => by cases h; rfl
theorem len_cons {n : Nat} (h : ∀ (ρ : Rho) (ds : List D), ms ρ = .ok ds → ds.length = n) : ∀ (ρ : Rho) (ds : List D), mCons me ms ρ = .ok ds → ds.length = n + 1 := fun ρ ds q => by
  unfold mCons at q
  cases h1 : me ρ with
  | er c => rw [h1] at q; cases q
  | stk => rw [h1] at q; cases q
  | ok d =>
    rw [h1] at q
    cases h2 : ms ρ with
    | er c => rw [h2] at q; cases q
    | stk => rw [h2] at q; cases q
    | ok es =>
      rw [h2] at q
      cases q
      rw [List.length_cons, h ρ es h2]
/-! ### methods of built-ins -/
variable {m : Str} {apos : Pos} {o : Expr} {mo : Rho → Res D} {rm : V → List V → Hp → VK → Prop} {gm : D → List D → Option D}
end
end PX
/-! The pure layer, part 3: what the operators give, by data. -/
namespace PX
open PySem PySem.Spec PyProof.Rows L2
theorem OpR.imp {X : Cx} {f : Value → Value → Sem Value} {r r' : R2} (h : OpR X f r) (i : ∀ x y H Q, r' x y H Q → r x y H Q) : OpR X f r' := fun pins s σ H x y v u Q I rx ry q => h pins s σ H x y v u Q I rx ry (i _ _ _ _ q)
theorem rd_list {X : Cx} {pins : List (Addr × Obj)} {σ : L2.St} {H : Hp} {s : Shared} {l : Addr} {xs : List V} (I : Inv X pins σ H s) (h : Rd H l (.lst xs)) :
    ∃ (its : List Value) (n : Nat), Vals xs its ∧ s.heap.get? l = some { cls := .type "list", data := .seq its.toArray n } ∧ xs.length ≤ sizeLine ∧ its.length = xs.length := by
  obtain ⟨z, its, n, r, e⟩ := h.ok I.hok
  exact ⟨its, n, r, e, z, r.length.symm⟩
/-- list + list, both read -/
def rCatR : R2 := fun x y H Q => ∃ l b xs zs, x = .ref l ∧ y = .ref b ∧ Rd H l (.lst xs) ∧ Rd H b (.lst zs) ∧ xs.length + zs.length ≤ sizeLine ∧ ∀ p, H p = none → Q (.ref p) (upd H p (.lst (xs ++ zs)))
theorem op_catR {X : Cx} : OpR X (binaryOp .Add) rCatR := by
  rintro pins s σ H x y v u Q I rx ry ⟨l, b, xs, zs, rfl, rfl, hl, hb, hz, q⟩
  cases rx; cases ry
  obtain ⟨i1, n1, v1, g1, _, w1⟩ := rd_list I hl
  obtain ⟨i2, n2, v2, g2, _, w2⟩ := rd_list I hb
  have z12 : i1.toArray.size + i2.toArray.size ≤ sizeLine := by
    rw [List.size_toArray, List.size_toArray, w1, w2]; exact hz
  refine PySem.P.add_list g1 g2 ?_ z12
  rw [show i1.toArray ++ i2.toArray = (i1 ++ i2).toArray from by simp]
  have J := I.lnew (t' := s.toks) (v1.append v2) (by rw [List.length_append]; exact hz)
  exact ⟨.ref s.heap.objs.size, _, J, rfl, q _ I.fresh⟩
def dAdd : D → D → Option D
  | .int i, .int j => some (.int (i + j))
  | .str i, .str j => if i.length + j.length ≤ sizeLine then some (.str (i ++ j)) else none
  | .tuple xs, .tuple ys => if xs.length + ys.length ≤ sizeLine then some (.tuple (xs ++ ys)) else none
  | .list xs, .list ys => if xs.length + ys.length ≤ sizeLine then some (.list (xs ++ ys)) else none
  | _, _ => none
abbrev rAddI : R2 := rI0 fun i j => .int (i + j)
abbrev rAddS : R2 := fun x y H Q => ∃ i j, x = .str i ∧ y = .str j ∧ i.length + j.length ≤ sizeLine ∧ Q (.str (i ++ j)) H
abbrev rAddA (K : PySem.W.Frag) : R2 := fun x y H Q => rAddI x y H Q ∨ rAddS x y H Q ∨ rCatA K x y H Q ∨ rCatR x y H Q
theorem op_addA {X : Cx} : OpR X (binaryOp .Add) (rAddA X.K) := OpR.or op_add (OpR.or op_add_str (OpR.or op_catA op_catR))
theorem if_some {α : Type} {c : Prop} [Decidable c] {a z : α} (h : (if c then some a else none) = some z) : c ∧ a = z := by
  by_cases hc : c
  · rw [if_pos hc] at h; cases h; exact ⟨hc, rfl⟩
  · rw [if_neg hc] at h; cases h
theorem add_s {K : PySem.W.Frag} : OpS K (rAddA K) dAdd := by
  intro P H x y d e z Q s a b c q
  cases a with
  | int i =>
    cases b with
    | int j => cases c; exact .inl ⟨i, j, rfl, rfl, q P H _ (Ex.refl s) (.int _)⟩
    | _ => cases c
  | str i =>
    cases b with
    | str j =>
      obtain ⟨hl, rfl⟩ := if_some c
      exact .inr (.inl ⟨i, j, rfl, rfl, hl, q P H _ (Ex.refl s) (.str _)⟩)
    | _ => cases c
  | @tup a xs ds h1 h2 =>
    cases b with
    | @tup b ys es h3 h4 =>
      obtain ⟨hl, rfl⟩ := if_some c
      refine .inr (.inr (.inl ⟨a, b, xs, ys, rfl, rfl, seqT_mono s h1, seqT_mono s h3, by rw [dps_length h2, dps_length h4]; exact hl, fun e => ?_, fun e1 e2 => ?_, fun e1 e2 p hp => ?_⟩))
      · subst e
        cases h2
        exact q P H _ (Ex.refl s) (.tup h3 h4)
      · subst e2
        cases h4
        rw [List.append_nil] at q
        exact q P H _ (Ex.refl s) (.tup h1 h2)
      · have sp := same_upd (o := .tup (xs ++ ys)) (Same.free s hp)
        exact q _ _ _ (Ex.new s hp) (.tup (SqT.of upd_same) ((dps_append h2 h4).mono sp))
    | _ => cases c
  | @lst a xs ds h1 h2 =>
    cases b with
    | @lst b ys es h3 h4 =>
      obtain ⟨hl, rfl⟩ := if_some c
      refine .inr (.inr (.inr ⟨a, b, xs, ys, rfl, rfl, rd_mono s h1, rd_mono s h3, by rw [dps_length h2, dps_length h4]; exact hl, fun p hp => ?_⟩))
      have sp := same_upd (o := .lst (xs ++ ys)) (Same.free s hp)
      exact q _ _ _ (Ex.new s hp) (.lst (.inl upd_same) ((dps_append h2 h4).mono sp))
    | _ => cases c
  | _ => cases c
def dII (C : Int → Int → Bool) (f : Int → Int → D) : D → D → Option D
  | .int i, .int j => if C i j = true then some (f i j) else none
  | _, _ => none
theorem ii_s {K : PySem.W.Frag} {C : Int → Int → Prop} {Cb : Int → Int → Bool} {g : Int → Int → V} {f : Int → Int → D} (hC : ∀ i j, Cb i j = true → C i j) (hg : ∀ i j P, Dr K P (g i j) (f i j)) : OpS K (rI C g) (dII Cb f) := by
  intro P H x y d e z Q s a b c q
  cases a with
  | int i =>
    cases b with
    | int j =>
      obtain ⟨h1, rfl⟩ := if_some c
      exact ⟨i, j, rfl, rfl, hC i j h1, q P H _ (Ex.refl s) (hg i j P)⟩
    | _ => cases c
  | _ => cases c
def dI0 (f : Int → Int → D) : D → D → Option D
  | .int i, .int j => some (f i j)
  | _, _ => none
theorem ii_s0 {K : PySem.W.Frag} {g : Int → Int → V} {f : Int → Int → D} (hg : ∀ i j P, Dr K P (g i j) (f i j)) : OpS K (rI0 g) (dI0 f) := by
  intro P H x y d e z Q s a b c q
  cases a with
  | int i =>
    cases b with
    | int j =>
      cases c
      exact ⟨i, j, rfl, rfl, q P H _ (Ex.refl s) (hg i j P)⟩
    | _ => cases c
  | _ => cases c
abbrev dSub : D → D → Option D := dI0 fun i j => .int (i - j)
theorem sub_s {K : PySem.W.Frag} : OpS K (rI0 fun i j => .int (i - j)) dSub := ii_s0 fun _ _ _ => .int _
def cMod (_ j : Int) : Bool := decide (j ≠ 0)
abbrev dMod : D → D → Option D := dII cMod fun i j => .int (i.fmod j)
theorem mod_s {K : PySem.W.Frag} : OpS K (rI (fun _ j => j ≠ 0) fun i j => .int (i.fmod j)) dMod := ii_s (fun _ _ h => of_decide_eq_true h) fun _ _ _ => .int _
def cDiv (_ j : Int) : Bool := decide (j ≠ 0) && decide (j.natAbs < 1073741824)
abbrev dDiv : D → D → Option D := dII cDiv fun i j => .int (i.fdiv j)
theorem div_s {K : PySem.W.Frag} : OpS K (rI CDivN fun i j => .int (i.fdiv j)) dDiv := ii_s (fun _ _ h => by
  have := Bool.and_eq_true_iff.mp h
  exact ⟨of_decide_eq_true this.1, of_decide_eq_true this.2⟩) fun _ _ _ => .int _
def cPow (i j : Int) : Bool := decide (0 ≤ j) && decide (j ≤ 1000000) && decide (i.natAbs < 2 ^ 64)
abbrev dPow : D → D → Option D := dII cPow fun i j => .int (i ^ j.toNat)
theorem pow_s {K : PySem.W.Frag} : OpS K (rI CPow fun i j => .int (i ^ j.toNat)) dPow := ii_s (fun _ _ h => by
  have h1 := Bool.and_eq_true_iff.mp h
  have h2 := Bool.and_eq_true_iff.mp h1.1
  exact ⟨of_decide_eq_true h2.1, of_decide_eq_true h2.2, of_decide_eq_true h1.2⟩) fun _ _ _ => .int _
abbrev dLt : D → D → Option D := dI0 fun i j => .bool (decide (i < j))
abbrev dLe : D → D → Option D := dI0 fun i j => .bool (decide (i ≤ j))
abbrev dGe : D → D → Option D := dI0 fun i j => .bool (decide (j ≤ i))
theorem lt_s {K : PySem.W.Frag} : OpS K (rI0 fun i j => .bl (decide (i < j))) dLt := ii_s0 fun _ _ _ => .bl _
theorem le_s {K : PySem.W.Frag} : OpS K (rI0 fun i j => .bl (decide (i ≤ j))) dLe := ii_s0 fun _ _ _ => .bl _
theorem ge_s {K : PySem.W.Frag} : OpS K (rI0 fun i j => .bl (decide (j ≤ i))) dGe := ii_s0 fun _ _ _ => .bl _
/-- > of ints, of texts -/
def dGt : D → D → Option D
  | .int i, .int j => some (.bool (decide (j < i)))
  | .str i, .str j => some (.bool (decide (j.cps.toList < i.cps.toList)))
  | _, _ => none
abbrev rGtA : R2 := fun x y H Q => (rI0 fun i j => .bl (decide (j < i))) x y H Q ∨ ∃ i j, x = .str i ∧ y = .str j ∧ Q (.bl (decide (j.cps.toList < i.cps.toList))) H
theorem op_gtA {X : Cx} : OpR X (compareOp .Gt) rGtA := OpR.or op_gt op_gt_str
theorem gt_s {K : PySem.W.Frag} : OpS K rGtA dGt := by
  intro P H x y d e z Q s a b c q
  cases a with
  | int i =>
    cases b with
    | int j => cases c; exact .inl ⟨i, j, rfl, rfl, q P H _ (Ex.refl s) (.bl _)⟩
    | _ => cases c
  | str i =>
    cases b with
    | str j => cases c; exact .inr ⟨i, j, rfl, rfl, q P H _ (Ex.refl s) (.bl _)⟩
    | _ => cases c
  | _ => cases c
/-! ### int * int, text * int, tuple * int -/
def cMul (i j : Int) : Bool := decide (i.natAbs < 18446744073709551616) || decide (j.natAbs < 18446744073709551616)
def dMul : D → D → Option D
  | .int i, .int j => if cMul i j = true then some (.int (i * j)) else none
  | .str x, .int n => if 0 ≤ n ∧ n ≤ 1000000 ∧ x.length * n.toNat ≤ 1000000 then some (.str (Txt.mul x n)) else none
  | .tuple xs, .int k => if xs ≠ [] ∧ 2 ≤ k ∧ k ≤ 1000 ∧ xs.length ≤ 1000 then some (.tuple (List.replicate k.toNat xs).flatten) else none
  | _, _ => none
theorem cmul_ok {i j : Int} (h : cMul i j = true) : CMul i j := by
  unfold cMul at h
  rcases Bool.or_eq_true_iff.mp h with h | h
  · have := of_decide_eq_true h
    exact .inl ⟨by omega, by omega⟩
  · have := of_decide_eq_true h
    exact .inr ⟨by omega, by omega⟩
abbrev rMulS : R2 := fun x y H Q => ∃ z n, x = .str z ∧ y = .int n ∧ MulOk z n ∧ Q (.str (Txt.mul z n)) H
theorem op_mulS {X : Cx} : OpR X (binaryOp .Mult) rMulS := by
  rintro pins s σ H x y v u Q I rx ry ⟨z, n, rfl, rfl, hk, q⟩
  obtain ⟨t, rfl⟩ := rx
  obtain ⟨t', rfl⟩ := ry
  exact SB.mul hk fun t2 k => ⟨.str (Txt.mul z n), H, I.tok _, ⟨t2, rfl⟩, q⟩
theorem mulOk_of {z : Str} {n : Int} (h0 : 0 ≤ n) (h1 : n ≤ 1000000) (h2 : z.length * n.toNat ≤ 1000000) : MulOk z n := by
  have h5 : ((z.length * n.toNat : Nat) : Int) = (z.length : Int) * n := by
    rw [Int.natCast_mul, Int.toNat_of_nonneg h0]
  refine ⟨?_, fun h3 _ => ?_, fun _ _ => ?_⟩
  · rw [Bool.or_eq_false_iff]
    exact ⟨decide_eq_false (by omega), decide_eq_false (by omega)⟩
  · intro q
    have hm : (z.length : Int) * n ≤ 2 ^ 63 - 1 := by omega
    have := (Int.le_ediv_iff_mul_le (show 0 < n by omega)).mpr hm
    omega
  · unfold Builtin.Str.tooLong
    refine decide_eq_false ?_
    rw [sizeLine_eq]
    omega
abbrev rMulA (K : PySem.W.Frag) : R2 := fun x y H Q => (rI CMul fun i j => .int (i * j)) x y H Q ∨ rMulS x y H Q ∨ rRepT K x y H Q
theorem op_mulA {X : Cx} : OpR X (binaryOp .Mult) (rMulA X.K) := OpR.or op_mul (OpR.or op_mulS op_repT)
theorem drs_rep {K : PySem.W.Frag} {P : Hp} {xs : List V} {ds : List D} (h : DrAll K P xs ds) : ∀ n : Nat, DrAll K P (List.replicate n xs).flatten (List.replicate n ds).flatten
  | 0 => .nil
  | n + 1 => by
    rw [List.replicate_succ, List.replicate_succ, List.flatten_cons, List.flatten_cons]
    exact dps_append h (drs_rep h n)
theorem mul_s {K : PySem.W.Frag} : OpS K (rMulA K) dMul := by
  intro P H x y d e z Q s a b c q
  cases a with
  | int i =>
    cases b with
    | int j =>
      obtain ⟨h1, rfl⟩ := if_some c
      exact .inl ⟨i, j, rfl, rfl, cmul_ok h1, q P H _ (Ex.refl s) (.int _)⟩
    | _ => cases c
  | str i =>
    cases b with
    | int j =>
      obtain ⟨⟨h1, h2, h3⟩, rfl⟩ := if_some c
      exact .inr (.inl ⟨i, j, rfl, rfl, mulOk_of h1 h2 h3, q P H _ (Ex.refl s) (.str _)⟩)
    | _ => cases c
  | @tup a xs ds h1 h2 =>
    cases b with
    | int j =>
      obtain ⟨⟨z1, z2, z3, z4⟩, rfl⟩ := if_some c
      refine .inr (.inr ⟨a, j, xs, rfl, rfl, seqT_mono s h1, fun e => ?_, z2, z3, by rw [dps_length h2]; exact z4, fun p hp => ?_⟩)
      · subst e
        cases h2
        exact z1 rfl
      · have sp := same_upd (o := .tup (List.replicate j.toNat xs).flatten) (Same.free s hp)
        exact q _ _ _ (Ex.new s hp) (.tup (SqT.of upd_same) ((drs_rep h2 _).mono sp))
    | _ => cases c
  | _ => cases c
/-! ### ==, != -/
def scalD : D → D → Bool
  | .none, .none => true
  | .none, .int _ => true
  | .int _, .none => true
  | .none, .bool _ => true
  | .bool _, .none => true
  | .none, .str _ => true
  | .str _, .none => true
  | .int _, .int _ => true
  | .bool _, .bool _ => true
  | .str _, .str _ => true
  | .int _, .str _ => true
  | .str _, .int _ => true
  | .bool _, .str _ => true
  | .str _, .bool _ => true
  | _, _ => false
def eqOk (d e : D) : Bool := scalD d e || (SeqAt.shaped d && SeqAt.shaped e)
def dEq (d e : D) : Option D := if eqOk d e = true then some (.bool (PyData.eqv d e)) else none
def dNe (d e : D) : Option D := if eqOk d e = true then some (.bool (!PyData.eqv d e)) else none
theorem scal_of {K : PySem.W.Frag} {P : Hp} {x y : V} {d e : D} (a : Dr K P x d) (b : Dr K P y e) (h : scalD d e = true) : scal x y = true ∧ decide (x = y) = PyData.eqv d e := by
  cases a <;> cases b <;> first | (cases h; done) | exact ⟨rfl, by simp [PyData.eqv, Bool.beq_eq_decide_eq]⟩
abbrev rEqA (K : PySem.W.Frag) : R2 := fun x y H Q => rEq x y H Q ∨ rEqD K x y H Q
abbrev rNeA (K : PySem.W.Frag) : R2 := fun x y H Q => rNe x y H Q ∨ rNeD K x y H Q
theorem op_eqA {X : Cx} {k : Nat} (hr : Room k X.A) : OpR X (compareOp .Eq) (rEqA X.K) := OpR.or op_eq (op_eqD hr.units)
theorem op_neA {X : Cx} {k : Nat} (hr : Room k X.A) : OpR X (compareOp .NotEq) (rNeA X.K) := OpR.or op_ne (op_neD hr.units)
theorem eq_s {K : PySem.W.Frag} : OpS K (rEqA K) dEq := by
  intro P H x y d e z Q s a b c q
  obtain ⟨h, rfl⟩ := if_some c
  unfold eqOk at h
  cases hs : scalD d e with
  | true =>
    obtain ⟨h1, h2⟩ := scal_of a b hs
    exact .inl ⟨h1, by rw [h2]; exact q P H _ (Ex.refl s) (.bl _)⟩
  | false =>
    rw [hs, Bool.false_or] at h
    have h := Bool.and_eq_true_iff.mp h
    exact .inr ⟨d, e, (a.mono s).dp h.1, (b.mono s).dp h.2, h.1, h.2, q P H _ (Ex.refl s) (.bl _)⟩
theorem ne_s {K : PySem.W.Frag} : OpS K (rNeA K) dNe := by
  intro P H x y d e z Q s a b c q
  obtain ⟨h, rfl⟩ := if_some c
  unfold eqOk at h
  cases hs : scalD d e with
  | true =>
    obtain ⟨h1, h2⟩ := scal_of a b hs
    exact .inl ⟨h1, by rw [h2]; exact q P H _ (Ex.refl s) (.bl _)⟩
  | false =>
    rw [hs, Bool.false_or] at h
    have h := Bool.and_eq_true_iff.mp h
    exact .inr ⟨d, e, (a.mono s).dp h.1, (b.mono s).dp h.2, h.1, h.2, q P H _ (Ex.refl s) (.bl _)⟩
/-! ### is, is not: None and the truths -/
def dIs : D → D → Option D
  | d, .none => some (.bool (match d with | .none => true | _ => false))
  | .bool a, .bool b => some (.bool (decide (a = b)))
  | _, _ => none
def dIsN : D → D → Option D
  | d, .none => some (.bool (match d with | .none => false | _ => true))
  | .bool a, .bool b => some (.bool (!decide (a = b)))
  | _, _ => none
abbrev rIsA : R2 := fun x y H Q => (y = .non ∧ Q (.bl (decide (x = .non))) H) ∨ rIsB x y H Q
abbrev rIsNA : R2 := fun x y H Q => (y = .non ∧ Q (.bl (!decide (x = .non))) H) ∨ rNotB x y H Q
theorem op_isA {X : Cx} : OpR X (compareOp .Is) rIsA := OpR.or op_isN op_isBl
theorem op_isNA {X : Cx} : OpR X (compareOp .IsNot) rIsNA := OpR.or op_notN op_notBl
theorem is_s {K : PySem.W.Frag} : OpS K rIsA dIs := by
  intro P H x y d e z Q s a b c q
  cases b with
  | non =>
    refine .inl ⟨rfl, ?_⟩
    cases a <;> (cases c; exact q P H _ (Ex.refl s) (.bl _))
  | bl b =>
    cases a with
    | bl a => cases c; exact .inr ⟨a, b, rfl, rfl, q P H _ (Ex.refl s) (.bl _)⟩
    | _ => cases c
  | _ => cases a <;> cases c
theorem isN_s {K : PySem.W.Frag} : OpS K rIsNA dIsN := by
  intro P H x y d e z Q s a b c q
  cases b with
  | non =>
    refine .inl ⟨rfl, ?_⟩
    cases a <;> (cases c; exact q P H _ (Ex.refl s) (.bl _))
  | bl b =>
    cases a with
    | bl a => cases c; exact .inr ⟨a, b, rfl, rfl, q P H _ (Ex.refl s) (.bl _)⟩
    | _ => cases c
  | _ => cases a <;> cases c
/-! ### in, not in -/
def flatD : D → Bool
  | .none => true
  | .bool _ => true
  | .int _ => true
  | .str _ => true
  | _ => false
def inOk (d : D) (es : List D) : Bool := flatD d && es.all flatD
/-- what «in» answers, with a turn by neg -/
def dIn (neg : Bool) : D → D → Option D
  | .str c, .str z => if c.length = 1 then some (.bool (if neg then !decide (c.cps.getD 0 0 ∈ z.cps.toList) else decide (c.cps.getD 0 0 ∈ z.cps.toList))) else none
  | d, .list es => if inOk d es = true ∨ (SeqAt.shaped d = true ∧ SeqAt.shaped (.list es) = true) then some (.bool (if neg then !es.any fun z => PyData.eqv z d else es.any fun z => PyData.eqv z d)) else none
  | d, .tuple es => if inOk d es = true then some (.bool (if neg then !es.any fun z => PyData.eqv z d else es.any fun z => PyData.eqv z d)) else none
  | _, _ => none
theorem flat_of {K : PySem.W.Frag} {P : Hp} {x : V} {d : D} (a : Dr K P x d) (h : flatD d = true) : flatV x = true := by
  cases a <;> first | rfl | cases h
theorem eqV_of {K : PySem.W.Frag} {P : Hp} {x y : V} {d e : D} (a : Dr K P x d) (b : Dr K P y e) (h : flatD d = true) (h' : flatD e = true) : eqV x y = PyData.eqv d e := by
  cases a <;> cases b <;> first | (cases h; done) | (cases h'; done) | rfl | simp [eqV, PyData.eqv]
theorem flats_of {K : PySem.W.Frag} {P : Hp} : ∀ {xs : List V} {ds : List D}, DrAll K P xs ds → ds.all flatD = true → xs.all flatV = true
  | _, _, .nil, _ => rfl
  | _, _, .cons a r, h => by
    rw [List.all_cons] at h ⊢
    obtain ⟨h1, h2⟩ := Bool.and_eq_true_iff.mp h
    rw [flat_of a h1, flats_of r h2]; rfl
theorem inV_of {K : PySem.W.Frag} {P : Hp} {x : V} {d : D} (a : Dr K P x d) (hd : flatD d = true) : ∀ {xs : List V} {ds : List D}, DrAll K P xs ds → ds.all flatD = true → inV x xs = ds.any fun z => PyData.eqv z d
  | _, _, .nil, _ => rfl
  | _, _, .cons b r, h => by
    rw [List.all_cons] at h
    obtain ⟨h1, h2⟩ := Bool.and_eq_true_iff.mp h
    show (eqV _ x || inV x _) = _
    rw [eqV_of b a h1 hd, inV_of a hd r h2]; rfl
abbrev rInA (K : PySem.W.Frag) : R2 := fun x y H Q => (∃ (c : Nat) (z : Str), x = .str ⟨#[c]⟩ ∧ y = .str z ∧ Q (.bl (decide (c ∈ z.cps.toList))) H) ∨ rIn K false x y H Q ∨ rInD K x y H Q
abbrev rInNA (K : PySem.W.Frag) : R2 := fun x y H Q => (∃ (c : Nat) (z : Str), x = .str ⟨#[c]⟩ ∧ y = .str z ∧ Q (.bl (!decide (c ∈ z.cps.toList))) H) ∨ rIn K true x y H Q ∨ rNotInD K x y H Q
theorem op_inA {X : Cx} {k : Nat} (hr : Room k X.A) : OpR X (compareOp .In) (rInA X.K) := OpR.or op_in_sign (OpR.or op_in_seq (op_inD (by have := hr.un; omega)))
theorem op_inNA {X : Cx} {k : Nat} (hr : Room k X.A) : OpR X (compareOp .NotIn) (rInNA X.K) := OpR.or op_notIn_sign (OpR.or op_notIn_seq (op_notInD (by have := hr.un; omega)))
theorem one_sign {c : Str} (h : c.length = 1) : c = ⟨#[c.cps.getD 0 0]⟩ := by
  obtain ⟨⟨l⟩⟩ := c
  match l, h with
  | [a], _ => rfl
theorem in_s {K : PySem.W.Frag} : OpS K (rInA K) (dIn false) := by
  intro P H x y d e z Q s a b c q
  cases b with
  | str w =>
    cases a with
    | str u =>
      obtain ⟨h, rfl⟩ := if_some c
      exact .inl ⟨_, w, congrArg V.str (one_sign h), rfl, q P H _ (Ex.refl s) (.bl _)⟩
    | _ => cases c
  | @lst b ys es h3 h4 =>
    have c : (if inOk d es = true ∨ (SeqAt.shaped d = true ∧ SeqAt.shaped (.list es) = true) then some (PyData.bool (es.any fun z => PyData.eqv z d)) else none) = some z := by
      cases d <;> exact c
    obtain ⟨h, rfl⟩ := if_some c
    by_cases hf : inOk d es = true
    · obtain ⟨f1, f2⟩ := Bool.and_eq_true_iff.mp hf
      refine .inr (.inl ⟨b, ys, rfl, .inl (.inl (rd_mono s h3)), flat_of a f1, flats_of h4 f2, ?_⟩)
      show Q (.bl (inV x ys)) H
      rw [inV_of a f1 h4 f2]
      exact q P H _ (Ex.refl s) (.bl _)
    · have h := h.resolve_left hf
      exact .inr (.inr ⟨d, es, (a.mono s).dp h.1, .lst (.inl (rd_mono s h3)) ((h4.mono s).dps h.2), h.1, h.2, q P H _ (Ex.refl s) (.bl _)⟩)
  | @tup b ys es h3 h4 =>
    have c : (if inOk d es = true then some (PyData.bool (es.any fun z => PyData.eqv z d)) else none) = some z := by
      cases d <;> exact c
    obtain ⟨hf, rfl⟩ := if_some c
    obtain ⟨f1, f2⟩ := Bool.and_eq_true_iff.mp hf
    refine .inr (.inl ⟨b, ys, rfl, .inr (seqT_mono s h3), flat_of a f1, flats_of h4 f2, ?_⟩)
    show Q (.bl (inV x ys)) H
    rw [inV_of a f1 h4 f2]
    exact q P H _ (Ex.refl s) (.bl _)
  | _ => cases a <;> cases c
theorem inN_s {K : PySem.W.Frag} : OpS K (rInNA K) (dIn true) := by
  intro P H x y d e z Q s a b c q
  cases b with
  | str w =>
    cases a with
    | str u =>
      obtain ⟨h, rfl⟩ := if_some c
      exact .inl ⟨_, w, congrArg V.str (one_sign h), rfl, q P H _ (Ex.refl s) (.bl _)⟩
    | _ => cases c
  | @lst b ys es h3 h4 =>
    have c : (if inOk d es = true ∨ (SeqAt.shaped d = true ∧ SeqAt.shaped (.list es) = true) then some (PyData.bool (!es.any fun z => PyData.eqv z d)) else none) = some z := by
      cases d <;> exact c
    obtain ⟨h, rfl⟩ := if_some c
    by_cases hf : inOk d es = true
    · obtain ⟨f1, f2⟩ := Bool.and_eq_true_iff.mp hf
      refine .inr (.inl ⟨b, ys, rfl, .inl (.inl (rd_mono s h3)), flat_of a f1, flats_of h4 f2, ?_⟩)
      show Q (.bl (!inV x ys)) H
      rw [inV_of a f1 h4 f2]
      exact q P H _ (Ex.refl s) (.bl _)
    · have h := h.resolve_left hf
      exact .inr (.inr ⟨d, es, (a.mono s).dp h.1, .lst (.inl (rd_mono s h3)) ((h4.mono s).dps h.2), h.1, h.2, q P H _ (Ex.refl s) (.bl _)⟩)
  | @tup b ys es h3 h4 =>
    have c : (if inOk d es = true then some (PyData.bool (!es.any fun z => PyData.eqv z d)) else none) = some z := by
      cases d <;> exact c
    obtain ⟨hf, rfl⟩ := if_some c
    obtain ⟨f1, f2⟩ := Bool.and_eq_true_iff.mp hf
    refine .inr (.inl ⟨b, ys, rfl, .inr (seqT_mono s h3), flat_of a f1, flats_of h4 f2, ?_⟩)
    show Q (.bl (!inV x ys)) H
    rw [inV_of a f1 h4 f2]
    exact q P H _ (Ex.refl s) (.bl _)
  | _ => cases a <;> cases c
/-! ### a[i] -/
def dIx : D → D → Option D
  | .list l, .int i => atI l i
  | .tuple l, .int i => atI l i
  | .str z, .int i => if z.length ≤ sizeLine then (atI z.cps.toList i).map fun c => .str ⟨#[c]⟩ else none
  | .dict kvs, .int i => atI (kvs.map (·.1)) i
  | _, _ => none
theorem scr_all {K : PySem.W.Frag} {P : Hp} : ∀ ns : List Int, DrAll K P (ns.map V.int) ((ns.map fun n => ((.int n, .none) : D × D)).map (·.1))
  | [] => .nil
  | n :: ns => .cons (.int n) (scr_all ns)
theorem atI_of {K : PySem.W.Frag} {P : Hp} {xs : List V} {ds : List D} {i : Int} {z : D} (h : DrAll K P xs ds) (e : atI ds i = some z) : ∃ x, atI xs i = some x ∧ Dr K P x z := by
  unfold atI at e ⊢
  rw [dps_length h]
  cases q : ixN ds.length i with
  | none => rw [q] at e; cases e
  | some j =>
    rw [q] at e
    exact dps_get h e
theorem ix_s {K : PySem.W.Frag} : OpS K (rIx K) dIx := by
  intro P H x y d e z Q s a b c q
  cases b with
  | int i =>
    cases a with
    | @lst a xs ds h1 h2 =>
      obtain ⟨v, h3, h4⟩ := atI_of h2 c
      exact .inl ⟨a, xs, i, v, rfl, rfl, .inl (rd_mono s h1), h3, q P H _ (Ex.refl s) h4⟩
    | @tup a xs ds h1 h2 =>
      obtain ⟨v, h3, h4⟩ := atI_of h2 c
      exact .inr (.inl ⟨a, xs, i, v, rfl, rfl, seqT_mono s h1, h3, q P H _ (Ex.refl s) h4⟩)
    | str w =>
      have c : (if w.length ≤ sizeLine then (atI w.cps.toList i).map fun c => PyData.str ⟨#[c]⟩ else none) = some z := c
      by_cases hl : w.length ≤ sizeLine
      · rw [if_pos hl] at c
        cases q' : atI w.cps.toList i with
        | none => rw [q'] at c; cases c
        | some u =>
          rw [q'] at c
          cases c
          exact .inr (.inr ⟨w, i, u, rfl, rfl, hl, q', q P H _ (Ex.refl s) (.str _)⟩)
      · rw [if_neg hl] at c; cases c
    | @scr a ns h1 =>
      obtain ⟨v, h3, h4⟩ := atI_of (scr_all (K := K) (P := P) ns) c
      exact .inl ⟨a, _, i, v, rfl, rfl, s.seq h1, h3, q P H _ (Ex.refl s) h4⟩
    | _ => cases c
  | _ => cases a <;> cases c
end PX
/-! The pure layer, part 4: built-ins, methods, slices. -/
namespace PX
open PySem PySem.Spec PyProof.Rows L2
def dStr : D → Option Str
  | .str z => some z
  | _ => none
/-- a text's method -/
def mSM (g : Str → List D → Option D) (a : Rho → Res D) (ms : Rho → Res (List D)) : Rho → Res D := fun ρ => (a ρ).bind fun x => (Res.of (dStr x)).bind fun z => (ms ρ).bind fun xs => .of (g z xs)
def MsS (K : PySem.W.Frag) (r : V → List V → Hp → VK → Prop) (g : Str → List D → Option D) : Prop :=
  ∀ (P H : Hp) (z : Str) (xs : List V) (ds : List D) (w : D) (Q : VK), Same P H → DrAll K P xs ds → g z ds = some w → (∀ P' H' v, Ex P H P' H' → Dr K P' v w → Q v H') → r (.str z) xs H Q
def MlS (K : PySem.W.Frag) (r : V → List V → Hp → VK → Prop) (g : List D → List D → Option D) : Prop :=
  ∀ (P H : Hp) (a : Addr) (vs : List V) (l : List D) (xs : List V) (ds : List D) (w : D) (Q : VK), Same P H → Rd H a (.lst vs) → DrAll K P vs l → DrAll K P xs ds → g l ds = some w → (∀ P' H' v, Ex P H P' H' → Dr K P' v w → Q v H') → r (.ref a) xs H Q
section
variable {X : Cx} {ca : EC → Addr} {W : WX} {pos : Pos}
variable {e : Expr} {es : List Expr} {me : Rho → Res D} {ms : Rho → Res (List D)} {ml : Rho → Res (List D)}
variable {x : Str} {p : Pos} {id T : String}
variable {m : Str} {apos : Pos} {o : Expr} {mo : Rho → Res D} {rm : V → List V → Hp → VK → Prop} {gm : Str → List D → Option D} {gl : List D → List D → Option D}
/-- s.m(e, ..), s a text -/
theorem me_sm (slot : Slot "str" m id) (hty : typeOf (.builtin id) = pure (.type "method_descriptor")) (hm : MtR X id rm) (hs : MsS X.K rm gm) (ho : ME X ca W o mo) (ha : MA X ca W (e :: es) ms)
    (hbase : attributeBase o m X.env (eval o X.env) = eval o X.env := by rfl)
    (hfew : ((backTo pos (starEach (e :: es) X.env)).all (fun x => !x.1) && (backToKw pos (keywordEach [] X.env)).all (fun x => x.1.isSome)
      && decide ((e :: es).length + ([] : List Keyword).length + (if ([] : List Keyword).isEmpty then 0 else 1) < 30)) = true := by rfl)
    (hline : (apos.endLine == pos.line) = true := by rfl) (he : starEach (e :: es) X.env = (false, eval e X.env) :: starEach es X.env := by rfl) (hplain : (backTo pos (starEach es X.env)).any (·.1) = false := by rfl) :
    ME X ca W (.Call (.Attribute o m apos) (e :: es) [] pos) (mSM gm mo ms) := by
  refine ⟨(pe_bm PySem.F.plainAttrs_str slot hty hm ho.pe ha.pa hbase hfew hline he hplain).imp fun σ H Q ⟨H0, P0, P, ρ, er, h⟩ => tG_bind er h fun P1 H1 x d e1 rx h1 => ?_⟩
  cases rx with
  | str z =>
    refine ⟨rfl, tG_bind (er.step e1) (k := fun xs => Res.of (gm z xs)) h1 fun P2 H2 xs ds e2 rxs h2 => ?_⟩
    cases q : gm z ds with
    | none => rw [q] at h2; exact h2.elim
    | some w =>
      rw [q] at h2
      exact hs P2 H2 z xs ds w Q e2.ph rxs q fun P' H' v ex rv => h2 P' H' v ex rv
  | _ => exact h1.elim
theorem me_sm0 {g : Str → Option D} (slot : Slot "str" m id) (hty : typeOf (.builtin id) = pure (.type "method_descriptor")) (hm : MtR X id rm) (hs : ∀ (P H : Hp) (z : Str) (w : D) (Q : VK), Same P H → g z = some w → (∀ P' H' v, Ex P H P' H' → Dr X.K P' v w → Q v H') → rm (.str z) [] H Q) (ho : ME X ca W o mo)
    (hbase : attributeBase o m X.env (eval o X.env) = eval o X.env := by rfl) (hline : (apos.endLine == pos.line) = true := by rfl) :
    ME X ca W (.Call (.Attribute o m apos) [] [] pos) (fun ρ => (mo ρ).bind fun x => (Res.of (dStr x)).bind fun z => .of (g z)) := by
  refine ⟨(pe_bm0 PySem.F.plainAttrs_str slot hty hm ho.pe hbase hline).imp fun σ H Q ⟨H0, P0, P, ρ, er, h⟩ => tG_bind er h fun P1 H1 x d e1 rx h1 => ?_⟩
  cases rx with
  | str z =>
    refine ⟨rfl, ?_⟩
    have h1 : Sat (rD X.K) ca W σ P1 H1 (Res.of (g z)) Q := h1
    cases q : g z with
    | none => rw [q] at h1; exact h1.elim
    | some w =>
      rw [q] at h1
      exact hs P1 H1 z w Q e1.ph q fun P' H' v ex rv => h1 P' H' v ex rv
  | _ => exact h1.elim
/-- l.m(e, ..), l a list that is read -/
theorem me_lm (slot : Slot "list" m id) (hty : typeOf (.builtin id) = pure (.type "method_descriptor")) (hm : MtR X id rm) (hs : MlS X.K rm gl) (ho : MB X ca W o ml) (ha : MA X ca W (e :: es) ms)
    (hbase : attributeBase o m X.env (eval o X.env) = eval o X.env := by rfl)
    (hfew : ((backTo pos (starEach (e :: es) X.env)).all (fun x => !x.1) && (backToKw pos (keywordEach [] X.env)).all (fun x => x.1.isSome)
      && decide ((e :: es).length + ([] : List Keyword).length + (if ([] : List Keyword).isEmpty then 0 else 1) < 30)) = true := by rfl)
    (hline : (apos.endLine == pos.line) = true := by rfl) (he : starEach (e :: es) X.env = (false, eval e X.env) :: starEach es X.env := by rfl) (hplain : (backTo pos (starEach es X.env)).any (·.1) = false := by rfl) :
    ME X ca W (.Call (.Attribute o m apos) (e :: es) [] pos) (mLM gl ml ms) := by
  refine ⟨(pe_bm PySem.F.plainAttrs_list slot hty hm ho.pe ha.pa hbase hfew hline he hplain).imp fun σ H Q ⟨H0, P0, P, ρ, er, h⟩ => tG_bind er h fun P1 H1 x d e1 rx h1 => ?_⟩
  obtain ⟨a, vs, rfl, hr, rr⟩ := rx
  refine ⟨.inl ⟨rfl, vs, .inl hr⟩, tG_bind (er.step e1) h1 fun P2 H2 xs ds e2 rxs h2 => ?_⟩
  cases q : gl d ds with
  | none => rw [q] at h2; exact h2.elim
  | some w =>
    rw [q] at h2
    exact hs P2 H2 a vs d xs ds w Q e2.ph (rd_mono e2.hh hr) (rr.mono e2.pp) rxs q fun P' H' v ex rv => h2 P' H' v ex rv
/-! ### a[i], x in a, of a list that is read -/
def dIxL (l : List D) : D → Option D
  | .int i => atI l i
  | _ => none
theorem me_ixL {a b : Expr} {ma : Rho → Res (List D)} {mb : Rho → Res D} (ha : MB X ca W a ma) (hb : ME X ca W b mb) (hp : PlainIx b := by exact fun _ _ => rfl) : ME X ca W (.Subscript a b pos) (mIxL dIxL ma mb) := by
  refine ⟨(pe_ix ix_list ha.pe hb.pe hp).imp fun σ H Q ⟨H0, P0, P, ρ, er, h⟩ => tG_bind er h fun P1 H1 x d e1 rx h1 => tG_bind (er.step e1) h1 fun P2 H2 y e e2 ry h2 => ?_⟩
  obtain ⟨q, vs, rfl, hr, rr⟩ := rx
  cases ry with
  | int i =>
    cases z : atI d i with
    | none =>
      have h2 : Sat (rD X.K) ca W σ P2 H2 (Res.of (atI d i)) Q := h2
      rw [z] at h2; exact h2.elim
    | some w =>
      have h2 : Sat (rD X.K) ca W σ P2 H2 (Res.of (atI d i)) Q := h2
      rw [z] at h2
      obtain ⟨v, h3, h4⟩ := atI_of (rr.mono e2.pp) z
      exact ⟨q, vs, i, v, rfl, rfl, .inl (rd_mono e2.hh hr), h3, h2 P2 H2 v (Ex.refl e2.ph) h4⟩
  | _ => exact h2.elim
def inOkL (d : D) (es : List D) : Bool := inOk d es || (SeqAt.shaped d && SeqAt.shaped (.list es))
theorem mt_inL {k : Nat} {a b : Expr} {ma : Rho → Res D} {mb : Rho → Res (List D)} (hr : Room k X.A) (ha : ME X ca W a ma) (hb : MB X ca W b mb) (hm : behindInMarks .In b = false) :
    MT X ca W (.Compare a [.In] [b] pos) (fun ρ => (ma ρ).bind fun d => (mb ρ).bind fun es => if inOkL d es = true then .ok (es.any fun z => PyData.eqv z d) else .stk) := by
  refine ⟨(pt_cmpR (op_inA hr) ha.pe hb.pe hm).imp fun σ H Q ⟨H0, P0, P, ρ, er, h⟩ => tG_bind er h fun P1 H1 x d e1 rx h1 => tG_bind (er.step e1) h1 fun P2 H2 y e e2 ry h2 => ?_⟩
  obtain ⟨q, vs, rfl, hd, rr⟩ := ry
  have rx2 := Dr.mono rx e2.pp
  by_cases hk : inOkL d e = true
  · rw [if_pos hk] at h2
    unfold inOkL at hk
    by_cases hf : inOk d e = true
    · obtain ⟨f1, f2⟩ := Bool.and_eq_true_iff.mp hf
      refine .inr (.inl ⟨q, vs, rfl, .inl (.inl hd), flat_of rx2 f1, flats_of rr f2, ?_⟩)
      show ∃ k, V.bl (inV x vs) = .bl k ∧ Q k H2
      rw [inV_of rx2 f1 rr f2]
      exact ⟨_, rfl, h2 P2 H2 _ (Ex.refl e2.ph) rfl⟩
    · rw [Bool.or_eq_true] at hk
      have hk := Bool.and_eq_true_iff.mp (hk.resolve_left hf)
      exact .inr (.inr ⟨d, e, (rx2.mono e2.ph).dp hk.1, .lst (.inl hd) ((rr.mono e2.ph).dps hk.2), hk.1, hk.2, _, rfl, h2 P2 H2 _ (Ex.refl e2.ph) rfl⟩)
  · rw [if_neg hk] at h2; exact h2.elim
/-! ### len -/
def dLen : D → Option D
  | .str z => if z.length ≤ sizeLine then some (.int z.length) else none
  | .list l => some (.int l.length)
  | .tuple l => some (.int l.length)
  | .dict kvs => some (.int kvs.length)
  | _ => none
def g1 (f : D → Option D) : List D → Option D
  | [d] => f d
  | _ => none
theorem len_s {K : PySem.W.Frag} : CaS K (fun xs H Q => ∃ x n, xs = [x] ∧ LenV K x H n ∧ Q (.int n) H) (g1 dLen) := by
  intro P H xs ds z Q s a c q
  cases a with
  | cons a r =>
    cases r with
    | cons _ _ => cases c
    | nil =>
      cases a with
      | str w =>
        obtain ⟨h1, rfl⟩ := if_some c
        exact ⟨_, _, rfl, ⟨h1, rfl⟩, q P H _ (Ex.refl s) (.int _)⟩
      | @lst a ys es h3 h4 =>
        cases c
        refine ⟨_, ys.length, rfl, .inl ⟨ys, .inl (rd_mono s h3), rfl⟩, ?_⟩
        rw [dps_length h4]
        exact q P H _ (Ex.refl s) (.int _)
      | @tup a ys es h3 h4 =>
        cases c
        refine ⟨_, ys.length, rfl, .inr ⟨ys, seqT_mono s h3, rfl⟩, ?_⟩
        rw [dps_length h4]
        exact q P H _ (Ex.refl s) (.int _)
      | @scr a ns h1 =>
        cases c
        refine ⟨_, (ns.map V.int).length, rfl, .inl ⟨_, s.seq h1, rfl⟩, ?_⟩
        rw [List.length_map]
        rw [List.length_map] at q
        exact q P H _ (Ex.refl s) (.int _)
      | _ => cases c
  | nil => cases c
theorem me_len (hm : X.mg "len" = none) (ha : ME X ca W e me) (hg : Gl X "len" := by rfl) (he : starEach [e] X.env = (false, eval e X.env) :: starEach [] X.env := by rfl) (hpl : (backTo pos (starEach [] X.env)).any (·.1) = false := by rfl) :
    ME X ca W (.Call (.Name "len" p) [e] [] pos) (mUn dLen me) := by
  have h := me_callB (pos := pos) (p := p) call_len len_s hm boot_len (ma_cons ha ma_nil he) hg (by decide) (by decide) he hpl
  refine ⟨h.pe.imp fun σ H Q ⟨H0, P0, P, ρ, er, q⟩ => ⟨H0, P0, P, ρ, er, ?_⟩⟩
  unfold mUn at q
  unfold mCB mCons mNil
  cases z : me ρ with
  | ok d => rw [z] at q; exact q
  | er c => rw [z] at q; exact q
  | stk => rw [z] at q; exact q
theorem me_lenL (hm : X.mg "len" = none) (ha : MB X ca W e ml) (hg : Gl X "len" := by rfl) (he : starEach [e] X.env = (false, eval e X.env) :: starEach [] X.env := by rfl) (hpl : (backTo pos (starEach [] X.env)).any (·.1) = false := by rfl) :
    ME X ca W (.Call (.Name "len" p) [e] [] pos) (fun ρ => (ml ρ).bind fun l => .ok (.int l.length)) := by
  refine ⟨(pe_callB call_len hg hm boot_len (pa_cons ha.pe pa_nil he) (by decide) (by decide) he hpl).imp fun σ H Q ⟨H0, P0, P, ρ, er, h⟩ => tG_bind er h fun P1 H1 x ds e1 rx h1 => ?_⟩
  obtain ⟨a, vs, rfl, sq, rr⟩ := rx
  refine ⟨_, vs.length, rfl, .inl ⟨vs, .inl sq, rfl⟩, ?_⟩
  rw [dps_length rr]
  exact h1 P1 H1 _ (Ex.refl e1.ph) (.int _)
/-! ### isinstance(x, T), T a built-in class -/
def tyN : D → String
  | .none => "NoneType"
  | .bool _ => "bool"
  | .int _ => "int"
  | .str _ => "str"
  | .list _ => "list"
  | .tuple _ => "tuple"
  | .dict _ => "list"
def dIsi (T : String) (d : D) : Option D := (kitB (tyN d) T).map .bool
theorem tyx_of {K : PySem.W.Frag} {P H : Hp} {x : V} {d : D} (s : Same P H) (a : Dr K P x d) : TyX K H x (.type (tyN d)) := by
  cases a with
  | non => exact .base .non
  | bl b => exact .base (.bl b)
  | int b => exact .base (.int b)
  | str b => exact .base (.str b)
  | lst h1 h2 =>
    rcases rd_mono s h1 with h | ⟨o, h⟩
    · exact .base (.lst h)
    · exact .base (.frz h)
  | tup h1 h2 =>
    rcases seqT_mono s h1 with (h | ⟨o, h⟩) | ⟨o, its, n, h, c, _⟩
    · exact .base (.tup h)
    · exact .fTuple h
    · exact .kTuple h c
  | scr h1 =>
    rcases s.seq h1 with (h | ⟨o, h⟩) | ⟨o, its, n, h, c, _⟩
    · exact .base (.lst h)
    · exact .base (.frz h)
    · exact .kList h c
theorem me_isi {T : String} {xT : Str} {pT : Pos} (hm : X.mg "isinstance" = none) (hT : X.mg xT = none) (bT : bootBuiltins xT = some (.type T)) (ha : ME X ca W e me) (hg : Gl X "isinstance" := by rfl) (hgT : Gl X xT := by rfl) (hn : xT ≠ "__name__" := by decide) (hd : (xT == ("__debug__" : Str)) = false := by decide)
    (he : starEach [e, .Name xT pT] X.env = (false, eval e X.env) :: starEach [.Name xT pT] X.env := by rfl) (hpl : (backTo pos (starEach [.Name xT pT] X.env)).any (·.1) = false := by rfl)
    (he2 : starEach [.Name xT pT] X.env = (false, eval (.Name xT pT) X.env) :: starEach [] X.env := by rfl) :
    ME X ca W (.Call (.Name "isinstance" p) [e, .Name xT pT] [] pos) (mUn (dIsi T) me) := by
  have hb : PE X (.Name xT pT) (tC (.ty T)) := pe_bltn hgT hT bT rfl hn hd
  refine ⟨(pe_callB call_isi hg hm (by decide +kernel) (pa_cons ha.pe (pa_cons hb pa_nil he2) he) (by decide) (by decide) he hpl).imp fun σ H Q ⟨H0, P0, P, ρ, er, h⟩ => tG_bind er h fun P1 H1 x d e1 rx h1 => ?_⟩
  have h1 : Sat (rD X.K) ca W σ P1 H1 (Res.of (dIsi T d)) Q := h1
  unfold dIsi at h1
  cases q : kitB (tyN d) T with
  | none => rw [q] at h1; exact h1.elim
  | some b =>
    rw [q] at h1
    exact ⟨x, .ty T, _, _, b, rfl, .ty T, tyx_of e1.ph rx, kit_ty q, h1 P1 H1 _ (Ex.refl e1.ph) (.bl b)⟩
/-! ### slices -/
def cutL {α : Type} (xs : List α) (lo hi : Option Int) : List α := (xs.drop (HT.sIx xs.length 0 lo)).take (HT.sIx xs.length xs.length hi - HT.sIx xs.length 0 lo)
def dCut : D → Option Int → Option Int → Option D
  | .str z, lo, hi => if z.length ≤ sizeLine then some (.str (cutS z lo hi)) else none
  | .tuple l, lo, hi => some (.tuple (cutL l lo hi))
  | .list l, lo, hi => some (.list (cutL l lo hi))
  | _, _, _ => none
/-- a part of a slice -/
def mNo : Rho → Res (Option Int) := fun _ => .ok none
def dInt : D → Option Int
  | .int i => some i
  | _ => none
def mPart (a : Rho → Res D) : Rho → Res (Option Int) := fun ρ => (a ρ).bind fun x => (Res.of (dInt x)).bind fun i => .ok (some i)
abbrev rO : Hp → Hp → Option Int → Option Int → Prop := fun _ _ b c => b = c
structure MO (X : Cx) (ca : EC → Addr) (W : WX) (e : Option Expr) (m : Rho → Res (Option Int)) : Prop where
  po : PO X e (tG X.K rO ca W m)
theorem POimp {e : Option Expr} {t t' : TO} (h : PO X e t) (i : ∀ σ H Q, t' σ H Q → t σ H Q) : PO X e t' := ⟨fun pins s σ H Q I q => h.run pins s σ H Q I (i _ _ _ q)⟩
theorem mo_none : MO X ca W none mNo := ⟨POimp po_none fun σ H Q ⟨H0, P0, P, ρ, er, h⟩ => h P H none (Ex.refl er.sub) rfl⟩
theorem mo_some (h : ME X ca W e me) : MO X ca W (some e) (mPart me) := by
  refine ⟨POimp (po_some h.pe) fun σ H Q ⟨H0, P0, P, ρ, er, h⟩ => tG_bind er h fun P1 H1 x d e1 rx h1 => ?_⟩
  cases rx with
  | int i => exact ⟨i, rfl, h1 P1 H1 _ (Ex.refl e1.ph) rfl⟩
  | _ => exact h1.elim
def mCut (f : D → Option Int → Option Int → Option D) (a : Rho → Res D) (l u : Rho → Res (Option Int)) : Rho → Res D := fun ρ => (a ρ).bind fun x => (l ρ).bind fun lo => (u ρ).bind fun hi => .of (f x lo hi)
def mCutL (a : Rho → Res (List D)) (l u : Rho → Res (Option Int)) : Rho → Res (List D) := fun ρ => (a ρ).bind fun x => (l ρ).bind fun lo => (u ρ).bind fun hi => .ok (cutL x lo hi)
abbrev rSlAll (K : PySem.W.Frag) : V → Option Int → Option Int → Hp → VK → Prop := fun x lo hi H Q => rSlS x lo hi H Q ∨ rSlA K x lo hi H Q ∨ rSlL K x lo hi H Q
theorem sl_all : SlR X (rSlAll X.K) := sl_str.or (sl_tupA.or sl_list)
theorem drs_cut {K : PySem.W.Frag} {P : Hp} {xs : List V} {ds : List D} (h : DrAll K P xs ds) (lo hi : Option Int) : DrAll K P (cutV xs lo hi) (cutL ds lo hi) := by
  unfold cutV cutL
  rw [dps_length h]
  exact dps_take _ (dps_drop _ h)
theorem cutL_all {l : List D} {lo hi : Option Int} (h : HT.sIx l.length 0 lo = 0 ∧ HT.sIx l.length l.length hi = l.length) : cutL l lo hi = l := by
  unfold cutL
  rw [h.1, h.2]
  simp
variable {lo hi : Option Expr} {mlo mhi : Rho → Res (Option Int)} {p2 : Pos}
theorem me_slice (ha : ME X ca W e me) (hl : MO X ca W lo mlo) (hh : MO X ca W hi mhi) : ME X ca W (.Subscript e (.Slice lo hi none p2) pos) (mCut dCut me mlo mhi) := by
  refine ⟨(pe_slice sl_all ha.pe hl.po hh.po).imp fun σ H Q ⟨H0, P0, P, ρ, er, h⟩ => tG_bind er h fun P1 H1 x d e1 rx h1 => tG_bind (er.step e1) h1 fun P2 H2 a l e2 ra h2 => tG_bind ((er.step e1).step e2) h2 fun P3 H3 b u e3 rb h3 => ?_⟩
  subst ra rb
  have rx := Dr.mono rx (e2.pp.trans e3.pp)
  cases rx with
  | str z =>
    have h3 : Sat (rD X.K) ca W σ P3 H3 (Res.of (if z.length ≤ sizeLine then some (.str (cutS z a b)) else none)) Q := h3
    by_cases hz : z.length ≤ sizeLine
    · rw [if_pos hz] at h3
      exact .inl ⟨z, rfl, hz, h3 P3 H3 _ (Ex.refl e3.ph) (.str _)⟩
    · rw [if_neg hz] at h3; exact h3.elim
  | @tup q xs ds h4 h5 =>
    refine .inr (.inl ⟨q, xs, rfl, seqT_mono e3.ph h4, fun hw => ?_, fun hw p hp => ?_⟩)
    · rw [dps_length h5] at hw
      have h3 : Sat (rD X.K) ca W σ P3 H3 (Res.ok (.tuple (cutL ds a b))) Q := h3
      rw [cutL_all hw] at h3
      exact h3 P3 H3 _ (Ex.refl e3.ph) (.tup h4 h5)
    · have sp := same_upd (o := .tup (cutV xs a b)) (Same.free e3.ph hp)
      exact h3 _ _ _ (Ex.new e3.ph hp) (.tup (SqT.of upd_same) ((drs_cut h5 a b).mono sp))
  | @lst q xs ds h4 h5 =>
    refine .inr (.inr ⟨q, xs, rfl, .inl (rd_mono e3.ph h4), fun p hp => ?_⟩)
    have sp := same_upd (o := .lst (cutV xs a b)) (Same.free e3.ph hp)
    exact h3 _ _ _ (Ex.new e3.ph hp) (.lst (.inl upd_same) ((drs_cut h5 a b).mono sp))
  | _ => exact h3.elim
/-- a fresh list out of a list that is read -/
theorem tF_bind {α' : Type} {β' : Type} {K : PySem.W.Frag} {R : Hp → Hp → β' → α' → Prop} {σ : L2.St} {H0 P0 P H : Hp} {ρ : Rho} {m : Rho → Res α'} {k : α' → Res (List D)} {Q : VK} {Q1 : β' → Hp → Prop} {FS : Hp → Hp → Res (List D) → Prop}
    (hFS : FS = fun P H r => match r with
      | .ok l => ∀ P' H' a vs, Ex P H P' H' → H' a = none → DrAll K P' vs l → Q (.ref a) (upd H' a (.lst vs))
      | .er c => ∀ P' H', Ex P H P' H' → W (.ref (ca c)) none σ H'
      | .stk => False)
    (er : ER K H0 P0 P H σ ρ) (h : FS P H ((m ρ).bind k)) (hk : ∀ P1 H1 x d, Ex P H P1 H1 → R P1 H1 x d → FS P1 H1 (k d) → Q1 x H1) : tG K R ca W m σ H Q1 := by
  subst hFS
  refine ⟨H0, P0, P, ρ, er, ?_⟩
  cases e : m ρ with
  | ok d =>
    rw [e] at h
    refine fun P1 H1 x e1 r => hk P1 H1 x d e1 r ?_
    have h : match k d with
      | .ok l => ∀ P' H' a vs, Ex P H P' H' → H' a = none → DrAll K P' vs l → Q (.ref a) (upd H' a (.lst vs))
      | .er c => ∀ P' H', Ex P H P' H' → W (.ref (ca c)) none σ H'
      | .stk => False := h
    revert h
    cases k d with
    | ok l => exact fun h P' H' a vs e2 => h P' H' a vs (e1.trans e2)
    | er c => exact fun h P' H' e2 => h P' H' (e1.trans e2)
    | stk => exact fun h => h
  | er c =>
    rw [e] at h
    exact h
  | stk =>
    rw [e] at h
    exact h
theorem mf_slice (ha : MB X ca W e ml) (hl : MO X ca W lo mlo) (hh : MO X ca W hi mhi) : MF X ca W (.Subscript e (.Slice lo hi none p2) pos) (mCutL ml mlo mhi) := by
  refine ⟨(pe_slice sl_list ha.pe hl.po hh.po).imp fun σ H Q ⟨H0, P0, P, ρ, er, h⟩ => tF_bind rfl er h fun P1 H1 x d e1 rx h1 => tF_bind rfl (er.step e1) h1 fun P2 H2 a l e2 ra h2 => tF_bind rfl ((er.step e1).step e2) h2 fun P3 H3 b u e3 rb h3 => ?_⟩
  subst ra rb
  obtain ⟨q, vs, rfl, hr, rr⟩ := rx
  exact ⟨q, vs, rfl, .inl (rd_mono (e2.hh.trans e3.hh) hr), fun p hp => h3 P3 H3 p _ (Ex.refl e3.ph) hp (drs_cut (rr.mono (e2.pp.trans e3.pp)) a b)⟩
/-! ### text methods: index, join, endswith, count -/
def gSIndex (z : Str) : List D → Option D
  | [.str y] => match Builtin.Str.occurrences z y 0 z.length 1 with
    | i :: _ => some (.int (i : Nat))
    | [] => none
  | _ => none
theorem sindex_s {K : PySem.W.Frag} : MsS K (fun x xs H Q => ∃ a b i rest, x = .str a ∧ xs = [.str b] ∧ Builtin.Str.occurrences a b 0 a.length 1 = i :: rest ∧ Q (.int (i : Nat)) H) gSIndex := by
  intro P H z xs ds w Q s a c q
  cases a with
  | nil => cases c
  | cons a r =>
    cases r with
    | cons _ _ => cases a <;> cases c
    | nil =>
      cases a with
      | str y =>
        have c : (match Builtin.Str.occurrences z y 0 z.length 1 with
          | i :: _ => some (PyData.int (i : Nat))
          | [] => none) = some w := c
        cases o : Builtin.Str.occurrences z y 0 z.length 1 with
        | nil => rw [o] at c; cases c
        | cons i rest =>
          rw [o] at c
          cases c
          exact ⟨z, y, i, rest, rfl, rfl, o, q P H _ (Ex.refl s) (.int _)⟩
      | _ => cases c
theorem me_sindex (ho : ME X ca W o mo) (ha : MA X ca W [e] ms)
    (hbase : attributeBase o "index" X.env (eval o X.env) = eval o X.env := by rfl)
    (hfew : ((backTo pos (starEach [e] X.env)).all (fun x => !x.1) && (backToKw pos (keywordEach [] X.env)).all (fun x => x.1.isSome)
      && decide ([e].length + ([] : List Keyword).length + (if ([] : List Keyword).isEmpty then 0 else 1) < 30)) = true := by rfl)
    (hline : (apos.endLine == pos.line) = true := by rfl) (he : starEach [e] X.env = (false, eval e X.env) :: starEach [] X.env := by rfl) (hplain : (backTo pos (starEach [] X.env)).any (·.1) = false := by rfl) :
    ME X ca W (.Call (.Attribute o "index" apos) [e] [] pos) (mSM gSIndex mo ms) := me_sm PySem.F.slot_str_index PySem.F.type_str_index mt_sindex sindex_s ho ha hbase hfew hline he hplain
def strsD : List D → Option (List Str)
  | [] => some []
  | .str z :: r => (strsD r).map (z :: ·)
  | _ :: _ => none
theorem strs_of {K : PySem.W.Frag} {P : Hp} : ∀ {xs : List V} {ds : List D} {zs : List Str}, DrAll K P xs ds → strsD ds = some zs → xs = zs.map V.str ∧ ds = zs.map PyData.str
  | _, _, _, .nil, h => by cases h; exact ⟨rfl, rfl⟩
  | _, d :: ds, zs, .cons a r, h => by
    cases a with
    | str z =>
      have h : (strsD ds).map (z :: ·) = some zs := h
      cases q : strsD ds with
      | none => rw [q] at h; cases h
      | some ys =>
        rw [q] at h
        cases h
        obtain ⟨h1, h2⟩ := strs_of r q
        exact ⟨by rw [h1]; rfl, by rw [h2]; rfl⟩
    | _ => cases h
/-- sep.join(a list that is read) -/
def gJoin (z : Str) (l : List D) : Option D := match strsD l with
  | some ys => if (ys.map (·.length)).sum + ys.length * z.length ≤ 16777216 then some (.str (Txt.join z ys)) else none
  | none => none
def mJoin (mo : Rho → Res D) (ml : Rho → Res (List D)) : Rho → Res D := fun ρ => (mo ρ).bind fun x => (Res.of (dStr x)).bind fun z => (ml ρ).bind fun l => .of (gJoin z l)
theorem me_join (ho : ME X ca W o mo) (ha : MB X ca W e ml)
    (hbase : attributeBase o "join" X.env (eval o X.env) = eval o X.env := by rfl)
    (hfew : ((backTo pos (starEach [e] X.env)).all (fun x => !x.1) && (backToKw pos (keywordEach [] X.env)).all (fun x => x.1.isSome)
      && decide ([e].length + ([] : List Keyword).length + (if ([] : List Keyword).isEmpty then 0 else 1) < 30)) = true := by rfl)
    (hline : (apos.endLine == pos.line) = true := by rfl) (he : starEach [e] X.env = (false, eval e X.env) :: starEach [] X.env := by rfl) (hplain : (backTo pos (starEach [] X.env)).any (·.1) = false := by rfl) :
    ME X ca W (.Call (.Attribute o "join" apos) [e] [] pos) (mJoin mo ml) := by
  refine ⟨(pe_bm PySem.F.plainAttrs_str PySem.F.slot_str_join PySem.F.type_str_join mt_join ho.pe (pa_cons ha.pe pa_nil he) hbase hfew hline he hplain).imp fun σ H Q ⟨H0, P0, P, ρ, er, h⟩ => tG_bind er h fun P1 H1 x d e1 rx h1 => ?_⟩
  cases rx with
  | str z =>
    refine ⟨rfl, tG_bind (er.step e1) (k := fun l => Res.of (gJoin z l)) h1 fun P2 H2 y l e2 ry h2 => ?_⟩
    obtain ⟨q, vs, rfl, hr, rr⟩ := ry
    unfold gJoin at h2
    cases z2 : strsD l with
    | none => rw [z2] at h2; exact h2.elim
    | some ys =>
      rw [z2] at h2
      obtain ⟨k1, k2⟩ := strs_of rr z2
      have h2 : Sat (rD X.K) ca W σ P2 H2 (Res.of (if (ys.map (·.length)).sum + ys.length * z.length ≤ 16777216 then some (.str (Txt.join z ys)) else none)) Q := h2
      by_cases hz : (ys.map (·.length)).sum + ys.length * z.length ≤ 16777216
      · rw [if_pos hz] at h2
        exact ⟨z, q, ys, rfl, rfl, .inl (.inl (k1 ▸ hr)), hz, h2 P2 H2 _ (Ex.refl e2.ph) (.str _)⟩
      · rw [if_neg hz] at h2; exact h2.elim
  | _ => exact h1.elim
/-! ### tuple(a list that is read) -/
theorem me_tupleL (hm : X.mg "tuple" = none) (ha : MB X ca W e ml) (hg : Gl X "tuple" := by rfl) (he : starEach [e] X.env = (false, eval e X.env) :: starEach [] X.env := by rfl) (hpl : (backTo pos (starEach [] X.env)).any (·.1) = false := by rfl) :
    ME X ca W (.Call (.Name "tuple" p) [e] [] pos) (fun ρ => (ml ρ).bind fun l => .ok (.tuple l)) := by
  refine ⟨(pe_callTy call_tuple_of hg hm (by decide +kernel) (pa_cons ha.pe pa_nil he) (by decide) (by decide) he hpl).imp fun σ H Q ⟨H0, P0, P, ρ, er, h⟩ => tG_bind er h fun P1 H1 x l e1 rx h1 => ?_⟩
  obtain ⟨a, vs, rfl, sq, rr⟩ := rx
  refine ⟨a, vs, rfl, .inl ⟨.inl sq, fun t ht => ?_⟩⟩
  have sp := same_upd (o := .tup vs) (Same.free e1.ph ht)
  exact h1 _ _ _ (Ex.new e1.ph ht) (.tup (SqT.of upd_same) (rr.mono sp))
end
end PX
/-! The pure layer, part 5: statements, loops, comprehensions, defs. -/
namespace PX
open PySem PySem.Spec PyProof.Rows L2
/-- how a statement ends -/
inductive Out where
  | nx (ρ : Rho) | rt (d : D) | bk (ρ : Rho) | ct (ρ : Rho) | er (c : EC) (ρ : Rho) | stk
def obind {α : Type} (r : Res α) (ρ : Rho) (k : α → Out) : Out := match r with
  | .ok a => k a
  | .er c => .er c ρ
  | .stk => .stk
@[simp] theorem obind_ok {α : Type} (a : α) (ρ : Rho) (k : α → Out) : obind (.ok a) ρ k = k a := rfl
@[simp] theorem obind_er {α : Type} (c : EC) (ρ : Rho) (k : α → Out) : obind (.er c : Res α) ρ k = .er c ρ := rfl
@[simp] theorem obind_stk {α : Type} (ρ : Rho) (k : α → Out) : obind (.stk : Res α) ρ k = .stk := rfl
/-- what is wanted behind a statement that begins at Pb -/
def SatS (K : PySem.W.Frag) (ca : EC → Addr) (W : WX) (H0 P0 Pb : Hp) (o : Out) (D : Ends) : Prop := match o with
  | .nx ρ => ∀ P H σ, Same Pb P → ER K H0 P0 P H σ ρ → D.nx σ H
  | .rt d => ∀ P H x, Ex P0 H0 P H → Dr K P x d → D.rt x H
  | .bk ρ => ∀ P H σ, Same Pb P → ER K H0 P0 P H σ ρ → D.bk σ H
  | .ct ρ => ∀ P H σ, Same Pb P → ER K H0 P0 P H σ ρ → D.ct σ H
  | .er c ρ => ∀ P H σ, Same Pb P → ER K H0 P0 P H σ ρ → W (.ref (ca c)) none σ H
  | .stk => False
theorem SatS.up {K : PySem.W.Frag} {ca : EC → Addr} {W : WX} {H0 P0 Pb Pb' : Hp} {o : Out} {D : Ends} (h : SatS K ca W H0 P0 Pb o D) (s : Same Pb Pb') : SatS K ca W H0 P0 Pb' o D := by
  cases o with
  | nx ρ => exact fun P H σ a => h P H σ (s.trans a)
  | rt d => exact h
  | bk ρ => exact fun P H σ a => h P H σ (s.trans a)
  | ct ρ => exact fun P H σ a => h P H σ (s.trans a)
  | er c ρ => exact fun P H σ a => h P H σ (s.trans a)
  | stk => exact h
def tS (K : PySem.W.Frag) (ca : EC → Addr) (W : WX) (m : Rho → Out) : TS := fun D σ H => ∃ H0 P0 P ρ, ER K H0 P0 P H σ ρ ∧ SatS K ca W H0 P0 P (m ρ) D
structure MS (X : Cx) (ca : EC → Addr) (W : WX) (st : Stmt) (m : Rho → Out) : Prop where
  ps : PS X st (tS X.K ca W m)
structure MSs (X : Cx) (ca : EC → Addr) (W : WX) (sts : List Stmt) (m : Rho → Out) : Prop where
  ps : PSs X sts (tS X.K ca W m)
theorem tG_bindS {α β : Type} {K : PySem.W.Frag} {R : Hp → Hp → β → α → Prop} {ca : EC → Addr} {W : WX} {σ : L2.St} {H0 P0 P H : Hp} {ρ : Rho} {m : Rho → Res α} {k : α → Out} {D : Ends} {Q1 : β → Hp → Prop}
    (er : ER K H0 P0 P H σ ρ) (h : SatS K ca W H0 P0 P (obind (m ρ) ρ k) D) (hk : ∀ P1 H1 x d, Ex P H P1 H1 → R P1 H1 x d → SatS K ca W H0 P0 P1 (k d) D → Q1 x H1) : tG K R ca W m σ H Q1 := by
  refine ⟨H0, P0, P, ρ, er, ?_⟩
  cases e : m ρ with
  | ok d =>
    rw [e] at h
    exact fun P1 H1 x e1 r => hk P1 H1 x d e1 r (SatS.up h e1.pp)
  | er c =>
    rw [e] at h
    exact fun P1 H1 e1 => h P1 H1 σ e1.pp (er.step e1)
  | stk =>
    rw [e] at h
    exact h
theorem tF_bindS {K : PySem.W.Frag} {ca : EC → Addr} {W : WX} {σ : L2.St} {H0 P0 P H : Hp} {ρ : Rho} {m : Rho → Res (List D)} {k : List D → Out} {D : Ends} {Q1 : VK}
    (er : ER K H0 P0 P H σ ρ) (h : SatS K ca W H0 P0 P (obind (m ρ) ρ k) D) (hk : ∀ P1 H1 a vs l, Ex P H P1 H1 → H1 a = none → DrAll K P1 vs l → SatS K ca W H0 P0 P1 (k l) D → Q1 (.ref a) (upd H1 a (.lst vs))) : tF K ca W m σ H Q1 := by
  refine ⟨H0, P0, P, ρ, er, ?_⟩
  cases e : m ρ with
  | ok l =>
    rw [e] at h
    exact fun P1 H1 a vs e1 ha r => hk P1 H1 a vs l e1 ha r (SatS.up h e1.pp)
  | er c =>
    rw [e] at h
    exact fun P1 H1 e1 => h P1 H1 σ e1.pp (er.step e1)
  | stk =>
    rw [e] at h
    exact h
/-! ### the mirror's words for statements -/
def mSeq (a b : Rho → Out) : Rho → Out := fun ρ => match a ρ with
  | .nx ρ' => b ρ'
  | o => o
def mNext : Rho → Out := fun ρ => .nx ρ
def mSet (i : Nat) (m : Rho → Res D) : Rho → Out := fun ρ => obind (m ρ) ρ fun d => .nx (ρ.set i (some (.val d)))
def mSetF (i : Nat) (m : Rho → Res (List D)) : Rho → Out := fun ρ => obind (m ρ) ρ fun l => .nx (ρ.set i (some (.own l)))
def mRet (m : Rho → Res D) : Rho → Out := fun ρ => obind (m ρ) ρ fun d => .rt d
def mRetN : Rho → Out := fun _ => .rt .none
def mDrop (m : Rho → Res D) : Rho → Out := fun ρ => obind (m ρ) ρ fun _ => .nx ρ
def mIfS (c : Rho → Res Bool) (a b : Rho → Out) : Rho → Out := fun ρ => obind (c ρ) ρ fun k => if k = true then a ρ else b ρ
def mBrk : Rho → Out := fun ρ => .bk ρ
def mCnt : Rho → Out := fun ρ => .ct ρ
def mNev : Rho → Out := fun _ => .stk
def mRaise (c : EC) : Rho → Out := fun ρ => .er c ρ
def mAppend (i : Nat) (m : Rho → Res D) : Rho → Out := fun ρ => match ρ[i]? with
  | some (some (.own l)) => obind (m ρ) ρ fun d => if l.length < sizeLine then .nx (ρ.set i (some (.own (l ++ [d])))) else .stk
  | _ => .stk
def mExtend (i : Nat) (m : Rho → Res (List D)) : Rho → Out := fun ρ => match ρ[i]? with
  | some (some (.own l)) => obind (m ρ) ρ fun es => if l.length + es.length ≤ sizeLine then .nx (ρ.set i (some (.own (l ++ es)))) else .stk
  | _ => .stk
/-- x[k] = e, x a list of one's own: e first -/
def mSetIt (i : Nat) (mk : Rho → Res D) (m : Rho → Res D) : Rho → Out := fun ρ => obind (m ρ) ρ fun d => match ρ[i]? with
  | some (some (.own l)) => obind (mk ρ) ρ fun k => match k with
    | .int j => (match ixN l.length j with
      | some n => .nx (ρ.set i (some (.own (l.set n d))))
      | none => .stk)
    | _ => .stk
  | _ => .stk
/-- an own list is let go, ahead of a statement -/
def frz (i : Nat) (ρ : Rho) : Rho := match ρ[i]? with
  | some (some (.own l)) => ρ.set i (some (.val (.list l)))
  | _ => ρ
def mFrz (i : Nat) (m : Rho → Out) : Rho → Out := fun ρ => m (frz i ρ)
/-- x op= e, by values -/
def mAug (f : D → D → Option D) (i : Nat) (m : Rho → Res D) : Rho → Out := fun ρ => match ρ[i]? with
  | some (some (.val x)) => obind (m ρ) ρ fun y => match f x y with
    | some z => .nx (ρ.set i (some (.val z)))
    | none => .stk
  | _ => .stk
/-- targets -/
def gSet (i : Nat) (d : D) (ρ : Rho) : Option Rho := some (ρ.set i (some (.val d)))
def gSet2 (i j : Nat) (d : D) (ρ : Rho) : Option Rho := match d with
  | .tuple [a, b] => some ((ρ.set i (some (.val a))).set j (some (.val b)))
  | _ => none
def gSet3 (i j k : Nat) (d : D) (ρ : Rho) : Option Rho := match d with
  | .tuple [a, b, c] => some (((ρ.set i (some (.val a))).set j (some (.val b))).set k (some (.val c)))
  | _ => none
def mTgt (g : D → Rho → Option Rho) (m : Rho → Res D) : Rho → Out := fun ρ => obind (m ρ) ρ fun d => match g d ρ with
  | some ρ' => .nx ρ'
  | none => .stk
def forL (g : D → Rho → Option Rho) (b : Rho → Out) : List D → Rho → Out
  | [], ρ => .nx ρ
  | d :: ds, ρ => match g d ρ with
    | none => .stk
    | some ρ1 => match b ρ1 with
      | .nx ρ2 => forL g b ds ρ2
      | .ct ρ2 => forL g b ds ρ2
      | .bk ρ2 => .nx ρ2
      | .rt d => .rt d
      | .er c ρ2 => .er c ρ2
      | .stk => .stk
def mFor (it : Rho → Res (List D)) (g : D → Rho → Option Rho) (b : Rho → Out) : Rho → Out := fun ρ => obind (it ρ) ρ fun l => forL g b l ρ
def mWhile (c : Rho → Res Bool) (b : Rho → Out) : Nat → Rho → Out
  | 0, _ => .stk
  | n + 1, ρ => obind (c ρ) ρ fun k => if k = true then (match b ρ with
      | .nx ρ2 => mWhile c b n ρ2
      | .ct ρ2 => mWhile c b n ρ2
      | .bk ρ2 => .nx ρ2
      | .rt d => .rt d
      | .er e ρ2 => .er e ρ2
      | .stk => .stk) else .nx ρ
/-- a block's own names are forgotten -/
def wipeR (ρ : Rho) : List Nat → Rho
  | [] => ρ
  | v :: vs => (wipeR ρ vs).set v none
def noer {α : Type} : Res α → Res α
  | .ok a => .ok a
  | _ => .stk
def lcL (g : D → Rho → Option Rho) (c : Rho → Res Bool) (e : Rho → Res D) (ρ : Rho) : List D → List D → Res (List D)
  | [], acc => .ok acc
  | d :: ds, acc => match g d ρ with
    | none => .stk
    | some ρ1 => (noer (c ρ1)).bind fun k => if k = true then (noer (e ρ1)).bind fun y => if acc.length < sizeLine then lcL g c e ρ ds (acc ++ [y]) else .stk else lcL g c e ρ ds acc
def mLc (it : Rho → Res (List D)) (vs : List Nat) (g : D → Rho → Option Rho) (c : Rho → Res Bool) (e : Rho → Res D) : Rho → Res (List D) := fun ρ => (it ρ).bind fun l => lcL g c e (wipeR ρ vs) l []
def mYes : Rho → Res Bool := fun _ => .ok true
section
variable {X : Cx} {ca : EC → Addr} {W : WX} {pos : Pos} {st : Stmt} {sts : List Stmt} {ms mt : Rho → Out} {e : Expr} {me : Rho → Res D} {ml : Rho → Res (List D)}
theorem mss_nil : MSs X ca W [] mNext := ⟨pss_nil.imp fun D σ H ⟨H0, P0, P, ρ, er, h⟩ => h P H σ (Same.refl _) er⟩
theorem mss_one (h : MS X ca W st ms) : MSs X ca W [st] ms := ⟨pss_one h.ps⟩
theorem mss_cons (h : MS X ca W st ms) (r : MSs X ca W sts mt) : MSs X ca W (st :: sts) (mSeq ms mt) := by
  refine ⟨(pss_cons h.ps r.ps).imp fun D σ H ⟨H0, P0, P, ρ, er, q⟩ => ⟨H0, P0, P, ρ, er, ?_⟩⟩
  unfold mSeq at q
  cases z : ms ρ with
  | nx ρ' =>
    rw [z] at q
    exact fun P1 H1 σ1 s1 er1 => ⟨H0, P0, P1, ρ', er1, SatS.up q s1⟩
  | rt d => rw [z] at q; exact q
  | bk ρ' => rw [z] at q; exact q
  | ct ρ' => rw [z] at q; exact q
  | er c ρ' => rw [z] at q; exact q
  | stk => rw [z] at q; exact q
theorem ms_nev : MS X ca W st mNev := ⟨ps_never.imp fun D σ H ⟨H0, P0, P, ρ, er, h⟩ => h⟩
theorem mss_nev : MSs X ca W sts mNev := ⟨pss_never.imp fun D σ H ⟨H0, P0, P, ρ, er, h⟩ => h⟩
/-- an expression that is never come to -/
theorem me_nev : ME X ca W e (fun _ => .stk) := ⟨⟨fun pins s σ H Q I h => by
  obtain ⟨H0, P0, P, ρ, er, h⟩ := h
  exact h.elim⟩⟩
theorem ms_pass : MS X ca W (.Pass pos) mNext := ⟨ps_pass.imp fun D σ H ⟨H0, P0, P, ρ, er, h⟩ => h P H σ (Same.refl _) er⟩
theorem ms_brk : MS X ca W (.Break pos) mBrk := ⟨ps_break.imp fun D σ H ⟨H0, P0, P, ρ, er, h⟩ => h P H σ (Same.refl _) er⟩
theorem ms_cnt : MS X ca W (.Continue pos) mCnt := ⟨ps_continue.imp fun D σ H ⟨H0, P0, P, ρ, er, h⟩ => h P H σ (Same.refl _) er⟩
theorem ms_expr (he : ME X ca W e me) (hs : swapsWith e none pos.line X.env = pure false := by rfl) : MS X ca W (.Expr e pos) (mDrop me) :=
  ⟨(ps_expr he.pe hs).imp fun D σ H ⟨H0, P0, P, ρ, er, h⟩ => tG_bindS er h fun P1 H1 x d e1 rx h1 => h1 P1 H1 σ (Same.refl _) (er.step e1)⟩
theorem ms_ret (he : ME X ca W e me) : MS X ca W (.Return (some e) pos) (mRet me) :=
  ⟨(ps_ret he.pe).imp fun D σ H ⟨H0, P0, P, ρ, er, h⟩ => tG_bindS er h fun P1 H1 x d e1 rx h1 => h1 P1 H1 x (er.bs.trans e1) rx⟩
theorem ms_retN : MS X ca W (.Return none pos) mRetN := ⟨ps_retN.imp fun D σ H ⟨H0, P0, P, ρ, er, h⟩ => h P H .non er.bs .non⟩
theorem ms_if {c : Expr} {a b : List Stmt} {mc : Rho → Res Bool} (hc : MT X ca W c mc) (ha : MSs X ca W a ms) (hb : MSs X ca W b mt) : MS X ca W (.If c a b pos) (mIfS mc ms mt) := by
  refine ⟨(ps_if hc.pt ha.ps hb.ps).imp fun D σ H ⟨H0, P0, P, ρ, er, h⟩ => tG_bindS er h fun P1 H1 x d e1 rx h1 => ?_⟩
  subst rx
  cases x with
  | true => exact ⟨H0, P0, P1, ρ, er.step e1, h1⟩
  | false => exact ⟨H0, P0, P1, ρ, er.step e1, h1⟩
theorem ms_set {i : Nat} {x : Str} {p : Pos} (hN : X.N.Nodup) (hi : X.N[i]? = some x) (hx : Loc X.env.scope x) (he : ME X ca W e me) (hf : X.fn x = true ∨ X.env.scope.names.lookup x = some .local := by first | exact .inl rfl | exact .inr rfl | assumption)
    (hs : swapsWithSole [.Name x p] e pos.line X.env = pure false := by rfl) (hw : swappedStores [.Name x p] e X.env = pure none := by rfl)
    (h1 : (assignEach [.Name x p] X.env).map (·.2) = [assign (.Name x p) X.env] := by rfl) : MS X ca W (.Assign [.Name x p] e pos) (mSet i me) :=
  ⟨(ps_asg he.pe (pg_name hN hi hx hf) hs hw h1).imp fun D σ H ⟨H0, P0, P, ρ, er, h⟩ => tG_bindS er h fun P1 H1 x d e1 rx h1 => h1 P1 H1 _ (Same.refl _) ((er.step e1).set rx)⟩
theorem own_rs {K : PySem.W.Frag} {H0 P0 P H : Hp} {σ : L2.St} {ρ : Rho} {a : Addr} {vs : List V} {l : List D} (er : ER K H0 P0 P H σ ρ) (ha : H a = none) (rv : DrAll K P vs l) : RS K H0 P (upd H a (.lst vs)) (.ref a) (.own l) :=
  ⟨a, vs, rfl, upd_same, Same.free er.sub ha, Same.free er.bs.hh ha, rv⟩
theorem ms_setF {i : Nat} {x : Str} {p : Pos} (hN : X.N.Nodup) (hi : X.N[i]? = some x) (hx : Loc X.env.scope x) (he : MF X ca W e ml) (hf : X.fn x = true ∨ X.env.scope.names.lookup x = some .local := by first | exact .inl rfl | exact .inr rfl | assumption)
    (hs : swapsWithSole [.Name x p] e pos.line X.env = pure false := by rfl) (hw : swappedStores [.Name x p] e X.env = pure none := by rfl)
    (h1 : (assignEach [.Name x p] X.env).map (·.2) = [assign (.Name x p) X.env] := by rfl) : MS X ca W (.Assign [.Name x p] e pos) (mSetF i ml) :=
  ⟨(ps_asg he.pe (pg_name hN hi hx hf) hs hw h1).imp fun D σ H ⟨H0, P0, P, ρ, er, h⟩ => tF_bindS er h fun P1 H1 a vs l e1 ha rv h1 => h1 P1 _ _ (Same.refl _) ((er.step e1).setOwn ha rfl (own_rs (er.step e1) ha rv))⟩
theorem ms_frz {i : Nat} (h : MS X ca W st ms) : MS X ca W st (mFrz i ms) := by
  refine ⟨h.ps.imp fun D σ H ⟨H0, P0, P, ρ, er, q⟩ => ?_⟩
  unfold mFrz frz at q
  cases z : ρ[i]? with
  | none => rw [z] at q; exact ⟨H0, P0, P, ρ, er, q⟩
  | some o =>
    rw [z] at q
    cases o with
    | none => exact ⟨H0, P0, P, ρ, er, q⟩
    | some s =>
      cases s with
      | val d => exact ⟨H0, P0, P, ρ, er, q⟩
      | dct d => exact ⟨H0, P0, P, ρ, er, q⟩
      | own l =>
        obtain ⟨P', sp, er'⟩ := er.freeze z
        exact ⟨H0, P0, P', _, er', SatS.up q sp⟩
theorem slot_of {K : PySem.W.Frag} {H0 P0 P H : Hp} {σ : L2.St} {ρ : Rho} {i : Nat} {s : Sl} (er : ER K H0 P0 P H σ ρ) (h : ρ[i]? = some (some s)) : ∃ x, σ[i]? = some (some x) ∧ RS K H0 P H x s := er.slot i s h
theorem ms_append {i : Nat} {x : Str} {p apos cpos : Pos} (ha : ME X ca W e me) (hN : X.N[i]? = some x := by rfl) (hv : Vis X.env.scope x := by first | exact Or.inl rfl | exact Or.inr (Or.inl rfl) | exact Or.inr (Or.inr rfl)) (hd : (x == ("__debug__" : Str)) = false := by decide) (hcd : (x == ("__classdict__" : Str)) = false := by decide)
    (hbase : attributeBase (.Name x p) "append" X.env (eval (.Name x p) X.env) = eval (.Name x p) X.env := by rfl)
    (hfew : ((backTo cpos (starEach [e] X.env)).all (fun x => !x.1) && (backToKw cpos (keywordEach [] X.env)).all (fun x => x.1.isSome)
      && decide ([e].length + ([] : List Keyword).length + (if ([] : List Keyword).isEmpty then 0 else 1) < 30)) = true := by rfl)
    (hline : (apos.endLine == cpos.line) = true := by rfl) (he : starEach [e] X.env = (false, eval e X.env) :: starEach [] X.env := by rfl) (hplain : (backTo cpos (starEach [] X.env)).any (·.1) = false := by rfl)
    (hs : swapsWith (.Call (.Attribute (.Name x p) "append" apos) [e] [] cpos) none pos.line X.env = pure false := by rfl) : MS X ca W (.Expr (.Call (.Attribute (.Name x p) "append" apos) [e] [] cpos) pos) (mAppend i me) := by
  refine ⟨(ps_expr (pe_bm PySem.F.plainAttrs_list PySem.F.slot_list_append PySem.F.type_list_append mt_append (pe_var hN hv hd hcd) (pa_cons ha.pe pa_nil he) hbase hfew hline he hplain) hs).imp fun D σ H ⟨H0, P0, P, ρ, er, h⟩ => ?_⟩
  unfold mAppend at h
  cases z : ρ[i]? with
  | none => rw [z] at h; exact h.elim
  | some o =>
    rw [z] at h
    cases o with
    | none => exact h.elim
    | some s =>
      cases s with
      | val d => exact h.elim
      | dct d => exact h.elim
      | own l =>
        obtain ⟨x, hx, a, vs, rfl, h1, h2, h3, h4⟩ := er.slot i _ z
        refine ⟨_, hx, .inl ⟨rfl, vs, SqL.of h1⟩, tG_bindS er h fun P1 H1 y d e1 ry q => ?_⟩
        by_cases hl : l.length < sizeLine
        · rw [if_pos hl] at q
          have h1' := e1.hh _ _ h1
          have h2' := e1.fr a (by rw [h1]; exact fun z => nomatch z) h2
          refine ⟨a, vs, y, rfl, rfl, h1', by rw [dps_length h4]; exact hl, q P1 _ _ (Same.refl _) ((er.step e1).write z rfl hx h2' h3 rfl ?_)⟩
          exact ⟨a, _, rfl, upd_same, h2', h3, dps_append (h4.mono e1.pp) (dps_one ry)⟩
        · rw [if_neg hl] at q; exact q.elim
/-- list.extend(a list that is read) -/
def rExtR : V → List V → Hp → VK → Prop := fun x vs H Q => ∃ l b xs zs, x = .ref l ∧ vs = [.ref b] ∧ H l = some (.lst xs) ∧ Rd H b (.lst zs) ∧ xs.length + zs.length ≤ sizeLine ∧ Q .non (upd H l (.lst (xs ++ zs)))
theorem mt_extR {X : Cx} : MtM X "list.extend" rExtR := by
  rintro pins s σ H x vs v us Q I rx rv ⟨l, b, xs, zs, rfl, rfl, hl, hb, hz, q⟩
  cases rx
  obtain ⟨u, rfl, ru⟩ := rv.one
  cases ru
  obtain ⟨i1, n1, v1, g1, _, w1⟩ := rd_list I (.inl hl)
  obtain ⟨i2, n2, v2, g2, _, w2⟩ := rd_list I hb
  have z12 : i1.toArray.size + i2.toArray.size ≤ sizeLine := by
    rw [List.size_toArray, List.size_toArray, w1, w2]; exact hz
  have nl : ¬ (!i1.toArray.isEmpty && Builtin.List.listTooLong (i1.toArray.size + i2.toArray.size)) = true := by
    rw [notLongL z12, Bool.and_false]; decide
  refine call_meets F.slot_list_extend ⟨_, g1, rfl⟩ F.entry_list_extend (F.args_list_extend_2 _ _)
    (AutoSeq1.list_extend_list_list_0 l i1.toArray n1 b i2.toArray n2 nl (Nat.le_trans (Nat.le_add_right _ _) z12) (Nat.le_succ_of_le z12)) ⟨g1, g2, ?_⟩
  exact ⟨.non, _, I.lset (its' := i1 ++ i2) hl g1 (by simp) (v1.append v2) (by rw [List.length_append]; exact hz), rfl, q⟩
theorem ms_extend {i : Nat} {x : Str} {p apos cpos : Pos} (ha : MB X ca W e ml) (hN : X.N[i]? = some x := by rfl) (hv : Vis X.env.scope x := by first | exact Or.inl rfl | exact Or.inr (Or.inl rfl) | exact Or.inr (Or.inr rfl)) (hd : (x == ("__debug__" : Str)) = false := by decide) (hcd : (x == ("__classdict__" : Str)) = false := by decide)
    (hbase : attributeBase (.Name x p) "extend" X.env (eval (.Name x p) X.env) = eval (.Name x p) X.env := by rfl)
    (hfew : ((backTo cpos (starEach [e] X.env)).all (fun x => !x.1) && (backToKw cpos (keywordEach [] X.env)).all (fun x => x.1.isSome)
      && decide ([e].length + ([] : List Keyword).length + (if ([] : List Keyword).isEmpty then 0 else 1) < 30)) = true := by rfl)
    (hline : (apos.endLine == cpos.line) = true := by rfl) (he : starEach [e] X.env = (false, eval e X.env) :: starEach [] X.env := by rfl) (hplain : (backTo cpos (starEach [] X.env)).any (·.1) = false := by rfl)
    (hs : swapsWith (.Call (.Attribute (.Name x p) "extend" apos) [e] [] cpos) none pos.line X.env = pure false := by rfl) : MS X ca W (.Expr (.Call (.Attribute (.Name x p) "extend" apos) [e] [] cpos) pos) (mExtend i ml) := by
  refine ⟨(ps_expr (pe_bm PySem.F.plainAttrs_list PySem.F.slot_list_extend PySem.F.type_list_extend mt_extR (pe_var hN hv hd hcd) (pa_cons ha.pe pa_nil he) hbase hfew hline he hplain) hs).imp fun D σ H ⟨H0, P0, P, ρ, er, h⟩ => ?_⟩
  unfold mExtend at h
  cases z : ρ[i]? with
  | none => rw [z] at h; exact h.elim
  | some o =>
    rw [z] at h
    cases o with
    | none => exact h.elim
    | some s =>
      cases s with
      | val d => exact h.elim
      | dct d => exact h.elim
      | own l =>
        obtain ⟨x, hx, a, vs, rfl, h1, h2, h3, h4⟩ := er.slot i _ z
        refine ⟨_, hx, .inl ⟨rfl, vs, SqL.of h1⟩, tG_bindS er h fun P1 H1 y d e1 ry q => ?_⟩
        obtain ⟨b, ws, rfl, hb, rw'⟩ := ry
        by_cases hl : l.length + d.length ≤ sizeLine
        · rw [if_pos hl] at q
          have h1' := e1.hh _ _ h1
          have h2' := e1.fr a (by rw [h1]; exact fun z => nomatch z) h2
          refine ⟨a, b, vs, ws, rfl, rfl, h1', hb, by rw [dps_length h4, dps_length rw']; exact hl, q P1 _ _ (Same.refl _) ((er.step e1).write z rfl hx h2' h3 rfl ?_)⟩
          exact ⟨a, _, rfl, upd_same, h2', h3, dps_append (h4.mono e1.pp) rw'⟩
        · rw [if_neg hl] at q; exact q.elim
theorem ms_setIt {i : Nat} {x : Str} {p tp : Pos} {k : Expr} {mk : Rho → Res D} (ha : ME X ca W e me) (hk : ME X ca W k mk) (hN : X.N[i]? = some x := by rfl) (hv : Vis X.env.scope x := by first | exact Or.inl rfl | exact Or.inr (Or.inl rfl) | exact Or.inr (Or.inr rfl)) (hd : (x == ("__debug__" : Str)) = false := by decide) (hcd : (x == ("__classdict__" : Str)) = false := by decide)
    (hA : ∀ v, assign (.Subscript (.Name x p) k tp) X.env v = (do
      let ov ← holding [v] (eval (.Name x p) X.env)
      let iv ← holding [v, ov] (eval k X.env)
      standAt tp
      holding [v, ov, iv] (setItem ov iv v)
      release [v, ov, iv] []) := by intro _; rfl)
    (hs : swapsWithSole [.Subscript (.Name x p) k tp] e pos.line X.env = pure false := by rfl) (hw : swappedStores [.Subscript (.Name x p) k tp] e X.env = pure none := by rfl)
    (h1 : (assignEach [.Subscript (.Name x p) k tp] X.env).map (·.2) = [assign (.Subscript (.Name x p) k tp) X.env] := by rfl) : MS X ca W (.Assign [.Subscript (.Name x p) k tp] e pos) (mSetIt i mk me) := by
  refine ⟨(ps_asg ha.pe (pg_sub (pe_var hN hv hd hcd) hk.pe set_list hA) hs hw h1).imp fun D σ H ⟨H0, P0, P, ρ, er, h⟩ => tG_bindS er h fun P1 H1 y d e1 ry q => ?_⟩
  cases z : ρ[i]? with
  | none => rw [z] at q; exact q.elim
  | some o =>
    rw [z] at q
    cases o with
    | none => exact q.elim
    | some s =>
      cases s with
      | val d => exact q.elim
      | dct d => exact q.elim
      | own l =>
        have er1 := er.step e1
        obtain ⟨x, hx, a, vs, rfl, h1, h2, h3, h4⟩ := er1.slot i _ z
        refine ⟨_, hx, tG_bindS er1 q fun P2 H2 y2 j e2 rj q2 => ?_⟩
        cases rj with
        | int j =>
          have q2 : SatS X.K ca W H0 P0 P2 (match ixN l.length j with
            | some n => .nx (ρ.set i (some (.own (l.set n d))))
            | none => .stk) D := q2
          cases hj : ixN l.length j with
          | none => rw [hj] at q2; exact q2.elim
          | some n =>
            rw [hj] at q2
            have h1' := e2.hh _ _ h1
            have h2' := e2.fr a (by rw [h1]; exact fun z => nomatch z) h2
            refine ⟨a, vs, j, n, rfl, rfl, h1', by rw [dps_length h4]; exact hj, q2 P2 _ _ (Same.refl _) ((er1.step e2).write z rfl hx h2' h3 rfl ?_)⟩
            exact ⟨a, _, rfl, upd_same, h2', h3, dps_set n (h4.mono e2.pp) (Dr.mono ry e2.pp)⟩
        | _ => exact q2.elim
theorem ms_aug {i : Nat} {x : Str} {p : Pos} {op : Operator} {t : TIp} {f : D → D → Option D} (hip : PIp X op t) (hs : OpS X.K t f) (hN : X.N.Nodup) (hi : X.N[i]? = some x) (hx : Loc X.env.scope x) (he : ME X ca W e me)
    (h : ∀ {te : TE}, PE X e te → PS X (.AugAssign (.Name x p) op e pos) (tAug i te t)) : MS X ca W (.AugAssign (.Name x p) op e pos) (mAug f i me) := by
  refine ⟨(h he.pe).imp fun D σ H ⟨H0, P0, P, ρ, er, h⟩ => ?_⟩
  unfold mAug at h
  cases z : ρ[i]? with
  | none => rw [z] at h; exact h.elim
  | some o =>
    rw [z] at h
    cases o with
    | none => exact h.elim
    | some s =>
      cases s with
      | own d => exact h.elim
      | dct d => exact h.elim
      | val v =>
        obtain ⟨y, hy, ry⟩ := er.slot i _ z
        refine ⟨y, hy, tG_bindS er h fun P1 H1 w d e1 rw' q => ?_⟩
        cases hf : f v d with
        | none => rw [hf] at q; exact q.elim
        | some u =>
          rw [hf] at q
          refine hs P1 H1 y w v d u _ e1.ph (Dr.mono ry e1.pp) rw' hf fun P2 H2 x e2 rx => ?_
          exact q P2 H2 _ e2.pp (((er.step e1).step e2).set rx)
/-! ### targets -/
/-- a target by data -/
def gM (K : PySem.W.Frag) (g : D → Rho → Option Rho) : TG := fun v σ H Q => ∃ H0 P0 P ρ d, ER K H0 P0 P H σ ρ ∧ Dr K P v d ∧ match g d ρ with
  | some ρ' => ∀ σ', ER K H0 P0 P H σ' ρ' → Q σ' H
  | none => False
structure MG (X : Cx) (tg : Expr) (g : D → Rho → Option Rho) : Prop where
  pg : PG X tg (gM X.K g)
theorem PGimp {X : Cx} {tg : Expr} {t t' : TG} (h : PG X tg t) (i : ∀ v σ H Q, t' v σ H Q → t v σ H Q) : PG X tg t' := ⟨fun pins s σ H v u Q I r q => h.run pins s σ H v u Q I r (i _ _ _ _ q)⟩
theorem mg_name {i : Nat} {x : Str} (hN : X.N.Nodup) (hi : X.N[i]? = some x) (hx : Loc X.env.scope x) (hf : X.fn x = true ∨ X.env.scope.names.lookup x = some .local := by first | exact .inl rfl | exact .inr rfl | assumption) : MG X (.Name x pos) (gSet i) :=
  ⟨PGimp (pg_name hN hi hx hf) fun v σ H Q ⟨H0, P0, P, ρ, d, er, rv, h⟩ => h _ (er.set rv)⟩
theorem mg_tup2 {i j : Nat} {x y : Str} {px py : Pos} {kk : Nat} (hc : X.calm = true) (hN : X.N.Nodup) (hi : X.N[i]? = some x) (hj : X.N[j]? = some y) (hx : Loc X.env.scope x) (hy : Loc X.env.scope y)
    (hf : X.fn x = true ∨ X.env.scope.names.lookup x = some .local) (hf' : X.fn y = true ∨ X.env.scope.names.lookup y = some .local) : MG X (.Tuple [.Name x px, .Name y py] kk pos) (gSet2 i j) := by
  refine ⟨PGimp (pg_tup hc (pgs_cons (pg_name hN hi hx hf) (pgs_cons (pg_name hN hj hy hf') pgs_nil))) fun v σ H Q ⟨H0, P0, P, ρ, d, er, rv, h⟩ => ?_⟩
  cases rv with
  | @tup a xs ds h1 h2 =>
    cases h2 with
    | nil => exact h.elim
    | cons r1 h2 =>
      cases h2 with
      | nil => exact h.elim
      | cons r2 h2 =>
        cases h2 with
        | cons _ _ => exact h.elim
        | nil => exact ⟨a, _, rfl, seqT_mono er.sub h1, rfl, _, _, rfl, _, _, rfl, rfl, h _ ((er.set r1).set r2)⟩
  | _ => exact h.elim
theorem mg_tup3 {i j k : Nat} {x y z : Str} {px py pz : Pos} {kk : Nat} (hc : X.calm = true) (hN : X.N.Nodup) (hi : X.N[i]? = some x) (hj : X.N[j]? = some y) (hk : X.N[k]? = some z) (hx : Loc X.env.scope x) (hy : Loc X.env.scope y) (hz : Loc X.env.scope z)
    (hf : X.fn x = true ∨ X.env.scope.names.lookup x = some .local) (hf' : X.fn y = true ∨ X.env.scope.names.lookup y = some .local) (hf'' : X.fn z = true ∨ X.env.scope.names.lookup z = some .local) : MG X (.Tuple [.Name x px, .Name y py, .Name z pz] kk pos) (gSet3 i j k) := by
  refine ⟨PGimp (pg_tup hc (pgs_cons (pg_name hN hi hx hf) (pgs_cons (pg_name hN hj hy hf') (pgs_cons (pg_name hN hk hz hf'') pgs_nil)))) fun v σ H Q ⟨H0, P0, P, ρ, d, er, rv, h⟩ => ?_⟩
  cases rv with
  | @tup a xs ds h1 h2 =>
    cases h2 with
    | nil => exact h.elim
    | cons r1 h2 =>
      cases h2 with
      | nil => exact h.elim
      | cons r2 h2 =>
        cases h2 with
        | nil => exact h.elim
        | cons r3 h2 =>
          cases h2 with
          | cons _ _ => exact h.elim
          | nil => exact ⟨a, _, rfl, seqT_mono er.sub h1, rfl, _, _, rfl, _, _, rfl, _, _, rfl, rfl, h _ (((er.set r1).set r2).set r3)⟩
  | _ => exact h.elim
theorem ms_tgt {tg : Expr} {g : D → Rho → Option Rho} (he : ME X ca W e me) (hg : MG X tg g) (hs : swapsWithSole [tg] e pos.line X.env = pure false := by rfl) (hw : swappedStores [tg] e X.env = pure none := by rfl)
    (h1 : (assignEach [tg] X.env).map (·.2) = [assign tg X.env] := by rfl) : MS X ca W (.Assign [tg] e pos) (mTgt g me) := by
  refine ⟨(ps_asg he.pe hg.pg hs hw h1).imp fun D σ H ⟨H0, P0, P, ρ, er, h⟩ => tG_bindS er h fun P1 H1 x d e1 rx h1 => ⟨H0, P0, P1, ρ, d, er.step e1, rx, ?_⟩⟩
  cases z : g d ρ with
  | none => rw [z] at h1; exact h1.elim
  | some ρ' =>
    rw [z] at h1
    exact fun σ' er' => h1 P1 H1 σ' (Same.refl _) er'
/-! ### what is walked -/
/-- J gives the items of l -/
def ItOk (K : PySem.W.Frag) (P' : Hp) (J : It) (l : List D) : Prop := ∃ (G : Hp → Prop) (Y : Nat → Hp → V → Hp → Prop), Walk J l.length G Y ∧ (∀ P1 H1, Same P' P1 → Same P1 H1 → G H1) ∧
  ∀ i P1 H1 x H2, i < l.length → Same P' P1 → Same P1 H1 → Y i H1 x H2 → ∃ P2 d, Ex P1 H1 P2 H2 ∧ l[i]? = some d ∧ Dr K P2 x d
def SatI (K : PySem.W.Frag) (ca : EC → Addr) (W : WX) (σ : L2.St) (P H : Hp) (r : Res (List D)) (R : It → Hp → Prop) : Prop := match r with
  | .ok l => ∀ P' H' J, Ex P H P' H' → ItOk K P' J l → R J H'
  | .er c => ∀ P' H', Ex P H P' H' → W (.ref (ca c)) none σ H'
  | .stk => False
def tI (K : PySem.W.Frag) (ca : EC → Addr) (W : WX) (m : Rho → Res (List D)) : TI := fun σ H R => ∃ H0 P0 P ρ, ER K H0 P0 P H σ ρ ∧ SatI K ca W σ P H (m ρ) R
theorem SatI.step {K : PySem.W.Frag} {ca : EC → Addr} {W : WX} {σ : L2.St} {P H P' H' : Hp} {r : Res (List D)} {R : It → Hp → Prop} (h : SatI K ca W σ P H r R) (e : Ex P H P' H') : SatI K ca W σ P' H' r R := by
  cases r with
  | ok l => exact fun P2 H2 J e2 i => h P2 H2 J (e.trans e2) i
  | er c => exact fun P2 H2 e2 => h P2 H2 (e.trans e2)
  | stk => exact h
structure MI (X : Cx) (ca : EC → Addr) (W : WX) (tg iter : Expr) (m : Rho → Res (List D)) : Prop where
  pi : PI X tg iter (tI X.K ca W m)
theorem PIimp {X : Cx} {tg iter : Expr} {t t' : TI} (h : PI X tg iter t) (i : ∀ σ H R, t' σ H R → t σ H R) : PI X tg iter t' := ⟨fun pins s σ H R I q => h.run pins s σ H R I (i _ _ _ q)⟩
theorem PIor {X : Cx} {tg iter : Expr} {t t' : TI} (h : PI X tg iter t) (h' : PI X tg iter t') : PI X tg iter (fun σ H R => t σ H R ∨ t' σ H R) := ⟨fun pins s σ H R I q => q.elim (h.run pins s σ H R I) (h'.run pins s σ H R I)⟩
theorem it_list {K : PySem.W.Frag} {P : Hp} {a : Addr} {vs : List V} {l : List D} (h : Rd P a (.lst vs)) (r : DrAll K P vs l) : ItOk K P (Itl K a) l := by
  refine ⟨_, _, (dps_length r) ▸ walk_list (K := K) (a := a) (xs := vs), fun P1 H1 s1 s2 => .inl (rd_mono (s1.trans s2) h), fun i P1 H1 x H2 hi s1 s2 y => ?_⟩
  obtain ⟨rfl, hx⟩ := y
  obtain ⟨d, h1, h2⟩ := dps_getV r hx
  exact ⟨P1, d, Ex.refl s2, h1, h2.mono s1⟩
theorem it_sq {K : PySem.W.Frag} {P : Hp} {a : Addr} {vs : List V} {l : List D} (h : SqL K P a vs) (r : DrAll K P vs l) : ItOk K P (Itl K a) l := by
  refine ⟨_, _, (dps_length r) ▸ walk_list (K := K) (a := a) (xs := vs), fun P1 H1 s1 s2 => (s1.trans s2).seq h, fun i P1 H1 x H2 hi s1 s2 y => ?_⟩
  obtain ⟨rfl, hx⟩ := y
  obtain ⟨d, h1, h2⟩ := dps_getV r hx
  exact ⟨P1, d, Ex.refl s2, h1, h2.mono s1⟩
theorem it_tup {K : PySem.W.Frag} {P : Hp} {a : Addr} {vs : List V} {l : List D} (h : SqT K P a vs) (r : DrAll K P vs l) : ItOk K P (Itt K a) l := by
  refine ⟨_, _, (dps_length r) ▸ walk_tup (K := K) (a := a) (xs := vs), fun P1 H1 s1 s2 => seqT_mono (s1.trans s2) h, fun i P1 H1 x H2 hi s1 s2 y => ?_⟩
  obtain ⟨rfl, hx⟩ := y
  obtain ⟨d, h1, h2⟩ := dps_getV r hx
  exact ⟨P1, d, Ex.refl s2, h1, h2.mono s1⟩
def signs (z : Str) : List D := z.cps.toList.map fun c => .str ⟨#[c]⟩
theorem it_str {K : PySem.W.Frag} {P : Hp} {z : Str} : ItOk K P (Its z) (signs z) := by
  have hl : (signs z).length = z.cps.size := by simp [signs]
  refine ⟨_, _, hl ▸ walk_str (z := z), fun P1 H1 s1 s2 => trivial, fun i P1 H1 x H2 hi s1 s2 y => ?_⟩
  obtain ⟨rfl, c, hc, rfl⟩ := y
  exact ⟨P1, .str ⟨#[c]⟩, Ex.refl s2, by simp [signs, hc], .str _⟩
def rangeD (lo : Int) (n : Nat) : List D := (List.range n).map fun i => .int (lo + (i : Nat))
theorem it_range {K : PySem.W.Frag} {P : Hp} {lo : Int} {n : Nat} : ItOk K P (Itr lo n) (rangeD lo n) := by
  have hl : (rangeD lo n).length = n := by simp [rangeD]
  refine ⟨_, _, by rw [hl]; exact walk_range (lo := lo) (n := n), fun P1 H1 s1 s2 => trivial, fun i P1 H1 x H2 hi s1 s2 y => ?_⟩
  obtain ⟨rfl, rfl⟩ := y
  rw [hl] at hi
  exact ⟨P1, .int (lo + (i : Nat)), Ex.refl s2, by simp [rangeD, hi], .int _⟩
def rangeDC (lo c : Int) (n : Nat) : List D := (List.range n).map fun i => .int (lo + (i : Nat) * c)
theorem it_rangeC {K : PySem.W.Frag} {P : Hp} {lo c : Int} {n : Nat} : ItOk K P (Itc lo c n) (rangeDC lo c n) := by
  have hl : (rangeDC lo c n).length = n := by simp [rangeDC]
  refine ⟨_, _, by rw [hl]; exact walk_rangeC (lo := lo) (c := c) (n := n), fun P1 H1 s1 s2 => trivial, fun i P1 H1 x H2 hi s1 s2 y => ?_⟩
  obtain ⟨rfl, rfl⟩ := y
  rw [hl] at hi
  exact ⟨P1, .int (lo + (i : Nat) * c), Ex.refl s2, by simp [rangeDC, hi], .int _⟩
def dItems : D → Option (List D)
  | .list l => some l
  | .tuple l => some l
  | .str z => some (signs z)
  | .dict kvs => some (kvs.map (·.1))
  | _ => none
def mIter (m : Rho → Res D) : Rho → Res (List D) := fun ρ => (m ρ).bind fun x => .of (dItems x)
/-- from an expression's reading to a walked thing's -/
theorem tI_bind {α β : Type} {K : PySem.W.Frag} {Rr : Hp → Hp → β → α → Prop} {σ : L2.St} {H0 P0 P H : Hp} {ρ : Rho} {m : Rho → Res α} {k : α → Res (List D)} {R : It → Hp → Prop} {Q1 : β → Hp → Prop}
    (er : ER K H0 P0 P H σ ρ) (h : SatI K ca W σ P H ((m ρ).bind k) R) (hk : ∀ P1 H1 x d, Ex P H P1 H1 → Rr P1 H1 x d → SatI K ca W σ P1 H1 (k d) R → Q1 x H1) : tG K Rr ca W m σ H Q1 := by
  refine ⟨H0, P0, P, ρ, er, ?_⟩
  cases e : m ρ with
  | ok d =>
    rw [e] at h
    exact fun P1 H1 x e1 r => hk P1 H1 x d e1 r (h.step e1)
  | er c => rw [e] at h; exact h
  | stk => rw [e] at h; exact h
theorem of_no {α : Type} {o : Option α} {c : EC} : Res.of o ≠ .er c := by cases o <;> exact fun h => nomatch h
theorem mi_seq {tg iter : Expr} (h : ME X ca W iter me) : MI X ca W tg iter (mIter me) := by
  refine ⟨PIimp (PIor (pi_list h.pe) (PIor (pi_tup h.pe) (pi_str h.pe))) fun σ H R q => ?_⟩
  -- which of the three: by the datum
  obtain ⟨H0, P0, P, ρ, er, q⟩ := q
  unfold mIter at q
  cases z : me ρ with
  | er c =>
    rw [z] at q
    exact .inl ⟨H0, P0, P, ρ, er, by rw [z]; exact q⟩
  | stk => rw [z] at q; exact q.elim
  | ok d =>
    rw [z] at q
    cases d with
    | list l =>
      refine .inl ⟨H0, P0, P, ρ, er, ?_⟩
      rw [z]
      intro P1 H1 x e1 r
      cases r with
      | @lst a xs ds h1 h2 => exact ⟨a, rfl, ⟨xs, .inl (rd_mono e1.ph h1)⟩, q P1 H1 _ e1 (it_list h1 h2)⟩
    | tuple l =>
      refine .inr (.inl ⟨H0, P0, P, ρ, er, ?_⟩)
      rw [z]
      intro P1 H1 x e1 r
      cases r with
      | @tup a xs ds h1 h2 => exact ⟨a, rfl, ⟨xs, seqT_mono e1.ph h1⟩, q P1 H1 _ e1 (it_tup h1 h2)⟩
    | str s =>
      refine .inr (.inr ⟨H0, P0, P, ρ, er, ?_⟩)
      rw [z]
      intro P1 H1 x e1 r
      cases r with
      | str => exact ⟨s, rfl, q P1 H1 _ e1 it_str⟩
    | dict kvs =>
      refine .inl ⟨H0, P0, P, ρ, er, ?_⟩
      rw [z]
      intro P1 H1 x e1 r
      cases r with
      | @scr a ns h1 => exact ⟨a, rfl, ⟨_, e1.ph.seq h1⟩, q P1 H1 _ e1 (it_sq h1 (scr_all ns))⟩
    | _ => exact q.elim
/-- a fresh list, walked -/
theorem mi_f {tg iter : Expr} (h : MF X ca W iter ml) : MI X ca W tg iter ml := by
  refine ⟨PIimp (pi_list (me_of_mf h).pe) fun σ H R ⟨H0, P0, P, ρ, er, q⟩ => ⟨H0, P0, P, ρ, er, ?_⟩⟩
  unfold mList
  cases z : ml ρ with
  | er c => rw [z] at q; exact q
  | stk => rw [z] at q; exact q
  | ok l =>
    rw [z] at q
    intro P1 H1 x e1 r
    cases r with
    | @lst a xs ds h1 h2 => exact ⟨a, rfl, ⟨xs, .inl (rd_mono e1.ph h1)⟩, q P1 H1 _ e1 (it_list h1 h2)⟩
def small (i : Int) : Bool := decide (i.natAbs ≤ 4611686018427387903)
theorem small_of {i : Int} (h : small i = true) : -(2 ^ 62) ≤ i ∧ i < 2 ^ 62 := by
  have h1 : i.natAbs ≤ 4611686018427387903 := of_decide_eq_true h
  omega
def gR1 : D → Option (List D)
  | .int j => if small j = true then some (rangeD 0 j.toNat) else none
  | _ => none
def gR2 : D → D → Option (List D)
  | .int i, .int j => if small i = true ∧ small j = true then some (rangeD i (j - i).toNat) else none
  | _, _ => none
def mRng1 (a : Rho → Res D) : Rho → Res (List D) := fun ρ => (a ρ).bind fun d => .of (gR1 d)
def mRng2 (a b : Rho → Res D) : Rho → Res (List D) := fun ρ => (a ρ).bind fun d => (b ρ).bind fun e => .of (gR2 d e)
variable {a b : Expr} {ma mb mc : Rho → Res D} {p : Pos} {tg : Expr}
theorem mi_range1 (hm : X.mg "range" = none) (ha : ME X ca W a ma) (hg : Gl X "range" := by rfl) (hs : starEach [a] X.env = [(false, eval a X.env)] := by rfl) (he : starEach [a] X.env = (false, eval a X.env) :: starEach [] X.env := by rfl) : MI X ca W tg (.Call (.Name "range" p) [a] [] pos) (mRng1 ma) := by
  refine ⟨PIimp (pi_range1 hg hm (pa_cons ha.pe pa_nil he) hs) fun σ H R ⟨H0, P0, P, ρ, er, q⟩ => tI_bind er q fun P1 H1 x d e1 r q => ?_⟩
  cases r with
  | int j =>
    have q : SatI X.K ca W σ P1 H1 (Res.of (if small j = true then some (rangeD 0 j.toNat) else none)) R := q
    by_cases h : small j = true
    · rw [if_pos h] at q
      obtain ⟨h1, h2⟩ := small_of h
      exact ⟨j, rfl, h1, h2, q P1 H1 _ (Ex.refl e1.ph) it_range⟩
    · rw [if_neg h] at q; exact q.elim
  | _ => exact q.elim
theorem mi_range2 (hm : X.mg "range" = none) (ha : ME X ca W a ma) (hb : ME X ca W b mb) (hg : Gl X "range" := by rfl) (hs : starEach [a, b] X.env = [(false, eval a X.env), (false, eval b X.env)] := by rfl) (hs2 : starEach [b] X.env = [(false, eval b X.env)] := by rfl)
    (he : starEach [a, b] X.env = (false, eval a X.env) :: starEach [b] X.env := by rfl) (he2 : starEach [b] X.env = (false, eval b X.env) :: starEach [] X.env := by rfl) : MI X ca W tg (.Call (.Name "range" p) [a, b] [] pos) (mRng2 ma mb) := by
  refine ⟨PIimp (pi_range2 hg hm (pa_cons ha.pe (pa_cons hb.pe pa_nil he2) he) hs hs2) fun σ H R ⟨H0, P0, P, ρ, er, q⟩ => tI_bind er q fun P1 H1 x d e1 r q => tI_bind (er.step e1) q fun P2 H2 y e e2 r' q => ?_⟩
  cases r with
  | int i =>
    cases r' with
    | int j =>
      have q : SatI X.K ca W σ P2 H2 (Res.of (if small i = true ∧ small j = true then some (rangeD i (j - i).toNat) else none)) R := q
      by_cases h : small i = true ∧ small j = true
      · rw [if_pos h] at q
        obtain ⟨h1, h2⟩ := small_of h.1
        obtain ⟨h3, h4⟩ := small_of h.2
        exact ⟨i, j, rfl, ⟨h1, h2, h3, h4⟩, q P2 H2 _ (Ex.refl e2.ph) it_range⟩
      · rw [if_neg h] at q; exact q.elim
    | _ => exact q.elim
  | _ => cases e <;> exact q.elim
/-! ### for -/
theorem ms_for {iter : Expr} {body : List Stmt} {mi : Rho → Res (List D)} {g : D → Rho → Option Rho} {mb : Rho → Out} (hp : PassesOwn (model X.prog X.w) X.A X.env X.xe) (hc : X.calm = true) (hi : MI X ca W tg iter mi) (hg : MG X tg g) (hb : MSs X ca W body mb)
    (hs : ∀ x, foldedSetIterable iter X.env x = pure x := by intro _; rfl) : MS X ca W (.For tg iter body [] pos) (mFor mi g mb) := by
  refine ⟨(ps_for hp hc hi.pi hg.pg hb.ps hs).imp fun D σ H ⟨H0, P0, P, ρ, er, h⟩ => ?_⟩
  refine ⟨H0, P0, P, ρ, er, ?_⟩
  unfold mFor at h
  cases z : mi ρ with
  | er c => rw [z] at h; exact fun P1 H1 e1 => h P1 H1 σ e1.pp (er.step e1)
  | stk => rw [z] at h; exact h.elim
  | ok l =>
    rw [z] at h
    intro P1 H1 J e1 ⟨G, Y, wk, hG, hY⟩
    refine for_it wk (fun i σ H => ∃ P ρ, ER X.K H0 P0 P H σ ρ ∧ Same P1 P ∧ SatS X.K ca W H0 P0 P (forL g mb (l.drop i) ρ) D) ⟨P1, ρ, er.step e1, Same.refl _, SatS.up h e1.pp⟩ (fun i σ H _ ⟨P, ρ, er, sp, _⟩ => hG P H sp er.sub) ?_ ?_
    · rintro i x σ H H' hi ⟨P, ρ, er, sp, q⟩ y
      obtain ⟨P2, d, e2, hd, rd⟩ := hY i P H x H' hi sp er.sub y
      have hdr : l.drop i = d :: l.drop (i + 1) := by
        obtain ⟨h1, h2⟩ := List.getElem?_eq_some_iff.mp hd
        rw [← h2]; exact List.drop_eq_getElem_cons h1
      rw [hdr] at q
      have q := SatS.up q e2.pp
      unfold forL at q
      refine ⟨H0, P0, P2, ρ, d, er.step e2, rd, ?_⟩
      cases zg : g d ρ with
      | none => rw [zg] at q; exact q.elim
      | some ρ1 =>
        rw [zg] at q
        refine fun σ' er' => ⟨H0, P0, P2, ρ1, er', ?_⟩
        have sp2 := sp.trans e2.pp
        cases zb : mb ρ1 with
        | nx ρ2 =>
          simp only [zb] at q
          exact fun P3 H3 σ3 s3 er3 => ⟨P3, ρ2, er3, sp2.trans s3, SatS.up q s3⟩
        | ct ρ2 =>
          simp only [zb] at q
          exact fun P3 H3 σ3 s3 er3 => ⟨P3, ρ2, er3, sp2.trans s3, SatS.up q s3⟩
        | bk ρ2 =>
          simp only [zb] at q
          exact q
        | rt v =>
          simp only [zb] at q
          exact q
        | er c ρ2 =>
          simp only [zb] at q
          exact q
        | stk =>
          simp only [zb] at q
          exact q.elim
    · rintro σ H ⟨P, ρ, er, sp, q⟩
      rw [List.drop_length] at q
      exact q P H σ (Same.refl _) er
/-! ### while -/
theorem ms_while {c : Expr} {body : List Stmt} {mc : Rho → Res Bool} {mb : Rho → Out} (N : Nat) (hp : PassesOwn (model X.prog X.w) X.A X.env X.xe) (hc : MT X ca W c mc) (hb : MSs X ca W body mb) : MS X ca W (.While c body [] pos) (mWhile mc mb N) := by
  refine ⟨(ps_while hp hc.pt hb.ps).imp fun D σ H ⟨H0, P0, P, ρ, er, h⟩ => ?_⟩
  refine ⟨fun m σ H => ∃ P ρ, ER X.K H0 P0 P H σ ρ ∧ SatS X.K ca W H0 P0 P (mWhile mc mb m ρ) D, ⟨N, P, ρ, er, h⟩, ?_⟩
  rintro m σ H ⟨P, ρ, er, q⟩
  cases m with
  | zero => exact q.elim
  | succ m =>
    unfold mWhile at q
    refine tG_bindS er q fun P1 H1 b k e1 rb q => ?_
    subst rb
    cases b with
    | false => exact q P1 H1 σ (Same.refl _) (er.step e1)
    | true =>
      rw [if_pos rfl]
      refine ⟨fun σ H => ∃ P ρ, ER X.K H0 P0 P H σ ρ ∧ SatS X.K ca W H0 P0 P (mWhile mc mb m ρ) D, fun σ' H' w => ⟨m, Nat.lt_succ_self m, w⟩, H0, P0, P1, ρ, er.step e1, ?_⟩
      rw [if_pos rfl] at q
      cases zb : mb ρ with
      | nx ρ2 =>
        simp only [zb] at q
        exact fun P3 H3 σ3 s3 er3 => ⟨P3, ρ2, er3, SatS.up q s3⟩
      | ct ρ2 =>
        simp only [zb] at q
        exact fun P3 H3 σ3 s3 er3 => ⟨P3, ρ2, er3, SatS.up q s3⟩
      | bk ρ2 =>
        simp only [zb] at q
        exact q
      | rt v =>
        simp only [zb] at q
        exact q
      | er c ρ2 =>
        simp only [zb] at q
        exact q
      | stk =>
        simp only [zb] at q
        exact q.elim
end
end PX
/-! The pure layer, part 6: comprehensions, raise, try, defs. -/
namespace PX
open PySem PySem.Spec PyProof.Rows L2
/-! ### comprehensions -/
theorem ER.wipe {K : PySem.W.Frag} {H0 P0 P H : Hp} {σ : L2.St} {ρ : Rho} (er : ER K H0 P0 P H σ ρ) : ∀ vs : List Nat, ER K H0 P0 P H (L2.wipe σ vs) (wipeR ρ vs)
  | [] => er
  | v :: vs => (ER.wipe er vs).forget
/-- without the object at D -/
def wo (H : Hp) (D : Addr) : Hp := fun b => if b = D then none else H b
theorem wo_at {H : Hp} {D : Addr} : wo H D D = none := by unfold wo; rw [if_pos rfl]
theorem wo_ne {H : Hp} {D b : Addr} (h : b ≠ D) : wo H D b = H b := by unfold wo; rw [if_neg h]
theorem wo_upd {H : Hp} {D : Addr} {o o' : HO} : upd H D o = upd (wo H D) D o := by
  funext b
  by_cases h : b = D
  · subst h; rw [upd_same, upd_same]
  · rw [upd_ne h, upd_ne h, wo_ne h]
theorem wo_self {H : Hp} {D : Addr} {o : HO} (h : H D = some o) : H = upd (wo H D) D o := by
  funext b
  by_cases e : b = D
  · subst e; rw [upd_same, h]
  · rw [upd_ne e, wo_ne e]
theorem Ex.wo {P Hm P2 H2 : Hp} {D : Addr} {o : HO} (sub : Same P Hm) (hD : Hm D = none) (e : Ex P (upd Hm D o) P2 H2) : Ex P Hm P2 (wo H2 D) ∧ H2 D = some o := by
  have h2 : H2 D = some o := e.hh _ _ upd_same
  have pD : P2 D = none := e.fr D (by rw [upd_same]; exact fun z => nomatch z) (Same.free sub hD)
  refine ⟨⟨e.pp, fun b u hb => ?_, fun b u hb => ?_, fun b hb pb => ?_⟩, h2⟩
  · rw [wo_ne (ne_of_none hb pD)]; exact e.ph _ _ hb
  · have hn := ne_of_none hb hD
    rw [wo_ne hn]
    exact e.hh _ _ (by rw [upd_ne hn]; exact hb)
  · have hn : b ≠ D := fun z => by subst z; exact hb hD
    exact e.fr b (by rw [upd_ne hn]; exact hb) pb
/-- a block's target, by data -/
def TgW (K : PySem.W.Frag) (t : TG) (vs : List Nat) (g : D → Rho → Option Rho) : Prop := ∀ (H0 P0 P H : Hp) (σ : L2.St) (ρ : Rho) (x : V) (d : D) (ρ1 : Rho) (Q : L2.St → Hp → Prop), ER K H0 P0 P H (L2.wipe σ vs) ρ → Dr K P x d → g d ρ = some ρ1 →
  (∀ σ2, L2.wipe σ2 vs = L2.wipe σ vs → ER K H0 P0 P H σ2 ρ1 → Q σ2 H) → t x (L2.wipe σ vs) H Q
theorem tgw_name {K : PySem.W.Frag} {i : Nat} : TgW K (gName i) [i] (gSet i) := by
  intro H0 P0 P H σ ρ x d ρ1 Q er rx hg q
  cases hg
  refine q _ ?_ (er.set rx)
  show ((L2.wipe σ [i]).set i (some x)).set i none = σ.set i none
  show (((σ.set i none).set i (some x)).set i none) = σ.set i none
  rw [List.set_set, List.set_set]
theorem tgw_tup2 {K : PySem.W.Frag} {i j : Nat} : TgW K (gTup K 2 (gCons (gName i) (gCons (gName j) gNil))) [i, j] (gSet2 i j) := by
  intro H0 P0 P H σ ρ x d ρ1 Q er rx hg q
  cases rx with
  | @tup a xs ds h1 h2 =>
    cases h2 with
    | nil => cases hg
    | cons r1 h2 =>
      cases h2 with
      | nil => cases hg
      | cons r2 h2 =>
        cases h2 with
        | cons _ _ => cases hg
        | nil =>
          cases hg
          refine ⟨a, _, rfl, seqT_mono er.sub h1, rfl, _, _, rfl, _, _, rfl, rfl, q _ ?_ ((er.set r1).set r2)⟩
          show (((((σ.set j none).set i none).set i _).set j _).set j none).set i none = (σ.set j none).set i none
          by_cases e : i = j
          · subst e
            simp only [List.set_set]
          · simp only [List.set_set]
            rw [List.set_comm _ _ (show i ≠ j from e)]
            simp only [List.set_set]
  | _ => cases hg
abbrev W0 : WX := fun _ _ _ _ => False
theorem noer_ok {α β : Type} {r : Res α} {k : α → Res β} (Z : Res β → Prop) (hz : ¬ Z .stk) (h : Z ((noer r).bind k)) : ∃ v, r = .ok v ∧ Z (k v) := by
  cases r with
  | ok v => exact ⟨v, rfl, h⟩
  | er c => exact absurd h hz
  | stk => exact absurd h hz
section
variable {X : Cx} {ca : EC → Addr} {W : WX} {pos : Pos} {e : Expr} {me : Rho → Res D}
/-- a fresh list's wish -/
def SatF (K : PySem.W.Frag) (ca : EC → Addr) (W : WX) (σ : L2.St) (P H : Hp) (r : Res (List D)) (Q : VK) : Prop := match r with
  | .ok l => ∀ P' H' a vs, Ex P H P' H' → H' a = none → DrAll K P' vs l → Q (.ref a) (upd H' a (.lst vs))
  | .er c => ∀ P' H', Ex P H P' H' → W (.ref (ca c)) none σ H'
  | .stk => False
/-- a comprehension's reading -/
theorem lc_read {K : PySem.W.Frag} {wi : TI} {t : TG} {tt : TT} {te : TE} {vs : List Nat} {mi : Rho → Res (List D)} {g : D → Rho → Option Rho} {mc : Rho → Res Bool} {mel : Rho → Res D} {σ : L2.St} {H0 P0 P H : Hp} {ρ : Rho} {Q : VK}
    (hwi : ∀ R, tI K ca W mi σ H R → wi σ H R) (htg : TgW K t vs g) (htt : ∀ σ H Q, tG K rB ca W0 mc σ H Q → tt σ H Q) (hte : ∀ σ H Q, tG K (rD K) ca W0 mel σ H Q → te σ H Q)
    (er : ER K H0 P0 P H σ ρ) (h : SatF K ca W σ P H (mLc mi vs g mc mel ρ) Q) : tLc wi t tt te vs σ H Q := by
  refine hwi _ ⟨H0, P0, P, ρ, er, ?_⟩
  unfold mLc at h
  cases z : mi ρ with
  | er c => rw [z] at h; exact h
  | stk => rw [z] at h; exact h
  | ok l =>
    rw [z] at h
    intro P1 H1 J e1 ⟨G, Y, wk, hG, hY⟩ D hD
    have h : SatF K ca W σ P H (lcL g mc mel (wipeR ρ vs) l []) Q := h
    -- no error comes of the block: the fresh list's wish from (P1, H1)
    let FS : Res (List PX.D) → Prop := fun r => match r with
      | .ok l => ∀ P' H' a vs, Ex P1 H1 P' H' → H' a = none → DrAll K P' vs l → Q (.ref a) (upd H' a (.lst vs))
      | .er c => True
      | .stk => False
    have h : FS (lcL g mc mel (wipeR ρ vs) l []) := by
      revert h
      cases lcL g mc mel (wipeR ρ vs) l [] with
      | ok l => exact fun h P' H' a vs e2 => h P' H' a vs (e1.trans e2)
      | er c => exact fun _ => trivial
      | stk => exact fun h => h
    have nostk : ¬ FS .stk := fun h => h
    refine lc_it wk (fun i H => ∃ Pm Hm ws acc, H = upd Hm D (.lst ws) ∧ Hm D = none ∧ Ex P1 H1 Pm Hm ∧ DrAll K Pm ws acc ∧ FS (lcL g mc mel (wipeR ρ vs) (l.drop i) acc)) ⟨P1, H1, [], [], rfl, hD, Ex.refl e1.ph, .nil, h⟩ ?_ ?_ ?_
    · rintro i H hi ⟨Pm, Hm, ws, acc, rfl, hm, em, rw', q⟩
      exact hG Pm _ em.pp (em.ph.trans (same_upd hm))
    · rintro i x H H' hi ⟨Pm, Hm, ws, acc, rfl, hm, em, rw', q⟩ y
      obtain ⟨P2, d, e2, hd, rd⟩ := hY i Pm _ x H' hi em.pp (em.ph.trans (same_upd hm)) y
      have hdr : l.drop i = d :: l.drop (i + 1) := by
        obtain ⟨h1, h2⟩ := List.getElem?_eq_some_iff.mp hd
        rw [← h2]; exact List.drop_eq_getElem_cons h1
      rw [hdr] at q
      unfold lcL at q
      have er2 : ER K H0 P0 P2 H' (L2.wipe σ vs) (wipeR ρ vs) := (er.step ((e1.trans em).trans ((Ex.out em.ph hm).trans e2))).wipe vs
      cases zg : g d (wipeR ρ vs) with
      | none =>
        simp only [zg] at q
        exact absurd q nostk
      | some ρ1 =>
        simp only [zg] at q
        refine htg H0 P0 P2 H' σ _ x d ρ1 _ er2 rd zg fun σ2 hw er3 => ⟨hw, htt _ _ _ ?_⟩
        obtain ⟨k, zc, q⟩ := noer_ok FS nostk q
        obtain ⟨x2, hd2⟩ := Ex.wo em.ph hm e2
        refine ⟨H0, P0, P2, ρ1, er3, ?_⟩
        rw [zc]
        rintro P3 H3 b e3 rfl
        have e23 := e2.trans e3
        obtain ⟨x3, hd3⟩ := Ex.wo em.ph hm e23
        cases b with
        | false =>
          rw [if_neg Bool.false_ne_true] at q ⊢
          exact ⟨P3, wo H3 D, ws, acc, wo_self hd3, wo_at, em.trans x3, rw'.mono x3.pp, q⟩
        | true =>
          rw [if_pos rfl] at q ⊢
          obtain ⟨v, ze, q⟩ := noer_ok FS nostk q
          refine hte _ _ _ ⟨H0, P0, P3, ρ1, er3.step e3, ?_⟩
          rw [ze]
          intro P4 H4 y4 e4 r4
          obtain ⟨x4, hd4⟩ := Ex.wo em.ph hm (e23.trans e4)
          by_cases hl : acc.length < sizeLine
          · rw [if_pos hl] at q
            exact ⟨ws, hd4, by rw [dps_length rw']; exact hl, P4, wo H4 D, ws ++ [y4], acc ++ [v], wo_upd (o' := .lst ws), wo_at, em.trans x4, dps_append (rw'.mono x4.pp) (dps_one r4), q⟩
          · rw [if_neg hl] at q; exact q.elim
    · rintro H ⟨Pm, Hm, ws, acc, rfl, hm, em, rw', q⟩
      rw [List.drop_length] at q
      exact q Pm Hm D ws em hm rw'
variable {elt tg iter c : Expr} {scope : Scope} {mi : Rho → Res (List D)} {g : D → Rho → Option Rho} {mc : Rho → Res Bool} {mel : Rho → Res D} {t : TG} {own : List (Str × Nat)}
/-- a comprehension's parts -/
structure CP (X : Cx) (ca : EC → Addr) (W : WX) (scope : Scope) (own : List (Str × Nat)) (tg iter elt : Expr) (ifs : List Expr) (t : TG) (mi : Rho → Res (List D)) (g : D → Rho → Option Rho) (mc : Rho → Res Bool) (mel : Rho → Res D) : Prop where
  calm : X.calm = true
  nd : X.N.Nodup
  it : MI X ca W tg iter mi
  blk : BlkOk X.N X.env.scope scope own
  pg : ∀ (s : Shared) (H : Hp) (C : Addr) (cl : List (Str × Addr)) (fp : List Addr), PG (X.blk s H scope (compEnvC scope cl C X.env) fp) tg t
  tgw : TgW X.K t (own.map (·.2)) g
  pt : ∀ (s : Shared) (H : Hp) (C : Addr) (cl : List (Str × Addr)) (fp : List Addr), PTs (X.blk s H scope (compEnvC scope cl C X.env) fp) ifs (tG X.K rB ca W0 mc)
  pe : ∀ (s : Shared) (H : Hp) (C : Addr) (cl : List (Str × Addr)) (fp : List Addr), PE (X.blk s H scope (compEnvC scope cl C X.env) fp) elt (tG X.K (rD X.K) ca W0 mel)
theorem mf_lc {ifs : List Expr} (p : CP X ca W scope own tg iter elt ifs t mi g mc mel) (hs : ∀ x, foldedSetIterable iter X.env x = pure x := by intro _; rfl) : MF X ca W (.ListComp elt [⟨tg, iter, ifs, 0⟩] scope pos) (mLc mi (own.map (·.2)) g mc mel) := by
  refine ⟨(pe_lc p.calm p.nd p.it.pi p.blk p.pg p.pt p.pe hs).imp fun σ H Q ⟨H0, P0, P, ρ, er, h⟩ => ?_⟩
  exact lc_read (fun R h => h) p.tgw (fun _ _ _ h => h) (fun _ _ _ h => h) er h
theorem fs_of {K : PySem.W.Frag} {H0 P0 P H : Hp} {σ : L2.St} {ρ : Rho} {r : Res (List D)} {k : List D → Out} {D : Ends} {Q : VK} (er : ER K H0 P0 P H σ ρ) (h : SatS K ca W H0 P0 P (obind r ρ k) D)
    (hk : ∀ P1 H1 a vs l, Ex P H P1 H1 → H1 a = none → DrAll K P1 vs l → SatS K ca W H0 P0 P1 (k l) D → Q (.ref a) (upd H1 a (.lst vs))) : SatF K ca W σ P H r Q := by
  cases r with
  | ok l => exact fun P1 H1 a vs e1 ha rv => hk P1 H1 a vs l e1 ha rv (SatS.up h e1.pp)
  | er c => exact fun P1 H1 e1 => h P1 H1 σ e1.pp (er.step e1)
  | stk => exact h
variable {i : Nat} {y : Str} {py p' spos : Pos}
/-- name = [..], the list one's own -/
theorem ms_setLcF {ifs : List Expr} (p : CP X ca W scope own tg iter elt ifs t mi g mc mel) (hy : X.N[i]? = some y) (hyl : X.env.scope.names.lookup y = some .local) (hsw : swapsWith (.ListComp elt [⟨tg, iter, ifs, 0⟩] scope pos) (some (.Name y py)) spos.line X.env = pure true)
    (hs : ∀ x, foldedSetIterable iter X.env x = pure x := by intro _; rfl) : MS X ca W (.Assign [.Name y py] (.ListComp elt [⟨tg, iter, ifs, 0⟩] scope pos) spos) (mSetF i (mLc mi (own.map (·.2)) g mc mel)) := by
  refine ⟨(ps_setLc p.calm p.nd hy hyl hsw p.it.pi p.blk p.pg p.pt p.pe hs).imp fun D σ H ⟨H0, P0, P, ρ, er, h⟩ => ?_⟩
  refine lc_read (fun R h => h) p.tgw (fun _ _ _ h => h) (fun _ _ _ h => h) er (fs_of er h fun P1 H1 a vs l e1 ha rv q => ?_)
  exact q P1 _ _ (Same.refl _) ((er.step e1).setOwn ha rfl (own_rs (er.step e1) ha rv))
/-- .. a value -/
theorem ms_setLcV {ifs : List Expr} (p : CP X ca W scope own tg iter elt ifs t mi g mc mel) (hy : X.N[i]? = some y) (hyl : X.env.scope.names.lookup y = some .local) (hsw : swapsWith (.ListComp elt [⟨tg, iter, ifs, 0⟩] scope pos) (some (.Name y py)) spos.line X.env = pure true)
    (hs : ∀ x, foldedSetIterable iter X.env x = pure x := by intro _; rfl) : MS X ca W (.Assign [.Name y py] (.ListComp elt [⟨tg, iter, ifs, 0⟩] scope pos) spos) (mSet i (mList (mLc mi (own.map (·.2)) g mc mel))) := by
  refine ⟨(ps_setLc p.calm p.nd hy hyl hsw p.it.pi p.blk p.pg p.pt p.pe hs).imp fun D σ H ⟨H0, P0, P, ρ, er, h⟩ => ?_⟩
  have h : SatS X.K ca W H0 P0 P (obind (mLc mi (own.map (·.2)) g mc mel ρ) ρ fun l => .nx (ρ.set i (some (.val (.list l))))) D := by
    unfold mSet mList at h
    cases z : mLc mi (own.map (·.2)) g mc mel ρ with
    | ok l => rw [z] at h; exact h
    | er c => rw [z] at h; exact h
    | stk => rw [z] at h; exact h
  refine lc_read (fun R h => h) p.tgw (fun _ _ _ h => h) (fun _ _ _ h => h) er (fs_of er h fun P1 H1 a vs l e1 ha rv q => ?_)
  have en := Ex.new (o := .lst vs) e1.ph ha
  exact q _ _ _ en.pp (((er.step e1).step en).set (.lst (.inl upd_same) (rv.mono en.pp)))
theorem pts_no {X' : Cx} {K : PySem.W.Frag} : PTs X' [] (tG K rB ca W0 mYes) := ⟨fun pins s σ H Q I ⟨H0, P0, P, ρ, er, h⟩ => pts_nil.run pins s σ H Q I (h P H true (Ex.refl er.sub) rfl)⟩
/-! ### raise -/
/-- a class of exceptions of the text's own -/
structure ExcM (K : PySem.W.Frag) (mg : Str → Option Value) (x : Str) (C : Addr) : Prop where
  gC : mg x = some (.ref C)
  xC : PySem.W.excIn K C [.type "ValueError", .type "Exception", .type "BaseException", .type "object"] "ValueError.__new__" = true
  kC : PySem.W.keepIn K (.ref C) = true
  bC : PySem.W.subIn K (.ref C) (.type "BaseException") = some true
  tC : PySem.W.typeIn K (.ref C) = some (.type "type")
theorem ms_raise {x m : Str} {j : Nat} {p p2 cpos : Pos} {k : EC} (E : ExcM X.K X.mg x (ca k)) (tk : Takes X W) (hc : X.calm = true := by rfl) (hg : Gl X x := by rfl) (hdb : (x == ("__debug__" : Str)) = false := by decide) :
    MS X ca W (.Raise (some (.Call (.Name x p) [.Constant (.str m) j p2] [] cpos)) none pos) (mRaise k) :=
  ⟨(ps_raise hc tk (pmk_own PySem.F.excBase_ValueError E.xC E.gC E.kC (raises_own E.bC E.tC) hg hdb)).imp fun D σ H ⟨H0, P0, P, ρ, er, h⟩ => h P H σ (Same.refl _) er⟩
/-! ### try, several clauses -/
/-- whether a clause of class h takes c -/
def takesC (c h : EC) : Bool := decide (h = .cut) || decide (c = h)
def hSel : List (EC × (Rho → Out)) → EC → Option (Rho → Out)
  | [], _ => none
  | (h, m) :: r, c => if takesC c h = true then some m else hSel r c
def noerO : Out → Out
  | .er _ _ => .stk
  | o => o
def mTry (us : List EC) (hs : List (EC × (Rho → Out))) (b : Rho → Out) : Rho → Out := fun ρ => match b ρ with
  | .er c ρ1 => if c ∈ us then (match hSel hs c with
    | some m => noerO (m ρ1)
    | none => .er c ρ1) else .stk
  | o => o
/-- the clauses -/
inductive MHs (X : Cx) (ca : EC → Addr) (W : WX) (us : List EC) : List ExceptHandler → List (EC × (Rho → Out)) → Prop
  | nil : MHs X ca W us [] []
  | cons {x : Str} {h : EC} {b₀ : Stmt} {suite : List Stmt} {np pos' : Pos} {hds : List ExceptHandler} {l : List (EC × (Rho → Out))} {m : Rho → Out} (hc : Names X x (.ref (ca h))) (hx : ∀ c, c ∈ us → PySem.W.exmOne X.K (.ref (ca c)) (.ref (ca h)) = some (takesC c h))
      (hsu : ∀ (a : Addr) (oe : Obj) (pn : List (Addr × Obj)), MSs (X.suite a ((a, oe) :: pn)) ca W0 (b₀ :: suite) m) (r : MHs X ca W us hds l) : MHs X ca W us (.ExceptHandler (some (.Name x np)) none (b₀ :: suite) pos' :: hds) ((h, m) :: l)
def hdl (K : PySem.W.Frag) (ca : EC → Addr) (l : List (EC × (Rho → Out))) : List (Value × (Addr → Value → Option Addr → TS)) := l.map fun p => (.ref (ca p.1), fun _ _ _ => tS K ca W0 p.2)
theorem MHs.ok {us : List EC} {hds : List ExceptHandler} {l : List (EC × (Rho → Out))} (h : MHs X ca W us hds l) : HdsOk X hds (hdl X.K ca l) := by
  induction h with
  | nil => exact .nil
  | cons hc hx hsu r ih => exact .cons hc (fun a oe cls d pn _ _ => (hsu a oe pn).ps) ih
theorem MHs.many {us : List EC} {hds : List ExceptHandler} {l : List (EC × (Rho → Out))} (h : MHs X ca W us hds l) {H0 P0 P H : Hp} {σ : L2.St} {ρ1 : Rho} {c : EC} {D : Ends} (hc : c ∈ us) (er : ER X.K H0 P0 P H σ ρ1)
    (q : SatS X.K ca W H0 P0 P (match hSel l c with
    | some m => noerO (m ρ1)
    | none => .er c ρ1) D) : wMany X.K W D (hdl X.K ca l) (.ref (ca c)) none σ H := by
  induction h with
  | nil => exact q P H σ (Same.refl _) er
  | @cons x h b₀ suite np pos' hds l m hn hx hsu r ih =>
    unfold hSel at q
    refine ⟨takesC c h, hx c hc, fun ht a ha => ?_, fun ht => ih ?_⟩
    · rw [if_pos ht] at q
      refine ⟨H0, P0, P, ρ1, er, ?_⟩
      have q : SatS X.K ca W H0 P0 P (noerO (m ρ1)) D := q
      show SatS X.K ca W0 H0 P0 P (m ρ1) D
      revert q
      cases m ρ1 with
      | er c ρ2 => exact fun q => q.elim
      | nx ρ2 => exact fun q => q
      | rt d => exact fun q => q
      | bk ρ2 => exact fun q => q
      | ct ρ2 => exact fun q => q
      | stk => exact fun q => q
    · rw [if_neg (by rw [ht]; exact Bool.false_ne_true)] at q
      exact q
/-- try: .. except A: .. except B: .. -/
theorem ms_try {us : List EC} {h₀ : ExceptHandler} {hds : List ExceptHandler} {l : List (EC × (Rho → Out))} {body : List Stmt} {mb : Rho → Out} (hs : X.stack = X.env :: X.outer) (hf : X.env.frame = some X.env.locals) (tk : Takes X W)
    (hb : ∀ (W : WX) (pn : List (Addr × Obj)) (xe : Value → Shared → Prop), Takes (X.tr pn xe) W → PassesOwn (model X.prog X.w) X.A X.env xe → MSs (X.tr pn xe) ca W body mb) (hh : MHs X ca W us (h₀ :: hds) l) : MS X ca W (.Try body (h₀ :: hds) [] [] pos) (mTry us l mb) := by
  refine ⟨(ps_try_many (tb := fun W => tS X.K ca W mb) hs hf tk (fun W pn xe tk' hp => (hb W pn xe tk' hp).ps) hh.ok).imp fun D σ H ⟨H0, P0, P, ρ, er, q⟩ => ⟨H0, P0, P, ρ, er, ?_⟩⟩
  unfold mTry at q
  cases z : mb ρ with
  | nx ρ2 => rw [z] at q; exact q
  | rt d => rw [z] at q; exact q
  | bk ρ2 => rw [z] at q; exact q
  | ct ρ2 => rw [z] at q; exact q
  | stk => rw [z] at q; exact q
  | er c ρ1 =>
    rw [z] at q
    intro P1 H1 σ1 s1 er1
    by_cases hc : c ∈ us
    · have q : SatS X.K ca W H0 P0 P (match hSel l c with
        | some m => noerO (m ρ1)
        | none => .er c ρ1) D := by
        have e : (if c ∈ us then (match hSel l c with
          | some m => noerO (m ρ1)
          | none => Out.er c ρ1) else .stk) = (match hSel l c with
          | some m => noerO (m ρ1)
          | none => Out.er c ρ1) := if_pos hc
        rw [← e]; exact q
      exact hh.many hc er1 (SatS.up q s1)
    · have q : SatS X.K ca W H0 P0 P (if c ∈ us then (match hSel l c with
        | some m => noerO (m ρ1)
        | none => Out.er c ρ1) else .stk) D := q
      rw [if_neg hc] at q
      exact q.elim
end
/-! ### defs -/
/-- the slots at the entry -/
def startR (n : Nat) (ds : List D) : Rho := ds.map (fun d => some (Sl.val d)) ++ List.replicate (n - ds.length) none
def fnM (n : Nat) (b : Rho → Out) (ds : List D) : Res D := match b (startR n ds) with
  | .rt d => .ok d
  | .nx _ => .ok .none
  | .er c _ => .er c
  | _ => .stk
theorem er_start {K : PySem.W.Frag} {P H : Hp} {N : List Str} {vs : List V} {ds : List D} (s : Same P H) (r : DrAll K P vs ds) : ER K H P P H (L2.start N vs) (startR N.length ds) := by
  have hl := dps_length r
  have low : ∀ (i : Nat) (t : Sl), (startR N.length ds)[i]? = some (some t) → ∃ d, t = .val d ∧ ds[i]? = some d ∧ i < ds.length := by
    intro i t h
    unfold startR at h
    by_cases hi : i < ds.length
    · rw [List.getElem?_append_left (by simpa using hi), List.getElem?_map] at h
      cases q : ds[i]? with
      | none => rw [q] at h; cases h
      | some d => rw [q] at h; cases h; exact ⟨d, rfl, rfl, hi⟩
    · rw [List.getElem?_append_right (by simpa using hi), List.getElem?_replicate] at h
      split at h <;> cases h
  refine ⟨s, ⟨Same.refl _, s, Same.refl _, fun _ _ h => h⟩, ?_, fun i t h => ?_, fun i j a t u ne hi hj tv uv => ?_⟩
  · unfold startR L2.start
    simp [hl]
  · obtain ⟨d, rfl, hd, hi⟩ := low i t h
    obtain ⟨x, hx, rx⟩ := dps_get r hd
    refine ⟨x, ?_, rx⟩
    unfold L2.start
    rw [List.getElem?_append_left (by simpa [hl] using hi), List.getElem?_map, hx]
    rfl
  · obtain ⟨d, rfl, _⟩ := low i t hi
    cases tv
section
variable {P : Program} {w : World} {K : PySem.W.Frag} {mg : Str → Option Value} {base : Heap} {ca : EC → Addr}
/-- THE RULE: a def by its body -/
theorem fn_ok {x : Str} {params : Arguments} {body : List Stmt} {scope : Scope} {f : Addr} {fd : FuncData} {N ps : List Str} {k : Nat} {m : Rho → Out} (F : FunD K x x params body scope [] [] f fd) (hm : mg x = some (.ref f)) (S : FnScope N ps scope)
    (bnd : ∀ (kV doc pm : Value) (an : Option Addr) (cdv ct : Value) (us : List Value), us.length = ps.length → bindArgs (PySem.W.fnOf x x params body scope .none kV doc pm an cdv ct) ⟨us, []⟩ = pure (ps.zip us))
    (hbody : ∀ (cdv : Value) (A : Around) (outer : List Env) (s : Shared) (H : Hp) (E : XK), Room k (A.deeper (envOfC x scope s.heap.objs.size f cdv)) → Takes (cxOf (L2.CX P w) P w K mg base N x scope f cdv A outer s H E) (fun c d _ H => E c d H) →
      PassesOwn (model P w) (A.deeper (envOfC x scope s.heap.objs.size f cdv)) (envOfC x scope s.heap.objs.size f cdv) (cxOf (L2.CX P w) P w K mg base N x scope f cdv A outer s H E).xe →
      MSs (cxOf (L2.CX P w) P w K mg base N x scope f cdv A outer s H E) ca (fun c d _ H => E c d H) body m) : FnM P w K mg base ca x (k + 1) ps (fnM N.length m) := by
  refine ⟨f, fd, hm, F.kp, F.bindsN bnd, F.ok S (fun vs H Q E h => h.1) fun cdv A outer s H vs Q E hr hsp => ?_⟩
  have B := hbody cdv A outer s H E hr (takes_of rfl rfl rfl rfl) (passes_of rfl)
  refine ⟨_, B.ps, ?_⟩
  obtain ⟨hl, P1, ds, sp, r, q⟩ := hsp
  refine ⟨H, P1, P1, startR N.length ds, er_start sp r, ?_⟩
  unfold fnM at q
  cases z : m (startR N.length ds) with
  | rt d => rw [z] at q; exact fun P2 H2 x e2 rx => q P2 H2 x e2 rx
  | nx ρ => rw [z] at q; exact fun P2 H2 σ s2 er => q P2 H2 .non er.bs .non
  | er c ρ => rw [z] at q; exact fun P2 H2 σ s2 er => q P2 H2 er.bs
  | bk ρ => rw [z] at q; exact q.elim
  | ct ρ => rw [z] at q; exact q.elim
  | stk => rw [z] at q; exact q.elim
end
end PX
/-! The pure layer, part 7: further words. -/
namespace PX
open PySem PySem.Spec PyProof.Rows L2
def mLenL (ml : Rho → Res (List D)) : Rho → Res D := fun ρ => (ml ρ).bind fun l => .ok (.int l.length)
def mTupL (ml : Rho → Res (List D)) : Rho → Res D := fun ρ => (ml ρ).bind fun l => .ok (.tuple l)
def mTruL (m : Rho → Res (List D)) : Rho → Res Bool := fun ρ => (m ρ).bind fun l => .ok (!l.isEmpty)
def mInL (ma : Rho → Res D) (mb : Rho → Res (List D)) : Rho → Res Bool := fun ρ => (ma ρ).bind fun d => (mb ρ).bind fun es => if inOkL d es = true then .ok (es.any fun z => PyData.eqv z d) else .stk
def dNeg : D → Option D
  | .int i => some (.int (-i))
  | _ => none
/-- of truths alone, of ints: int(x) -/
def dIntC : D → Option D
  | .int i => some (.int i)
  | .bool b => some (.int (if b then 1 else 0))
  | _ => none
section
variable {X : Cx} {ca : EC → Addr} {W : WX} {pos : Pos} {e : Expr} {es : List Expr} {me : Rho → Res D} {ms ml : Rho → Res (List D)} {x : Str} {p : Pos}
theorem me_neg (ha : ME X ca W e me) : ME X ca W (.UnaryOp .USub e pos) (mUn dNeg me) := by
  refine ⟨(pe_un un_neg ha.pe).imp fun σ H Q ⟨H0, P0, P, ρ, er, h⟩ => tG_bind er h fun P1 H1 x d e1 rx h1 => ?_⟩
  cases rx with
  | int i => exact ⟨i, rfl, h1 P1 H1 _ (Ex.refl e1.ph) (.int _)⟩
  | _ => exact h1.elim
theorem me_int1 (hm : X.mg "int" = none) (ha : ME X ca W e me) (hg : Gl X "int" := by rfl) (he : starEach [e] X.env = (false, eval e X.env) :: starEach [] X.env := by rfl) (hpl : (backTo pos (starEach [] X.env)).any (·.1) = false := by rfl) :
    ME X ca W (.Call (.Name "int" p) [e] [] pos) (mUn dIntC me) := by
  refine ⟨(pe_callTy call_int1 hg hm (by decide +kernel) (pa_cons ha.pe pa_nil he) (by decide) (by decide) he hpl).imp fun σ H Q ⟨H0, P0, P, ρ, er, h⟩ => tG_bind er h fun P1 H1 x d e1 rx h1 => ?_⟩
  cases rx with
  | int i => exact .inl ⟨i, rfl, h1 P1 H1 _ (Ex.refl e1.ph) (.int _)⟩
  | bl b => exact .inr ⟨b, rfl, h1 P1 H1 _ (Ex.refl e1.ph) (.int _)⟩
  | _ => exact h1.elim
end
end PX
namespace PX
open PySem PySem.Spec PyProof.Rows L2
/-! ### the law's def, the end -/
def scr (ns : List Int) : D := .dict (ns.map fun n => (.int n, .none))
section
variable {P : Program} {w : World} {K : PySem.W.Frag} {mg : Str → Option Value} {base : Heap} {ca : EC → Addr}
/-- fn_ok, of the def itself -/
theorem fn_okF {x : Str} {params : Arguments} {body : List Stmt} {scope : Scope} {f : Addr} {fd : FuncData} {N ps : List Str} {k : Nat} {m : Rho → Out} (F : FunD K x x params body scope [] [] f fd) (hm : mg x = some (.ref f)) (S : FnScope N ps scope)
    (bnd : ∀ (kV doc pm : Value) (an : Option Addr) (cdv ct : Value) (us : List Value), us.length = ps.length → bindArgs (PySem.W.fnOf x x params body scope .none kV doc pm an cdv ct) ⟨us, []⟩ = pure (ps.zip us))
    (hbody : ∀ (cdv : Value) (A : Around) (outer : List Env) (s : Shared) (H : Hp) (E : XK), Room k (A.deeper (envOfC x scope s.heap.objs.size f cdv)) → Takes (cxOf (L2.CX P w) P w K mg base N x scope f cdv A outer s H E) (fun c d _ H => E c d H) →
      PassesOwn (model P w) (A.deeper (envOfC x scope s.heap.objs.size f cdv)) (envOfC x scope s.heap.objs.size f cdv) (cxOf (L2.CX P w) P w K mg base N x scope f cdv A outer s H E).xe →
      MSs (cxOf (L2.CX P w) P w K mg base N x scope f cdv A outer s H E) ca (fun c d _ H => E c d H) body m) : FnOk P w K mg base (L2.CX P w) (k + 1) f fd ps (spM K ca ps.length (fnM N.length m)) := by
  refine F.ok S (fun vs H Q E h => h.1) fun cdv A outer s H vs Q E hr hsp => ?_
  have B := hbody cdv A outer s H E hr (takes_of rfl rfl rfl rfl) (passes_of rfl)
  refine ⟨_, B.ps, ?_⟩
  obtain ⟨hl, P1, ds, sp, r, q⟩ := hsp
  refine ⟨H, P1, P1, startR N.length ds, er_start sp r, ?_⟩
  unfold fnM at q
  cases z : m (startR N.length ds) with
  | rt d => rw [z] at q; exact fun P2 H2 x e2 rx => q P2 H2 x e2 rx
  | nx ρ => rw [z] at q; exact fun P2 H2 σ s2 er => q P2 H2 .non er.bs .non
  | er c ρ => rw [z] at q; exact fun P2 H2 σ s2 er => q P2 H2 er.bs
  | bk ρ => rw [z] at q; exact q.elim
  | ct ρ => rw [z] at q; exact q.elim
  | stk => rw [z] at q; exact q.elim
/-- nothing leaves -/
theorem fn_to0 {k : Nat} {f : Addr} {fd : FuncData} {ps : List Str} {sp : Sp} (F : FnOk P w K mg base (L2.CX P w) k f fd ps sp) : FnOk P w K mg base CX0 k f fd ps (fun vs H Q _ => sp vs H Q fun _ _ _ => False) := by
  refine ⟨fun vs H Q E h => F.len _ _ _ _ h, fun A outer s H args us vs Q E hr he hb hv h => codeAny_mono (F.run A outer s H args us vs Q (fun _ _ _ => False) hr he hb hv h) fun r s' q => ?_⟩
  cases r with
  | ok fl => cases fl <;> exact q
  | error e =>
    obtain ⟨_, _, _, _, _, _, _, _, _, _, _, _, z⟩ := q
    exact z.elim
/-- the promise that the end asks, by the mirror -/
theorem law_sp {g : List D → Res D} {H : Hp} {a : Addr} {ns : List Int} (h : g [scr ns] = .ok (.bool true)) (hS : SqL K H a (ns.map V.int)) : spM K ca 1 g [.ref a] H (fun v _ => v = .bl true) (fun _ _ _ => False) := by
  refine ⟨rfl, H, [scr ns], Same.refl _, .cons (.scr hS) .nil, ?_⟩
  rw [h]
  intro P' H' x _ rx
  cases rx
  rfl
end
end PX
/-! The plain layer, part 8: dicts of one's own, keys texts. -/
namespace PX
open PySem PySem.Spec PyProof.Rows L2
def valD (kvs : List (Str × D)) (k : Str) : Option D := (kvs.find? fun kv => decide (kv.1 = k)).map (·.2)
def putD (kvs : List (Str × D)) (k : Str) (v : D) : List (Str × D) :=
  if (kvs.any fun kv => decide (kv.1 = k)) = true then kvs.map (fun kv => if kv.1 = k then (kv.1, v) else kv) else kvs ++ [(k, v)]
section
variable {K : PySem.W.Frag} {P : Hp}
theorem KVs.len : ∀ {ws : List (Key × V)} {kvs : List (Str × D)}, KVs K P ws kvs → ws.length = kvs.length
  | _, _, .nil => rfl
  | _, _, .cons _ r => by rw [List.length_cons, List.length_cons, r.len]
theorem KVs.val {k : Str} : ∀ {ws : List (Key × V)} {kvs : List (Str × D)}, KVs K P ws kvs → (valV ws (.inr k) = none ∧ valD kvs k = none) ∨ ∃ v d, valV ws (.inr k) = some v ∧ valD kvs k = some d ∧ Dr K P v d
  | _, _, .nil => .inl ⟨rfl, rfl⟩
  | _, _, .cons (k := j) (v := v) (d := d) (kvs := kvs) h r => by
    by_cases e : j = k
    · subst e
      exact .inr ⟨v, d, valV_pos rfl, by simp [valD], h⟩
    · rw [valV_neg (fun z => e (Sum.inr.inj z))]
      have : valD ((j, d) :: kvs) k = valD kvs k := by simp [valD, e]
      rw [this]
      exact r.val
theorem KVs.any {k : Str} : ∀ {ws : List (Key × V)} {kvs : List (Str × D)}, KVs K P ws kvs → (ws.any fun kv => decide (kv.1 = .inr k)) = kvs.any fun kv => decide (kv.1 = k)
  | _, _, .nil => rfl
  | _, _, .cons (k := j) h r => by
    rw [List.any_cons, List.any_cons, r.any]
    congr 1
    rw [decide_eq_decide]
    exact ⟨fun z => Sum.inr.inj z, fun z => congrArg Sum.inr z⟩
theorem KVs.app : ∀ {ws ws' : List (Key × V)} {kvs kvs' : List (Str × D)}, KVs K P ws kvs → KVs K P ws' kvs' → KVs K P (ws ++ ws') (kvs ++ kvs')
  | _, _, _, _, .nil, h => h
  | _, _, _, _, .cons h r, h' => .cons h (r.app h')
theorem KVs.repl {k : Str} {y : V} {z : D} (hy : Dr K P y z) : ∀ {ws : List (Key × V)} {kvs : List (Str × D)}, KVs K P ws kvs → KVs K P (ws.map fun kv => if kv.1 = .inr k then (kv.1, y) else kv) (kvs.map fun kv => if kv.1 = k then (kv.1, z) else kv)
  | _, _, .nil => .nil
  | _, _, .cons (k := j) h r => by
    rw [List.map_cons, List.map_cons]
    by_cases e : j = k
    · rw [if_pos (congrArg Sum.inr e), if_pos e]
      exact .cons hy (r.repl hy)
    · rw [if_neg (fun z => e (Sum.inr.inj z)), if_neg e]
      exact .cons h (r.repl hy)
theorem KVs.put {k : Str} {y : V} {z : D} (hy : Dr K P y z) {ws : List (Key × V)} {kvs : List (Str × D)} (h : KVs K P ws kvs) : KVs K P (putK ws (.inr k) y) (putD kvs k z) := by
  unfold putK putD
  rw [h.any]
  split
  · exact h.repl hy
  · exact h.app (.cons hy .nil)
end
/-- a slot's dict -/
def mDct (i : Nat) (ρ : Rho) : Res (List (Str × D)) := match ρ[i]? with
  | some (some (.dct kvs)) => .ok kvs
  | _ => .stk
/-- {} -/
def mSetE (i : Nat) : Rho → Out := fun ρ => .nx (ρ.set i (some (.dct [])))
/-- d[k] -/
def mDGet (i : Nat) (m : Rho → Res D) : Rho → Res D := fun ρ => (mDct i ρ).bind fun kvs => (m ρ).bind fun d => (Res.of (dStr d)).bind fun s => .of (valD kvs s)
/-- k in d -/
def mDIn (i : Nat) (m : Rho → Res D) : Rho → Res Bool := fun ρ => (m ρ).bind fun d => (mDct i ρ).bind fun kvs => (Res.of (dStr d)).bind fun s => .ok (valD kvs s).isSome
/-- d[k] = v, v first -/
def mDPut (i : Nat) (mk mv : Rho → Res D) : Rho → Out := fun ρ => obind (mv ρ) ρ fun v => obind (mDct i ρ) ρ fun kvs => obind (mk ρ) ρ fun d => obind (Res.of (dStr d)) ρ fun s => if kvs.length < sizeLine then .nx (ρ.set i (some (.dct (putD kvs s v)))) else .stk
/-- d[k] += v -/
def mDAug (f : D → D → Option D) (i : Nat) (mk mv : Rho → Res D) : Rho → Out := fun ρ => obind (mDct i ρ) ρ fun kvs => obind (mk ρ) ρ fun d => obind (Res.of (dStr d)) ρ fun s => obind (Res.of (valD kvs s)) ρ fun x => obind (mv ρ) ρ fun y => obind (Res.of (f x y)) ρ fun z => if kvs.length < sizeLine then .nx (ρ.set i (some (.dct (putD kvs s z)))) else .stk
theorem Room.units1 {k : Nat} {A : Around} (r : Room k A) : A.units + 1 < cLine := by have := r.units; omega
theorem tG_bindO {α : Type} {K : PySem.W.Frag} {ca : EC → Addr} {W : WX} {H0 P0 P : Hp} {ρ : Rho} {o : Option α} {k : α → Out} {D : Ends} (h : SatS K ca W H0 P0 P (obind (Res.of o) ρ k) D) : ∃ a, o = some a ∧ SatS K ca W H0 P0 P (k a) D := by
  cases o with
  | none => exact h.elim
  | some a => exact ⟨a, rfl, h⟩
theorem dStr_some {d : D} {s : Str} (h : dStr d = some s) : d = .str s := by
  cases d <;> first | (cases h; rfl) | cases h
section
variable {X : Cx} {ca : EC → Addr} {W : WX} {pos : Pos} {e v : Expr} {me mv : Rho → Res D}
theorem dct_slot {K : PySem.W.Frag} {H0 P0 P H : Hp} {σ : L2.St} {ρ : Rho} {i : Nat} {kvs : List (Str × D)} (er : ER K H0 P0 P H σ ρ) (h : mDct i ρ = .ok kvs) : ρ[i]? = some (some (.dct kvs)) ∧ ∃ a ws, σ[i]? = some (some (.ref a)) ∧ H a = some (.dK ws) ∧ P a = none ∧ H0 a = none ∧ KVs K P ws kvs := by
  unfold mDct at h
  cases e : ρ[i]? with
  | none => rw [e] at h; cases h
  | some o =>
    rw [e] at h
    cases o with
    | none => cases h
    | some s =>
      cases s with
      | val d => cases h
      | own l => cases h
      | dct l =>
        cases h
        obtain ⟨x, hx, a, ws, rfl, r⟩ := er.slot i _ e
        exact ⟨rfl, a, ws, hx, r⟩
theorem ms_setE {i : Nat} {x : Str} {p dp : Pos} (hN : X.N.Nodup) (hi : X.N[i]? = some x) (hx : Loc X.env.scope x) (hf : X.fn x = true ∨ X.env.scope.names.lookup x = some .local := by first | exact .inl rfl | exact .inr rfl | assumption)
    (hs : swapsWithSole [.Name x p] (.Dict [] [] dp) pos.line X.env = pure false := by rfl) (hw : swappedStores [.Name x p] (.Dict [] [] dp) X.env = pure none := by rfl)
    (h1 : (assignEach [.Name x p] X.env).map (·.2) = [assign (.Name x p) X.env] := by rfl) : MS X ca W (.Assign [.Name x p] (.Dict [] [] dp) pos) (mSetE i) :=
  ⟨(ps_asg pe_dnewK (pg_name hN hi hx hf) hs hw h1).imp fun D σ H ⟨H0, P0, P, ρ, er, h⟩ p hp => h P _ _ (Same.refl _) (er.setOwn hp rfl ⟨p, [], rfl, upd_same, Same.free er.sub hp, Same.free er.bs.hh hp, .nil⟩)⟩
theorem me_dget {i k : Nat} {x : Str} {p : Pos} (hr : Room k X.A) (he : ME X ca W e me) (hN : X.N[i]? = some x := by rfl) (hv : Vis X.env.scope x := by first | exact Or.inl rfl | exact Or.inr (Or.inl rfl) | exact Or.inr (Or.inr rfl)) (hd : (x == ("__debug__" : Str)) = false := by decide) (hcd : (x == ("__classdict__" : Str)) = false := by decide)
    (hs : NoSl e := by intro _ _; rfl) : ME X ca W (.Subscript (.Name x p) e pos) (mDGet i me) := by
  refine ⟨(pe_dget (Room.units1 hr) (pe_var hN hv hd hcd) he.pe hs).imp fun σ H Q ⟨H0, P0, P, ρ, er, h⟩ => ?_⟩
  unfold mDGet at h
  cases z : mDct i ρ with
  | ok kvs =>
    rw [z] at h
    obtain ⟨hρ, a, ws, hx, h1, h2, h3, h4⟩ := dct_slot er z
    refine ⟨_, hx, tG_bind er h fun P1 H1 y d e1 ry h5 => ?_⟩
    cases q : dStr d with
    | none => rw [q] at h5; exact h5.elim
    | some s =>
      rw [q] at h5
      rw [dStr_some q] at ry
      cases ry
      have h5 : Sat (rD X.K) ca W σ P1 H1 (Res.of (valD kvs s)) Q := h5
      have h4' := h4.mono e1.pp
      rcases h4'.val (k := s) with ⟨w1, w2⟩ | ⟨v, d, w1, w2, w3⟩
      · rw [w2] at h5; exact h5.elim
      · rw [w2] at h5
        refine ⟨a, v, rfl, ?_, h5 P1 H1 _ (Ex.refl e1.ph) w3⟩
        have := DGet.k (k := .inr s) (e1.hh _ _ h1)
        rw [w1] at this
        exact this
  | er c => unfold mDct at z; split at z <;> cases z
  | stk => rw [z] at h; exact h.elim
theorem mt_din {i k : Nat} {x : Str} {p : Pos} (hr : Room k X.A) (he : ME X ca W e me) (hN : X.N[i]? = some x := by rfl) (hv : Vis X.env.scope x := by first | exact Or.inl rfl | exact Or.inr (Or.inl rfl) | exact Or.inr (Or.inr rfl)) (hd : (x == ("__debug__" : Str)) = false := by decide) (hcd : (x == ("__classdict__" : Str)) = false := by decide)
    (hm : behindInMarks .In (.Name x p) = false := by rfl) : MT X ca W (.Compare e [.In] [.Name x p] pos) (mDIn i me) := by
  refine ⟨(pt_cmp (pc_din (Room.units1 hr) he.pe (pe_var hN hv hd hcd)) hm).imp fun σ H Q ⟨H0, P0, P, ρ, er, h⟩ => tG_bind er h fun P1 H1 y d e1 ry h5 => ?_⟩
  cases z : mDct i ρ with
  | ok kvs =>
    rw [z] at h5
    obtain ⟨hρ, a, ws, hx, h1, h2, h3, h4⟩ := dct_slot (er.step e1) z
    refine ⟨_, hx, ?_⟩
    cases q : dStr d with
    | none => rw [q] at h5; exact h5.elim
    | some s =>
      rw [q] at h5
      rw [dStr_some q] at ry
      cases ry
      refine ⟨a, _, rfl, DGet.k (k := .inr s) h1, _, rfl, ?_⟩
      have h5 : Sat rB ca W σ P1 H1 (.ok (valD kvs s).isSome) Q := h5
      rcases h4.val (k := s) with ⟨w1, w2⟩ | ⟨v, d, w1, w2, w3⟩
      · rw [w2] at h5; rw [w1]; exact h5 P1 H1 _ (Ex.refl e1.ph) rfl
      · rw [w2] at h5; rw [w1]; exact h5 P1 H1 _ (Ex.refl e1.ph) rfl
  | er c => unfold mDct at z; split at z <;> cases z
  | stk => rw [z] at h5; exact h5.elim
theorem ms_dput {i k : Nat} {x : Str} {p tp : Pos} (hr : Room k X.A) (he : ME X ca W e me) (hv' : ME X ca W v mv) (hN : X.N[i]? = some x := by rfl) (hv : Vis X.env.scope x := by first | exact Or.inl rfl | exact Or.inr (Or.inl rfl) | exact Or.inr (Or.inr rfl)) (hd : (x == ("__debug__" : Str)) = false := by decide) (hcd : (x == ("__classdict__" : Str)) = false := by decide)
    (hs : swapsWith v (some (.Subscript (.Name x p) e tp)) pos.line X.env = pure false := by rfl) : MS X ca W (.Assign [.Subscript (.Name x p) e tp] v pos) (mDPut i me mv) := by
  refine ⟨(ps_dput (Room.units1 hr) (pe_var hN hv hd hcd) he.pe hv'.pe hs).imp fun D σ H ⟨H0, P0, P, ρ, er, h⟩ => tG_bindS er h fun P1 H1 y d e1 ry h5 => ?_⟩
  have er1 := er.step e1
  cases z : mDct i ρ with
  | ok kvs =>
    rw [z] at h5
    obtain ⟨hρ, a, ws, hx, h1, h2, h3, h4⟩ := dct_slot er1 z
    refine ⟨_, hx, tG_bindS er1 h5 fun P2 H2 y2 d2 e2 ry2 h6 => ?_⟩
    obtain ⟨s, q, h6⟩ := tG_bindO h6
    rw [dStr_some q] at ry2
    cases ry2
    by_cases hl : kvs.length < sizeLine
    · rw [if_pos hl] at h6
      have h4' := h4.mono e2.pp
      have h1' := e2.hh _ _ h1
      have h2' := e2.fr a (by rw [h1]; exact fun z => nomatch z) h2
      refine ⟨a, _, rfl, DPut.k (k := .inr s) h1' (by rw [h4.len]; exact hl), h6 P2 _ _ (Same.refl _) ((er1.step e2).write hρ rfl hx h2' h3 rfl ?_)⟩
      exact ⟨a, _, rfl, upd_same, h2', h3, h4'.put (Dr.mono ry e2.pp)⟩
    · rw [if_neg hl] at h6; exact h6.elim
  | er c => unfold mDct at z; split at z <;> cases z
  | stk => rw [z] at h5; exact h5.elim
end
end PX
/-! The plain layer, part 9: further words. -/
namespace PX
open PySem PySem.Spec PyProof.Rows L2
theorem tx0 (s : Str) : s = ⟨s.cps.toList.toArray⟩ := by simp
/-! ### a text, every k-th sign -/
def stepT (z : Str) (k : Int) : Str := if (k == 1 && (Builtin.Str.strSliceIndices none none k z.length).length == z.length) = true then z else ⟨((Builtin.Str.strSliceIndices none none k z.length).filterMap (z.cps[·]?)).toArray⟩
def tStepT (te ts : TE) : TE := fun σ H Q => te σ H fun x H1 => ts σ H1 fun y H2 => ∃ z k, x = .str z ∧ y = .int k ∧ 0 < k ∧ (stepT z k).length ≤ sizeLine ∧ Q (.str (stepT z k)) H2
section
variable {X : Cx} {ca : EC → Addr} {W : WX} {pos : Pos} {e st : Expr} {me ms : Rho → Res D}
theorem pe_stepT {te ts : TE} {p3 : Pos} (he : PE X e te) (hs : PE X st ts) (hl : (∀ (o iv : Value), subscripted (.Slice none none (some st) p3) false o iv = operate [o, iv] (getItem o iv)) := by intro _ _; rfl) : PE X (.Subscript e (.Slice none none (some st) p3) pos) (tStepT te ts) := by
  refine ⟨fun pins s σ H Q I h => ?_⟩
  refine Subscript_ (thn (he.run pins s σ H _ I h) fun v s1 ⟨x, H1, I1, r1, q1⟩ => ?_)
  refine wpAny_Slice (thn (po_none.run pins s1 σ H1 (fun o H2 => o = none ∧ H2 = H1) I1 ⟨rfl, rfl⟩) fun vl s2 ⟨l, H2, I2, pl, el, e2⟩ => ?_)
  subst el e2
  refine thn (po_none.run pins s2 σ H2 (fun o H3 => o = none ∧ H3 = H2) I2 ⟨rfl, rfl⟩) fun vu s3 ⟨u, H3, I3, pu, eu, e3⟩ => ?_
  subst eu e3
  rw [evalPart_some]
  refine thn (hs.run pins s3 σ H3 _ I3 q1) fun vs s4 ⟨y, H4, I4, ry, z, k, ex, ey, hk, hz, q⟩ => ?_
  subst ex ey
  obtain ⟨t, rfl⟩ := r1
  obtain ⟨t', rfl⟩ := ry
  obtain ⟨l, rfl, hl1⟩ := IsPart.raw pl
  obtain ⟨u, rfl, hu1⟩ := IsPart.raw pu
  have I5 : Inv X pins σ H4 { s4 with heap := s4.heap.push { cls := .type "slice", data := .fields #[partValue l, partValue u, .int k t'] } } := I4.kept (t' := s4.toks) fun b ob q => Heap.get?_push_of_some _ q
  show wpAny (model X.prog X.w) X.A (subscriptTail e (.Slice none none (some st) p3) (.str z t) (.ref s4.heap.objs.size)) (EP X pins σ Q) X.xe { s4 with heap := s4.heap.push { cls := .type "slice", data := .fields #[partValue l, partValue u, .int k t'] } }
  refine tail_any (ops := [.str z t, .ref s4.heap.objs.size]) (typeIs_str _ _ _) (PySem.F.slot_str_getitem.lookup) ?_ (hl _ _)
  refine wpAny_getItem_str_slice (l := l) (u := u) (st := some (k, t')) ⟨_, Heap.get?_push_size _ rfl, rfl, rfl⟩ (by show (k == 0) = false; rw [beq_eq_false_iff_ne]; omega) ?_
  have e1 : l.map (·.1) = none := hl1
  have e2 : u.map (·.1) = none := hu1
  show Made.post (if (k == 1 && (Builtin.Str.strSliceIndices (l.map (·.1)) (u.map (·.1)) k z.length).length == z.length) = true then Made.val (.str z t)
    else Made.str ⟨((Builtin.Str.strSliceIndices (l.map (·.1)) (u.map (·.1)) k z.length).filterMap (z.cps[·]?)).toArray⟩) (EP X pins σ Q) _
  rw [e1, e2]
  unfold stepT at q hz
  by_cases c : (k == 1 && (Builtin.Str.strSliceIndices none none k z.length).length == z.length) = true
  · rw [if_pos c] at q ⊢
    exact ⟨.str z, _, I5, ⟨t, rfl⟩, q⟩
  · rw [if_neg c] at q hz ⊢
    exact ⟨hz, .str _, _, I5.tok _, ⟨_, rfl⟩, q⟩
def dStep : D → D → Option D
  | .str z, .int k => if 0 < k ∧ (stepT z k).length ≤ sizeLine then some (.str (stepT z k)) else none
  | _, _ => none
theorem me_stepT {p3 : Pos} (he : ME X ca W e me) (hs : ME X ca W st ms) (hl : (∀ (o iv : Value), subscripted (.Slice none none (some st) p3) false o iv = operate [o, iv] (getItem o iv)) := by intro _ _; rfl) : ME X ca W (.Subscript e (.Slice none none (some st) p3) pos) (mBin dStep me ms) := by
  refine ⟨(pe_stepT he.pe hs.pe hl).imp fun σ H Q ⟨H0, P0, P, ρ, er, h⟩ => tG_bind er h fun P1 H1 x d e1 rx h1 => tG_bind (er.step e1) h1 fun P2 H2 y e e2 ry h2 => ?_⟩
  cases rx with
  | str z =>
    cases ry with
    | int k =>
      have h2 : Sat (rD X.K) ca W σ P2 H2 (Res.of (if 0 < k ∧ (stepT z k).length ≤ sizeLine then some (PyData.str (stepT z k)) else none)) Q := h2
      by_cases h : 0 < k ∧ (stepT z k).length ≤ sizeLine
      · rw [if_pos h] at h2
        exact ⟨z, k, rfl, rfl, h.1, h.2, h2 P2 H2 _ (Ex.refl e2.ph) (.str _)⟩
      · rw [if_neg h] at h2; exact h2.elim
    | _ => exact h2.elim
  | _ => cases e <;> exact h2.elim
/-! ### max, min of two whole numbers -/
def gMax2 : List D → Option D
  | [.int i, .int j] => some (.int (if j > i then j else i))
  | _ => none
theorem max2_s {K : PySem.W.Frag} : CaS K (fun xs H Q => ∃ i j, xs = [.int i, .int j] ∧ Q (.int (if j > i then j else i)) H) gMax2 := by
  intro P H xs ds z Q s a c q
  cases a with
  | nil => cases c
  | cons a r =>
    cases r with
    | nil => cases a <;> cases c
    | cons b r =>
      cases r with
      | cons _ _ => cases a <;> cases b <;> cases c
      | nil =>
        cases a with
        | int i =>
          cases b with
          | int j =>
            cases c
            exact ⟨i, j, rfl, q P H _ (Ex.refl s) (.int _)⟩
          | _ => cases c
        | _ => cases b <;> cases c
def gMin2 : List D → Option D
  | [.int i, .int j] => some (.int (if j < i then j else i))
  | _ => none
theorem min2_s {K : PySem.W.Frag} : CaS K (fun xs H Q => ∃ i j, xs = [.int i, .int j] ∧ Q (.int (if j < i then j else i)) H) gMin2 := by
  intro P H xs ds z Q s a c q
  cases a with
  | nil => cases c
  | cons a r =>
    cases r with
    | nil => cases a <;> cases c
    | cons b r =>
      cases r with
      | cons _ _ => cases a <;> cases b <;> cases c
      | nil =>
        cases a with
        | int i =>
          cases b with
          | int j =>
            cases c
            exact ⟨i, j, rfl, q P H _ (Ex.refl s) (.int _)⟩
          | _ => cases c
        | _ => cases b <;> cases c
/-! ### xs[::-1] -/
def mRevL (ml : Rho → Res (List D)) : Rho → Res (List D) := fun ρ => (ml ρ).bind fun l => .ok l.reverse
theorem mf_revL {ml : Rho → Res (List D)} {k : Nat} {p1 p2 p3 : Pos} (ha : MB X ca W e ml) : MF X ca W (.Subscript e (.Slice none none (some (.UnaryOp .USub (.Constant (.int 1) k p1) p2)) p3) pos) (mRevL ml) := by
  refine ⟨(pe_revL ha.pe).imp fun σ H Q ⟨H0, P0, P, ρ, er, h⟩ => tF_bind rfl er h fun P1 H1 x d e1 rx h1 => ?_⟩
  obtain ⟨q, vs, rfl, hr, rr⟩ := rx
  exact ⟨q, vs, rfl, .inl hr, fun p hp => h1 P1 H1 p _ (Ex.refl e1.ph) hp (dps_reverse rr)⟩
/-! ### enumerate -/
def enumD (l : List D) : List D := l.mapIdx fun i d => .tuple [.int (i : Nat), d]
theorem it_enum {K : PySem.W.Frag} {P : Hp} {a : Addr} {vs : List V} {l : List D} (h : SqL K P a vs) (r : DrAll K P vs l) : ItOk K P (Ite K a) (enumD l) := by
  have hl : (enumD l).length = vs.length := by rw [dps_length r]; simp [enumD]
  refine ⟨_, _, hl ▸ walk_enum (K := K) (a := a) (xs := vs), fun P1 H1 s1 s2 => (s1.trans s2).seq h, fun i P1 H1 x H2 hi s1 s2 y => ?_⟩
  obtain ⟨T, u, v, rfl, hT, rfl, hu, hv⟩ := y
  cases hu
  obtain ⟨d, h1, h2⟩ := dps_getV r hv
  have ex := Ex.new (o := .tup [.int (i : Nat), v]) s2 hT
  refine ⟨_, .tuple [.int (i : Nat), d], ex, by simp [enumD, h1], .tup (SqT.of upd_same) (.cons (.int _) (.cons (Dr.mono (h2.mono s1) ex.pp) .nil))⟩
def mEnum (m : Rho → Res D) : Rho → Res (List D) := fun ρ => (m ρ).bind fun x => (Res.of (dLst x)).bind fun l => .ok (enumD l)
theorem dLst_some {d : D} {l : List D} (h : dLst d = some l) : d = .list l := by
  cases d <;> first | (cases h; rfl) | cases h
theorem mi_enum {elts : List Expr} {kk : Nat} {tpos p : Pos} (hm : X.mg "enumerate" = none) (ha : ME X ca W e me) (hg : Gl X "enumerate" := by rfl) (hs : starEach [e] X.env = [(false, eval e X.env)] := by rfl) (he : starEach [e] X.env = (false, eval e X.env) :: starEach [] X.env := by rfl) :
    MI X ca W (.Tuple elts kk tpos) (.Call (.Name "enumerate" p) [e] [] pos) (mEnum me) := by
  refine ⟨PIimp (pi_enum hg hm (pa_cons ha.pe pa_nil he) hs) fun σ H R ⟨H0, P0, P, ρ, er, q⟩ => tI_bind er q fun P1 H1 x d e1 r q => ?_⟩
  cases z : dLst d with
  | none => rw [z] at q; exact q.elim
  | some l =>
    rw [z] at q
    rw [dLst_some z] at r
    cases r with
    | @lst a xs ds h1 h2 =>
      exact ⟨a, xs, rfl, .inl (rd_mono e1.ph h1), q P1 H1 _ (Ex.refl e1.ph) (it_enum (.inl h1) h2)⟩
/-! ### list.index -/
def gIndexL (l : List D) : List D → Option D
  | [d] => if inOk d l = true then (l.findIdx? fun z => PyData.eqv z d).map fun (j : Nat) => .int (j : Int) else none
  | _ => none
theorem lindex_s {K : PySem.W.Frag} : MlS K (rIndex K) gIndexL := by
  intro P H a vs l xs ds w Q s hr rr rx c q
  cases rx with
  | nil => cases c
  | @cons y _ d _ ry rest =>
    cases rest with
    | cons _ _ => cases c
    | nil =>
      have c : (if inOk d l = true then (l.findIdx? fun z => PyData.eqv z d).map fun (j : Nat) => PyData.int (j : Int) else none) = some w := c
      by_cases hk : inOk d l = true
      · rw [if_pos hk] at c
        cases hj : l.findIdx? (fun z => PyData.eqv z d) with
        | none => rw [hj] at c; cases c
        | some j =>
          rw [hj] at c
          cases c
          obtain ⟨hlt, h1, h2⟩ := List.findIdx?_eq_some_iff_getElem.mp hj
          obtain ⟨f1, f2⟩ := Bool.and_eq_true_iff.mp hk
          have fl : ∀ {z : D}, z ∈ l → flatD z = true := fun hz => List.all_eq_true.mp f2 _ hz
          obtain ⟨z, hz, rz⟩ := dps_get rr (List.getElem?_eq_getElem hlt)
          refine ⟨a, vs, y, j, z, rfl, rfl, .inl hr, flat_of ry f1, flats_of rr f2, hz, ?_, fun m z' hm hz' => ?_, q P H _ (Ex.refl s) (.int _)⟩
          · rw [eqV_of rz ry (fl (List.getElem_mem hlt)) f1]; exact h1
          · obtain ⟨d', hd', rd'⟩ := dps_getV rr hz'
            have hlt' : m < l.length := by omega
            rw [List.getElem?_eq_getElem hlt'] at hd'
            cases hd'
            rw [eqV_of rd' ry (fl (List.getElem_mem hlt')) f1]
            have := h2 m hm
            simpa using this
      · rw [if_neg hk] at c; cases c
theorem me_lindex {o : Expr} {es : List Expr} {ml msl : Rho → Res (List D)} {apos : Pos} (ho : MB X ca W o ml) (ha : MA X ca W (e :: es) msl)
    (hbase : attributeBase o "index" X.env (eval o X.env) = eval o X.env := by rfl)
    (hfew : ((backTo pos (starEach (e :: es) X.env)).all (fun x => !x.1) && (backToKw pos (keywordEach [] X.env)).all (fun x => x.1.isSome) && decide ((e :: es).length + ([] : List Keyword).length + (if ([] : List Keyword).isEmpty then 0 else 1) < 30)) = true := by rfl)
    (hline : (apos.endLine == pos.line) = true := by rfl) (he : starEach (e :: es) X.env = (false, eval e X.env) :: starEach es X.env := by rfl) (hplain : (backTo pos (starEach es X.env)).any (·.1) = false := by rfl) :
    ME X ca W (.Call (.Attribute o "index" apos) (e :: es) [] pos) (mLM gIndexL ml msl) := me_lm PySem.F.slot_list_index PySem.F.type_list_index mt_index lindex_s ho ha hbase hfew hline he hplain
/-! ### list + list, a fresh one -/
def mCatL (ma mb : Rho → Res (List D)) : Rho → Res (List D) := fun ρ => (ma ρ).bind fun l => (mb ρ).bind fun m => if l.length + m.length ≤ sizeLine then .ok (l ++ m) else .stk
theorem mf_cat {a b : Expr} {ma mb : Rho → Res (List D)} (ha : MB X ca W a ma) (hb : MB X ca W b mb) : MF X ca W (.BinOp a .Add b pos) (mCatL ma mb) := by
  refine ⟨(pe_op op_catR ha.pe hb.pe).imp fun σ H Q ⟨H0, P0, P, ρ, er, h⟩ => tF_bind rfl er h fun P1 H1 x d e1 rx h1 => tF_bind rfl (er.step e1) h1 fun P2 H2 y e e2 ry h2 => ?_⟩
  obtain ⟨p, vs, rfl, hr, rr⟩ := rx
  obtain ⟨q, us, rfl, hr', rr'⟩ := ry
  by_cases hl : d.length + e.length ≤ sizeLine
  · rw [if_pos hl] at h2
    exact ⟨p, q, vs, us, rfl, rfl, rd_mono e2.hh hr, hr', by rw [dps_length rr, dps_length rr']; exact hl, fun r hr => h2 P2 H2 r _ (Ex.refl e2.ph) hr (dps_append (rr.mono e2.pp) rr')⟩
  · rw [if_neg hl] at h2; exact h2.elim
/-! ### sorted(texts) -/
def leS (a b : Str) : Bool := !ltCps b.cps.toList a.cps.toList
def srt (zs : List Str) : List Str := zs.mergeSort leS
theorem leS_iff {a b : Str} : leS a b = true ↔ a.cps.toList ≤ b.cps.toList := by
  unfold leS
  rw [Bool.not_eq_true', ltCps_eq, decide_eq_false_iff_not, List.not_lt]
theorem rising_pairwise : ∀ (l : List Str) (p : Str), risingS p l = true → (p :: l).Pairwise fun a b => leS a b = true
  | [], p, _ => List.pairwise_singleton _ _
  | x :: r, p, h => by
    have h : (!ltCps x.cps.toList p.cps.toList && risingS x r) = true := h
    rw [Bool.and_eq_true] at h
    have ih := rising_pairwise r x h.2
    have h1 : leS p x = true := h.1
    refine List.pairwise_cons.mpr ⟨fun y hy => ?_, ih⟩
    rcases List.mem_cons.mp hy with rfl | hy
    · exact h1
    · have h2 := (List.pairwise_cons.mp ih).1 y hy
      rw [leS_iff] at h1 h2 ⊢
      exact List.le_trans h1 h2
theorem srt_unique {ys zs : List Str} (hp : ys.Perm zs) (hs : sortedS ys = true) : ys = srt zs := by
  have h1 : ys.Pairwise fun a b => leS a b = true := by
    cases ys with
    | nil => exact .nil
    | cons x r => exact rising_pairwise r x hs
  have h2 : (srt zs).Pairwise fun a b => leS a b = true := List.pairwise_mergeSort (fun a b c h h' => by rw [leS_iff] at *; exact List.le_trans h h') (fun a b => by rw [Bool.or_eq_true, leS_iff, leS_iff]; exact List.le_total _ _) zs
  refine List.Perm.eq_of_pairwise (fun a b _ _ h h' => ?_) h1 h2 (hp.trans (List.mergeSort_perm zs leS).symm)
  rw [leS_iff] at h h'
  have := List.le_antisymm h h'
  rw [tx0 a, tx0 b, this]
theorem cr_sortedA : CallR X (.builtin "sorted") (fun vs H Q => ∃ (a : Addr) (xs : List Str), vs = [V.ref a] ∧ SqL X.K H a (xs.map V.str) ∧ ∀ (p : Addr), H p = none → Q (.ref p) (upd H p (.lst ((srt xs).map V.str)))) := by
  intro pins s σ H vs us Q I r h
  obtain ⟨a, xs, rfl, hs, q⟩ := h
  obtain ⟨its, rv, hl, hz⟩ := I.list hs
  rw [Vals.ref1 r]
  have hlen0 := rv.length
  refine PyProof.Rows.sorted_strsAny hl.isList rv.strs (by rw [← hlen0]; exact hz) fun out ys h1 h2 h3 => ?_
  obtain ⟨ep, he'⟩ := PyProof.Rows.sortedAll_at s.heap its out
  rw [List.length_map] at hz
  have hlen : (ys.map V.str).length ≤ sizeLine := by rw [List.length_map, h2.length_eq]; exact hz
  refine ⟨.ref _, upd H (s.heap.objs.size + 1) (.lst (ys.map V.str)), I.laid (t' := s.toks) (fun _ _ => PyProof.Rows.sortedAll_old) (Nat.le_succ _) ⟨hlen, out.toList, ep, vals_of_strs h1, he'⟩, rfl, ?_⟩
  rw [srt_unique h2 h3]
  exact q _ (I.hok.fresh (Nat.le_succ _))
theorem drs_strs {K : PySem.W.Frag} {P : Hp} : ∀ zs : List Str, DrAll K P (zs.map V.str) (zs.map PyData.str)
  | [] => .nil
  | z :: r => .cons (.str z) (drs_strs r)
def mSort (ml : Rho → Res (List D)) : Rho → Res (List D) := fun ρ => (ml ρ).bind fun l => (Res.of (strsD l)).bind fun zs => .ok ((srt zs).map .str)
theorem mf_sorted {p : Pos} {ml : Rho → Res (List D)} (hm : X.mg "sorted" = none) (ha : MB X ca W e ml) (hg : Gl X "sorted" := by rfl) (he : starEach [e] X.env = (false, eval e X.env) :: starEach [] X.env := by rfl) (hpl : (backTo pos (starEach [] X.env)).any (·.1) = false := by rfl) :
    MF X ca W (.Call (.Name "sorted" p) [e] [] pos) (mSort ml) := by
  refine ⟨(pe_callB cr_sortedA hg hm boot_sorted (pa_cons ha.pe pa_nil he) (by decide) (by decide) he hpl).imp fun σ H Q ⟨H0, P0, P, ρ, er, h⟩ => tF_bind rfl er h fun P1 H1 x d e1 rx h1 => ?_⟩
  obtain ⟨q, vs, rfl, hr, rr⟩ := rx
  cases z : strsD d with
  | none => rw [z] at h1; exact h1.elim
  | some zs =>
    rw [z] at h1
    obtain ⟨r1, r2⟩ := strs_of rr z
    subst r1
    exact ⟨q, zs, rfl, .inl hr, fun p hp => h1 P1 H1 p _ (Ex.refl e1.ph) hp (drs_strs _)⟩
/-! ### list(range(..)) -/
theorem drs_rg {K : PySem.W.Frag} {P : Hp} (a b : Int) : DrAll K P (rgV a b) (rangeD a (b - a).toNat) := by
  unfold rgV rangeD
  generalize List.range (b - a).toNat = l
  induction l with
  | nil => exact .nil
  | cons i r ih => exact .cons (.int _) ih
def gL1 : D → Option (List D)
  | .int j => if j.toNat ≤ 16777216 ∧ small j = true then some (rangeD 0 j.toNat) else none
  | _ => none
def mLRng1 (a : Rho → Res D) : Rho → Res (List D) := fun ρ => (a ρ).bind fun d => .of (gL1 d)
theorem mf_listR1 {p p2 pos2 : Pos} (hc : X.calm = true) (hm : X.mg "list" = none) (hm2 : X.mg "range" = none) (ha : ME X ca W e me) (hg : Gl X "list" := by rfl) (hg2 : Gl X "range" := by rfl) (na : starEach [e] X.env = (false, eval e X.env) :: starEach [] X.env := by rfl)
    (na2 : starEach [.Call (.Name "range" p2) [e] [] pos2] X.env = (false, eval (.Call (.Name "range" p2) [e] [] pos2) X.env) :: starEach [] X.env := by rfl) : MF X ca W (.Call (.Name "list" p) [.Call (.Name "range" p2) [e] [] pos2] [] pos) (mLRng1 me) := by
  refine ⟨(pe_listRg hc hg hm (prg_1 hg2 hm2 ha.pe na) na2).imp fun σ H Q ⟨H0, P0, P, ρ, er, h⟩ => tF_bind rfl er h fun P1 H1 x d e1 rx h1 => ?_⟩
  cases rx with
  | int j =>
    by_cases hj : j.toNat ≤ 16777216 ∧ small j = true
    · have h1 : (fun P H r => match r with
        | Res.ok l => ∀ P' H' a vs, Ex P H P' H' → H' a = none → DrAll X.K P' vs l → Q (.ref a) (upd H' a (.lst vs))
        | .er c => ∀ P' H', Ex P H P' H' → W (.ref (ca c)) none σ H'
        | .stk => False) P1 H1 (Res.of (if j.toNat ≤ 16777216 ∧ small j = true then some (rangeD 0 j.toNat) else none)) := h1
      rw [if_pos hj] at h1
      obtain ⟨s1, s2⟩ := small_of hj.2
      refine ⟨j, rfl, ⟨by decide, by decide, s1, s2, by rw [Int.sub_zero]; exact hj.1⟩, fun q hq => h1 P1 H1 q _ (Ex.refl e1.ph) hq ?_⟩
      have := drs_rg (K := X.K) (P := P1) 0 j
      rw [Int.sub_zero] at this
      exact this
    · have h1 : (fun P H r => match r with
        | Res.ok l => ∀ P' H' a vs, Ex P H P' H' → H' a = none → DrAll X.K P' vs l → Q (.ref a) (upd H' a (.lst vs))
        | .er c => ∀ P' H', Ex P H P' H' → W (.ref (ca c)) none σ H'
        | .stk => False) P1 H1 (Res.of (if j.toNat ≤ 16777216 ∧ small j = true then some (rangeD 0 j.toNat) else none)) := h1
      rw [if_neg hj] at h1
      exact h1.elim
  | _ => exact h1.elim
def gL2 : D → D → Option (List D)
  | .int i, .int j => if (j - i).toNat ≤ 16777216 ∧ small i = true ∧ small j = true then some (rangeD i (j - i).toNat) else none
  | _, _ => none
def mLRng2 (a b : Rho → Res D) : Rho → Res (List D) := fun ρ => (a ρ).bind fun d => (b ρ).bind fun e => .of (gL2 d e)
theorem mf_listR2 {p p2 pos2 : Pos} {e' : Expr} {me' : Rho → Res D} (hc : X.calm = true) (hm : X.mg "list" = none) (hm2 : X.mg "range" = none) (ha : ME X ca W e me) (hb : ME X ca W e' me') (hg : Gl X "list" := by rfl) (hg2 : Gl X "range" := by rfl) (na : starEach [e, e'] X.env = (false, eval e X.env) :: starEach [e'] X.env := by rfl)
    (nb : starEach [e'] X.env = (false, eval e' X.env) :: starEach [] X.env := by rfl) (hp : (backTo pos2 (starEach [e'] X.env)).any (·.1) = false := by rfl)
    (na2 : starEach [.Call (.Name "range" p2) [e, e'] [] pos2] X.env = (false, eval (.Call (.Name "range" p2) [e, e'] [] pos2) X.env) :: starEach [] X.env := by rfl) : MF X ca W (.Call (.Name "list" p) [.Call (.Name "range" p2) [e, e'] [] pos2] [] pos) (mLRng2 me me') := by
  refine ⟨(pe_listRg hc hg hm (prg_2 hg2 hm2 ha.pe hb.pe na nb hp) na2).imp fun σ H Q ⟨H0, P0, P, ρ, er, h⟩ => tF_bind rfl er h fun P1 H1 x d e1 rx h1 => tF_bind rfl (er.step e1) h1 fun P2 H2 y d2 e2 ry h2 => ?_⟩
  cases rx with
  | int i =>
    cases ry with
    | int j =>
      have h2 : (fun P H r => match r with
        | Res.ok l => ∀ P' H' a vs, Ex P H P' H' → H' a = none → DrAll X.K P' vs l → Q (.ref a) (upd H' a (.lst vs))
        | .er c => ∀ P' H', Ex P H P' H' → W (.ref (ca c)) none σ H'
        | .stk => False) P2 H2 (Res.of (if (j - i).toNat ≤ 16777216 ∧ small i = true ∧ small j = true then some (rangeD i (j - i).toNat) else none)) := h2
      by_cases hj : (j - i).toNat ≤ 16777216 ∧ small i = true ∧ small j = true
      · rw [if_pos hj] at h2
        obtain ⟨s1, s2⟩ := small_of hj.2.1
        obtain ⟨s3, s4⟩ := small_of hj.2.2
        exact ⟨i, j, rfl, rfl, ⟨s1, s2, s3, s4, hj.1⟩, fun q hq => h2 P2 H2 q _ (Ex.refl e2.ph) hq (drs_rg i j)⟩
      · rw [if_neg hj] at h2; exact h2.elim
    | _ => exact h2.elim
  | _ => cases d2 <;> exact h2.elim
/-! ### a, b = x, y -/
def mPar (i j : Nat) (ms : Rho → Res (List D)) : Rho → Out := fun ρ => obind (ms ρ) ρ fun l => match l with
  | [a, b] => .nx ((ρ.set i (some (.val a))).set j (some (.val b)))
  | _ => .stk
theorem ms_par {i j : Nat} {x y : Str} {a b : Expr} {ms : Rho → Res (List D)} {px py pt : Pos} {kt k2 : Nat} {pt2 : Pos} (hc : X.calm = true) (hN : X.N.Nodup) (hi : X.N[i]? = some x) (hj : X.N[j]? = some y) (hij : i ≠ j)
    (hx : X.env.scope.names.lookup x = some .local) (hy : X.env.scope.names.lookup y = some .local) (ha : MA X ca W [a, b] ms)
    (hw : swappedStores [.Tuple [.Name x px, .Name y py] kt pt] (.Tuple [a, b] k2 pt2) X.env = pure (some [x, y]) := by rfl)
    (hs : swapsWithSole [.Tuple [.Name x px, .Name y py] kt pt] (.Tuple [a, b] k2 pt2) pos.line X.env = pure false := by rfl) :
    MS X ca W (.Assign [.Tuple [.Name x px, .Name y py] kt pt] (.Tuple [a, b] k2 pt2) pos) (mPar i j ms) := by
  refine ⟨(ps_par hc hN hi hj hij hx hy ha.pa hw hs).imp fun D σ H ⟨H0, P0, P, ρ, er, h⟩ => tG_bindS er h fun P1 H1 vs ds e1 rv q => ?_⟩
  cases rv with
  | nil => exact q.elim
  | cons r1 rv =>
    cases rv with
    | nil => exact q.elim
    | cons r2 rv =>
      cases rv with
      | cons _ _ => exact q.elim
      | nil => exact ⟨_, _, rfl, q P1 H1 _ (Same.refl _) (((er.step e1).set r1).set r2)⟩
end
end PX
/-! The plain layer, part 10: further words. -/
namespace PX
open PySem PySem.Spec PyProof.Rows L2
section
variable {X : Cx} {ca : EC → Addr} {W : WX} {pos : Pos} {e : Expr} {me : Rho → Res D}
/-! ### range of three -/
def gR3 : D → D → D → Option (List D)
  | .int i, .int j, .int c => if 0 < c ∧ c ≤ 1000000 ∧ i.natAbs ≤ 1000000 ∧ j.natAbs ≤ 1000000 then some (rangeDC i c (Builtin.Range.rangeSize i j c).toNat) else none
  | _, _, _ => none
def mRng3 (a b c : Rho → Res D) : Rho → Res (List D) := fun ρ => (a ρ).bind fun x => (b ρ).bind fun y => (c ρ).bind fun z => .of (gR3 x y z)
theorem rgc_of {i j c : Int} (h : 0 < c ∧ c ≤ 1000000 ∧ i.natAbs ≤ 1000000 ∧ j.natAbs ≤ 1000000) : RgC i j c (Builtin.Range.rangeSize i j c).toNat := by
  obtain ⟨h1, h2, h3, h4⟩ := h
  have hq : 0 ≤ (j - i - 1) / c ∨ ¬ i < j := by
    by_cases hij : i < j
    · exact .inl (Int.ediv_nonneg (by omega) (by omega))
    · exact .inr hij
  have hq2 : i < j → (j - i - 1) / c ≤ j - i - 1 := fun hij => Int.ediv_le_self _ (by omega)
  have hq3 : i < j → (j - i - 1) / c * c ≤ j - i - 1 := fun hij => Int.ediv_mul_le _ (by omega)
  have hs : 0 ≤ Builtin.Range.rangeSize i j c ∧ Builtin.Range.rangeSize i j c ≤ 2000000 ∧ Builtin.Range.rangeSize i j c * c ≤ 3000001 := by
    unfold Builtin.Range.rangeSize
    rw [if_pos (by omega)]
    split
    · rename_i hij
      have := hq2 hij
      have := hq3 hij
      rw [Int.add_mul]
      omega
    · omega
  refine ⟨by omega, by omega, ?_, by rw [Int.toNat_of_nonneg hs.1]⟩
  unfold Builtin.Range.small
  generalize Builtin.Range.rangeSize i j c = n at hs
  obtain ⟨a1, a2, a3⟩ := hs
  simp only [Builtin.Range.rangeFitsLong, Bool.and_eq_true, Bool.or_eq_true, decide_eq_true_eq, beq_iff_eq, show c > 0 from h1, if_true]
  omega
theorem mi_range3 {a b c tg : Expr} {ma mb mc : Rho → Res D} {p : Pos} (hm : X.mg "range" = none) (ha : ME X ca W a ma) (hb : ME X ca W b mb) (hc : ME X ca W c mc) (hg : Gl X "range" := by rfl) (he : starEach [a, b, c] X.env = (false, eval a X.env) :: starEach [b, c] X.env := by rfl)
    (he2 : starEach [b, c] X.env = (false, eval b X.env) :: starEach [c] X.env := by rfl) (he3 : starEach [c] X.env = (false, eval c X.env) :: starEach [] X.env := by rfl) (hpl : (backTo pos (starEach [b, c] X.env)).any (·.1) = false := by rfl) : MI X ca W tg (.Call (.Name "range" p) [a, b, c] [] pos) (mRng3 ma mb mc) := by
  refine ⟨PIimp (pi_range3 hg hm (pa_cons ha.pe (pa_cons hb.pe (pa_cons hc.pe pa_nil he3) he2) he) he hpl) fun σ H R ⟨H0, P0, P, ρ, er, q⟩ => tI_bind er q fun P1 H1 x d e1 r q => tI_bind (er.step e1) q fun P2 H2 y e e2 r' q => tI_bind ((er.step e1).step e2) q fun P3 H3 z f e3 r'' q => ?_⟩
  cases r with
  | int i =>
    cases r' with
    | int j =>
      cases r'' with
      | int k =>
        have q : SatI X.K ca W σ P3 H3 (Res.of (if 0 < k ∧ k ≤ 1000000 ∧ i.natAbs ≤ 1000000 ∧ j.natAbs ≤ 1000000 then some (rangeDC i k (Builtin.Range.rangeSize i j k).toNat) else none)) R := q
        by_cases h : 0 < k ∧ k ≤ 1000000 ∧ i.natAbs ≤ 1000000 ∧ j.natAbs ≤ 1000000
        · rw [if_pos h] at q
          exact ⟨i, j, k, _, rfl, rgc_of h, q P3 H3 _ (Ex.refl e3.ph) it_rangeC⟩
        · rw [if_neg h] at q; exact q.elim
      | _ => exact q.elim
    | _ => cases f <;> exact q.elim
  | _ => cases e <;> cases f <;> exact q.elim
/-! ### text.count, text.endswith -/
def gSCount (z : Str) : List D → Option D
  | [.str y] => some (.int (Txt.count z y))
  | _ => none
theorem scount_s {K : PySem.W.Frag} : MsS K (fun x xs H Q => ∃ a b, x = .str a ∧ xs = [.str b] ∧ Q (.int (Txt.count a b)) H) gSCount := by
  intro P H z xs ds w Q s a c q
  cases a with
  | nil => cases c
  | cons a r =>
    cases r with
    | cons _ _ => cases a <;> cases c
    | nil =>
      cases a with
      | str y => cases c; exact ⟨z, y, rfl, rfl, q P H _ (Ex.refl s) (.int _)⟩
      | _ => cases c
def gEnds (z : Str) : List D → Option D
  | [.str y] => some (.bool (Txt.endswith z y))
  | _ => none
theorem ends_s {K : PySem.W.Frag} : MsS K (fun x xs H Q => ∃ a b, x = .str a ∧ xs = [.str b] ∧ Q (.bl (Txt.endswith a b)) H) gEnds := by
  intro P H z xs ds w Q s a c q
  cases a with
  | nil => cases c
  | cons a r =>
    cases r with
    | cons _ _ => cases a <;> cases c
    | nil =>
      cases a with
      | str y => cases c; exact ⟨z, y, rfl, rfl, q P H _ (Ex.refl s) (.bl _)⟩
      | _ => cases c
section
variable {o : Expr} {es : List Expr} {mo : Rho → Res D} {ms : Rho → Res (List D)} {apos : Pos}
theorem me_scount (ho : ME X ca W o mo) (ha : MA X ca W (e :: es) ms)
    (hbase : attributeBase o "count" X.env (eval o X.env) = eval o X.env := by rfl)
    (hfew : ((backTo pos (starEach (e :: es) X.env)).all (fun x => !x.1) && (backToKw pos (keywordEach [] X.env)).all (fun x => x.1.isSome) && decide ((e :: es).length + ([] : List Keyword).length + (if ([] : List Keyword).isEmpty then 0 else 1) < 30)) = true := by rfl)
    (hline : (apos.endLine == pos.line) = true := by rfl) (he : starEach (e :: es) X.env = (false, eval e X.env) :: starEach es X.env := by rfl) (hplain : (backTo pos (starEach es X.env)).any (·.1) = false := by rfl) :
    ME X ca W (.Call (.Attribute o "count" apos) (e :: es) [] pos) (mSM gSCount mo ms) := me_sm PySem.F.slot_str_count PySem.F.type_str_count mt_count scount_s ho ha hbase hfew hline he hplain
theorem me_ends (ho : ME X ca W o mo) (ha : MA X ca W (e :: es) ms)
    (hbase : attributeBase o "endswith" X.env (eval o X.env) = eval o X.env := by rfl)
    (hfew : ((backTo pos (starEach (e :: es) X.env)).all (fun x => !x.1) && (backToKw pos (keywordEach [] X.env)).all (fun x => x.1.isSome) && decide ((e :: es).length + ([] : List Keyword).length + (if ([] : List Keyword).isEmpty then 0 else 1) < 30)) = true := by rfl)
    (hline : (apos.endLine == pos.line) = true := by rfl) (he : starEach (e :: es) X.env = (false, eval e X.env) :: starEach es X.env := by rfl) (hplain : (backTo pos (starEach es X.env)).any (·.1) = false := by rfl) :
    ME X ca W (.Call (.Attribute o "endswith" apos) (e :: es) [] pos) (mSM gEnds mo ms) := me_sm PySem.F.slot_str_endswith PySem.F.type_str_endswith mt_endswith ends_s ho ha hbase hfew hline he hplain
end
/-! ### x += n -/
def dAddI : D → D → Option D
  | .int i, .int j => some (.int (i + j))
  | _, _ => none
theorem ipadd_s {K : PySem.W.Frag} : OpS K (ipI fun i j => i + j) dAddI := by
  intro P H x y d e z Q s a b c q
  cases a with
  | int i =>
    cases b with
    | int j => cases c; exact ⟨i, j, rfl, rfl, q P H _ (Ex.refl s) (.int _)⟩
    | _ => cases c
  | _ => cases b <;> cases c
/-! ### len(a dict of one's own) -/
def mDLen (i : Nat) : Rho → Res D := fun ρ => (mDct i ρ).bind fun kvs => .ok (.int kvs.length)
theorem call_dlen {X : Cx} : CallR X (.builtin "len") (fun xs H Q => ∃ (a : Addr) (kvs : List (Key × V)), xs = [.ref a] ∧ Rd H a (.dK kvs) ∧ Q (.int kvs.length) H) := by
  intro pins s σ H xs us Q I r h
  obtain ⟨a, kvs, rfl, hd, q⟩ := h
  rw [Vals.ref1 r]
  exact d_len I hd fun t s' I' => ⟨.int kvs.length, H, I', ⟨_, rfl⟩, q⟩
theorem me_dlen {i : Nat} {x : Str} {p p2 : Pos} (hm : X.mg "len" = none) (hN : X.N[i]? = some x := by rfl) (hv : Vis X.env.scope x := by first | exact Or.inl rfl | exact Or.inr (Or.inl rfl) | exact Or.inr (Or.inr rfl)) (hd : (x == ("__debug__" : Str)) = false := by decide) (hcd : (x == ("__classdict__" : Str)) = false := by decide)
    (hg : Gl X "len" := by rfl) (he : starEach [.Name x p2] X.env = (false, eval (.Name x p2) X.env) :: starEach [] X.env := by rfl) (hpl : (backTo pos (starEach [] X.env)).any (·.1) = false := by rfl) :
    ME X ca W (.Call (.Name "len" p) [.Name x p2] [] pos) (mDLen i) := by
  refine ⟨(pe_callB call_dlen hg hm boot_len (pa_cons (pe_var hN hv hd hcd) pa_nil he) (by decide) (by decide) he hpl).imp fun σ H Q ⟨H0, P0, P, ρ, er, h⟩ => ?_⟩
  unfold mDLen at h
  cases z : mDct i ρ with
  | ok kvs =>
    rw [z] at h
    obtain ⟨hρ, a, ws, hx, h1, h2, h3, h4⟩ := dct_slot er z
    refine ⟨_, hx, a, ws, rfl, .inl h1, ?_⟩
    rw [h4.len]
    exact h P H _ (Ex.refl er.sub) (.int _)
  | er c => unfold mDct at z; split at z <;> cases z
  | stk => rw [z] at h; exact h.elim
end
end PX
/-! The plain layer, part 11: sorted(a dict of one's own). -/
namespace PX
open PySem PySem.Spec PyProof.Rows L2 Sem Builtin
section
variable {X : Cx} {ca : EC → Addr} {W : WX} {pos : Pos}
/-- sorted(d), keys texts, any number -/
theorem cr_sortedDA (hcalm : X.calm = true) : CallR X (.builtin "sorted") (fun xs H Q => ∃ (d : Addr) (kvs : List (Key × V)) (ks : List Str), xs = [.ref d] ∧ Rd H d (.dK kvs) ∧ kvs.map (·.1) = ks.map Sum.inr ∧ ∀ p, H p = none → Q (.ref p) (upd H p (.lst ((srt ks).map V.str)))) := by
  intro pins s σ H xs us Q I r ⟨d, kvs, ks, ex, hd, hks, q⟩
  subst ex
  rw [Vals.ref1 r]
  obtain ⟨z, lo, vs, rel, dd⟩ := dk_rd I.hok hd
  obtain ⟨ep, hat⟩ := dd.dictAt
  have hkeys : vs.map (·.1) = ks.map Sum.inr := rel.keys.symm.trans hks
  have hl : vs.length = ks.length := by simpa using congrArg List.length hkeys
  have hk1 : kvs.length = ks.length := by simpa using congrArg List.length hks
  have h16 : vs.length ≤ sizeLine := by omega
  refine Calls.call_function_entry kind_sorted plain_sorted entry_sorted (args_sorted1 _) ?_
  unfold Builtin.«sorted»
  refine wpAny_bind (m := checkCount "sorted" 1 1 _) (wpAny_pure (wpAny_bind (PySem.W.kdu_collect (A := X.A.in1) (PySem.W.kdl_dict (knd := mixKind X.prog X.w) (kvs := vs) (ep := ep) lo) (I.ok.hd hcalm) hat h16 fun h' tk acc hk hacc => ?_)))
  have hal : acc.toList.length = ks.length := by rw [Array.length_toList, hacc.1, hl]
  have hS : StrsAre acc.toList ks := strs_at hal fun j v e => by
    obtain ⟨k, x, e1, e2⟩ := hacc.2 j v (by rw [← Array.getElem?_toList]; exact e)
    have e3 : (ks.map Sum.inr)[j]? = some k := by rw [← hkeys, List.getElem?_map, e1]; rfl
    rw [List.getElem?_map] at e3
    cases e4 : ks[j]? with
    | none => rw [e4] at e3; cases e3
    | some y =>
      rw [e4] at e3
      cases e3
      obtain ⟨t, ev⟩ := Value.isStrOf_shape (x := y) (v := v) e2
      exact ⟨y, t, rfl, ev⟩
  have I1 : Inv X pins σ H { s with heap := h', toks := tk } := I.kept hk
  have hLs : acc.toList.length ≤ sizeLine := by omega
  refine wpAny_bind (wpAny_newList ?_ hLs)
  have hoL : (h'.push (seqObj "list" acc.toList.toArray 0)).get? h'.objs.size = some (seqObj "list" acc.toList.toArray 0) := Heap.get?_push_size _ rfl
  refine wpAny_bind (wpAny_holding (wpAny_call_entry slot_list_sort ⟨_, hoL, rfl⟩ entry_list_sort (list_sort_treeKAny strKind_oneLt (s := { s with heap := h'.push (seqObj "list" acc.toList.toArray 0), toks := tk }) hoL hS.keysOf (fun v₁ v₂ rest e => keyKind_strs (by rw [← e]; exact hS)) hLs fun st' hp hs => ⟨_, rfl, ?_⟩) (args_list_sort _)))
  obtain ⟨ys, g1, g2, g3⟩ := sorted_out_str hS hp hs
  obtain ⟨e', he'⟩ := sortedHeap_at (vs := acc.toList) (out := (arrOf st').map (·.2)) hoL
  have hlen : (ys.map V.str).length ≤ sizeLine := by rw [List.length_map, g2.length_eq]; omega
  rw [srt_unique g2 g3] at g1 hlen
  refine wpAny_pure ⟨_, rfl, .ref h'.objs.size, upd H h'.objs.size (.lst ((srt ks).map V.str)), I1.laid (t' := tk) (fun b u e => ?_) (Nat.le_refl _) (show ObjOk X.prog X.w _ _ _ (.lst ((srt ks).map V.str)) from ⟨hlen, ((arrOf st').map (·.2)).toList, e', vals_of_strs g1, by rw [Array.toArray_toList]; exact he'⟩), rfl, q _ (I1.hok.fresh (Nat.le_refl _))⟩
  have hb := Heap.lt_size e
  rw [sortedHeap_old (Nat.ne_of_lt hb) (by rw [size_push']; exact Nat.lt_succ_of_lt hb)]
  exact Heap.get?_push_of_some _ e
def mSortedD (i : Nat) : Rho → Res (List D) := fun ρ => (mDct i ρ).bind fun kvs => .ok ((srt (kvs.map (·.1))).map .str)
theorem KVs.keysS {K : PySem.W.Frag} {P : Hp} : ∀ {ws : List (Key × V)} {kvs : List (Str × D)}, KVs K P ws kvs → ws.map (·.1) = (kvs.map (·.1)).map Sum.inr
  | _, _, .nil => rfl
  | _, _, .cons _ r => by rw [List.map_cons, List.map_cons, List.map_cons, r.keysS]
theorem mf_sortedD {i : Nat} {x : Str} {p p2 : Pos} (hc : X.calm = true) (hm : X.mg "sorted" = none) (hN : X.N[i]? = some x := by rfl) (hv : Vis X.env.scope x := by first | exact Or.inl rfl | exact Or.inr (Or.inl rfl) | exact Or.inr (Or.inr rfl)) (hd : (x == ("__debug__" : Str)) = false := by decide) (hcd : (x == ("__classdict__" : Str)) = false := by decide)
    (hg : Gl X "sorted" := by rfl) (he : starEach [.Name x p2] X.env = (false, eval (.Name x p2) X.env) :: starEach [] X.env := by rfl) (hpl : (backTo pos (starEach [] X.env)).any (·.1) = false := by rfl) :
    MF X ca W (.Call (.Name "sorted" p) [.Name x p2] [] pos) (mSortedD i) := by
  refine ⟨(pe_callB (cr_sortedDA hc) hg hm boot_sorted (pa_cons (pe_var hN hv hd hcd) pa_nil he) (by decide) (by decide) he hpl).imp fun σ H Q ⟨H0, P0, P, ρ, er, h⟩ => ?_⟩
  unfold mSortedD at h
  cases z : mDct i ρ with
  | ok kvs =>
    rw [z] at h
    obtain ⟨hρ, a, ws, hx, h1, h2, h3, h4⟩ := dct_slot er z
    exact ⟨_, hx, a, ws, _, rfl, .inl h1, h4.keysS, fun p hp => h P H p _ (Ex.refl er.sub) hp (drs_strs _)⟩
  | er c => unfold mDct at z; split at z <;> cases z
  | stk => rw [z] at h; exact h.elim
end
end PX
/-! The plain layer, part 12: max, sum of a list of whole numbers. -/
namespace PX
open PySem PySem.Spec PyProof.Rows L2
def intsD : List D → Option (List Int)
  | [] => some []
  | .int i :: r => (intsD r).map (i :: ·)
  | _ :: _ => none
theorem ints_of {K : PySem.W.Frag} {P : Hp} : ∀ {xs : List V} {ds : List D} {ns : List Int}, DrAll K P xs ds → intsD ds = some ns → xs = ns.map V.int
  | _, _, _, .nil, h => by cases h; rfl
  | _, d :: ds, ns, .cons a r, h => by
    cases a with
    | int i =>
      have h : (intsD ds).map (i :: ·) = some ns := h
      cases q : intsD ds with
      | none => rw [q] at h; cases h
      | some ys =>
        rw [q] at h
        cases h
        rw [ints_of r q]; rfl
    | _ => cases h
def maxI : List Int → Int
  | [] => 0
  | [a] => a
  | a :: b :: r => if a ≤ maxI (b :: r) then maxI (b :: r) else a
theorem maxI_spec : ∀ l : List Int, l ≠ [] → maxI l ∈ l ∧ ∀ y ∈ l, y ≤ maxI l
  | [], h => absurd rfl h
  | [a], _ => ⟨List.mem_cons_self, fun y hy => by rw [List.mem_singleton.mp hy]; exact Int.le_refl _⟩
  | a :: b :: r, _ => by
    obtain ⟨h1, h2⟩ := maxI_spec (b :: r) (List.cons_ne_nil _ _)
    unfold maxI
    split
    · rename_i h
      refine ⟨List.mem_cons_of_mem _ h1, fun y hy => ?_⟩
      rcases List.mem_cons.mp hy with rfl | hy
      · exact h
      · exact h2 y hy
    · rename_i h
      refine ⟨List.mem_cons_self, fun y hy => ?_⟩
      rcases List.mem_cons.mp hy with rfl | hy
      · exact Int.le_refl _
      · have := h2 y hy; omega
def gMax (l : List D) : Option D := match intsD l with
  | some ns => if ns = [] then none else some (.int (maxI ns))
  | none => none
theorem max_s {K : PySem.W.Frag} : ClS K (rMax K) gMax := by
  intro P H a xs ds z Q s hr rr c q
  unfold gMax at c
  cases e : intsD ds with
  | none => rw [e] at c; cases c
  | some ns =>
    rw [e] at c
    have c : (if ns = [] then none else some (PyData.int (maxI ns))) = some z := c
    by_cases h0 : ns = []
    · rw [if_pos h0] at c; cases c
    · rw [if_neg h0] at c
      cases c
      have hx := ints_of rr e
      subst hx
      obtain ⟨m1, m2⟩ := maxI_spec ns h0
      refine ⟨a, ns, rfl, .inl hr, List.length_pos_iff.mpr h0, fun m hm hy => ?_⟩
      have : m = maxI ns := Int.le_antisymm (m2 m hm) (hy _ m1)
      rw [this]
      exact q P H _ (Ex.refl s) (.int _)
def gSum (l : List D) : Option D := (intsD l).map fun ns => .int ns.sum
theorem sum_s {K : PySem.W.Frag} : ClS K (rSum K) gSum := by
  intro P H a xs ds z Q s hr rr c q
  unfold gSum at c
  cases e : intsD ds with
  | none => rw [e] at c; cases c
  | some ns =>
    rw [e] at c
    cases c
    have hx := ints_of rr e
    subst hx
    exact ⟨a, ns, rfl, .inl hr, q P H _ (Ex.refl s) (.int _)⟩
section
variable {X : Cx} {ca : EC → Addr} {W : WX} {pos p : Pos} {e : Expr} {ml : Rho → Res (List D)}
theorem boot_max' : bootBuiltins "max" = some (.builtin "max") := by decide +kernel
theorem boot_sum' : bootBuiltins "sum" = some (.builtin "sum") := by decide +kernel
theorem me_max (hc : X.calm = true) (hm : X.mg "max" = none) (ha : MB X ca W e ml) (hg : Gl X "max" := by rfl) (he : starEach [e] X.env = (false, eval e X.env) :: starEach [] X.env := by rfl) (hpl : (backTo pos (starEach [] X.env)).any (·.1) = false := by rfl) : ME X ca W (.Call (.Name "max" p) [e] [] pos) (mCL gMax ml) := me_callBL (cr_max hc) max_s hm boot_max' ha hg (by decide) (by decide) he hpl
theorem me_sum (hc : X.calm = true) (hm : X.mg "sum" = none) (ha : MB X ca W e ml) (hg : Gl X "sum" := by rfl) (he : starEach [e] X.env = (false, eval e X.env) :: starEach [] X.env := by rfl) (hpl : (backTo pos (starEach [] X.env)).any (·.1) = false := by rfl) : ME X ca W (.Call (.Name "sum" p) [e] [] pos) (mCL gSum ml) := me_callBL (cr_sum hc) sum_s hm boot_sum' ha hg (by decide) (by decide) he hpl
end
end PX
/-! The plain layer, part 13: zip of any two of lists, tuples, texts. -/
namespace PX
open PySem PySem.Spec PyProof.Rows L2
/-- what zip walks -/
inductive ZS where
  | lst (a : Addr) | tup (a : Addr) | str (z : Str)
def ZS.has (K : PySem.W.Frag) (H : Hp) : ZS → List V → Prop
  | .lst a, xs => SqL K H a xs
  | .tup a, xs => SqT K H a xs
  | .str z, xs => xs = z.cps.toList.map fun c => .str ⟨#[c]⟩
def ZS.st (h : Heap) (it : Addr) : ZS → Nat → Prop
  | .lst a, i => h.IsListIter it a i
  | .tup a, i => h.IsTupleIter it a i
  | .str z, i => ∃ t, h.IsStrIter it (strIterType z) z t i
def ZS.ap (c : Addr) : ZS → Prop
  | .lst a => c ≠ a
  | .tup a => c ≠ a
  | .str _ => True
theorem zs_draw {X : Cx} {pins : List (Addr × Obj)} {σ : L2.St} {H : Hp} {s : Shared} (I : Inv X pins σ H s) {A : Around} (hh : A.handled = none) {src : ZS} {it : Addr} {i : Nat} {xs : List V} (st : src.st s.heap it i) (hx : src.has X.K H xs) (ap : src.ap it) :
    ∃ (fp : List Addr) (P : Nat → Value → Prop) (St : Nat → Heap → Prop), Draws X.prog X.w A it fp xs.length P St ∧ St i s.heap ∧ it ∈ fp ∧ (∀ c, c ≠ it → src.ap c → c ∉ fp) ∧ (∀ k v, P k v → ∃ x, xs[k]? = some x ∧ RelV x v) ∧ (∀ k h', St k h' → src.st h' it k) := by
  cases src with
  | lst a =>
    obtain ⟨its, rv, p, _⟩ := I.list hx
    refine ⟨[it, a], fun k v => its.toArray[k]? = some v, fun i h => h.IsListIter it a i ∧ h.IsList a its.toArray, ?_, ⟨st, p.isList⟩, List.mem_cons_self, fun c h1 h2 hc => ?_, fun k v hv => ?_, fun k h' h => h.1⟩
    · have D := Draws.list (prog := X.prog) (w := X.w) hh it a (fun e => ap e.symm) its.toArray
      have e : its.toArray.size = xs.length := by rw [List.size_toArray, ← rv.length]
      rw [e] at D; exact D
    · rcases List.mem_cons.mp hc with e | hc
      · exact h1 e
      · exact h2 (List.mem_singleton.mp hc)
    · have hv : its[k]? = some v := by simpa using hv
      have hl := rv.length
      have hk : k < xs.length := by rw [hl]; exact (List.getElem?_eq_some_iff.mp hv).1
      obtain ⟨u, hu, ru⟩ := rv.get (List.getElem?_eq_getElem hk)
      rw [hv] at hu
      cases hu
      exact ⟨_, List.getElem?_eq_getElem hk, ru⟩
  | tup a =>
    obtain ⟨its, rv, p, _⟩ := I.tuple hx
    refine ⟨[it, a], fun k v => its.toArray[k]? = some v, fun i h => h.IsTupleIter it a i ∧ h.IsTuple a its.toArray, ?_, ⟨st, p⟩, List.mem_cons_self, fun c h1 h2 hc => ?_, fun k v hv => ?_, fun k h' h => h.1⟩
    · have D := Draws.tuple (prog := X.prog) (w := X.w) hh it a (fun e => ap e.symm) its.toArray
      have e : its.toArray.size = xs.length := by rw [List.size_toArray, ← rv.length]
      rw [e] at D; exact D
    · rcases List.mem_cons.mp hc with e | hc
      · exact h1 e
      · exact h2 (List.mem_singleton.mp hc)
    · have hv : its[k]? = some v := by simpa using hv
      have hl := rv.length
      have hk : k < xs.length := by rw [hl]; exact (List.getElem?_eq_some_iff.mp hv).1
      obtain ⟨u, hu, ru⟩ := rv.get (List.getElem?_eq_getElem hk)
      rw [hv] at hu
      cases hu
      exact ⟨_, List.getElem?_eq_getElem hk, ru⟩
  | str z =>
    obtain ⟨t, st⟩ := st
    have hx : xs = z.cps.toList.map fun c => .str ⟨#[c]⟩ := hx
    subst hx
    refine ⟨[it], fun k v => ∃ c u, z.cps[k]? = some c ∧ v = .str ⟨#[c]⟩ u, fun i h => h.IsStrIter it (strIterType z) z t i, ?_, st, List.mem_cons_self, fun c h1 h2 hc => h1 (List.mem_singleton.mp hc), fun k v hv => ?_, fun k h' h => ⟨t, h⟩⟩
    · have D := Draws.text (prog := X.prog) (w := X.w) hh it z t
      have e : z.cps.size = (z.cps.toList.map fun c => V.str ⟨#[c]⟩).length := by simp
      rw [e] at D; exact D
    · obtain ⟨c, u, hc, rfl⟩ := hv
      exact ⟨.str ⟨#[c]⟩, by simp [hc], ⟨u, rfl⟩⟩
theorem zs_inj {X : Cx} {pins : List (Addr × Obj)} {σ : L2.St} {H : Hp} {s : Shared} (I : Inv X pins σ H s) {src : ZS} {xs ys : List V} (h : src.has X.K H xs) (h' : src.has X.K H ys) : xs = ys := by
  cases src with
  | lst a => exact I.list_inj h h'
  | tup a => exact I.tuple_inj h h'
  | str z =>
    have h : xs = _ := h
    have h' : ys = _ := h'
    rw [h, h']
/-- the cells lie apart -/
structure ZSep (z TI TO i1 i2 : Addr) (s1 s2 : ZS) : Prop where
  TIz : TI ≠ z
  TOz : TO ≠ z
  TITO : TI ≠ TO
  TIi1 : TI ≠ i1
  TIi2 : TI ≠ i2
  zi1 : z ≠ i1
  zi2 : z ≠ i2
  Ti1 : TO ≠ i1
  Ti2 : TO ≠ i2
  i12 : i1 ≠ i2
  a1 : s1.ap i1
  b1 : s1.ap i2
  c1 : s1.ap z
  d1 : s1.ap TO
  a2 : s2.ap i2
  b2 : s2.ap i1
  c2 : s2.ap z
  d2 : s2.ap TO
/-- pairs of items -/
def ItzS (K : PySem.W.Frag) (s1 s2 : ZS) : It :=
  ⟨fun i H => ∃ (xs ys : List V) (x y : V), s1.has K H xs ∧ s2.has K H ys ∧ xs[i]? = some x ∧ ys[i]? = some y,
    fun i H v H' => ∃ T x y, v = .ref T ∧ H T = none ∧ H' = upd H T (.tup [x, y]) ∧ (∀ xs, s1.has K H xs → xs[i]? = some x) ∧ ∀ ys, s2.has K H ys → ys[i]? = some y,
    fun i H => ∃ xs ys : List V, s1.has K H xs ∧ s2.has K H ys ∧ i = min xs.length ys.length⟩
theorem zs_obj {h : Heap} {it : Addr} {src : ZS} {i : Nat} (st : src.st h it i) : ∃ o, h.get? it = some o ∧ ∀ v, o.data ≠ .cell v := by
  cases src with
  | lst a => obtain ⟨o, e, _, d⟩ := st; exact ⟨o, e, fun v q => by rw [d] at q; cases q⟩
  | tup a => obtain ⟨o, e, _, d⟩ := st; exact ⟨o, e, fun v q => by rw [d] at q; cases q⟩
  | str z => obtain ⟨t, o, e, _, d⟩ := st; exact ⟨o, e, fun v q => by rw [d] at q; cases q⟩
theorem zs_keep {h h' : Heap} {it : Addr} {src : ZS} {i : Nat} (st : src.st h it i) (k : ∀ o, h.get? it = some o → h'.get? it = some o) : src.st h' it i := by
  cases src with
  | lst a => exact Heap.IsListIter.at st k
  | tup a => exact Heap.IsTupleIter.at st k
  | str z => obtain ⟨t, o, e, r⟩ := st; exact ⟨t, o, k o e, r⟩
theorem turn_zipS {P : Program} {w : World} {K : PySem.W.Frag} {elts : List Expr} {kk : Nat} {tpos : Pos} {s1 s2 : ZS} {z TI TO i1 i2 : Addr} (D : ZSep z TI TO i1 i2 s1 s2) :
    Turn P w K (.Tuple elts kk tpos) (ItzS K s1 s2) [z, TI, TO, i1, i2] z (fun i h => IsZip h z TI TO .none ∧ IsPair h TI (.ref i1) (.ref i2) ∧ (∃ x y, IsPair h TO x y) ∧ s1.st h i1 i ∧ s2.st h i2 i) where
  mem := by simp
  obj := fun i h st c hc => by
    obtain ⟨hz, hTI, ⟨x, y, hTO⟩, h1, h2⟩ := st
    have e' : c = z ∨ c = TI ∨ c = TO ∨ c = i1 ∨ c = i2 := by simpa using hc
    rcases e' with q | q | q | q | q
    · rw [q]; exact ⟨_, hz, fun v q => nomatch q⟩
    · rw [q]; exact ⟨_, hTI, fun v q => nomatch q⟩
    · rw [q]; exact ⟨_, hTO, fun v q => nomatch q⟩
    · rw [q]; exact zs_obj h1
    · rw [q]; exact zs_obj h2
  keep := fun i h h' st k => by
    obtain ⟨hz, hTI, ⟨x, y, hTO⟩, h1, h2⟩ := st
    exact ⟨k z (by simp) _ hz, k TI (by simp) _ hTI, ⟨x, y, k TO (by simp) _ hTO⟩, zs_keep h1 fun o q => k i1 (by simp) o q, zs_keep h2 fun o q => k i2 (by simp) o q⟩
  item := by
    intro X hP hw hK hc i pins s σ H E I hf st hg
    subst hP hw hK
    obtain ⟨hz, hTI, ⟨x0, y0, hTO⟩, h1, h2⟩ := st
    obtain ⟨xs, ys, x, y, hqx, hqy, hx, hy⟩ := hg
    obtain ⟨fp1, P1, St1, D1, t1, m1, f1, r1, b1⟩ := zs_draw I (A := X.A.in1) (I.ok.hd hc) h1 hqx D.a1
    obtain ⟨fp2, P2, St2, D2, t2, m2, f2, r2, b2⟩ := zs_draw I (A := X.A.in1) (I.ok.hd hc) h2 hqy D.a2
    have hzl : z < s.heap.objs.size := Heap.lt_size hz
    have S : ZipSep2 z TI TO i1 i2 fp1 fp2 := ⟨D.TIz, D.TOz, D.TITO, D.TIi1, m1, f1 _ D.zi1 D.c1, f1 _ D.Ti1 D.d1, D.TIi2, m2, f2 _ D.zi2 D.c2, f2 _ D.Ti2 D.d2, f2 _ D.i12 D.b2, f1 _ D.i12.symm D.b1⟩
    have l1 : i < xs.length := (List.getElem?_eq_some_iff.mp hx).1
    have l2 : i < ys.length := (List.getElem?_eq_some_iff.mp hy).1
    refine wpAny_pyNext_zipD2_item S D1 D2 hz hTI hTO t1 t2 l1 l2 fun u u2 h' tk p1 p2 z' TO' h1' h2' hT hsz hk => ?_
    obtain ⟨x', hx', ru⟩ := r1 _ _ p1
    obtain ⟨y', hy', ru2⟩ := r2 _ _ p2
    rw [hx] at hx'
    rw [hy] at hy'
    cases hx'
    cases hy'
    refine ⟨_, rfl, wpAny_letOwnedTupleGo_zip (s := { s with heap := h', toks := tk }) z' fun h'' z'' sb => ?_⟩
    have hT2 : h''.get? s.heap.objs.size = some { cls := .type "tuple", data := .seq #[u, u2] } := (sb.2 _ (Nat.ne_of_gt hzl)).trans hT
    have new : ObjOk X.prog X.w (upd H s.heap.objs.size (.tup [x, y])) h'' s.heap.objs.size (.tup [x, y]) :=
      ⟨by show 2 ≤ sizeLine; decide, [u, u2], .cons ru (.cons ru2 .nil), ⟨_, hT2, rfl, _, rfl⟩⟩
    have I1 : Inv X pins σ (upd H s.heap.objs.size (.tup [x, y])) { s with heap := h'', toks := tk } :=
      I.turnedNew (t' := tk) (ch := [z, TI, TO, i1, i2]) (fun c o hb q => (sb.2 c (fun q' => hb (by simp [q']))).trans (hk c o (fun q' => hb (by simp [q'])) (fun q' => hb (by simp [q'])) (fun q' => hb (by simp [q'])) (fun q' => hb (by simp [q'])) q)) hf (Nat.le_refl _) new
    refine ⟨.ref s.heap.objs.size, _, I1, rfl, ⟨_, x, y, rfl, I.hok.fresh (Nat.le_refl _), rfl, fun l hl => by rw [zs_inj I hl hqx]; exact hx, fun l hl => by rw [zs_inj I hl hqy]; exact hy⟩, ⟨z'', ?_, ⟨u, u2, ?_⟩, ?_, ?_⟩, fun c hcm => ?_⟩
    · exact (sb.2 _ D.TIz).trans (hk _ _ D.TIz D.TITO D.TIi1 D.TIi2 hTI)
    · exact (sb.2 _ D.TOz).trans TO'
    · exact zs_keep (b1 _ _ h1') fun o q => (sb.2 _ D.zi1.symm).trans q
    · exact zs_keep (b2 _ _ h2') fun o q => (sb.2 _ D.zi2.symm).trans q
    · have hlt : c < s.heap.objs.size := by
        have e' : c = z ∨ c = TI ∨ c = TO ∨ c = i1 ∨ c = i2 := by simpa using hcm
        rcases e' with q | q | q | q | q
        · rw [q]; exact hzl
        · rw [q]; exact Heap.lt_size hTI
        · rw [q]; exact Heap.lt_size hTO
        · rw [q]; obtain ⟨_, e1, _⟩ := zs_obj h1; exact Heap.lt_size e1
        · rw [q]; obtain ⟨_, e2, _⟩ := zs_obj h2; exact Heap.lt_size e2
      rw [upd_ne (Nat.ne_of_lt hlt)]
      exact (hf c hcm).1
  done := by
    intro X hP hw hK hc i pins s σ H E I hf st hg
    subst hP hw hK
    obtain ⟨hz, hTI, ⟨x0, y0, hTO⟩, h1, h2⟩ := st
    obtain ⟨xs, ys, hqx, hqy, hend⟩ := hg
    obtain ⟨fp1, P1, St1, D1, t1, m1, f1, r1, b1⟩ := zs_draw I (A := X.A.in1) (I.ok.hd hc) h1 hqx D.a1
    obtain ⟨fp2, P2, St2, D2, t2, m2, f2, r2, b2⟩ := zs_draw I (A := X.A.in1) (I.ok.hd hc) h2 hqy D.a2
    have S : ZipSep2 z TI TO i1 i2 fp1 fp2 := ⟨D.TIz, D.TOz, D.TITO, D.TIi1, m1, f1 _ D.zi1 D.c1, f1 _ D.Ti1 D.d1, D.TIi2, m2, f2 _ D.zi2 D.c2, f2 _ D.Ti2 D.d2, f2 _ D.i12 D.b2, f1 _ D.i12.symm D.b1⟩
    exact wpAny_pyNext_zipD2_end S D1 D2 hz hTI hTO t1 t2 (by omega) (by omega) (by omega) fun h' tk hk => ⟨rfl, I.turnedL (t' := tk) (ch := [z, TI, TO, i1, i2]) (fun c o hb q =>
      hk c o (fun q' => hb (by simp [q'])) (fun q' => hb (by simp [q'])) (fun q' => hb (by simp [q'])) (fun q' => hb (by simp [q'])) q) hf⟩
  self := fun A i s Q E st h => wpAny_pyIter_zip st.1 h
/-! ### making it -/
abbrev zH3 (h : Heap) (o1 o2 : Obj) : Heap := ((h.push o1).push o2).push { cls := .type "tuple", data := .seq #[.ref h.objs.size, .ref (h.push o1).objs.size] }
abbrev zH4 (h : Heap) (o1 o2 : Obj) : Heap := (zH3 h o1 o2).push { cls := .type "tuple", data := .seq #[.none, .none] }
abbrev zH5 (h : Heap) (o1 o2 : Obj) : Heap := (zH4 h o1 o2).push { cls := .type "zip", data := .fields #[.none, .bool false, .bool false, .ref ((h.push o1).push o2).objs.size, .ref (zH3 h o1 o2).objs.size] }
theorem meets_zipS_new (v1 v2 : Value) (o1 o2 : Obj) :
    Meets (Builtin.«zip.__new__» ⟨[.type "zip", v1, v2], []⟩) (fun _ R s => (∀ (prog : Program) (w : World) (A : Around) (E : Value → Shared → Prop) (Q : Value → Shared → Prop), Q (.ref s.heap.objs.size) { s with heap := s.heap.push o1 } → wpAny (model prog w) A (pyIter v1) Q E s) ∧
      (∀ (prog : Program) (w : World) (A : Around) (E : Value → Shared → Prop) (Q : Value → Shared → Prop), Q (.ref (s.heap.push o1).objs.size) { s with heap := (s.heap.push o1).push o2 } → wpAny (model prog w) A (pyIter v2) Q E { s with heap := s.heap.push o1 }) ∧
      R (.ok (.ret (.ref (zH4 s.heap o1 o2).objs.size))) { s with heap := zH5 s.heap o1 o2 }) :=
  .of_wp fun prog w A R s h => by
    obtain ⟨hp, g, d, tk, os⟩ := s; obtain ⟨hl1, hl2, h⟩ := h
    have hsub := sub_zip
    have hl1 := fun A E Q => hl1 prog w A E Q
    have hl2 := fun A E Q => hl2 prog w A E Q
    wp_walk using hl1 _ _ _, hl2 _ _ _
    exact ⟨_, rfl, h⟩
def ZS.v : ZS → V
  | .lst a => .ref a
  | .tup a => .ref a
  | .str z => .str z
theorem zs_iter {X : Cx} {pins : List (Addr × Obj)} {σ : L2.St} {H : Hp} {s : Shared} (I : Inv X pins σ H s) {src : ZS} {xs : List V} (hx : src.has X.K H xs) {u : Value} (r : RelV src.v u) :
    ∃ o : Obj, (∀ h' : Heap, (∀ c ob, s.heap.get? c = some ob → h'.get? c = some ob) → ∀ (prog : Program) (w : World) (A : Around) (E : Value → Shared → Prop) (Q : Value → Shared → Prop), Q (.ref h'.objs.size) { s with heap := h'.push o } → wpAny (model prog w) A (pyIter u) Q E { s with heap := h' }) ∧
      o.isFreed = false ∧ (∀ h it, h.get? it = some o → src.st h it 0) ∧ ∀ c, s.heap.objs.size ≤ c → src.ap c := by
  cases src with
  | lst a =>
    obtain ⟨its, rv, p, _⟩ := I.list hx
    cases r
    refine ⟨{ cls := .type "list_iterator", data := .fields #[.ref a, .int 0 0] }, fun h' k prog w A E Q q => wpAny_pyIter_list (s := { s with heap := h' }) (items := its.toArray) (p.isList.at fun o e => k a o e) q, rfl, fun h it e => ⟨_, e, rfl, rfl⟩, fun c hc e => ?_⟩
    exact absurd p.lt (by rw [← (show c = a from e)]; exact Nat.not_lt.mpr hc)
  | tup a =>
    obtain ⟨its, rv, p, _⟩ := I.tuple hx
    cases r
    refine ⟨{ cls := .type "tuple_iterator", data := .fields #[.ref a, .int 0 0] }, fun h' k prog w A E Q q => wpAny_pyIter_tuple (s := { s with heap := h' }) (items := its.toArray) (let ⟨o, ho, r⟩ := p; ⟨o, k a o ho, r⟩) q, rfl, fun h it e => ⟨_, e, rfl, rfl⟩, fun c hc e => ?_⟩
    obtain ⟨o, ho, _⟩ := p
    exact absurd (Heap.lt_size ho) (by rw [← (show c = a from e)]; exact Nat.not_lt.mpr hc)
  | str z =>
    obtain ⟨t, rfl⟩ := r
    exact ⟨{ cls := .type (strIterType z), data := .fields #[.str z t, .int 0 0] }, fun h' k prog w A E Q q => wpAny_pyIter_strU (s := { s with heap := h' }) q, rfl, fun h it e => ⟨t, _, e, rfl, rfl⟩, fun c hc => trivial⟩
theorem zsep_new (n : Nat) {s1 s2 : ZS} (a1 : ∀ c : Nat, n ≤ c → s1.ap c) (a2 : ∀ c : Nat, n ≤ c → s2.ap c) : ZSep (n + 4) (n + 2) (n + 3) n (n + 1) s1 s2 := by
  have h : ∀ a b : Nat, a ≠ b → n + a ≠ n + b := fun a b e z => e (Nat.add_left_cancel z)
  have h0 : ∀ a : Nat, a ≠ 0 → n + a ≠ n := fun a e z => h a 0 e z
  exact ⟨h 2 4 (by decide), h 3 4 (by decide), h 2 3 (by decide), h0 2 (by decide), h 2 1 (by decide), h0 4 (by decide), h 4 1 (by decide), h0 3 (by decide), h 3 1 (by decide), (h0 1 (by decide)).symm,
    a1 _ (Nat.le_refl _), a1 _ (Nat.le_add_right _ _), a1 _ (Nat.le_add_right _ _), a1 _ (Nat.le_add_right _ _), a2 _ (Nat.le_add_right _ _), a2 _ (Nat.le_refl _), a2 _ (Nat.le_add_right _ _), a2 _ (Nat.le_add_right _ _)⟩
def iZipS (K : PySem.W.Frag) (ta : TA) : TI := fun σ H R => ta σ H fun vs H1 => ∃ s1 s2 xs ys, vs = [ZS.v s1, ZS.v s2] ∧ s1.has K H1 xs ∧ s2.has K H1 ys ∧ R (ItzS K s1 s2) H1
theorem pi_zipS {X : Cx} {e e2 : Expr} {ta : TA} {p pos tpos : Pos} {elts : List Expr} {kk : Nat} (hg : Gl X "zip") (hm : X.mg "zip" = none) (ha : PA X [e, e2] ta)
    (hs : starEach [e, e2] X.env = (false, eval e X.env) :: starEach [e2] X.env := by rfl) (hpl : (backTo pos (starEach [e2] X.env)).any (·.1) = false := by rfl) :
    PI X (.Tuple elts kk tpos) (.Call (.Name "zip" p) [e, e2] [] pos) (iZipS X.K ta) := by
  refine ⟨fun pins s σ H R I h => ?_⟩
  refine Call_ (ld_blt I hg hm PyProof.Rows.boot_zip (PyProof.Rows.callWith_type1 (thn (ha.run pos pins s σ H _ I h) fun us s1 ⟨vs, H1, I1, r1, q1⟩ => ?_) hs hpl))
  obtain ⟨z1, z2, xs, ys, ex, hx, hy, q⟩ := q1
  subst ex
  cases r1 with
  | cons r rr =>
    cases rr with
    | cons r' rr =>
      cases rr
      have fresh5 : ∀ c, c ∈ [s1.heap.objs.size + 4, s1.heap.objs.size + 2, s1.heap.objs.size + 3, s1.heap.objs.size, s1.heap.objs.size + 1] → FpOk X pins H1 c := fun c hcm => by
        have e' : c = s1.heap.objs.size + 4 ∨ c = s1.heap.objs.size + 2 ∨ c = s1.heap.objs.size + 3 ∨ c = s1.heap.objs.size ∨ c = s1.heap.objs.size + 1 := by simpa using hcm
        have hle : s1.heap.objs.size ≤ c := by
          rcases e' with z | z | z | z | z
          · rw [z]; exact Nat.le_add_right _ _
          · rw [z]; exact Nat.le_add_right _ _
          · rw [z]; exact Nat.le_add_right _ _
          · rw [z]; exact Nat.le_refl _
          · rw [z]; exact Nat.le_add_right _ _
        exact I1.fpOk hle (I1.hok.fresh hle)
      obtain ⟨o1, p1, f1, t1, a1⟩ := zs_iter I1 hx r
      obtain ⟨o2, p2, f2, t2, a2⟩ := zs_iter I1 hy r'
      refine callType_new F.called_zip (by decide) (F.typeCall_zip_2 _ _) (F.newCall_zip_2 _ _) (fun obj => F.args_object_init_3 obj _ _) F.entry_zip_new
        (meets_zipS_new _ _ o1 o2) ⟨fun prog w A E Q q => p1 s1.heap (fun _ _ e => e) prog w A E Q q, fun prog w A E Q q => p2 (s1.heap.push o1) (fun c ob e => Heap.get?_push_of_some _ e) prog w A E Q q, ?_⟩
      have g5 : (zH5 s1.heap o1 o2).get? (zH4 s1.heap o1 o2).objs.size = some _ := Heap.get?_push_size _ rfl
      have g4 : (zH5 s1.heap o1 o2).get? (zH3 s1.heap o1 o2).objs.size = some _ := Heap.get?_push_of_some _ (Heap.get?_push_size _ rfl)
      have g3 : (zH5 s1.heap o1 o2).get? ((s1.heap.push o1).push o2).objs.size = some _ := Heap.get?_push_of_some _ (Heap.get?_push_of_some _ (Heap.get?_push_size _ rfl))
      have g2 : (zH5 s1.heap o1 o2).get? (s1.heap.push o1).objs.size = some o2 := Heap.get?_push_of_some _ (Heap.get?_push_of_some _ (Heap.get?_push_of_some _ (Heap.get?_push_size _ f2)))
      have g1 : (zH5 s1.heap o1 o2).get? s1.heap.objs.size = some o1 := Heap.get?_push_of_some _ (Heap.get?_push_of_some _ (Heap.get?_push_of_some _ (Heap.get?_push_of_some _ (Heap.get?_push_size _ f1))))
      have n1 : (s1.heap.push o1).objs.size = s1.heap.objs.size + 1 := Heap.size_push ..
      have n2 : ((s1.heap.push o1).push o2).objs.size = s1.heap.objs.size + 2 := by rw [Heap.size_push, n1]
      have n3 : (zH3 s1.heap o1 o2).objs.size = s1.heap.objs.size + 3 := by rw [Heap.size_push, n2]
      have n4 : (zH4 s1.heap o1 o2).objs.size = s1.heap.objs.size + 4 := by rw [Heap.size_push, n3]
      rw [n2, n3, n4] at g5
      rw [n1, n2] at g3
      rw [n3] at g4
      rw [n1] at g2
      have hk : ∀ c o, s1.heap.get? c = some o → (zH5 s1.heap o1 o2).get? c = some o := fun c o x =>
        Heap.get?_push_of_some _ (Heap.get?_push_of_some _ (Heap.get?_push_of_some _ (Heap.get?_push_of_some _ (Heap.get?_push_of_some _ x))))
      rw [n4]
      refine ⟨⟨_, g5, rfl⟩, wpAny_pyIter_zip g5 ?_⟩
      have I2 : Inv X pins σ H1 { s1 with heap := zH5 s1.heap o1 o2 } := I1.kept (t' := s1.toks) hk
      exact ⟨s1.heap.objs.size + 4, [s1.heap.objs.size + 4, s1.heap.objs.size + 2, s1.heap.objs.size + 3, s1.heap.objs.size, s1.heap.objs.size + 1], _, _, H1, rfl, I2,
        turn_zipS (zsep_new s1.heap.objs.size a1 a2),
        ⟨g5, g3, ⟨_, _, g4⟩, t1 _ _ g1, t2 _ _ g2⟩, fresh5, q⟩
/-! ### by data -/
def zipD (l m : List D) : List D := List.zipWith (fun a b => .tuple [a, b]) l m
/-- what a datum is to zip -/
def ZSd (K : PySem.W.Frag) (P : Hp) (src : ZS) (l : List D) : Prop := ∃ xs, src.has K P xs ∧ DrAll K P xs l
theorem zs_mono {K : PySem.W.Frag} {P P' : Hp} (e : Same P P') {src : ZS} {xs : List V} (h : src.has K P xs) : src.has K P' xs := by
  cases src with
  | lst a => exact e.seq h
  | tup a => exact seqT_mono e h
  | str z => exact h
theorem drs_signs {K : PySem.W.Frag} {P : Hp} (z : Str) : DrAll K P (z.cps.toList.map fun c => .str ⟨#[c]⟩) (signs z) := by
  unfold signs
  generalize z.cps.toList = l
  induction l with
  | nil => exact .nil
  | cons a l ih => exact .cons (.str _) ih
theorem zs_of {K : PySem.W.Frag} {P : Hp} {x : V} {d : D} {l : List D} (h : Dr K P x d) (e : dItems d = some l) : ∃ src xs, x = ZS.v src ∧ (∀ H, Same P H → src.has K H xs) ∧ DrAll K P xs l := by
  cases h with
  | @lst a xs ds h1 h2 =>
    cases e
    exact ⟨.lst a, xs, rfl, fun H' e => .inl (rd_mono e h1), h2⟩
  | @tup a xs ds h1 h2 =>
    cases e
    exact ⟨.tup a, xs, rfl, fun H' e => seqT_mono e h1, h2⟩
  | str z =>
    cases e
    exact ⟨.str z, _, rfl, fun _ _ => rfl, drs_signs z⟩
  | @scr a ns h1 =>
    cases e
    exact ⟨.lst a, _, rfl, fun H' e => e.seq h1, scr_all ns⟩
  | _ => cases e
theorem it_zip {K : PySem.W.Frag} {P H : Hp} {s1 s2 : ZS} {xs ys : List V} {l m : List D} (g1 : ∀ P1 H1, Same P P1 → Same P1 H1 → s1.has K H1 xs) (g2 : ∀ P1 H1, Same P P1 → Same P1 H1 → s2.has K H1 ys) (h1 : DrAll K P xs l) (h2 : DrAll K P ys m) : ItOk K P (ItzS K s1 s2) (zipD l m) := by
  have hl : (zipD l m).length = min xs.length ys.length := by unfold zipD; rw [List.length_zipWith, dps_length h1, dps_length h2]
  refine ⟨fun H => s1.has K H xs ∧ s2.has K H ys, YPair (fun i => xs[i]?) (fun i => ys[i]?), ?_, fun P1 H1 a b => ⟨g1 P1 H1 a b, g2 P1 H1 a b⟩, fun i P1 H1 x H2 hi a b y => ?_⟩
  · rw [hl]
    refine ⟨fun i _ hi q => ?_, fun _ q => ⟨xs, ys, q.1, q.2, rfl⟩, fun i H v H' _ q y => ?_⟩
    · have h1 : i < xs.length := by omega
      have h2 : i < ys.length := by omega
      exact ⟨xs, ys, xs[i], ys[i], q.1, q.2, by simp [h1], by simp [h2]⟩
    · obtain ⟨T, x, z, h1, h2, h3, h4, h5⟩ := y
      exact ⟨T, x, z, h1, h2, h3, h4 xs q.1, h5 ys q.2⟩
  · obtain ⟨T, u, v, rfl, hT, rfl, hu, hv⟩ := y
    obtain ⟨d, e1, r1⟩ := dps_getV h1 hu
    obtain ⟨e, e2, r2⟩ := dps_getV h2 hv
    have ex := Ex.new (o := .tup [u, v]) b hT
    exact ⟨_, .tuple [d, e], ex, by simp [zipD, List.getElem?_zipWith, e1, e2], .tup (SqT.of upd_same) (.cons ((r1.mono a).mono ex.pp) (.cons ((r2.mono a).mono ex.pp) .nil))⟩
def mZip (ma mb : Rho → Res D) : Rho → Res (List D) := fun ρ => (ma ρ).bind fun x => (mb ρ).bind fun y => (Res.of (dItems x)).bind fun l => (Res.of (dItems y)).bind fun m => .ok (zipD l m)
section
variable {X : Cx} {ca : EC → Addr} {W : WX} {pos : Pos} {e e2 : Expr} {me me2 : Rho → Res D}
theorem mi_zip {elts : List Expr} {kk : Nat} {tpos p : Pos} (hm : X.mg "zip" = none) (ha : ME X ca W e me) (hb : ME X ca W e2 me2) (hg : Gl X "zip" := by rfl)
    (hs : starEach [e, e2] X.env = (false, eval e X.env) :: starEach [e2] X.env := by rfl) (hs2 : starEach [e2] X.env = (false, eval e2 X.env) :: starEach [] X.env := by rfl) (hpl : (backTo pos (starEach [e2] X.env)).any (·.1) = false := by rfl) :
    MI X ca W (.Tuple elts kk tpos) (.Call (.Name "zip" p) [e, e2] [] pos) (mZip me me2) := by
  refine ⟨PIimp (pi_zipS hg hm (pa_cons ha.pe (pa_cons hb.pe pa_nil hs2) hs) hs hpl) fun σ H R ⟨H0, P0, P, ρ, er, q⟩ => tI_bind er q fun P1 H1 x d e1 r q => tI_bind (er.step e1) q fun P2 H2 y f e2 r' q => ?_⟩
  cases z : dItems d with
  | none => rw [z] at q; exact q.elim
  | some l =>
    cases z2 : dItems f with
    | none => rw [z, z2] at q; exact q.elim
    | some m =>
      rw [z, z2] at q
      obtain ⟨s1, xs, rfl, h1, d1⟩ := zs_of (Dr.mono r e2.pp) z
      obtain ⟨s2, ys, rfl, h2, d2⟩ := zs_of r' z2
      exact ⟨s1, s2, xs, ys, rfl, h1 _ e2.ph, h2 _ e2.ph, q P2 H2 _ (Ex.refl e2.ph) (it_zip (H := H2) (fun P1 H1 a b => h1 _ (a.trans b)) (fun P1 H1 a b => h2 _ (a.trans b)) d1 d2)⟩
end
end PX
/-! The plain layer, part 14: further words. -/
namespace PX
open PySem PySem.Spec PyProof.Rows L2
section
variable {X : Cx} {ca : EC → Addr} {W : WX} {pos : Pos} {e : Expr} {es : List Expr} {me : Rho → Res D} {ml ms : Rho → Res (List D)} {p : Pos}
/-! ### list(x) -/
theorem vals_signs {x : Str} : ∀ {l : List Value} {cs : List Nat}, l.length = cs.length → (∀ (i : Nat) (v : Value), l[i]? = some v → ∃ (c : Nat) (u : Tok), cs[i]? = some c ∧ v = Value.str ⟨#[c]⟩ u) → Vals (cs.map fun c => V.str ⟨#[c]⟩) l
  | [], [], _, _ => .nil
  | v :: l, c :: cs, hl, h => by
    obtain ⟨c', u, h1, h2⟩ := h 0 v rfl
    cases h1
    refine .cons ⟨u, h2⟩ (vals_signs (x := x) (by simpa using hl) fun i w hw => h (i + 1) w (by simpa using hw))
  | [], _ :: _, hl, _ => by simp at hl
  | _ :: _, [], hl, _ => by simp at hl
theorem call_listS (hc : X.calm = true) : CallR X (.type "list") (fun xs H Q => ∃ z : Str, xs = [.str z] ∧ z.length ≤ sizeLine ∧ ∀ l, H l = none → Q (.ref l) (upd H l (.lst (z.cps.toList.map fun c => .str ⟨#[c]⟩)))) := by
  intro pins s σ H xs us Q I r h
  obtain ⟨z, rfl, hz, q⟩ := h
  obtain ⟨u, rfl, t, rfl⟩ := vals1 r
  refine call_list_str (I.ok.hd hc) z t (fun h' tk acc c' hk hS hacc => ?_) hz
  have hv : Vals (z.cps.toList.map fun c => V.str ⟨#[c]⟩) acc.toList := vals_signs (x := z) (by rw [Array.length_toList, hacc.1, Array.length_toList]) fun i v hv => by
    obtain ⟨c, u, h1, h2⟩ := hacc.2 i v (by rw [← Array.getElem?_toList]; exact hv)
    exact ⟨c, u, by rw [Array.getElem?_toList]; exact h1, h2⟩
  exact ⟨.ref s.heap.objs.size, _, I.laid (t' := tk) (fun b o e => hk b o e) (Nat.le_refl _) (show ObjOk X.prog X.w _ h' _ (.lst _) from ⟨by rw [List.length_map, Array.length_toList]; exact hz, acc.toList, c', hv, by rw [Array.toArray_toList]; exact hS⟩), rfl, q _ (I.hok.fresh (Nat.le_refl _))⟩
theorem CallR.or' {f : Value} {r r' : List V → Hp → VK → Prop} (h : CallR X f r) (h' : CallR X f r') : CallR X f (fun xs H Q => r xs H Q ∨ r' xs H Q) := fun pins s σ H xs us Q I rv q => q.elim (h pins s σ H xs us Q I rv) (h' pins s σ H xs us Q I rv)
/-- list(x) of a datum -/
def dListOf : D → Option (List D)
  | .list l => some l
  | .tuple l => some l
  | .str z => if z.length ≤ sizeLine then some (signs z) else none
  | _ => none
def mListOf (m : Rho → Res D) : Rho → Res (List D) := fun ρ => (m ρ).bind fun x => .of (dListOf x)
theorem mf_listOf (hc : X.calm = true) (hm : X.mg "list" = none) (ha : ME X ca W e me) (hg : Gl X "list" := by rfl) (he : starEach [e] X.env = (false, eval e X.env) :: starEach [] X.env := by rfl) (hpl : (backTo pos (starEach [] X.env)).any (·.1) = false := by rfl) :
    MF X ca W (.Call (.Name "list" p) [e] [] pos) (mListOf me) := by
  refine ⟨(pe_callTy (CallR.or' call_list_of (call_listS hc)) hg hm (by decide +kernel) (pa_cons ha.pe pa_nil he) (by decide) (by decide) he hpl).imp fun σ H Q ⟨H0, P0, P, ρ, er, h⟩ => tF_bind rfl er h fun P1 H1 x d e1 rx h1 => ?_⟩
  cases z : dListOf d with
  | none => rw [z] at h1; exact h1.elim
  | some l =>
    rw [z] at h1
    cases rx with
    | @lst a vs ds q r => cases z; exact .inl ⟨a, vs, rfl, .inl (.inl (rd_mono e1.ph q)), fun p hp => h1 P1 H1 p _ (Ex.refl e1.ph) hp r⟩
    | @tup a vs ds q r => cases z; exact .inl ⟨a, vs, rfl, .inr (seqT_mono e1.ph q), fun p hp => h1 P1 H1 p _ (Ex.refl e1.ph) hp r⟩
    | str w =>
      obtain ⟨hl, rfl⟩ := if_some z
      exact .inr ⟨w, rfl, hl, fun p hp => h1 P1 H1 p _ (Ex.refl e1.ph) hp (drs_signs w)⟩
    | _ => cases z
/-! ### [e] * n -/
def mRep (ma : Rho → Res (List D)) (mb : Rho → Res D) : Rho → Res (List D) := fun ρ => (ma ρ).bind fun l => (mb ρ).bind fun x => (Res.of (dInt x)).bind fun n => if n.natAbs ≤ 1000000 ∧ l.length * n.toNat ≤ 16777216 then .ok (List.replicate n.toNat l).flatten else .stk
theorem mf_rep {a b : Expr} {ma : Rho → Res (List D)} {mb : Rho → Res D} (ha : MF X ca W a ma) (hb : ME X ca W b mb) : MF X ca W (.BinOp a .Mult b pos) (mRep ma mb) := by
  refine ⟨(pe_op op_rep ha.pe hb.pe).imp fun σ H Q ⟨H0, P0, P, ρ, er, h⟩ => ⟨H0, P0, P, ρ, er, ?_⟩⟩
  unfold mRep at h
  cases z : ma ρ with
  | er c => rw [z] at h; exact h
  | stk => rw [z] at h; exact h.elim
  | ok l =>
    rw [z] at h
    intro P1 H1 a vs e1 hn rv
    have h : (fun P H r => match r with
      | Res.ok l => ∀ P' H' a vs, Ex P H P' H' → H' a = none → DrAll X.K P' vs l → Q (.ref a) (upd H' a (.lst vs))
      | .er c => ∀ P' H', Ex P H P' H' → W (.ref (ca c)) none σ H'
      | .stk => False) P H ((mb ρ).bind fun x => (Res.of (dInt x)).bind fun n => if n.natAbs ≤ 1000000 ∧ l.length * n.toNat ≤ 16777216 then Res.ok (List.replicate n.toNat l).flatten else .stk) := h
    have ex := e1.trans (Ex.out e1.ph hn (o := .lst vs))
    refine ⟨H0, P0, P1, ρ, er.step ex, ?_⟩
    cases zb : mb ρ with
    | er c => rw [zb] at h; exact fun P2 H2 e2 => h P2 H2 (ex.trans e2)
    | stk => rw [zb] at h; exact h.elim
    | ok x =>
      rw [zb] at h
      intro P2 H2 y e2 ry
      cases ry with
      | int n =>
        have h : (fun P H r => match r with
          | Res.ok l => ∀ P' H' a vs, Ex P H P' H' → H' a = none → DrAll X.K P' vs l → Q (.ref a) (upd H' a (.lst vs))
          | .er c => ∀ P' H', Ex P H P' H' → W (.ref (ca c)) none σ H'
          | .stk => False) P H (if n.natAbs ≤ 1000000 ∧ l.length * n.toNat ≤ 16777216 then Res.ok (List.replicate n.toNat l).flatten else .stk) := h
        by_cases hk : n.natAbs ≤ 1000000 ∧ l.length * n.toNat ≤ 16777216
        · rw [if_pos hk] at h
          refine ⟨a, n, vs, rfl, rfl, e2.hh _ _ upd_same, by omega, by omega, by rw [dps_length rv]; exact hk.2, fun p hp => h P2 H2 p _ (ex.trans e2) hp (drs_rep (rv.mono e2.pp) _)⟩
        · rw [if_neg hk] at h; exact h.elim
      | _ => exact h.elim
/-! ### text.split -/
def mSplit (mo : Rho → Res D) (ms : Rho → Res (List D)) : Rho → Res (List D) := fun ρ => (mo ρ).bind fun x => (Res.of (dStr x)).bind fun a => (ms ρ).bind fun l => match l with
  | [.str b] => if (b.length == 0) = false ∧ a.length + 2 ≤ sizeLine then .ok ((Txt.split a b).map .str) else .stk
  | _ => .stk
theorem mf_split {o : Expr} {mo : Rho → Res D} {apos : Pos} (ho : ME X ca W o mo) (ha : MA X ca W [e] ms)
    (hbase : attributeBase o "split" X.env (eval o X.env) = eval o X.env := by rfl)
    (hfew : ((backTo pos (starEach [e] X.env)).all (fun x => !x.1) && (backToKw pos (keywordEach [] X.env)).all (fun x => x.1.isSome) && decide ([e].length + ([] : List Keyword).length + (if ([] : List Keyword).isEmpty then 0 else 1) < 30)) = true := by rfl)
    (hline : (apos.endLine == pos.line) = true := by rfl) (he : starEach [e] X.env = (false, eval e X.env) :: starEach [] X.env := by rfl) (hplain : (backTo pos (starEach [] X.env)).any (·.1) = false := by rfl) :
    MF X ca W (.Call (.Attribute o "split" apos) [e] [] pos) (mSplit mo ms) := by
  refine ⟨(pe_bm PySem.F.plainAttrs_str PySem.F.slot_str_split PySem.F.type_str_split mt_split ho.pe ha.pa hbase hfew hline he hplain).imp fun σ H Q ⟨H0, P0, P, ρ, er, h⟩ => tF_bind rfl er h fun P1 H1 x d e1 rx h1 => ?_⟩
  cases rx with
  | str a =>
    refine ⟨rfl, tF_bind rfl (er.step e1) (k := fun l => match l with
      | [.str b] => if (b.length == 0) = false ∧ a.length + 2 ≤ sizeLine then Res.ok ((Txt.split a b).map PyData.str) else .stk
      | _ => .stk) h1 fun P2 H2 xs ds e2 rxs h2 => ?_⟩
    cases rxs with
    | nil => exact h2.elim
    | cons r1 r =>
      cases r with
      | cons _ _ => cases r1 <;> exact h2.elim
      | nil =>
        cases r1 with
        | str b =>
          by_cases hk : (b.length == 0) = false ∧ a.length + 2 ≤ sizeLine
          · have h2 : (fun P H r => match r with
              | Res.ok l => ∀ P' H' a vs, Ex P H P' H' → H' a = none → DrAll X.K P' vs l → Q (.ref a) (upd H' a (.lst vs))
              | .er c => ∀ P' H', Ex P H P' H' → W (.ref (ca c)) none σ H'
              | .stk => False) P2 H2 (if (b.length == 0) = false ∧ a.length + 2 ≤ sizeLine then Res.ok ((Txt.split a b).map PyData.str) else .stk) := h2
            rw [if_pos hk] at h2
            exact ⟨a, b, rfl, rfl, hk.1, hk.2, fun p hp => h2 P2 H2 p _ (Ex.refl e2.ph) hp (drs_strs _)⟩
          · have h2 : (fun P H r => match r with
              | Res.ok l => ∀ P' H' a vs, Ex P H P' H' → H' a = none → DrAll X.K P' vs l → Q (.ref a) (upd H' a (.lst vs))
              | .er c => ∀ P' H', Ex P H P' H' → W (.ref (ca c)) none σ H'
              | .stk => False) P2 H2 (if (b.length == 0) = false ∧ a.length + 2 ≤ sizeLine then Res.ok ((Txt.split a b).map PyData.str) else .stk) := h2
            rw [if_neg hk] at h2
            exact h2.elim
        | _ => exact h2.elim
  | _ => exact h1.elim
/-! ### str(n) -/
def dStrI : D → Option D
  | .int i => if i.natAbs ≤ 1000000 then some (.str (toString i)) else none
  | _ => none
theorem log_small {n : Nat} (h : n ≤ 1000000) : n.log2 < 1920 := by
  by_cases h0 : n = 0
  · subst h0; decide
  · rw [Nat.log2_lt h0]
    exact Nat.lt_of_le_of_lt h (Nat.lt_of_lt_of_le (show 1000000 < 2 ^ 20 by decide) (Nat.pow_le_pow_right (by decide) (by decide)))
theorem me_strI (hm : X.mg "str" = none) (ha : ME X ca W e me) (hg : Gl X "str" := by rfl) (he : starEach [e] X.env = (false, eval e X.env) :: starEach [] X.env := by rfl) (hpl : (backTo pos (starEach [] X.env)).any (·.1) = false := by rfl) :
    ME X ca W (.Call (.Name "str" p) [e] [] pos) (mUn dStrI me) := by
  refine ⟨(pe_callTy call_str_int hg hm (by decide +kernel) (pa_cons ha.pe pa_nil he) (by decide) (by decide) he hpl).imp fun σ H Q ⟨H0, P0, P, ρ, er, h⟩ => tG_bind er h fun P1 H1 x d e1 rx h1 => ?_⟩
  cases rx with
  | int i =>
    have h1 : Sat (rD X.K) ca W σ P1 H1 (Res.of (if i.natAbs ≤ 1000000 then some (PyData.str (toString i)) else none)) Q := h1
    by_cases hk : i.natAbs ≤ 1000000
    · rw [if_pos hk] at h1
      exact ⟨i, rfl, log_small hk, h1 P1 H1 _ (Ex.refl e1.ph) (.str _)⟩
    · rw [if_neg hk] at h1; exact h1.elim
  | _ => exact h1.elim
/-! ### bool(a list that is read) -/
def mBoolL (m : Rho → Res (List D)) : Rho → Res D := fun ρ => (m ρ).bind fun l => .ok (.bool (!l.isEmpty))
/-! ### text.upper, text.strip(signs) -/
def mUpper (mo : Rho → Res D) : Rho → Res D := fun ρ => (mo ρ).bind fun x => (Res.of (dStr x)).bind fun z => .of (if z.length ≤ 1000000 then some (.str (Txt.upper z)) else none)
theorem me_upper {o : Expr} {mo : Rho → Res D} {apos : Pos} (ho : ME X ca W o mo) (hbase : attributeBase o "upper" X.env (eval o X.env) = eval o X.env := by rfl) (hline : (apos.endLine == pos.line) = true := by rfl) :
    ME X ca W (.Call (.Attribute o "upper" apos) [] [] pos) (mUpper mo) := by
  refine me_sm0 (g := fun z => if z.length ≤ 1000000 then some (.str (Txt.upper z)) else none) PySem.F.slot_str_upper PySem.F.type_str_upper mt_upper (fun P H z w Q s c q => ?_) ho hbase hline
  obtain ⟨hl, rfl⟩ := if_some c
  exact ⟨z, rfl, rfl, by omega, q P H _ (Ex.refl s) (.str _)⟩
def gStrip (z : Str) : List D → Option D
  | [.str y] => if z.length ≤ sizeLine then some (.str (Txt.stripChars z y)) else none
  | _ => none
theorem strip_s {K : PySem.W.Frag} : MsS K (fun x xs H Q => ∃ a b, x = .str a ∧ xs = [.str b] ∧ a.length ≤ sizeLine ∧ Q (.str (Txt.stripChars a b)) H) gStrip := by
  intro P H z xs ds w Q s a c q
  cases a with
  | nil => cases c
  | cons a r =>
    cases r with
    | cons _ _ => cases a <;> cases c
    | nil =>
      cases a with
      | str y =>
        obtain ⟨hl, rfl⟩ := if_some c
        exact ⟨z, y, rfl, rfl, hl, q P H _ (Ex.refl s) (.str _)⟩
      | _ => cases c
theorem me_strip {o : Expr} {mo : Rho → Res D} {apos : Pos} (ho : ME X ca W o mo) (ha : MA X ca W (e :: es) ms)
    (hbase : attributeBase o "strip" X.env (eval o X.env) = eval o X.env := by rfl)
    (hfew : ((backTo pos (starEach (e :: es) X.env)).all (fun x => !x.1) && (backToKw pos (keywordEach [] X.env)).all (fun x => x.1.isSome) && decide ((e :: es).length + ([] : List Keyword).length + (if ([] : List Keyword).isEmpty then 0 else 1) < 30)) = true := by rfl)
    (hline : (apos.endLine == pos.line) = true := by rfl) (he : starEach (e :: es) X.env = (false, eval e X.env) :: starEach es X.env := by rfl) (hplain : (backTo pos (starEach es X.env)).any (·.1) = false := by rfl) :
    ME X ca W (.Call (.Attribute o "strip" apos) (e :: es) [] pos) (mSM gStrip mo ms) := me_sm PySem.F.slot_str_strip PySem.F.type_str_strip mt_stripChars strip_s ho ha hbase hfew hline he hplain
/-! ### x *= n, x //= n -/
def dMulI : D → D → Option D
  | .int i, .int j => if cMul i j = true then some (.int (i * j)) else none
  | _, _ => none
abbrev rMulI : TIp := fun x y H Q => ∃ i j, x = .int i ∧ y = .int j ∧ CMul i j ∧ Q (.int (i * j)) H
theorem ip_mulA : PIp X .Mult rMulI := by
  intro pins s σ H x y v u Q I r1 r2 h
  obtain ⟨i, j, e1, e2, hc, q⟩ := h
  subst e1; subst e2
  obtain ⟨t, rfl⟩ := r1
  obtain ⟨t', rfl⟩ := r2
  exact imul_int ⟨.int _, H, I.tok _, ⟨_, rfl⟩, q⟩ hc.ok
theorem mulI_s {K : PySem.W.Frag} : OpS K rMulI dMulI := by
  intro P H x y d e z Q s a b c q
  cases a with
  | int i =>
    cases b with
    | int j =>
      obtain ⟨h1, rfl⟩ := if_some c
      exact ⟨i, j, rfl, rfl, cmul_ok h1, q P H _ (Ex.refl s) (.int _)⟩
    | _ => cases c
  | _ => cases b <;> cases c
def dDivI : D → D → Option D
  | .int i, .int j => if cDiv i j = true then some (.int (i.fdiv j)) else none
  | _, _ => none
abbrev rDivI : TIp := fun x y H Q => ∃ i j, x = .int i ∧ y = .int j ∧ CDivN i j ∧ Q (.int (i.fdiv j)) H
theorem ip_divA : PIp X .FloorDiv rDivI := by
  intro pins s σ H x y v u Q I r1 r2 h
  obtain ⟨i, j, e1, e2, hc, q⟩ := h
  subst e1; subst e2
  obtain ⟨t, rfl⟩ := r1
  obtain ⟨t', rfl⟩ := r2
  exact ifloordiv_int hc.1 ⟨.int _, H, I.tok _, ⟨_, rfl⟩, q⟩ (.inl (PyProof.noPylong_small hc.2))
theorem divI_s {K : PySem.W.Frag} : OpS K rDivI dDivI := by
  intro P H x y d e z Q s a b c q
  cases a with
  | int i =>
    cases b with
    | int j =>
      obtain ⟨h1, rfl⟩ := if_some c
      have := Bool.and_eq_true_iff.mp h1
      exact ⟨i, j, rfl, rfl, ⟨of_decide_eq_true this.1, of_decide_eq_true this.2⟩, q P H _ (Ex.refl s) (.int _)⟩
    | _ => cases c
  | _ => cases b <;> cases c
end
end PX
/-! The plain layer, part 15: bool of a list, not in, min of texts, sorted of a text, count. -/
namespace PX
open PySem PySem.Spec PyProof.Rows L2
section
variable {X : Cx} {ca : EC → Addr} {W : WX} {pos : Pos} {e : Expr} {es : List Expr} {me : Rho → Res D} {ml ms : Rho → Res (List D)} {p : Pos}
theorem me_boolL (hm : X.mg "bool" = none) (ha : MB X ca W e ml) (hg : Gl X "bool" := by rfl) (he : starEach [e] X.env = (false, eval e X.env) :: starEach [] X.env := by rfl) (hpl : (backTo pos (starEach [] X.env)).any (·.1) = false := by rfl) :
    ME X ca W (.Call (.Name "bool" p) [e] [] pos) (mBoolL ml) := by
  refine ⟨(pe_callTy call_boolL hg hm (by decide +kernel) (pa_cons ha.pe pa_nil he) (by decide) (by decide) he hpl).imp fun σ H Q ⟨H0, P0, P, ρ, er, h⟩ => tG_bind er h fun P1 H1 x l e1 rx h1 => ?_⟩
  obtain ⟨a, vs, rfl, sq, rr⟩ := rx
  refine ⟨a, vs, rfl, .inl sq, ?_⟩
  have e : vs.isEmpty = l.isEmpty := by cases rr <;> rfl
  rw [e]
  exact h1 _ _ _ (Ex.refl e1.ph) (.bl _)
def mNotInL (ma : Rho → Res D) (mb : Rho → Res (List D)) : Rho → Res Bool := fun ρ => (ma ρ).bind fun d => (mb ρ).bind fun es => if inOkL d es = true then .ok (!es.any fun z => PyData.eqv z d) else .stk
theorem mt_ninL {k : Nat} {a b : Expr} {ma : Rho → Res D} {mb : Rho → Res (List D)} (hr : Room k X.A) (ha : ME X ca W a ma) (hb : MB X ca W b mb) (hm : behindInMarks .NotIn b = false) :
    MT X ca W (.Compare a [.NotIn] [b] pos) (mNotInL ma mb) := by
  refine ⟨(pt_cmpR (op_inNA hr) ha.pe hb.pe hm).imp fun σ H Q ⟨H0, P0, P, ρ, er, h⟩ => tG_bind er h fun P1 H1 x d e1 rx h1 => tG_bind (er.step e1) h1 fun P2 H2 y e e2 ry h2 => ?_⟩
  obtain ⟨q, vs, rfl, hd, rr⟩ := ry
  have rx2 := Dr.mono rx e2.pp
  by_cases hk : inOkL d e = true
  · rw [if_pos hk] at h2
    unfold inOkL at hk
    by_cases hf : inOk d e = true
    · obtain ⟨f1, f2⟩ := Bool.and_eq_true_iff.mp hf
      refine .inr (.inl ⟨q, vs, rfl, .inl (.inl hd), flat_of rx2 f1, flats_of rr f2, ?_⟩)
      show ∃ k, V.bl (!inV x vs) = .bl k ∧ Q k H2
      rw [inV_of rx2 f1 rr f2]
      exact ⟨_, rfl, h2 P2 H2 _ (Ex.refl e2.ph) rfl⟩
    · rw [Bool.or_eq_true] at hk
      have hk := Bool.and_eq_true_iff.mp (hk.resolve_left hf)
      exact .inr (.inr ⟨d, e, (rx2.mono e2.ph).dp hk.1, .lst (.inl hd) ((rr.mono e2.ph).dps hk.2), hk.1, hk.2, _, rfl, h2 P2 H2 _ (Ex.refl e2.ph) rfl⟩)
  · rw [if_neg hk] at h2; exact h2.elim
/-! ### min of texts -/
theorem dataLt_strs (x y : Str) : PySem.W.dataLt (.str x) (.str y) = ltCps x.cps.toList y.cps.toList := by
  rw [PySem.W.dataLt_str, ltCps_eq]
def minS (x : Str) (xs : List Str) : Str := xs.foldl (fun a y => if ltCps y.cps.toList a.cps.toList = true then y else a) x
theorem minD_strs (x : Str) : ∀ xs : List Str, PySem.W.minD (.str x) (xs.map .str) = .str (minS x xs) := by
  intro xs
  unfold PySem.W.minD minS
  induction xs generalizing x with
  | nil => rfl
  | cons y r ih =>
    rw [List.map_cons, List.foldl_cons, List.foldl_cons, ← ih]
    rw [dataLt_strs]
    split <;> rfl
theorem reads_strs {h : Heap} : ∀ {us : List Value} {xs : List Str}, StrsAre us xs → ∃ as, ReadsAll h us (xs.map PyData.str) as
  | _, _, .nil => ⟨_, .nil⟩
  | _, _, .cons x t r => by
    obtain ⟨as, ha⟩ := reads_strs (h := h) r
    exact ⟨_, .cons (.str x t) ha⟩
def rMinS (K : PySem.W.Frag) : List V → Hp → VK → Prop := fun vs H Q => ∃ (a : Addr) (x : Str) (xs : List Str), vs = [V.ref a] ∧ SqL K H a ((x :: xs).map V.str) ∧ Q (.str (minS x xs)) H
theorem depth_strs (xs : List Str) : PyData.depthAll (xs.map PyData.str) = 0 := by
  induction xs with
  | nil => rfl
  | cons x r ih => simp [PyData.depthAll, PyData.depth, ih]
theorem cr_minS {k : Nat} (hr : Room k X.A) : CallR X (.builtin "min") (rMinS X.K) := by
  intro pins s σ H vs us Q I r h
  obtain ⟨a, x, xs, rfl, hs, q⟩ := h
  obtain ⟨its, rv, hl, _⟩ := I.list hs
  rw [Vals.ref1 r]
  obtain ⟨as, ha⟩ := reads_strs (h := s.heap) rv.strs
  refine PySem.W.min_list_data hr.hd hl.isList (by simpa using ha) ⟨fun x hx y hy => ?_, fun x hx e => ?_⟩ ?_ fun i v h' tk bs hv hrd hk => ?_
  · rw [← List.map_cons] at hx hy
    obtain ⟨x', _, rfl⟩ := List.mem_map.mp hx
    obtain ⟨y', _, rfl⟩ := List.mem_map.mp hy
    simp only [PySem.W.alike]
  · rw [← List.map_cons] at hx
    obtain ⟨x', _, rfl⟩ := List.mem_map.mp hx
    cases e
  · rw [← List.map_cons, depth_strs]
    have := hr.un
    omega
  · rw [minD_strs] at hrd
    cases hrd with
    | str _ t => exact ⟨.str _, H, I.kept hk, ⟨t, rfl⟩, q⟩
def gMin (l : List D) : Option D := match strsD l with
  | some (x :: xs) => some (.str (minS x xs))
  | _ => none
theorem minS_s {K : PySem.W.Frag} : ClS K (rMinS K) gMin := by
  intro P H a xs ds z Q s hr rr c q
  unfold gMin at c
  cases e : strsD ds with
  | none => rw [e] at c; cases c
  | some ys =>
    rw [e] at c
    cases ys with
    | nil => cases c
    | cons y ys =>
      cases c
      obtain ⟨h1, _⟩ := strs_of rr e
      subst h1
      exact ⟨a, y, ys, rfl, .inl hr, q P H _ (Ex.refl s) (.str _)⟩
theorem me_min {k : Nat} (hr : Room k X.A) (hc : X.calm = true) (hm : X.mg "min" = none) (ha : MB X ca W e ml) (hg : Gl X "min" := by rfl) (he : starEach [e] X.env = (false, eval e X.env) :: starEach [] X.env := by rfl) (hpl : (backTo pos (starEach [] X.env)).any (·.1) = false := by rfl) : ME X ca W (.Call (.Name "min" p) [e] [] pos) (mCL gMin ml) :=
  me_callBL (cr_minS hr) minS_s hm (by decide +kernel) ha hg (by decide) (by decide) he hpl
/-! ### sorted(a text) -/
theorem strs_signs {x : Str} : ∀ {l : List Value} {cs : List Nat}, l.length = cs.length → (∀ (i : Nat) (v : Value), l[i]? = some v → ∃ (c : Nat) (u : Tok), cs[i]? = some c ∧ v = .str ⟨#[c]⟩ u) → StrsAre l (cs.map fun c => ⟨#[c]⟩)
  | [], [], _, _ => .nil
  | v :: l, c :: cs, hl, h => by
    obtain ⟨c', u, h1, h2⟩ := h 0 v rfl
    cases h1
    subst h2
    exact .cons _ u (strs_signs (x := x) (by simpa using hl) fun i w hw => h (i + 1) w (by simpa using hw))
  | [], _ :: _, hl, _ => by simp at hl
  | _ :: _, [], hl, _ => by simp at hl
end
end PX
namespace PX
open PySem PySem.Spec PyProof.Rows L2 Sem Builtin
section
variable {X : Cx} {ca : EC → Addr} {W : WX} {pos : Pos} {e : Expr} {me : Rho → Res D} {p : Pos}
theorem cr_sortedX (hcalm : X.calm = true) : CallR X (.builtin "sorted") (fun xs H Q => ∃ z : Str, xs = [.str z] ∧ z.length ≤ sizeLine ∧ ∀ p, H p = none → Q (.ref p) (upd H p (.lst ((srt (z.cps.toList.map fun c => ⟨#[c]⟩)).map V.str)))) := by
  intro pins s σ H xs us Q I r ⟨z, ex, hz, q⟩
  subst ex
  obtain ⟨u, rfl, t, rfl⟩ := vals1 r
  refine Calls.call_function_entry kind_sorted plain_sorted entry_sorted (args_sorted1 _) ?_
  unfold Builtin.«sorted»
  refine wpAny_bind (m := checkCount "sorted" 1 1 _) (wpAny_pure (wpAny_bind (wpAny_collect_str (A := X.A.in1) (I.ok.hd hcalm) z t (fun s' acc hk hgen hdr hos hacc => ?_) hz)))
  obtain ⟨h', g', d', tk, os'⟩ := s'
  have hgen : g' = s.gens := hgen
  have hdr : d' = s.drawn := hdr
  have hos : os' = s.os := hos
  subst hgen hdr hos
  have hal : acc.toList.length = z.cps.toList.length := by rw [Array.length_toList, hacc.1, Array.length_toList]
  have hS : StrsAre acc.toList (z.cps.toList.map fun c => ⟨#[c]⟩) := strs_signs (x := z) hal fun j v e => by
    obtain ⟨c, u, h1, h2⟩ := hacc.2 j v (by rw [← Array.getElem?_toList]; exact e)
    exact ⟨c, u, by rw [Array.getElem?_toList]; exact h1, h2⟩
  have I1 : Inv X pins σ H { s with heap := h', toks := tk } := I.kept hk
  have hLs : acc.toList.length ≤ sizeLine := by rw [hal, Array.length_toList]; exact hz
  refine wpAny_bind (wpAny_newList ?_ hLs)
  have hoL : (h'.push (seqObj "list" acc.toList.toArray 0)).get? h'.objs.size = some (seqObj "list" acc.toList.toArray 0) := Heap.get?_push_size _ rfl
  refine wpAny_bind (wpAny_holding (wpAny_call_entry slot_list_sort ⟨_, hoL, rfl⟩ entry_list_sort (list_sort_treeKAny strKind_oneLt (s := { s with heap := h'.push (seqObj "list" acc.toList.toArray 0), toks := tk }) hoL hS.keysOf (fun v₁ v₂ rest e => keyKind_strs (by rw [← e]; exact hS)) hLs fun st' hp hs => ⟨_, rfl, ?_⟩) (args_list_sort _)))
  obtain ⟨ys, g1, g2, g3⟩ := sorted_out_str hS hp hs
  obtain ⟨e', he'⟩ := sortedHeap_at (vs := acc.toList) (out := (arrOf st').map (·.2)) hoL
  have hlen : (ys.map V.str).length ≤ sizeLine := by rw [List.length_map, g2.length_eq, List.length_map]; omega
  rw [srt_unique g2 g3] at g1 hlen
  refine wpAny_pure ⟨_, rfl, .ref h'.objs.size, upd H h'.objs.size (.lst ((srt (z.cps.toList.map fun c => (⟨#[c]⟩ : Str))).map V.str)), I1.laid (t' := tk) (fun b u e => ?_) (Nat.le_refl _) (show ObjOk X.prog X.w _ _ _ (.lst ((srt (z.cps.toList.map fun c => (⟨#[c]⟩ : Str))).map V.str)) from ⟨hlen, ((arrOf st').map (·.2)).toList, e', vals_of_strs g1, by rw [Array.toArray_toList]; exact he'⟩), rfl, q _ (I1.hok.fresh (Nat.le_refl _))⟩
  have hb := Heap.lt_size e
  rw [sortedHeap_old (Nat.ne_of_lt hb) (by rw [size_push']; exact Nat.lt_succ_of_lt hb)]
  exact Heap.get?_push_of_some _ e
def mSortStr (m : Rho → Res D) : Rho → Res (List D) := fun ρ => (m ρ).bind fun x => (Res.of (dStr x)).bind fun z => if z.length ≤ sizeLine then .ok ((srt (z.cps.toList.map fun c => (⟨#[c]⟩ : Str))).map .str) else .stk
theorem mf_sortedStr (hc : X.calm = true) (hm : X.mg "sorted" = none) (ha : ME X ca W e me) (hg : Gl X "sorted" := by rfl) (he : starEach [e] X.env = (false, eval e X.env) :: starEach [] X.env := by rfl) (hpl : (backTo pos (starEach [] X.env)).any (·.1) = false := by rfl) :
    MF X ca W (.Call (.Name "sorted" p) [e] [] pos) (mSortStr me) := by
  refine ⟨(pe_callB (cr_sortedX hc) hg hm boot_sorted (pa_cons ha.pe pa_nil he) (by decide) (by decide) he hpl).imp fun σ H Q ⟨H0, P0, P, ρ, er, h⟩ => tF_bind rfl er h fun P1 H1 x d e1 rx h1 => ?_⟩
  cases rx with
  | str z =>
    have h1 : (fun P H r => match r with
      | Res.ok l => ∀ P' H' a vs, Ex P H P' H' → H' a = none → DrAll X.K P' vs l → Q (.ref a) (upd H' a (.lst vs))
      | .er c => ∀ P' H', Ex P H P' H' → W (.ref (ca c)) none σ H'
      | .stk => False) P1 H1 (if z.length ≤ sizeLine then Res.ok ((srt (z.cps.toList.map fun c => (⟨#[c]⟩ : Str))).map PyData.str) else .stk) := h1
    by_cases hk : z.length ≤ sizeLine
    · rw [if_pos hk] at h1
      exact ⟨z, rfl, hk, fun p hp => h1 P1 H1 p _ (Ex.refl e1.ph) hp (drs_strs _)⟩
    · rw [if_neg hk] at h1; exact h1.elim
  | _ => exact h1.elim
end
end PX
/-! The plain layer, part 16: a, b, c = x, y, z. -/
namespace PX
open PySem PySem.Spec PyProof PyProof.Rows L2
section
variable {X : Cx} {ca : EC → Addr} {W : WX} {pos : Pos}
/-- three names at once: what is told to the right is stored from the right -/
def tTrip (i j k : Nat) (ta : TA) : TS := fun D σ H => ta σ H fun vs H1 => ∃ v w z, vs = [v, w, z] ∧ D.nx (((σ.set i (some v)).set j (some w)).set k (some z)) H1
theorem ps_trip {i j k : Nat} {x y n3 : Str} {a b c : Expr} {ta : TA} {px py pz pt : Pos} {kt k2 pt2} (hc : X.calm = true) (hN : X.N.Nodup) (hi : X.N[i]? = some x) (hj : X.N[j]? = some y) (hk : X.N[k]? = some n3) (hij : i ≠ j) (hik : i ≠ k) (hjk : j ≠ k)
    (hx : X.env.scope.names.lookup x = some .local) (hy : X.env.scope.names.lookup y = some .local) (hz : X.env.scope.names.lookup n3 = some .local) (ha : PA X [a, b, c] ta)
    (hw : swappedStores [.Tuple [.Name x px, .Name y py, .Name n3 pz] kt pt] (.Tuple [a, b, c] k2 pt2) X.env = pure (some [x, y, n3]))
    (hs : swapsWithSole [.Tuple [.Name x px, .Name y py, .Name n3 pz] kt pt] (.Tuple [a, b, c] k2 pt2) pos.line X.env = pure false := by rfl) :
    PS X (.Assign [.Tuple [.Name x px, .Name y py, .Name n3 pz] kt pt] (.Tuple [a, b, c] k2 pt2) pos) (tTrip i j k ta) := by
  refine ⟨fun pins s σ H D I h => ?_⟩
  rw [exec_Assign_arm]
  refine wpAny_bind (wpAny_standAt ?_)
  rw [hs]
  refine wpAny_bind (wpAny_pure ?_)
  rw [if_neg (by decide)]
  refine wpAny_bind (Tuple_ (thn (ha.run _ pins s σ H _ I h) fun us s1 ⟨vs, H1, I1, r1, v, w, z, e1, q1⟩ => ?_))
  subst e1
  obtain ⟨u1, u2, u3, rfl, rv, rw', rz⟩ : ∃ u1 u2 u3, us = [u1, u2, u3] ∧ RelV v u1 ∧ RelV w u2 ∧ RelV z u3 := by
    cases r1 with
    | cons p q =>
      cases q with
      | cons p' q' =>
        cases q' with
        | cons p'' q'' =>
          cases q''
          exact ⟨_, _, _, rfl, p, p', p''⟩
  refine wpAny_newObj_type ?_ (by show 3 ≤ sizeLine; decide)
  have I2 : Inv X pins σ H1 { s1 with heap := s1.heap.push { cls := .type "tuple", data := .seq [u1, u2, u3].toArray } } := I1.kept (t' := s1.toks) fun b o e => Heap.get?_push_of_some _ e
  rw [hw]
  refine wpAny_bind (wpAny_pure ?_)
  show wpAny (model X.prog X.w) X.A (do rule "assign.swapped-stores"; let items ← unpackItems (.ref s1.heap.objs.size) 3 none; assignInOrder [fun v => bindName X.env n3 v, fun v => bindName X.env y v, fun v => bindName X.env x v] items.reverse; pure Flow.next) _ _ _
  refine wpAny_bind (wpAny_rule (wpAny_bind (unpackItems_tuple (items := #[u1, u2, u3]) (I.ok.hd hc) (IsTup.new s1.heap _) fun h' hx' => ?_)))
  have I3 := I2.kept (h' := h') (t' := s1.toks) fun b o e => hx' b o (Nat.ne_of_lt (Heap.lt_size e)) e
  show wpAny _ _ (assignInOrder [fun v => bindName X.env n3 v, fun v => bindName X.env y v, fun v => bindName X.env x v] [u3, u2, u1] >>= fun _ => pure Flow.next) _ _ _
  refine wpAny_bind (assignInOrder_cons (wpAny_bindName (store_ok I3 hN hk (.inl hz) rz (fun s2 I4 => ?_) (.inr hz))))
  refine assignInOrder_cons (wpAny_bindName (store_ok I4 hN hj (.inl hy) rw' (fun s3 I5 => ?_) (.inr hy)))
  refine assignInOrder_cons (wpAny_bindName (store_ok I5 hN hi (.inl hx) rv (fun s4 I6 => assignInOrder_nil (wpAny_pure ?_)) (.inr hx)))
  rw [List.set_comm _ _ (Ne.symm hij), List.set_comm _ _ (Ne.symm hik), List.set_comm _ _ (Ne.symm hjk)] at I6
  exact ⟨_, H1, I6, q1⟩
def mTrip (i j k : Nat) (ms : Rho → Res (List D)) : Rho → Out := fun ρ => obind (ms ρ) ρ fun l => match l with
  | [a, b, c] => .nx (((ρ.set i (some (.val a))).set j (some (.val b))).set k (some (.val c)))
  | _ => .stk
theorem ms_trip {i j k : Nat} {x y n3 : Str} {a b c : Expr} {ms : Rho → Res (List D)} {px py pz pt : Pos} {kt k2 : Nat} {pt2 : Pos} (hc : X.calm = true) (hN : X.N.Nodup) (hi : X.N[i]? = some x) (hj : X.N[j]? = some y) (hk : X.N[k]? = some n3) (hij : i ≠ j) (hik : i ≠ k) (hjk : j ≠ k)
    (hx : X.env.scope.names.lookup x = some .local) (hy : X.env.scope.names.lookup y = some .local) (hz : X.env.scope.names.lookup n3 = some .local) (ha : MA X ca W [a, b, c] ms)
    (hw : swappedStores [.Tuple [.Name x px, .Name y py, .Name n3 pz] kt pt] (.Tuple [a, b, c] k2 pt2) X.env = pure (some [x, y, n3]) := by rfl)
    (hs : swapsWithSole [.Tuple [.Name x px, .Name y py, .Name n3 pz] kt pt] (.Tuple [a, b, c] k2 pt2) pos.line X.env = pure false := by rfl) :
    MS X ca W (.Assign [.Tuple [.Name x px, .Name y py, .Name n3 pz] kt pt] (.Tuple [a, b, c] k2 pt2) pos) (mTrip i j k ms) := by
  refine ⟨(ps_trip hc hN hi hj hk hij hik hjk hx hy hz ha.pa hw hs).imp fun D σ H ⟨H0, P0, P, ρ, er, h⟩ => tG_bindS er h fun P1 H1 vs ds e1 rv q => ?_⟩
  cases rv with
  | nil => exact q.elim
  | cons r1 rv =>
    cases rv with
    | nil => exact q.elim
    | cons r2 rv =>
      cases rv with
      | nil => exact q.elim
      | cons r3 rv =>
        cases rv with
        | cons _ _ => exact q.elim
        | nil => exact ⟨_, _, _, rfl, q P1 H1 _ (Same.refl _) ((((er.step e1).set r1).set r2).set r3)⟩
end
@[simp] theorem mTrip_ap (i j k : Nat) (ms : Rho → Res (List D)) (ρ : Rho) : mTrip i j k ms ρ = obind (ms ρ) ρ fun l => match l with
  | [a, b, c] => .nx (((ρ.set i (some (.val a))).set j (some (.val b))).set k (some (.val c)))
  | _ => .stk := rfl
end PX
/-! The plain layer, part 17: displays of dicts, d[k] += n. -/
namespace PX
open PySem PySem.Spec PyProof.Rows L2
/-- what stands in a display of texts and numbers -/
def kvV (kvs : List (Str × Int)) : List (Key × V) := kvs.map fun kv => (.inr kv.1, V.int kv.2)
def kvD (kvs : List (Str × Int)) : List (Str × D) := kvs.map fun kv => (kv.1, PyData.int kv.2)
theorem kv_rel {K : PySem.W.Frag} {P : Hp} : ∀ kvs : List (Str × Int), KVs K P (kvV kvs) (kvD kvs)
  | [] => .nil
  | kv :: r => .cons (.int kv.2) (kv_rel r)
theorem merge_new : ∀ (more acc : List (Str × Int)), ((acc ++ more).map (·.1)).Nodup → mergeK (kvV acc) (kvV more) = kvV (acc ++ more)
  | [], acc, _ => by rw [List.append_nil]; rfl
  | kv :: r, acc, h => by
    have e : putK (kvV acc) (.inr kv.1) (V.int kv.2) = kvV (acc ++ [kv]) := by
      unfold putK
      have : ((kvV acc).any fun x => decide (x.1 = .inr kv.1)) = false := by
        rw [List.any_eq_false]
        intro x hx
        obtain ⟨y, hy, rfl⟩ := List.mem_map.mp hx
        simp only [decide_eq_true_eq]
        intro z
        have z : y.1 = kv.1 := Sum.inr.inj z
        rw [List.map_append, List.nodup_append] at h
        exact h.2.2 y.1 (List.mem_map.mpr ⟨y, hy, rfl⟩) kv.1 (List.mem_map.mpr ⟨kv, List.mem_cons_self, rfl⟩) z
      rw [this]
      simp [kvV]
    show mergeK (putK (kvV acc) (.inr kv.1) (V.int kv.2)) (kvV r) = _
    rw [e, merge_new r (acc ++ [kv]) (by rw [List.append_assoc]; exact h), List.append_assoc]
    rfl
def mSetD (i : Nat) (kvs : List (Str × Int)) : Rho → Out := fun ρ => .nx (ρ.set i (some (.dct (kvD kvs))))
@[simp] theorem mSetD_ap (i : Nat) (kvs : List (Str × Int)) (ρ : Rho) : mSetD i kvs ρ = .nx (ρ.set i (some (.dct (kvD kvs)))) := rfl
/-- the pairs of a display, by texts and numbers -/
structure KvP (X : Cx) (pos : Pos) (keys : List (Option Expr)) (values : List Expr) (kvs : List (Str × Int)) : Prop where
  ok : ∃ trs, PPs X pos keys values trs ∧ ∀ (σ : L2.St) (H : Hp) (Q : List (V × V) → Hp → Prop), Q (kvs.map fun kv => (V.str kv.1, V.int kv.2)) H → tPairs trs σ H Q
section
variable {X : Cx} {ca : EC → Addr} {W : WX} {pos : Pos} {e v : Expr} {me mv : Rho → Res D}
theorem kv_nil : KvP X pos [] [] [] := ⟨[], pps_nil, fun _ _ _ h => h⟩
theorem kv_cons {x : Str} {n : Int} {j1 j2 : Nat} {p1 p2 : Pos} {ks : List (Option Expr)} {vs : List Expr} {kvs : List (Str × Int)} (h : KvP X pos ks vs kvs) : KvP X pos (some (.Constant (.str x) j1 p1) :: ks) (.Constant (.int n) j2 p2 :: vs) ((x, n) :: kvs) := by
  obtain ⟨trs, h1, h2⟩ := h.ok
  exact ⟨_, pps_cons pe_str pe_int h1, fun σ H Q q => h2 σ H _ q⟩
theorem ms_setDisp {i : Nat} {x : Str} {p dp : Pos} {keys : List (Option Expr)} {values : List Expr} {kvs : List (Str × Int)} (hN : X.N.Nodup) (hi : X.N[i]? = some x) (hx : Loc X.env.scope x) (hk : KvP X dp keys values kvs)
    (hnd : (kvs.map (·.1)).Nodup := by decide +kernel) (hall : keys.all (·.isSome) = true := by rfl) (hl : keys.length = values.length := by rfl) (h0 : keys ≠ [] := by simp) (h15 : keys.length ≤ 15 := by simp) (hkl : kvs.length ≤ 15 := by simp)
    (hf : X.fn x = true ∨ X.env.scope.names.lookup x = some .local := by first | exact .inl rfl | exact .inr rfl | assumption)
    (hs : swapsWithSole [.Name x p] (.Dict keys values dp) pos.line X.env = pure false := by rfl) (hw : swappedStores [.Name x p] (.Dict keys values dp) X.env = pure none := by rfl)
    (h1 : (assignEach [.Name x p] X.env).map (·.2) = [assign (.Name x p) X.env] := by rfl) : MS X ca W (.Assign [.Name x p] (.Dict keys values dp) pos) (mSetD i kvs) := by
  obtain ⟨trs, t1, t2⟩ := hk.ok
  refine ⟨(ps_asg (pe_disp t1 hall hl h0 h15) (pg_name hN hi hx hf) hs hw h1).imp fun D σ H ⟨H0, P0, P, ρ, er, h⟩ p hp => ?_⟩
  refine t2 _ _ _ ⟨upd_same, kvV kvs, ?_, by unfold kvV; rw [List.length_map]; exact hkl, ?_⟩
  · unfold kvV
    rw [List.map_map]
    rfl
  · rw [upd_upd]
    have hm : mergeK [] (kvV kvs) = kvV kvs := merge_new kvs [] (by rw [List.nil_append]; exact hnd)
    rw [hm]
    exact h P _ _ (Same.refl _) (er.setOwn hp rfl ⟨p, _, rfl, upd_same, Same.free er.sub hp, Same.free er.bs.hh hp, kv_rel kvs⟩)
theorem ms_daug {i k : Nat} {x : Str} {p tp : Pos} (hr : Room k X.A) (he : ME X ca W e me) (hv' : ME X ca W v mv) (hN : X.N[i]? = some x := by rfl) (hv : Vis X.env.scope x := by first | exact Or.inl rfl | exact Or.inr (Or.inl rfl) | exact Or.inr (Or.inr rfl)) (hd : (x == ("__debug__" : Str)) = false := by decide) (hcd : (x == ("__classdict__" : Str)) = false := by decide)
    (ha : ∀ ov iv new, augStore e ov iv new = (do holding [new, ov, iv] (setItem ov iv new); release [new, ov, iv] []; pure .next) := by intros; rfl) : MS X ca W (.AugAssign (.Subscript (.Name x p) e tp) .Add v pos) (mDAug dAddI i me mv) := by
  refine ⟨(ps_daug (Room.units1 hr) (pe_var hN hv hd hcd) he.pe hv'.pe in_add ha).imp fun D σ H ⟨H0, P0, P, ρ, er, h⟩ => ?_⟩
  unfold mDAug at h
  cases z : mDct i ρ with
  | ok kvs =>
    rw [z] at h
    obtain ⟨hρ, a, ws, hx, h1, h2, h3, h4⟩ := dct_slot er z
    refine ⟨_, hx, tG_bindS er h fun P1 H1 y d e1 ry h5 => ?_⟩
    obtain ⟨s, q, h5⟩ := tG_bindO h5
    obtain ⟨xd, qv, h5⟩ := tG_bindO h5
    rw [dStr_some q] at ry
    cases ry
    have h4' := h4.mono e1.pp
    rcases h4'.val (k := s) with ⟨w1, w2⟩ | ⟨v0, d0, w1, w2, w3⟩
    · rw [w2] at qv; cases qv
    · rw [w2] at qv
      cases qv
      refine ⟨a, v0, rfl, ?_, tG_bindS (er.step e1) h5 fun P2 H2 y2 d2 e2 ry2 h6 => ?_⟩
      · have := DGet.k (k := .inr s) (e1.hh _ _ h1)
        rw [w1] at this
        exact this
      · obtain ⟨zd, qz, h6⟩ := tG_bindO h6
        have w3' := Dr.mono w3 e2.pp
        cases xd with
        | int n =>
          cases d2 with
          | int m =>
            cases w3
            cases ry2
            cases qz
            by_cases hl : kvs.length < sizeLine
            · rw [if_pos hl] at h6
              have h4'' := h4'.mono e2.pp
              have h1' := e2.hh _ _ (e1.hh _ _ h1)
              have h2' := e2.fr a (by rw [e1.hh _ _ h1]; exact fun z => nomatch z) (e1.fr a (by rw [h1]; exact fun z => nomatch z) h2)
              refine ⟨n, m, rfl, rfl, _, DPut.k (k := .inr s) h1' (by rw [h4.len]; exact hl), h6 P2 _ _ (Same.refl _) (((er.step e1).step e2).write hρ rfl hx h2' h3 rfl ?_)⟩
              exact ⟨a, _, rfl, upd_same, h2', h3, h4''.put (.int _)⟩
            · rw [if_neg hl] at h6; exact h6.elim
          | _ => cases qz
        | _ => cases qz
  | er c => unfold mDct at z; split at z <;> cases z
  | stk => rw [z] at h; exact h.elim
end
end PX
/-! The plain layer, part 18: list.count. -/
namespace PX
open PySem PySem.Spec PyProof PyProof.Rows L2
def rCountV (K : PySem.W.Frag) : V → List V → Hp → VK → Prop := fun x xs H Q => ∃ (a : Addr) (ys : List V) (y : V), x = V.ref a ∧ xs = [y] ∧ SqL K H a ys ∧ flatV y = true ∧ ys.all flatV = true ∧ Q (.int ((ys.countP fun z => eqV z y : Nat) : Int)) H
section
variable {X : Cx}
theorem mt_countV : MtR X "list.count" (rCountV X.K) := by
  intro pins s σ H x xs v us Q I rx rxs h
  obtain ⟨a, ys, y, rfl, rfl, hs, fy, fys, q⟩ := h
  cases rx
  cases rxs with
  | cons ry rt =>
    rename_i uy ut
    cases rt
    obtain ⟨its, rv, ⟨⟨cls, dd, data, sl⟩, n, ho, hc, hdn, hd⟩, hlen⟩ := I.list hs
    simp only at hc hd
    subst hc hd
    have hcount : ∀ {ys : List V} {its : List Value}, Vals ys its → ys.all flatV = true → its.countP (eqU y) = ys.countP fun z => eqV z y := by
      intro ys its r
      induction r with
      | nil => intro _; rfl
      | cons h t ih =>
        intro f
        rw [List.all_cons, Bool.and_eq_true] at f
        rw [List.countP_cons, List.countP_cons, ih f.2, eqU_of h f.1]
    refine call_meets PySem.F.slot_list_count ⟨_, ho, rfl⟩ PySem.F.entry_list_count (PySem.F.args_list_count_2 _ _)
      (SeqAt.list_countAt a its.toArray n dd sl uy (eqU y)) ⟨ho, fun u' hu' => mem_eqAt ry fy rv fys u' (by simpa using hu'), ?_⟩
    refine ⟨.int ((ys.countP fun z => eqV z y : Nat) : Int), H, I.tok _, ⟨s.toks, ?_⟩, q⟩
    show Value.int ((its.toArray.toList.countP (eqU y) : Nat) : Int) s.toks = _
    rw [List.toList_toArray, hcount rv fys]
end
def gCountL (l : List D) : List D → Option D
  | [d] => if inOk d l = true then some (.int ((l.countP fun z => PyData.eqv z d : Nat) : Int)) else none
  | _ => none
theorem lcount_s {K : PySem.W.Frag} : MlS K (rCountV K) gCountL := by
  intro P H a vs l xs ds w Q s hr rr rx c q
  cases rx with
  | nil => cases c
  | @cons y _ d _ ry rest =>
    cases rest with
    | cons _ _ => cases c
    | nil =>
      have c : (if inOk d l = true then some (PyData.int ((l.countP fun z => PyData.eqv z d : Nat) : Int)) else none) = some w := c
      by_cases hk : inOk d l = true
      · rw [if_pos hk] at c
        cases c
        obtain ⟨f1, f2⟩ := Bool.and_eq_true_iff.mp hk
        refine ⟨a, vs, y, rfl, rfl, .inl hr, flat_of ry f1, flats_of rr f2, ?_⟩
        have e : (vs.countP fun z => eqV z y) = l.countP fun z => PyData.eqv z d := by
          have : ∀ {vs : List V} {l : List D}, DrAll K P vs l → l.all flatD = true → (vs.countP fun z => eqV z y) = l.countP fun z => PyData.eqv z d := by
            intro vs l
            induction l generalizing vs with
            | nil => intro r _; cases r; rfl
            | cons e t ih =>
              intro r f
              cases r with
              | cons h1 h2 =>
                rw [List.all_cons, Bool.and_eq_true] at f
                rw [List.countP_cons, List.countP_cons, ih h2 f.2, eqV_of h1 ry f.1 f1]
          exact this rr f2
        rw [e]
        exact q P H _ (Ex.refl s) (.int _)
      · rw [if_neg hk] at c; cases c
section
variable {X : Cx} {ca : EC → Addr} {W : WX} {pos : Pos} {e : Expr}
theorem me_lcount {o : Expr} {es : List Expr} {ml msl : Rho → Res (List D)} {apos : Pos} (ho : MB X ca W o ml) (ha : MA X ca W (e :: es) msl)
    (hbase : attributeBase o "count" X.env (eval o X.env) = eval o X.env := by rfl)
    (hfew : ((backTo pos (starEach (e :: es) X.env)).all (fun x => !x.1) && (backToKw pos (keywordEach [] X.env)).all (fun x => x.1.isSome) && decide ((e :: es).length + ([] : List Keyword).length + (if ([] : List Keyword).isEmpty then 0 else 1) < 30)) = true := by rfl)
    (hline : (apos.endLine == pos.line) = true := by rfl) (he : starEach (e :: es) X.env = (false, eval e X.env) :: starEach es X.env := by rfl) (hplain : (backTo pos (starEach es X.env)).any (·.1) = false := by rfl) :
    ME X ca W (.Call (.Attribute o "count" apos) (e :: es) [] pos) (mLM gCountL ml msl) := me_lm PySem.F.slot_list_count PySem.F.type_list_count mt_countV lcount_s ho ha hbase hfew hline he hplain
end
end PX
/-! The plain layer, part 19: the sum of a tuple. -/
namespace PX
open PySem PySem.Spec PyProof PyProof.Rows L2
def rSumT (K : PySem.W.Frag) : List V → Hp → VK → Prop := fun vs H Q => ∃ (a : Addr) (ns : List Int), vs = [V.ref a] ∧ SqT K H a (ns.map V.int) ∧ Q (.int ns.sum) H
theorem cr_sumT {X : Cx} (hc : X.calm = true) : CallR X (.builtin "sum") (rSumT X.K) := by
  intro pins s σ H vs us Q I r h
  obtain ⟨a, ns, rfl, hs, q⟩ := h
  obtain ⟨its, rv, ht, _⟩ := I.tuple hs
  rw [Vals.ref1 r]
  have hi := rv.ints
  obtain ⟨xs, e⟩ := hi.allInts.items
  have hn : numsOf (intItems xs).toList = ns := by rw [← e]; exact hi.numsOf
  rw [nums_intItems] at hn
  rw [e] at ht
  have ht2 : s.heap.IsTuple a (intItems xs) := by
    obtain ⟨o, e1, e2, n, e3⟩ := ht
    exact ⟨o, e1, e2, n, by first | exact e3 | exact e3.1 | exact e3.2⟩
  refine PySem.W.ktm_sumG (I.ok.hd hc) ht2 fun h' tk t' hk => ?_
  rw [preSum_eq, List.take_of_length_le (by simp), hn]
  exact ⟨.int _, H, I.kept hk, ⟨_, rfl⟩, q⟩
def gSumT : List D → Option D
  | [.tuple l] => gSum l
  | _ => none
theorem sqt_mono {K : PySem.W.Frag} {H H' : Hp} {a : Addr} {xs : List V} (e : Same H H') (h : SqT K H a xs) : SqT K H' a xs := by
  rcases h with h | h
  · exact .inl (rd_mono e h)
  · exact .inr h
theorem sumT_s {K : PySem.W.Frag} : CaS K (rSumT K) gSumT := by
  intro P H xs ds z Q s a c q
  cases a with
  | nil => cases c
  | @cons y _ d _ ry rest =>
    cases rest with
    | cons _ _ => cases d <;> cases c
    | nil =>
      cases d with
      | tuple l =>
        cases ry with
        | tup h1 h2 =>
          have c : (intsD l).map (fun ns => PyData.int ns.sum) = some z := c
          cases e : intsD l with
          | none => rw [e] at c; cases c
          | some ns =>
            rw [e] at c
            cases c
            have hx := ints_of h2 e
            subst hx
            exact ⟨_, ns, rfl, sqt_mono s h1, q P H _ (Ex.refl s) (.int _)⟩
      | _ => cases c
theorem boot_sumT : bootBuiltins "sum" = some (.builtin "sum") := by decide +kernel
end PX
/-! The plain layer, part 20: enumerate of a text. -/
namespace PX
open PySem PySem.Spec PyProof PyProof.Rows L2
/-- the signs of a text, each in a new pair with its place -/
def ItE (z : Str) : It :=
  ⟨fun i _ => ∃ c, z.cps[i]? = some c, fun i H v H' => ∃ T c, v = .ref T ∧ H T = none ∧ H' = upd H T (.tup [.int (i : Nat), .str ⟨#[c]⟩]) ∧ z.cps[i]? = some c, fun i _ => i = z.cps.size⟩
theorem turn_enumT {P : Program} {w : World} {K : PySem.W.Frag} {elts : List Expr} {kk : Nat} {tpos : Pos} (z : Str) (e it : Addr) :
    Turn P w K (.Tuple elts kk tpos) (ItE z) [e, it] e (fun i h => (∃ old, IsEnum h e it ((i : Nat) : Int) old) ∧ (∃ t, h.IsStrIter it (strIterType z) z t i) ∧ e ≠ it) where
  mem := by simp
  obj := fun i h st b hb => by
    obtain ⟨⟨old, he⟩, ⟨t, o, ho, hc, hd⟩, _⟩ := st
    have e' : b = e ∨ b = it := by simpa using hb
    rcases e' with q | q
    · rw [q]; exact ⟨_, he, fun v q => nomatch q⟩
    · rw [q]; exact ⟨o, ho, fun v q => by rw [hd] at q; cases q⟩
  keep := fun i h h' st k => by
    obtain ⟨⟨old, he⟩, ⟨t, o, ho, r⟩, hne⟩ := st
    exact ⟨⟨old, k e (by simp) _ he⟩, ⟨t, o, k it (by simp) o ho, r⟩, hne⟩
  item := by
    intro X hP hw hK hc i pins s σ H E I hf st hg
    subst hP hw hK
    obtain ⟨⟨old, he⟩, ⟨t, hit⟩, hne⟩ := st
    obtain ⟨c, hcz⟩ := hg
    have hlt : i < z.cps.size := by
      rcases Nat.lt_or_ge i z.cps.size with h | h
      · exact h
      · rw [Array.getElem?_eq_none h] at hcz; cases hcz
    have D := Draws.text (prog := X.prog) (w := X.w) (A := X.A.in1) (I.ok.hd hc) it z t
    have hel : e < s.heap.objs.size := Heap.lt_size he
    have hil : it < s.heap.objs.size := by obtain ⟨_, q, _⟩ := hit; exact Heap.lt_size q
    refine wpAny_pyNext_enum_itemD D he hit hlt hne (by simpa using hne) fun x h' tk hP ho hit' hT hsz hk => ?_
    obtain ⟨c', u, hc', rfl⟩ := hP
    rw [hcz] at hc'
    cases hc'
    refine ⟨_, rfl, wpAny_letOwnedTupleGo_enum (s := { s with heap := h', toks := tk + 1 }) ho fun h'' he' sb => ?_⟩
    have hT2 : h''.get? s.heap.objs.size = some { cls := .type "tuple", data := .seq #[.int i tk, .str ⟨#[c]⟩ u] } := (sb.2 _ (Nat.ne_of_gt hel)).trans hT
    have new : ObjOk X.prog X.w (upd H s.heap.objs.size (.tup [.int (i : Nat), .str ⟨#[c]⟩])) h'' s.heap.objs.size (.tup [.int (i : Nat), .str ⟨#[c]⟩]) :=
      ⟨by show 2 ≤ sizeLine; decide, [.int i tk, .str ⟨#[c]⟩ u], .cons ⟨_, rfl⟩ (.cons ⟨_, rfl⟩ .nil), ⟨_, hT2, rfl, _, rfl⟩⟩
    have I1 : Inv X pins σ (upd H s.heap.objs.size (.tup [.int (i : Nat), .str ⟨#[c]⟩])) { s with heap := h'', toks := tk + 1 } :=
      I.turnedNew (ch := [e, it]) (fun b ob hb q => (sb.2 b (fun z => hb (by simp [z]))).trans (hk b ob (fun z => hb (by simp [z])) (fun z => hb (by simp [z])) q)) hf (Nat.le_refl _) new
    refine ⟨.ref s.heap.objs.size, _, I1, rfl, ⟨_, c, rfl, I.hok.fresh (Nat.le_refl _), rfl, hcz⟩, ⟨⟨.str ⟨#[c]⟩ u, ?_⟩, ⟨t, ?_⟩, hne⟩, fun b hb => ?_⟩
    · have e1 : ((i + 1 : Nat) : Int) = (i : Int) + 1 := by omega
      rw [e1]; exact he'
    · obtain ⟨o, ho', r⟩ := hit'
      exact ⟨o, (sb.2 it (Ne.symm hne)).trans ho', r⟩
    · have hb' : b < s.heap.objs.size := by
        have e' : b = e ∨ b = it := by simpa using hb
        rcases e' with q | q
        · rw [q]; exact hel
        · rw [q]; exact hil
      rw [upd_ne (Nat.ne_of_lt hb')]
      exact (hf b hb).1
  done := by
    intro X hP hw hK hc i pins s σ H E I hf st hg
    subst hP hw hK
    obtain ⟨⟨old, he⟩, ⟨t, hit⟩, hne⟩ := st
    have hg : i = z.cps.size := hg
    subst hg
    have D := Draws.text (prog := X.prog) (w := X.w) (A := X.A.in1) (I.ok.hd hc) it z t
    obtain ⟨f0, f1, f2, f3, f4, f5⟩ := hf it (by simp)
    exact wpAny_pyNext_enum_endD D he hit fun h' eb => ⟨rfl, I.turned (t' := s.toks) (fun b o hb q => eb b o hb q) f0 f1 f3 f4 f5⟩
  self := fun A i s Q E st h => let ⟨⟨_, he⟩, _⟩ := st; wpAny_pyIter_enum he h
def iEnumT (ta : TA) : TI := fun σ H R => ta σ H fun vs H1 => ∃ z, vs = [.str z] ∧ R (ItE z) H1
theorem pi_enumT {X : Cx} {e : Expr} {ta : TA} {p pos tpos : Pos} {elts : List Expr} {kk : Nat} (hg : Gl X "enumerate") (hm : X.mg "enumerate" = none) (ha : PA X [e] ta) (hs : starEach [e] X.env = [(false, eval e X.env)] := by rfl) :
    PI X (.Tuple elts kk tpos) (.Call (.Name "enumerate" p) [e] [] pos) (iEnumT ta) := by
  refine ⟨fun pins s σ H R I h => ?_⟩
  refine Call_ (ld_blt I hg hm boot_enumerate (PyProof.Rows.callWith_type1 (thn (ha.run pos pins s σ H _ I h) fun us s1 ⟨vs, H1, I1, r1, q1⟩ => ?_) hs rfl))
  obtain ⟨z, ex, q⟩ := q1
  subst ex
  cases r1 with
  | cons r rr =>
    cases rr
    obtain ⟨t, rfl⟩ := r
    refine call_enumerate_str fun h' he hit hsz hk => wpAny_pyIter_enum he ?_
    have I2 : Inv X pins σ H1 { s1 with heap := h' } := I1.kept (t' := s1.toks) hk
    refine ⟨s1.heap.objs.size + 1, [s1.heap.objs.size + 1, s1.heap.objs.size], _, _, H1, rfl, I2, turn_enumT z (s1.heap.objs.size + 1) s1.heap.objs.size, ⟨⟨.none, he⟩, ⟨t, hit⟩, Nat.succ_ne_self _⟩, fun b hb => ?_, q⟩
    have e' : b = s1.heap.objs.size + 1 ∨ b = s1.heap.objs.size := by simpa using hb
    have hle : s1.heap.objs.size ≤ b := by
      rcases e' with q | q
      · rw [q]; exact Nat.le_add_right _ _
      · rw [q]; exact Nat.le_refl _
    exact I1.fpOk hle (I1.hok.fresh hle)
theorem it_enumT {K : PySem.W.Frag} {P : Hp} (z : Str) : ItOk K P (ItE z) (enumD (signs z)) := by
  have hl : (enumD (signs z)).length = z.cps.size := by simp [enumD, signs]
  refine ⟨fun _ => True, fun i H v H' => ∃ T c, v = .ref T ∧ H T = none ∧ H' = upd H T (.tup [.int (i : Nat), .str ⟨#[c]⟩]) ∧ z.cps[i]? = some c, ?_, fun _ _ _ _ => trivial, fun i P1 H1 x H2 hi s1 s2 y => ?_⟩
  · rw [hl]
    exact ⟨fun i _ hi _ => ⟨z.cps[i], by simp [hi]⟩, fun _ _ => rfl, fun _ _ _ _ _ _ y => y⟩
  · obtain ⟨T, c, rfl, hT, rfl, hc⟩ := y
    have ex := Ex.new (o := .tup [.int (i : Nat), .str ⟨#[c]⟩]) s2 hT
    have hg : (signs z)[i]? = some (.str ⟨#[c]⟩) := by simp [signs, hc]
    exact ⟨_, .tuple [.int (i : Nat), .str ⟨#[c]⟩], ex, by simp [enumD, hg], .tup (SqT.of upd_same) (.cons (.int _) (.cons (.str _) .nil))⟩
def mEnumT (m : Rho → Res D) : Rho → Res (List D) := fun ρ => (m ρ).bind fun x => (Res.of (dStr x)).bind fun z => .ok (enumD (signs z))
@[simp] theorem mEnumT_ap {m : Rho → Res D} {ρ : Rho} : mEnumT m ρ = (m ρ).bind fun x => (Res.of (dStr x)).bind fun z => .ok (enumD (signs z)) := rfl
section
variable {X : Cx} {ca : EC → Addr} {W : WX} {pos : Pos} {e : Expr} {me : Rho → Res D}
theorem mi_enumT {elts : List Expr} {kk : Nat} {tpos p : Pos} (hm : X.mg "enumerate" = none) (ha : ME X ca W e me) (hg : Gl X "enumerate" := by rfl) (hs : starEach [e] X.env = [(false, eval e X.env)] := by rfl) (he : starEach [e] X.env = (false, eval e X.env) :: starEach [] X.env := by rfl) :
    MI X ca W (.Tuple elts kk tpos) (.Call (.Name "enumerate" p) [e] [] pos) (mEnumT me) := by
  refine ⟨PIimp (pi_enumT hg hm (pa_cons ha.pe pa_nil he) hs) fun σ H R ⟨H0, P0, P, ρ, er, q⟩ => tI_bind er q fun P1 H1 x d e1 r q => ?_⟩
  cases z : dStr d with
  | none => rw [z] at q; exact q.elim
  | some s =>
    rw [z] at q
    rw [dStr_some z] at r
    cases r
    exact ⟨s, rfl, q P1 H1 _ (Ex.refl e1.ph) (it_enumT s)⟩
end
section
variable {P : Program} {w : World} {K : PySem.W.Frag} {mg : Str → Option Value} {base : Heap} {ca : EC → Addr}
/-- a def that is asked no more: a mirror that is stuck -/
theorem fn_nev {x : Str} {params : Arguments} {body : List Stmt} {scope : Scope} {f : Addr} {fd : FuncData} {N ps : List Str} {k : Nat} (F : FunD K x x params body scope [] [] f fd) (hm : mg x = some (.ref f)) (S : FnScope N ps scope)
    (bnd : ∀ (kV doc pm : Value) (an : Option Addr) (cdv ct : Value) (us : List Value), us.length = ps.length → bindArgs (PySem.W.fnOf x x params body scope .none kV doc pm an cdv ct) ⟨us, []⟩ = pure (ps.zip us)) : FnM P w K mg base ca x (k + 1) ps (fun _ => .stk) := by
  have := fn_ok (P := P) (w := w) (base := base) (ca := ca) (k := k) (m := fun _ => .stk) F hm S bnd fun _ _ _ _ _ _ _ _ _ => mss_nev
  exact this
end
end PX
/-! The plain layer, part 21: a, b = [..], y, the list one's own. -/
namespace PX
open PySem PySem.Spec PyProof.Rows L2
def mParF (i j : Nat) (ml : Rho → Res (List D)) (mb : Rho → Res D) : Rho → Out := fun ρ => obind (ml ρ) ρ fun l => obind (mb ρ) ρ fun d => .nx ((ρ.set i (some (.own l))).set j (some (.val d)))
@[simp] theorem mParF_ap (i j : Nat) (ml : Rho → Res (List D)) (mb : Rho → Res D) (ρ : Rho) : mParF i j ml mb ρ = obind (ml ρ) ρ fun l => obind (mb ρ) ρ fun d => .nx ((ρ.set i (some (.own l))).set j (some (.val d))) := rfl
section
variable {X : Cx} {ca : EC → Addr} {W : WX} {pos : Pos}
/-- two names at once, of which one may be read by a comprehension -/
theorem ps_parL {i j : Nat} {x y : Str} {a b : Expr} {ta : TA} {px py pt : Pos} {kt k2 pt2} (hc : X.calm = true) (hN : X.N.Nodup) (hi : X.N[i]? = some x) (hj : X.N[j]? = some y) (hij : i ≠ j)
    (hx : Loc X.env.scope x) (hy : Loc X.env.scope y) (fx : X.fn x = true ∨ X.env.scope.names.lookup x = some .local) (fy : X.fn y = true ∨ X.env.scope.names.lookup y = some .local) (ha : PA X [a, b] ta)
    (hw : swappedStores [.Tuple [.Name x px, .Name y py] kt pt] (.Tuple [a, b] k2 pt2) X.env = pure (some [x, y]))
    (hs : swapsWithSole [.Tuple [.Name x px, .Name y py] kt pt] (.Tuple [a, b] k2 pt2) pos.line X.env = pure false := by rfl) :
    PS X (.Assign [.Tuple [.Name x px, .Name y py] kt pt] (.Tuple [a, b] k2 pt2) pos) (tPar i j ta) := by
  refine ⟨fun pins s σ H D I h => ?_⟩
  rw [exec_Assign_arm]
  refine wpAny_bind (wpAny_standAt ?_)
  rw [hs]
  refine wpAny_bind (wpAny_pure ?_)
  rw [if_neg (by decide)]
  refine wpAny_bind (Tuple_ (thn (ha.run _ pins s σ H _ I h) fun us s1 ⟨vs, H1, I1, r1, v, w, e1, q1⟩ => ?_))
  subst e1
  obtain ⟨u1, u2, rfl, rv, rw'⟩ : ∃ u1 u2, us = [u1, u2] ∧ RelV v u1 ∧ RelV w u2 := by
    cases r1 with
    | cons p q =>
      cases q with
      | cons p' q' =>
        cases q'
        exact ⟨_, _, rfl, p, p'⟩
  refine wpAny_newObj_type ?_ (by show 2 ≤ sizeLine; decide)
  have I2 : Inv X pins σ H1 { s1 with heap := s1.heap.push { cls := .type "tuple", data := .seq [u1, u2].toArray } } := I1.kept (t' := s1.toks) fun b o e => Heap.get?_push_of_some _ e
  rw [hw]
  refine wpAny_bind (wpAny_pure ?_)
  show wpAny (model X.prog X.w) X.A (do rule "assign.swapped-stores"; let items ← unpackItems (.ref s1.heap.objs.size) 2 none; assignInOrder [fun v => bindName X.env y v, fun v => bindName X.env x v] items.reverse; pure Flow.next) _ _ _
  refine wpAny_bind (wpAny_rule (wpAny_bind (unpackItems_tuple (items := #[u1, u2]) (I.ok.hd hc) (IsTup.new s1.heap _) fun h' hx' => ?_)))
  have I3 := I2.kept (h' := h') (t' := s1.toks) fun b o e => hx' b o (Nat.ne_of_lt (Heap.lt_size e)) e
  show wpAny _ _ (assignInOrder [fun v => bindName X.env y v, fun v => bindName X.env x v] [u2, u1] >>= fun _ => pure Flow.next) _ _ _
  refine wpAny_bind (assignInOrder_cons (wpAny_bindName (store_ok I3 hN hj hy rw' (fun s2 I4 => ?_) fy)))
  refine assignInOrder_cons (wpAny_bindName (store_ok I4 hN hi hx rv (fun s3 I5 => assignInOrder_nil (wpAny_pure ?_)) fx))
  rw [List.set_comm _ _ (Ne.symm hij)] at I5
  exact ⟨_, H1, I5, q1⟩
theorem ms_parF {i j : Nat} {x y : Str} {a b : Expr} {ml : Rho → Res (List D)} {mb : Rho → Res D} {px py pt : Pos} {kt k2 : Nat} {pt2 : Pos} (hc : X.calm = true) (hN : X.N.Nodup) (hi : X.N[i]? = some x) (hj : X.N[j]? = some y) (hij : i ≠ j)
    (hx : Loc X.env.scope x) (hy : Loc X.env.scope y) (ha : MF X ca W a ml) (hb : ME X ca W b mb)
    (fx : X.fn x = true ∨ X.env.scope.names.lookup x = some .local := by first | exact .inl rfl | exact .inr rfl) (fy : X.fn y = true ∨ X.env.scope.names.lookup y = some .local := by first | exact .inl rfl | exact .inr rfl)
    (hw : swappedStores [.Tuple [.Name x px, .Name y py] kt pt] (.Tuple [a, b] k2 pt2) X.env = pure (some [x, y]) := by rfl)
    (hs : swapsWithSole [.Tuple [.Name x px, .Name y py] kt pt] (.Tuple [a, b] k2 pt2) pos.line X.env = pure false := by rfl)
    (s1 : starEach [a, b] X.env = (false, eval a X.env) :: starEach [b] X.env := by rfl) (s2 : starEach [b] X.env = (false, eval b X.env) :: starEach [] X.env := by rfl) :
    MS X ca W (.Assign [.Tuple [.Name x px, .Name y py] kt pt] (.Tuple [a, b] k2 pt2) pos) (mParF i j ml mb) := by
  refine ⟨(ps_parL hc hN hi hj hij hx hy fx fy (pa_cons ha.pe (pa_cons hb.pe pa_nil s2) s1) hw hs).imp fun D σ H ⟨H0, P0, P, ρ, er, h⟩ => ?_⟩
  show tF X.K ca W ml σ H (fun u H1 => tG X.K (rD X.K) ca W mb σ H1 fun z H2 => ∃ v w, [u, z] = [v, w] ∧ D.nx ((σ.set i (some v)).set j (some w)) H2)
  refine tF_bindS er h fun P1 H1 q vs l e1 hn rv h1 => ?_
  refine tG_bindS (er.step (e1.trans (Ex.out e1.ph hn (o := .lst vs)))) h1 fun P2 H2 z d e2 rz h2 => ?_
  exact ⟨_, _, rfl, h2 P2 H2 _ (Same.refl _) ((((er.step e1).setOwn hn rfl (own_rs (er.step e1) hn rv)).step e2).set rz)⟩
/-- the same where the pair is laid and taken apart -/
theorem ms_parC {i j : Nat} {x y : Str} {a b : Expr} {ml : Rho → Res (List D)} {mb : Rho → Res D} {px py pt : Pos} {kt k2 : Nat} {pt2 : Pos} (hc : X.calm = true) (hN : X.N.Nodup) (hi : X.N[i]? = some x) (hj : X.N[j]? = some y)
    (hx : Loc X.env.scope x) (hy : Loc X.env.scope y) (ha : MF X ca W a ml) (hb : ME X ca W b mb)
    (fx : X.fn x = true ∨ X.env.scope.names.lookup x = some .local := by first | exact .inl rfl | exact .inr rfl) (fy : X.fn y = true ∨ X.env.scope.names.lookup y = some .local := by first | exact .inl rfl | exact .inr rfl)
    (hw : swappedStores [.Tuple [.Name x px, .Name y py] kt pt] (.Tuple [a, b] k2 pt2) X.env = pure none := by rfl)
    (hs : swapsWithSole [.Tuple [.Name x px, .Name y py] kt pt] (.Tuple [a, b] k2 pt2) pos.line X.env = pure false := by rfl)
    (h1 : (assignEach [.Tuple [.Name x px, .Name y py] kt pt] X.env).map (·.2) = [assign (.Tuple [.Name x px, .Name y py] kt pt) X.env] := by rfl)
    (s1 : starEach [a, b] X.env = (false, eval a X.env) :: starEach [b] X.env := by rfl) (s2 : starEach [b] X.env = (false, eval b X.env) :: starEach [] X.env := by rfl) :
    MS X ca W (.Assign [.Tuple [.Name x px, .Name y py] kt pt] (.Tuple [a, b] k2 pt2) pos) (mParF i j ml mb) := by
  have hp := pe_tup (X := X) (pos := pt2) (x1 := k2) (pa_cons ha.pe (pa_cons hb.pe pa_nil s2) s1)
  have hg : PG X (.Tuple [.Name x px, .Name y py] kt pt) (gTup X.K 2 (gCons (gName i) (gCons (gName j) gNil))) := pg_tup hc (pgs_cons (pg_name hN hi hx fx) (pgs_cons (pg_name hN hj hy fy) pgs_nil))
  refine ⟨(ps_asg hp hg hs hw h1).imp fun D σ H ⟨H0, P0, P, ρ, er, h⟩ => ?_⟩
  show tF X.K ca W ml σ H (fun u H1 => tG X.K (rD X.K) ca W mb σ H1 fun z H2 => ([u, z] : List V).length ≤ sizeLine ∧ ∀ p, H2 p = none → gTup X.K 2 (gCons (gName i) (gCons (gName j) gNil)) (.ref p) σ (upd H2 p (.tup [u, z])) D.nx)
  refine tF_bindS er h fun P1 H1 q vs l e1 hn rv h1 => ?_
  refine tG_bindS (er.step (e1.trans (Ex.out e1.ph hn (o := .lst vs)))) h1 fun P2 H2 z d e2 rz h2 => ?_
  have er2 := ((((er.step e1).setOwn (i := i) hn rfl (own_rs (er.step e1) hn rv)).step e2).set (i := j) rz)
  refine ⟨by show 2 ≤ sizeLine; decide, fun p hp => ?_⟩
  have ex := Ex.out (o := .tup [V.ref q, z]) e2.ph hp
  exact ⟨p, _, rfl, SqT.of upd_same, rfl, _, _, rfl, _, _, rfl, rfl, h2 P2 _ _ (Same.refl _) (er2.step ex)⟩
end
end PX
/-! The plain layer, part 22: int(x) of a text too. -/
namespace PX
open PySem PySem.Spec PyProof.Rows L2
section
variable {X : Cx} {ca : EC → Addr} {W : WX} {pos : Pos} {e : Expr} {me : Rho → Res D} {p : Pos}
theorem call_intS : CallR X (.type "int") (fun xs H Q => ∃ (z : Str) (n : Int), xs = [.str z] ∧ PySem.intText? z = some n ∧ z.length ≤ 640 ∧ Q (.int n) H) := by
  intro pins s σ H xs us Q I r h
  obtain ⟨z, n, rfl, h1, h2, q⟩ := h
  obtain ⟨u, rfl, t, rfl⟩ := vals1 r
  exact PySem.W.KIN.call_text h1 h2 ⟨.int n, H, I.tok _, ⟨_, rfl⟩, q⟩
/-- int(x): of ints, of truths, of short texts that are numbers -/
def dIntS : D → Option D
  | .int i => some (.int i)
  | .bool b => some (.int (if b then 1 else 0))
  | .str z => if z.length ≤ 640 then (PySem.intText? z).map .int else none
  | _ => none
@[simp] theorem dIntS_int (i : Int) : dIntS (.int i) = some (.int i) := rfl
theorem me_intS (hm : X.mg "int" = none) (ha : ME X ca W e me) (hg : Gl X "int" := by rfl) (he : starEach [e] X.env = (false, eval e X.env) :: starEach [] X.env := by rfl) (hpl : (backTo pos (starEach [] X.env)).any (·.1) = false := by rfl) :
    ME X ca W (.Call (.Name "int" p) [e] [] pos) (mUn dIntS me) := by
  refine ⟨(pe_callTy (CallR.or' call_int1 call_intS) hg hm (by decide +kernel) (pa_cons ha.pe pa_nil he) (by decide) (by decide) he hpl).imp fun σ H Q ⟨H0, P0, P, ρ, er, h⟩ => tG_bind er h fun P1 H1 x d e1 rx h1 => ?_⟩
  cases rx with
  | int i => exact .inl (.inl ⟨i, rfl, h1 P1 H1 _ (Ex.refl e1.ph) (.int _)⟩)
  | bl b => exact .inl (.inr ⟨b, rfl, h1 P1 H1 _ (Ex.refl e1.ph) (.int _)⟩)
  | str z =>
    by_cases hz : z.length ≤ 640
    · cases hn : PySem.intText? z with
      | none =>
        have : dIntS (.str z) = none := by show (if z.length ≤ 640 then (PySem.intText? z).map PyData.int else none) = none; rw [if_pos hz, hn]; rfl
        rw [this] at h1
        exact h1.elim
      | some n =>
        have : dIntS (.str z) = some (.int n) := by show (if z.length ≤ 640 then (PySem.intText? z).map PyData.int else none) = _; rw [if_pos hz, hn]; rfl
        rw [this] at h1
        exact .inr ⟨z, n, rfl, hn, hz, h1 P1 H1 _ (Ex.refl e1.ph) (.int _)⟩
    · have : dIntS (.str z) = none := if_neg hz
      rw [this] at h1
      exact h1.elim
  | _ => exact h1.elim
end
end PX
/-! The plain layer, part 23: dict(list of pairs). -/
namespace PX
open PySem PySem.Spec PyProof.Rows L2
def pairsD : List D → Option (List (Str × D))
  | [] => some []
  | .tuple [.str k, v] :: r => (pairsD r).bind fun kvs => some ((k, v) :: kvs)
  | _ :: _ => none
def mergeD (acc : List (Str × D)) (kvs : List (Str × D)) : List (Str × D) := kvs.foldl (fun a kv => putD a kv.1 kv.2) acc
def mSetDP (i : Nat) (m : Rho → Res (List D)) : Rho → Out := fun ρ => obind (m ρ) ρ fun l => obind (Res.of (pairsD l)) ρ fun kvs => .nx (ρ.set i (some (.dct (mergeD [] kvs))))
@[simp] theorem mSetDP_ap (i : Nat) (m : Rho → Res (List D)) (ρ : Rho) : mSetDP i m ρ = obind (m ρ) ρ fun l => obind (Res.of (pairsD l)) ρ fun kvs => .nx (ρ.set i (some (.dct (mergeD [] kvs)))) := rfl
section
variable {K : PySem.W.Frag} {P : Hp}
theorem pairs_of : ∀ {l : List D} {vs : List V} {kvs : List (Str × D)}, DrAll K P vs l → pairsD l = some kvs →
    ∃ (ps : List Addr) (ws : List (Key × V)), vs = ps.map V.ref ∧ Paired (fun p kv => SqT K P p [kV kv.1, kv.2]) ps ws ∧ KVs K P ws kvs
  | [], _, _, .nil, e => by cases e; exact ⟨[], [], rfl, .nil, .nil⟩
  | d :: r, _, kvs, .cons h t, e => by
    unfold pairsD at e
    split at e
    · cases e; rename_i q; cases q
    · rename_i k v r' q
      cases q
      cases z : pairsD r with
      | none => rw [z] at e; cases e
      | some kvs' =>
        rw [z] at e
        cases e
        obtain ⟨ps, ws, e1, e2, e3⟩ := pairs_of t z
        cases h with
        | @tup a xs ds q1 q2 =>
          cases q2 with
          | cons h1 h2 =>
            cases h2 with
            | cons h3 h4 =>
              cases h4
              cases h1
              exact ⟨a :: ps, (.inr k, _) :: ws, by rw [e1]; rfl, .cons q1 e2, .cons h3 e3⟩
    · cases e
theorem kvs_merge : ∀ {kvs : List (Str × D)} {ws : List (Key × V)} {ws' : List (Key × V)} {kvs' : List (Str × D)}, KVs K P ws kvs → KVs K P ws' kvs' → KVs K P (mergeK ws' ws) (mergeD kvs' kvs)
  | [], _, _, _, .nil, h' => h'
  | (k, d) :: kvs, _, ws', kvs', .cons (v := v) (ws := ws) h t, h' => by
    show KVs K P (mergeK (putK ws' (.inr k) v) ws) (mergeD (putD kvs' k d) kvs)
    exact kvs_merge t (h'.put h)
end
section
variable {X : Cx} {ca : EC → Addr} {W : WX} {pos : Pos} {e : Expr} {ml : Rho → Res (List D)}
theorem ms_setDP {i : Nat} {x : Str} {p p2 dp : Pos} (hN : X.N.Nodup) (hi : X.N[i]? = some x) (hx : Loc X.env.scope x) (hc : X.calm = true) (hm : X.mg "dict" = none) (hb : MB X ca W e ml)
    (hf : X.fn x = true ∨ X.env.scope.names.lookup x = some .local := by first | exact .inl rfl | exact .inr rfl | assumption) (hg : Gl X "dict" := by rfl)
    (he : starEach [e] X.env = (false, eval e X.env) :: starEach [] X.env := by rfl) (hpl : (backTo dp (starEach [] X.env)).any (·.1) = false := by rfl)
    (hs : swapsWithSole [.Name x p] (.Call (.Name "dict" p2) [e] [] dp) pos.line X.env = pure false := by rfl) (hw : swappedStores [.Name x p] (.Call (.Name "dict" p2) [e] [] dp) X.env = pure none := by rfl)
    (h1 : (assignEach [.Name x p] X.env).map (·.2) = [assign (.Name x p) X.env] := by rfl) : MS X ca W (.Assign [.Name x p] (.Call (.Name "dict" p2) [e] [] dp) pos) (mSetDP i ml) := by
  refine ⟨(ps_asg (pe_callTy (call_dictP hc) hg hm (by decide +kernel) (pa_cons hb.pe pa_nil he) (by decide) (by decide) he hpl) (pg_name hN hi hx hf) hs hw h1).imp fun D σ H ⟨H0, P0, P, ρ, er, h⟩ => tG_bindS er h fun P1 H1 x l e1 rx h1 => ?_⟩
  obtain ⟨a, vs, rfl, sq, rr⟩ := rx
  obtain ⟨kvs, q, h1⟩ := tG_bindO h1
  obtain ⟨ps, ws, rfl, h2, h3⟩ := pairs_of rr q
  refine ⟨a, ps, ws, rfl, .inl sq, h2.mono fun p kv z => seqT_mono e1.ph z, fun p hp => ?_⟩
  have er1 := er.step e1
  exact h1 P1 _ _ (Same.refl _) (er1.setOwn hp rfl ⟨p, _, rfl, upd_same, Same.free er1.sub hp, Same.free er1.bs.hh hp, kvs_merge h3 .nil⟩)
end
end PX
/-! The plain layer, part 24: the module's own tuples of texts. -/
namespace PX
open PySem PySem.Spec PyProof.Rows L2
/-- the module's name x is a tuple of these texts -/
def GTup (K : PySem.W.Frag) (mg : Str → Option Value) (x : Str) (zs : List Str) : Prop := ∃ a, mg x = some (.ref a) ∧ ∀ H : Hp, SqT K H a (zs.map V.str)
section
variable {X : Cx} {ca : EC → Addr} {W : WX} {pos : Pos}
theorem me_gtup {x : Str} {zs : List Str} {ds : List D} (hm : GTup X.K X.mg x zs) (hz : zs.map PyData.str = ds := by rfl) (hg : Gl X x := by rfl) (hd : (x == ("__debug__" : Str)) = false := by decide) : ME X ca W (.Name x pos) (mC (.tuple ds)) := by
  subst hz
  obtain ⟨a, hm, hq⟩ := hm
  exact me_c (v := .ref a) (pe_glob hg hm rfl hd) fun P => .tup (hq P) (drs_strs zs)
end
end PX
/-! The plain layer, part 25: a tuple taken once or more. -/
namespace PX
open PySem PySem.Spec PyProof.Rows L2
theorem tuple_mul_one (l : Addr) (its : Array Value) (n : Nat) (dd : Option Addr) (sl : Array (Option Value)) (u : Tok) :
    Meets (Builtin.«tuple.__mul__» ⟨[.ref l, .int 1 u], []⟩) (fun _ R s => s.heap.get? l = some { cls := .type "tuple", dict := dd, data := .seq its n, slots := sl } ∧ R (.ok (.ret (Value.ref l))) s) :=
  .of_wp fun prog w A R s h => by
    obtain ⟨hp, g, d, tk, os⟩ := s
    obtain ⟨hl, h⟩ := h
    have f1 := AutoSeq1.idx_int
    wp_walk using wpAny_loadPart' hl
    exact ⟨_, rfl, h⟩
def rOnceT (K : PySem.W.Frag) : R2 := fun x y H Q => ∃ l xs, x = .ref l ∧ y = .int 1 ∧ SqT K H l xs ∧ Q (.ref l) H
theorem op_onceT {X : Cx} : OpR X (binaryOp .Mult) (rOnceT X.K) := by
  intro pins s σ H x y v u Q I rx ry h
  obtain ⟨l, xs, rfl, rfl, hT, q⟩ := h
  cases rx
  obtain ⟨t, rfl⟩ := ry
  obtain ⟨its, r, ⟨⟨cls, dd, data, sl⟩, ho, hc, n, hd⟩, hs⟩ := I.tuple hT
  simp only at hc hd
  subst hc hd
  exact wpAny_binaryOp_repeat_ref (T := "tuple") (U := "int") (by decide) ⟨_, ho, rfl⟩ (fun s' => typeIs_int s' 1 t) noFill_tuple_mul F.fills_int_mul F.slot_int_rmul repeat_tuple F.slot_int_index.lookup
    (call_meets F.slot_int_rmul (typeIs_int s 1 t) F.entry_int_rmul (F.args_int_rmul_2 _ _) (int_rmul_tuple 1 t l its.toArray n dd sl)
      ⟨ho, rfl, ⟨_, ho, rfl⟩, call_meets F.slot_tuple_mul ⟨_, ho, rfl⟩ F.entry_tuple_mul (F.args_tuple_mul_2 _ _) (tuple_mul_one l its.toArray n dd sl t) ⟨ho, ⟨.ref l, H, I.tok _, rfl, q⟩⟩⟩)
def dMulT : D → D → Option D
  | .tuple xs, .int k => if xs ≠ [] ∧ 1 ≤ k ∧ k ≤ 1000 ∧ xs.length ≤ 1000 then some (.tuple (List.replicate k.toNat xs).flatten) else none
  | _, _ => none
theorem op_mulB {X : Cx} : OpR X (binaryOp .Mult) (fun x y H Q => rRepT X.K x y H Q ∨ rOnceT X.K x y H Q) := op_repT.or op_onceT
theorem mulB_s {K : PySem.W.Frag} : OpS K (fun x y H Q => rRepT K x y H Q ∨ rOnceT K x y H Q) dMulT := by
  intro P H x y d e z Q s a b c q
  cases a with
  | @tup l vs ds q1 q2 =>
    cases b with
    | int k =>
      obtain ⟨⟨h1, h2, h3, h4⟩, rfl⟩ := if_some c
      by_cases hk : k = 1
      · subst hk
        refine .inr ⟨l, vs, rfl, rfl, seqT_mono s q1, q P H _ (Ex.refl s) ?_⟩
        have : (List.replicate (1 : Int).toNat ds).flatten = ds := by simp
        rw [this]
        exact .tup q1 q2
      · refine .inl ⟨l, k, vs, rfl, rfl, seqT_mono s q1, fun z => h1 (by subst z; cases q2; rfl), by omega, h3, by rw [dps_length q2]; exact h4, fun p hp => ?_⟩
        have sp := same_upd (o := .tup (List.replicate k.toNat vs).flatten) (Same.free s hp)
        exact q _ _ _ (Ex.new s hp) (.tup (SqT.of upd_same) ((drs_rep q2 _).mono sp))
    | _ => cases c
  | _ => cases b <;> cases c
end PX
/-! The plain layer, part 26: len(set(list of texts)). -/
namespace PX
open PySem PySem.Spec PyProof.Rows L2
def ddS (acc : List Str) (x : Str) : List Str := if acc.any (· == x) = true then acc else acc ++ [x]
/-- the texts, each once -/
def ddp (l : List Str) : List Str := l.foldl ddS []
theorem ddp_app (l : List Str) (x : Str) : ddp (l ++ [x]) = ddS (ddp l) x := by unfold ddp; rw [List.foldl_append]; rfl
theorem ddS_any (acc : List Str) (x y : Str) : (ddS acc x).any (· == y) = (acc.any (· == y) || decide (y = x)) := by
  unfold ddS
  by_cases h : acc.any (· == x) = true
  · rw [if_pos h]
    by_cases e : y = x
    · subst e; rw [h]; simp
    · simp [e]
  · rw [if_neg h, List.any_append]
    by_cases e : y = x
    · subst e; simp
    · have : (x == y) = false := beq_eq_false_iff_ne.mpr fun z => e z.symm
      simp [this, e]
theorem ddS_len (acc : List Str) (x : Str) : (ddS acc x).length = if acc.any (· == x) = true then acc.length else acc.length + 1 := by
  unfold ddS; split <;> simp
theorem ddp_le : ∀ (l acc : List Str), (l.foldl ddS acc).length ≤ acc.length + l.length
  | [], acc => Nat.le_refl _
  | x :: l, acc => by
    have := ddp_le l (ddS acc x)
    rw [List.foldl_cons, List.length_cons]
    have h := ddS_len acc x
    split at h <;> omega
abbrev newSet (led : Bool) : Obj := { cls := .type "set", dict := none, data := .set #[] 0 (.fresh 0 0 led) }
section
variable {prog : Program} {w : World} {A : Around} {R : Result → Shared → Prop} {I : Addr} {fp wr : List Addr} {G : Array GenState → Array GenState → Prop} {n : Nat} {P : Nat → Value → Prop} {St : Nat → Shared → Prop}
/-- the texts at hand as a set -/
abbrev SetHas (prog : Program) (w : World) (h : Heap) (S : Addr) (l : List Str) : Prop := h.SetOf (PySem.strKind prog w) S (fun y => (ddp l).any (· == y)) (ddp l).length
theorem fill_txt (W : WalksS prog w A.in1 I fp wr G n P St) (S : Addr) (apart : S ∉ fp) (xs : List Str) (hl : xs.length = n) (hx : ∀ i v, P i v → ∃ t, v = .str (xs.getD i Str.empty) t) (room : n + 1 < scanBound) :
    ∀ (m i : Nat), i + m = n → ∀ s : Shared, St i s → SetHas prog w s.heap S (xs.take i) →
      (∀ s', Moved (S :: wr) G s s' → SetHas prog w s'.heap S xs → R (.ok (.ret .none)) s') → codeAny (model prog w) A (.builtin "set.update.loop" ⟨[.ref S, .ref I], []⟩) R s := by
  have out : S ∉ wr := fun z => apart (W.sub _ z)
  have more : ∀ b, b ∈ wr → b ∈ S :: wr := fun b z => List.mem_cons_of_mem _ z
  intro m
  induction m with
  | zero =>
    intro i e s st has fin
    have e : i = n := e
    subst e
    rw [← hl, List.take_length] at has
    refine codeAny_builtin PyProof.Rows.F.entry_set_update_loop ?_
    rw [Around.under_plainId PyProof.Rows.F.plain_set_update_loop _]
    refine wpAny_bind (m := pyNext (.ref I)) (W.done s _ _ (hl ▸ st) fun s' mv => ?_)
    exact wpAny_pure (fin s' (mv.mono more) (let ⟨o, es, ep, t, ho, r⟩ := has; ⟨o, es, ep, t, mv.heap S _ out ho, r⟩))
  | succ m ih =>
    intro i e s st has fin
    have lt : i < n := by omega
    refine codeAny_builtin PyProof.Rows.F.entry_set_update_loop ?_
    rw [Around.under_plainId PyProof.Rows.F.plain_set_update_loop _]
    refine wpAny_bind (m := pyNext (.ref I)) (W.item i s _ _ lt st fun v s1 hv st1 mv => ?_)
    obtain ⟨t, rfl⟩ := hx i v hv
    have has1 : SetHas prog w s1.heap S (xs.take i) := let ⟨o, es, ep, tb, ho, r⟩ := has; ⟨o, es, ep, tb, mv.heap S _ out ho, r⟩
    have hr : (ddp (xs.take i)).length + 1 < scanBound := by
      have := ddp_le (xs.take i) []
      have h2 : (xs.take i).length ≤ i := by rw [List.length_take]; omega
      have h3 : (ddp (xs.take i)).length ≤ 0 + (xs.take i).length := this
      omega
    have tk : xs.take (i + 1) = xs.take i ++ [xs.getD i Str.empty] := by
      rw [List.take_succ, List.getD_eq_getElem?_getD, List.getElem?_eq_getElem (by omega)]; rfl
    show wpAny _ A.in1 (holding [Value.str (xs.getD i Str.empty) t] (setAdd S (.str (xs.getD i Str.empty) t)) >>= _) _ _ s1
    refine wpAny_bind (wpAny_holding ?_)
    unfold setAdd
    refine wpAny_holding (wpAny_bind ((PySem.strKind prog w).pyHash (k := xs.getD i Str.empty) (strKind_is _ _ _ _) ?_))
    refine wpAny_setAddHashed_of (knd := PySem.strKind prog w) (s := { s1 with toks := s1.toks + 1 }) (strKind_is _ _ _ _) rfl has1 hr fun h2 but has2 => ?_
    have has3 : SetHas prog w h2 S (xs.take (i + 1)) := PyProof.Rows.SetOf_congr has2 (fun y => by rw [tk, ddp_app, ddS_any]) (by rw [tk, ddp_app, ddS_len])
    refine wpAny_pure ⟨plainId_quiet PyProof.Rows.F.plain_set_update_loop _, ih (i + 1) (by omega) _ (W.frame _ s1 _ _ st1 (Nat.le_succ _) fun b hb o eo => ?_) has3 fun s3 mv3 has4 => ?_⟩
    · rw [but.2 b fun z => apart (z ▸ hb)]; exact eo
    · refine fin s3 (Moved.trans W.gtrans ((mv.mono more).then_heap (Nat.le_succ _) fun b o hb eo => ?_) mv3) has4
      rw [but.2 b fun z => hb (z ▸ List.mem_cons_self)]; exact eo
end
section
variable {prog : Program} {w : World} {A : Around} {E : Value → Shared → Prop} {s : Shared}
set_option maxHeartbeats 4000000 in
theorem call_set_txt {l : Addr} {its : Array Value} {xs : List Str} {Q : Value → Shared → Prop} (hh : A.handled = none) (hl : s.heap.IsList l its) (hi : StrsAre its.toList xs) (hn : xs.length + 1 < scanBound)
    (h : ∀ (h' : Heap) (tk : Nat), SetHas prog w h' s.heap.objs.size xs → (∀ b o, b < s.heap.objs.size → s.heap.get? b = some o → h'.get? b = some o) → Q (.ref s.heap.objs.size) { s with heap := h', toks := tk }) :
    wpAny (model prog w) A (call (.type "set") [.ref l]) Q E s := by
  obtain ⟨c, tl, hmro⟩ := PySem.F.called_set.mro
  have f1 := PySem.F.called_set.made
  have f2 := PySem.F.called_set.sub
  refine wpAny_call (codeAny_of_tree ?_)
  show wpAny _ _ (callAny (.type "set") _) _ _ _
  refine wpAny_pure ⟨Code.quiet_builtin _ (by decide +kernel), codeAny_builtin PySem.F.entry_type_call ?_⟩
  rw [Around.under_plain (weight_type_call_type "set" [.ref l] []) rfl]
  have f3 := PySem.F.called_set.notType
  have f4 := PySem.F.called_set.canCreate
  have f5 := PySem.F.typeCall_set_1 (.ref l)
  repeat (any_goals (first | assumption | wp_step))
  refine codeAny_mono (code_set_new_1 (.ref l) (E := E) (Q₁ := fun v s1 => ∃ led : Bool, v = .ref s.heap.objs.size ∧ s1 = { s with heap := s.heap.push (newSet led) }) fun led => ⟨led, rfl, rfl⟩) fun r s1 hr => ?_
  match r, hr with
  | .error e, hr => exact hr
  | .ok .next, hr => exact hr.elim
  | .ok .brk, hr => exact hr.elim
  | .ok .cont, hr => exact hr.elim
  | .ok (.ret v), ⟨led, e1, e2⟩ =>
    subst e1 e2
    have at_ : (s.heap.push (newSet led)).get? s.heap.objs.size = some (newSet led) := Heap.get?_push_size _ rfl
    have ty : Shared.TypeIs { s with heap := s.heap.push (newSet led) } (.ref s.heap.objs.size) "set" := ⟨_, at_, rfl⟩
    have f6 := PySem.F.called_set.init.lookup
    have f7 := PySem.F.called_set.init.bind (.ref s.heap.objs.size)
    repeat (any_goals (first | assumption | wp_step))
    refine codeAny_mono (codeAny_call_builtin (R := wants (fun r s2 => r = .none ∧ ∃ h' tk, s2 = { s with heap := h', toks := tk } ∧ SetHas prog w h' s.heap.objs.size xs ∧ (∀ b o, b < s.heap.objs.size → s.heap.get? b = some o → h'.get? b = some o)) E)
      PySem.F.called_set.init.plain PySem.F.entry_set_init (check_set_init_1 ty ?_)) fun r2 s2 hr2 => ?_
    · obtain ⟨⟨oc, od, dt, osl⟩, ho, hc, nl, hd⟩ := hl
      simp only at hc hd
      subst hc hd
      have ho2 : (s.heap.push (newSet led)).get? l = some { cls := .type "list", dict := od, data := .seq its nl, slots := osl } := Heap.get?_push_of_some _ ho
      have isl : (s.heap.push (newSet led)).IsList l its := ⟨_, ho2, rfl, nl, rfl⟩
      have f8 := PySem.F.sub_list_set
      have f9 := PySem.F.sub_list_frozenset
      have f10 : (Value.type "list" == Value.type "dict") = false := by decide
      unfold Builtin.«set.__init__» noKeywords Builtin.Frozenset.updateFrom
      generalize hPI : pyIter = PI
      wp_walk
      subst hPI
      refine wpAny_pyIter_list isl (wpAny_bind (wpAny_runValue ?_))
      have below : l < s.heap.objs.size := Heap.lt_size ho
      have sz : (s.heap.push (newSet led)).objs.size = s.heap.objs.size + 1 := Heap.size_push ..
      have ne1 : l ≠ (s.heap.push (newSet led)).objs.size := by rw [sz]; exact Nat.ne_of_lt (Nat.lt_succ_of_lt below)
      have ap : s.heap.objs.size ∉ [(s.heap.push (newSet led)).objs.size, l] := by
        rw [sz]
        intro z
        rcases List.mem_cons.mp z with z | z
        · exact Nat.ne_of_lt (Nat.lt_succ_self _) z
        · exact Nat.ne_of_gt below (List.mem_singleton.mp z)
      have hlen : xs.length = its.size := by rw [← StrsAre.len_eq hi, Array.length_toList]
      refine fill_txt ((Walks.list (by simp [hh]) _ l ne1 its).toS) s.heap.objs.size ap xs hlen (fun i v hv => SS.strs_at hi i v (by rw [Array.getElem?_toList]; exact hv)) (by rw [← hlen]; exact hn) its.size 0 (Nat.zero_add _) _
        ⟨⟨_, Heap.get?_push_size _ rfl, rfl, rfl⟩, isl.push _⟩ ?_ fun s3 mv has => ?_
      · exact PyProof.Rows.SetOf_congr ((PyProof.Rows.setObjOf_fresh (knd := PySem.strKind prog w) led).setOf (Heap.get?_push_of_some _ at_) (by unfold scanBound; omega)) (fun _ => rfl) rfl
      · obtain ⟨h3, g3, d3, t3, o3⟩ := s3
        have q1 : g3 = s.gens := mv.gens
        have q2 : d3 = s.drawn := mv.drawn
        have q3 : o3 = s.os := mv.os
        subst q1 q2 q3
        refine wpAny_pure (show wpAny _ _ (ret Value.none) _ _ _ from wpAny_pure ⟨rfl, h3, t3, rfl, has, fun b o hb eo => ?_⟩)
        refine mv.heap b o (fun z => ?_) (Heap.get?_push_of_some _ (Heap.get?_push_of_some _ eo))
        rcases List.mem_cons.mp z with z | z
        · exact Nat.ne_of_lt hb z
        · have z := List.mem_singleton.mp z
          rw [sz] at z
          exact Nat.ne_of_lt (Nat.lt_succ_of_lt hb) z
    · match r2, hr2 with
      | .error e, hr2 => exact hr2
      | .ok .next, hr2 => exact hr2.elim
      | .ok .brk, hr2 => exact hr2.elim
      | .ok .cont, hr2 => exact hr2.elim
      | .ok (.ret v2), ⟨e1, h3, t3, e2, has, kp⟩ =>
        subst e1 e2
        repeat (any_goals (first | assumption | wp_step))
        exact h _ _ has kp
end
def stsD : List D → Option (List Str)
  | [] => some []
  | .str x :: r => (stsD r).bind fun xs => some (x :: xs)
  | _ :: _ => none
theorem stsD_map (l : List Str) : stsD (l.map PyData.str) = some l := by
  induction l with
  | nil => rfl
  | cons x l ih => rw [List.map_cons, stsD, ih]; rfl
theorem stsD_of {K : PySem.W.Frag} {P : Hp} : ∀ {l : List D} {vs : List V} {xs : List Str}, DrAll K P vs l → stsD l = some xs → vs = xs.map V.str
  | [], _, _, .nil, e => by cases e; rfl
  | d :: r, _, _, .cons h t, e => by
    unfold stsD at e
    split at e
    · rename_i q; cases q
    · rename_i x r' q
      cases q
      cases z : stsD r with
      | none => rw [z] at e; cases e
      | some xs =>
        rw [z] at e
        cases e
        cases h
        rw [stsD_of t z]; rfl
    · cases e
def dLenSet (l : List D) : Option D := (stsD l).bind fun xs => if xs.length ≤ 4000 then some (.int ((ddp xs).length : Nat)) else none
section
variable {X : Cx}
def tLenSetS (K : PySem.W.Frag) (ta : TE) : TE := fun σ H Q => ta σ H fun x H1 => ∃ l, ∃ xs : List Str, x = .ref l ∧ SqL K H1 l (xs.map V.str) ∧ xs.length ≤ 4000 ∧ Q (.int ((ddp xs).length : Nat)) H1
theorem pe_lenSetS {a : Expr} {ta : TE} {p p2 q pos : Pos} (hc : X.calm = true) (hg : Gl X "len") (hm : X.mg "len" = none) (hg2 : Gl X "set") (hm2 : X.mg "set" = none) (ha : PE X a ta)
    (na : starEach [a] X.env = (false, eval a X.env) :: starEach [] X.env := by rfl) : PE X (.Call (.Name "len" p) [.Call (.Name "set" p2) [a] [] q] [] pos) (tLenSetS X.K ta) := by
  refine ⟨fun pins s σ H Q I h => ?_⟩
  refine Call_ (ld_blt I hg hm boot_len (PyProof.Rows.callWith_builtin1 (PyProof.Rows.args_cons ?_ rfl) rfl rfl))
  refine Call_ (ld_blt I hg2 hm2 boot_set (PyProof.Rows.callWith_type1 (PyProof.Rows.args_cons (thn (ha.run pins s σ H _ I h) fun v s1 ⟨x, H1, I1, r1, q1⟩ => PyProof.Rows.args_nil ?_) na) na rfl))
  obtain ⟨l, xs, rfl, hq, hz, q1⟩ := q1
  cases r1
  obtain ⟨its, r, pl, _⟩ := I1.list hq
  refine call_set_txt (I1.ok.hd hc) pl.isList (by simpa using strsAre_of r) (by unfold scanBound; omega) fun h' tk has kp => PyProof.Rows.args_nil ?_
  obtain ⟨o, es, ep, t, ho, hex, hd, _, _, _, hf, hn⟩ := has
  have le := ddp_le xs []
  have le : (ddp xs).length ≤ 0 + xs.length := le
  have I2 : Inv X pins σ H1 { s1 with heap := h', toks := tk } := I1.kept fun b o e => kp b o (Heap.lt_size e) e
  exact call_len_set ho hex hd hf (by rw [hn] <;> omega) ⟨.int ((ddp xs).length : Nat), H1, I2.tok _, ⟨_, by rw [hn]⟩, q1⟩
variable {ca : EC → Addr} {W : WX}
theorem me_lenSet {a : Expr} {ml : Rho → Res (List D)} {p p2 q pos : Pos} (hc : X.calm = true) (hm : X.mg "len" = none) (hm2 : X.mg "set" = none) (ha : MB X ca W a ml) (hg : Gl X "len" := by rfl) (hg2 : Gl X "set" := by rfl)
    (na : starEach [a] X.env = (false, eval a X.env) :: starEach [] X.env := by rfl) : ME X ca W (.Call (.Name "len" p) [.Call (.Name "set" p2) [a] [] q] [] pos) (mCL dLenSet ml) := by
  refine ⟨(pe_lenSetS hc hg hm hg2 hm2 ha.pe na).imp fun σ H Q ⟨H0, P0, P, ρ, er, h⟩ => tG_bind er h fun P1 H1 x l e1 rx h1 => ?_⟩
  obtain ⟨b, vs, rfl, sq, rr⟩ := rx
  cases z : dLenSet l with
  | none => rw [z] at h1; exact h1.elim
  | some y =>
    rw [z] at h1
    unfold dLenSet at z
    cases z2 : stsD l with
    | none => rw [z2] at z; cases z
    | some xs =>
      rw [z2] at z
      obtain ⟨hl, rfl⟩ := if_some (show (if xs.length ≤ 4000 then some (PyData.int ((ddp xs).length : Nat)) else none) = some y from z)
      have e := stsD_of rr z2
      subst e
      exact ⟨b, xs, rfl, .inl sq, hl, h1 P1 H1 _ (Ex.refl e1.ph) (.int _)⟩
end
end PX
/-! The plain layer, part 27: defs that tell a new list. -/
namespace PX
open PySem PySem.Spec PyProof.Rows L2
/-- what is wanted of a new list -/
def SatN (K : PySem.W.Frag) (ca : EC → Addr) (E : Value → Hp → Prop) (P H : Hp) (r : Res (List D)) (Q : VK) : Prop := match r with
  | .ok l => ∀ P' H' a vs, Ex P H P' H' → H' a = none → DrAll K P' vs l → Q (.ref a) (upd H' a (.lst vs))
  | .er c => ∀ P' H', Ex P H P' H' → E (.ref (ca c)) H'
  | .stk => False
theorem SatN.step {K : PySem.W.Frag} {ca : EC → Addr} {E : Value → Hp → Prop} {P H P' H' : Hp} {r : Res (List D)} {Q : VK} (h : SatN K ca E P H r Q) (e : Ex P H P' H') : SatN K ca E P' H' r Q := by
  cases r with
  | ok l => exact fun P2 H2 a vs e2 ha rv => h P2 H2 a vs (e.trans e2) ha rv
  | er c => exact fun P2 H2 e2 => h P2 H2 (e.trans e2)
  | stk => exact h
def spMF (K : PySem.W.Frag) (ca : EC → Addr) (n : Nat) (g : List D → Res (List D)) : Sp := fun vs H Q E => vs.length = n ∧ ∃ P ds, Same P H ∧ DrAll K P vs ds ∧ SatN K ca (fun c H => E c none H) P H (g ds) Q
/-- the def x tells a new list, its mirror's -/
def FnMF (P : Program) (w : World) (K : PySem.W.Frag) (mg : Str → Option Value) (base : Heap) (ca : EC → Addr) (x : Str) (k : Nat) (ps : List Str) (g : List D → Res (List D)) : Prop :=
  ∃ f fd, mg x = some (.ref f) ∧ PySem.W.keepIn K (.ref f) = true ∧ Binds K fd ps [] ∧ FnOk P w K mg base (L2.CX P w) k f fd ps (spMF K ca ps.length g)
def mCallF (g : List D → Res (List D)) (ms : Rho → Res (List D)) : Rho → Res (List D) := fun ρ => (ms ρ).bind g
@[simp] theorem mCallF_ap {g : List D → Res (List D)} {ms : Rho → Res (List D)} {ρ : Rho} : mCallF g ms ρ = (ms ρ).bind g := rfl
section
variable {X : Cx} {ca : EC → Addr} {W : WX} {pos p : Pos} {x : Str} {e : Expr} {es : List Expr} {ms : Rho → Res (List D)}
theorem mf_call {k j : Nat} {ps : List Str} {g : List D → Res (List D)} (F : FnMF X.prog X.w X.K X.mg X.base ca x k ps g) (hr : Room j X.A) (hk : Nat.ble k j = true) (tk : Takes X W) (ha : MA X ca W (e :: es) ms) (hn : (e :: es).length = ps.length := by rfl) (hg : Gl X x := by rfl)
    (hdb : (x == ("__debug__" : Str)) = false := by decide)
    (he : starEach (e :: es) X.env = (false, eval e X.env) :: starEach es X.env := by rfl) (hpl : (backTo pos (starEach es X.env)).any (·.1) = false := by rfl)
    (hms : ∀ ρ ds, ms ρ = .ok ds → ds.length = ps.length) : MF X ca W (.Call (.Name x p) (e :: es) [] pos) (mCallF g ms) := by
  obtain ⟨f, fd, hm, kp, hb, F⟩ := F
  refine ⟨(pe_callSD F (hr.mono (Nat.le_of_ble_eq_true hk)) hg hm kp hb .nil (fun σ => passAt tk σ) ha.pa hdb he hpl).imp fun σ H Q ⟨H0, P0, P, ρ, er, h⟩ => ⟨H0, P0, P, ρ, er, ?_⟩⟩
  unfold mCallF at h
  cases q : ms ρ with
  | er c => rw [q] at h; exact h
  | stk => rw [q] at h; exact h
  | ok ds =>
    rw [q] at h
    intro P1 H1 xs e1 rxs
    refine ⟨by rw [List.append_nil, dps_length rxs]; exact hms ρ ds q, P1, ds, e1.ph, by rw [List.append_nil]; exact rxs, ?_⟩
    have h : match g ds with
      | .ok l => ∀ P' H' a vs, Ex P H P' H' → H' a = none → DrAll X.K P' vs l → Q (.ref a) (upd H' a (.lst vs))
      | .er c => ∀ P' H', Ex P H P' H' → W (.ref (ca c)) none σ H'
      | .stk => False := h
    revert h
    cases g ds with
    | ok l => exact fun h P' H' a vs e2 ha rv => h P' H' a vs (e1.trans e2) ha rv
    | er c => exact fun h P' H' e2 => h P' H' (e1.trans e2)
    | stk => exact fun h => h.elim
/-! ### a body that ends in a new list -/
def SatL (K : PySem.W.Frag) (ca : EC → Addr) (W : WX) (H0 P0 : Hp) (r : Res (List D)) (D : Ends) : Prop := match r with
  | .ok l => ∀ P' H' a vs, Ex P0 H0 P' H' → H' a = none → DrAll K P' vs l → D.rt (.ref a) (upd H' a (.lst vs))
  | .er c => ∀ P' H' σ', Ex P0 H0 P' H' → W (.ref (ca c)) none σ' H'
  | .stk => False
def tL (K : PySem.W.Frag) (ca : EC → Addr) (W : WX) (m : Rho → Res (List D)) : TS := fun D σ H => ∃ H0 P0 P ρ, ER K H0 P0 P H σ ρ ∧ SatL K ca W H0 P0 (m ρ) D
structure MSL (X : Cx) (ca : EC → Addr) (W : WX) (sts : List Stmt) (m : Rho → Res (List D)) : Prop where
  ps : PSs X sts (tL X.K ca W m)
def mSeqL (a : Rho → Out) (b : Rho → Res (List D)) : Rho → Res (List D) := fun ρ => match a ρ with
  | .nx ρ' => b ρ'
  | .er c _ => .er c
  | _ => .stk
theorem mSeqL_nx {a : Rho → Out} {b : Rho → Res (List D)} {ρ ρ' : Rho} (h : a ρ = .nx ρ') : mSeqL a b ρ = b ρ' := by unfold mSeqL; rw [h]
variable {st : Stmt} {sts : List Stmt} {m1 : Rho → Out} {m2 : Rho → Res (List D)} {ml : Rho → Res (List D)}
theorem msl_cons (h : MS X ca W st m1) (r : MSL X ca W sts m2) : MSL X ca W (st :: sts) (mSeqL m1 m2) := by
  refine ⟨(pss_cons h.ps r.ps).imp fun D σ H ⟨H0, P0, P, ρ, er, q⟩ => ⟨H0, P0, P, ρ, er, ?_⟩⟩
  unfold mSeqL at q
  cases z : m1 ρ with
  | nx ρ' => rw [z] at q; exact fun P1 H1 σ1 s1 er1 => ⟨H0, P0, P1, ρ', er1, q⟩
  | er c ρ' => rw [z] at q; exact fun P1 H1 σ1 s1 er1 => q P1 H1 σ1 er1.bs
  | rt d => rw [z] at q; exact q.elim
  | bk ρ' => rw [z] at q; exact q.elim
  | ct ρ' => rw [z] at q; exact q.elim
  | stk => rw [z] at q; exact q.elim
theorem msl_ret (h : MF X ca W e ml) : MSL X ca W [.Return (some e) pos] ml := by
  refine ⟨(pss_one (ps_ret h.pe)).imp fun D σ H ⟨H0, P0, P, ρ, er, q⟩ => ⟨H0, P0, P, ρ, er, ?_⟩⟩
  cases z : ml ρ with
  | ok l => rw [z] at q; exact fun P1 H1 a vs e1 ha rv => q P1 H1 a vs (er.bs.trans e1) ha rv
  | er c => rw [z] at q; exact fun P1 H1 e1 => q P1 H1 σ (er.bs.trans e1)
  | stk => rw [z] at q; exact q
/-- .. in a list of the def's own -/
theorem msl_own (i : Nat) {x : Str} {pos p : Pos} (hN : X.N[i]? = some x := by rfl) (hv : Vis X.env.scope x := by first | exact Or.inl rfl | exact Or.inr (Or.inl rfl) | exact Or.inr (Or.inr rfl)) (hd : (x == ("__debug__" : Str)) = false := by decide) (hcd : (x == ("__classdict__" : Str)) = false := by decide) :
    MSL X ca W [.Return (some (.Name x p)) pos] (mOwn i) := by
  refine ⟨(pss_one (ps_ret (pe_var hN hv hd hcd))).imp fun D σ H ⟨H0, P0, P, ρ, er, q⟩ => ?_⟩
  unfold mOwn at q
  cases z : ρ[i]? with
  | none => rw [z] at q; exact q.elim
  | some o =>
    rw [z] at q
    cases o with
    | none => exact q.elim
    | some s =>
      cases s with
      | val d => exact q.elim
      | dct d => exact q.elim
      | own l =>
        obtain ⟨v, hv, a, vs, rfl, h1, h2, h3, h4⟩ := er.slot i _ z
        refine ⟨_, hv, ?_⟩
        have hw := wo_self h1
        rw [hw]
        refine q P (wo H a) a vs ⟨er.bs.pp, fun b u hb => ?_, fun b u hb => ?_, er.bs.fr⟩ wo_at h4
        · rw [wo_ne (fun e => by subst e; rw [h2] at hb; cases hb)]; exact er.sub b u hb
        · rw [wo_ne (fun e => by subst e; rw [h3] at hb; cases hb)]; exact er.bs.hh b u hb
end
def fnL (n : Nat) (b : Rho → Res (List D)) (ds : List D) : Res (List D) := b (startR n ds)
section
variable {P : Program} {w : World} {K : PySem.W.Frag} {mg : Str → Option Value} {base : Heap} {ca : EC → Addr}
theorem fn_okL {x : Str} {params : Arguments} {body : List Stmt} {scope : Scope} {f : Addr} {fd : FuncData} {N ps : List Str} {k : Nat} {m : Rho → Res (List D)} (F : FunD K x x params body scope [] [] f fd) (hm : mg x = some (.ref f)) (S : FnScope N ps scope)
    (bnd : ∀ (kV doc pm : Value) (an : Option Addr) (cdv ct : Value) (us : List Value), us.length = ps.length → bindArgs (PySem.W.fnOf x x params body scope .none kV doc pm an cdv ct) ⟨us, []⟩ = pure (ps.zip us))
    (hbody : ∀ (cdv : Value) (A : Around) (outer : List Env) (s : Shared) (H : Hp) (E : XK), Room k (A.deeper (envOfC x scope s.heap.objs.size f cdv)) → Takes (cxOf (L2.CX P w) P w K mg base N x scope f cdv A outer s H E) (fun c d _ H => E c d H) →
      PassesOwn (model P w) (A.deeper (envOfC x scope s.heap.objs.size f cdv)) (envOfC x scope s.heap.objs.size f cdv) (cxOf (L2.CX P w) P w K mg base N x scope f cdv A outer s H E).xe →
      MSL (cxOf (L2.CX P w) P w K mg base N x scope f cdv A outer s H E) ca (fun c d _ H => E c d H) body m) : FnMF P w K mg base ca x (k + 1) ps (fnL N.length m) := by
  refine ⟨f, fd, hm, F.kp, F.bindsN bnd, F.ok S (fun vs H Q E h => h.1) fun cdv A outer s H vs Q E hr hsp => ?_⟩
  have B := hbody cdv A outer s H E hr (takes_of rfl rfl rfl rfl) (passes_of rfl)
  refine ⟨_, B.ps, ?_⟩
  obtain ⟨hl, P1, ds, sp, r, q⟩ := hsp
  refine ⟨H, P1, P1, startR N.length ds, er_start sp r, ?_⟩
  unfold fnL at q
  cases z : m (startR N.length ds) with
  | ok l => rw [z] at q; exact fun P2 H2 a vs e2 ha rv => q P2 H2 a vs e2 ha rv
  | er c => rw [z] at q; exact fun P2 H2 σ e2 => q P2 H2 e2
  | stk => rw [z] at q; exact q.elim
end
end PX
/-! The plain layer, part 28: new lists that are added to and let go. -/
namespace PX
open PySem PySem.Spec PyProof.Rows L2
section
variable {K : PySem.W.Frag} {H0 P0 P H : Hp} {σ σ' : L2.St} {ρ : Rho}
/-- nothing is said of a slot -/
theorem ER.hide (r : ER K H0 P0 P H σ ρ) {i : Nat} (hl : σ'.length = σ.length) (h : ∀ j, j ≠ i → σ'[j]? = σ[j]?) : ER K H0 P0 P H σ' (ρ.set i none) := by
  have fr : ∀ {j : Nat} {t : Sl}, (ρ.set i none)[j]? = some (some t) → j ≠ i ∧ ρ[j]? = some (some t) := by
    intro j t hj
    by_cases e : i = j
    · subst e
      by_cases hl : i < ρ.length
      · rw [List.getElem?_set_self hl] at hj; cases hj
      · rw [List.getElem?_eq_none (by simpa using hl)] at hj; cases hj
    · rw [List.getElem?_set_ne e] at hj
      exact ⟨fun z => e z.symm, hj⟩
  refine ⟨r.sub, r.bs, by rw [List.length_set, r.len, hl], fun j s hs => ?_, fun j k a s t ne hj hk sv tv => ?_⟩
  · obtain ⟨e, hs⟩ := fr hs
    rw [h j e]
    exact r.slot j s hs
  · obtain ⟨e1, hj⟩ := fr hj
    obtain ⟨e2, hk⟩ := fr hk
    rw [h j e1, h k e2]
    exact r.sep j k a s t ne hj hk sv tv
/-- an object that nobody here knows is changed -/
theorem ER.other (r : ER K H0 P0 P H σ ρ) {a : Addr} {o : HO} (hp : P a = none) (h0 : H0 a = none) (ha : ∀ (j : Nat) (s : Sl), ρ[j]? = some (some s) → s.isVal = false → σ[j]? ≠ some (some (.ref a))) : ER K H0 P0 P (upd H a o) σ ρ := by
  have su : Same P (upd H a o) := fun b u e => by rw [upd_ne (ne_of_none e hp)]; exact r.sub b u e
  refine ⟨su, ⟨r.bs.pp, su, fun b u e => ?_, r.bs.fr⟩, r.len, fun j s hs => ?_, r.sep⟩
  · rw [upd_ne (ne_of_none e h0)]; exact r.bs.hh b u e
  · obtain ⟨x, hx, rs⟩ := r.slot j s hs
    refine ⟨x, hx, ?_⟩
    cases s with
    | val d => exact rs
    | own l =>
      obtain ⟨b, vs, rfl, q1, q2, q3, q4⟩ := rs
      have hne : b ≠ a := fun e => ha j _ hs rfl (e ▸ hx)
      exact ⟨b, vs, rfl, by rw [upd_ne hne]; exact q1, q2, q3, q4⟩
    | dct l =>
      obtain ⟨b, ws, rfl, q1, q2, q3, q4⟩ := rs
      have hne : b ≠ a := fun e => ha j _ hs rfl (e ▸ hx)
      exact ⟨b, ws, rfl, by rw [upd_ne hne]; exact q1, q2, q3, q4⟩
end
/-- new lists, not known ahead of H, of these lengths -/
structure FrN (H P' H' : Hp) (as : List Addr) (ls : List (List D)) : Prop where
  nd : as.Nodup
  new : ∀ a ∈ as, H a = none ∧ P' a = none
  there : ∀ a ∈ as, ∃ vs l, l ∈ ls ∧ H' a = some (.lst vs) ∧ vs.length = l.length
  len : as.length = ls.length
def tN (K : PySem.W.Frag) (ca : EC → Addr) (W : WX) (m : Rho → Res (List (List D))) : TA := fun σ H Q => ∃ H0 P0 P ρ, ER K H0 P0 P H σ ρ ∧ match m ρ with
  | .ok ls => ∀ P' H' as, Ex P H P' H' → FrN H P' H' as ls → Q (as.map V.ref) H'
  | .er c => ∀ P' H', Ex P H P' H' → W (.ref (ca c)) none σ H'
  | .stk => False
structure MAN (X : Cx) (ca : EC → Addr) (W : WX) (es : List Expr) (m : Rho → Res (List (List D))) : Prop where
  pa : PA X es (tN X.K ca W m)
def mNilN : Rho → Res (List (List D)) := fun _ => .ok []
def mConsN (a : Rho → Res (List D)) (r : Rho → Res (List (List D))) : Rho → Res (List (List D)) := fun ρ => (a ρ).bind fun l => (r ρ).bind fun ls => .ok (l :: ls)
def mForApp (i : Nat) (ms : Rho → Res (List (List D))) : Rho → Out := fun ρ => obind (ms ρ) ρ fun ls => if (ls.all fun l => decide (l.length < sizeLine)) && (decide (ls.length ≤ sizeLine) && decide (i < ρ.length)) then .nx (ρ.set i none) else .stk
section
variable {X : Cx} {ca : EC → Addr} {W : WX} {pos : Pos} {e : Expr} {es : List Expr} {ml : Rho → Res (List D)} {ms : Rho → Res (List (List D))}
theorem man_nil : MAN X ca W [] mNilN := ⟨pa_nil.imp fun σ H Q ⟨H0, P0, P, ρ, er, h⟩ => h P H [] (Ex.refl er.sub) ⟨List.nodup_nil, (fun a h => nomatch h), (fun a h => nomatch h), rfl⟩⟩
theorem man_cons (h : MF X ca W e ml) (r : MAN X ca W es ms) (hs : starEach (e :: es) X.env = (false, eval e X.env) :: starEach es X.env := by rfl) : MAN X ca W (e :: es) (mConsN ml ms) := by
  refine ⟨(pa_cons h.pe r.pa hs).imp fun σ H Q ⟨H0, P0, P, ρ, er, q⟩ => ⟨H0, P0, P, ρ, er, ?_⟩⟩
  unfold mConsN at q
  cases z : ml ρ with
  | er c => rw [z] at q; exact q
  | stk => rw [z] at q; exact q.elim
  | ok l =>
    rw [z] at q
    intro P1 H1 a vs e1 ha rv
    have e2 := e1.trans (Ex.out (o := .lst vs) e1.ph ha)
    refine ⟨H0, P0, P1, ρ, er.step e2, ?_⟩
    cases z2 : ms ρ with
    | er c => rw [z2] at q; exact fun P2 H2 e3 => q P2 H2 (e2.trans e3)
    | stk => rw [z2] at q; exact q.elim
    | ok ls =>
      rw [z2] at q
      intro P2 H2 as e3 fr
      have hH : H a = none := Same.free e1.hh ha
      have hP2 : P2 a = none := e3.fr a (by rw [upd_same]; exact fun z => nomatch z) (Same.free e1.ph ha)
      have h2 : H2 a = some (.lst vs) := e3.hh a _ upd_same
      have low : ∀ b, upd H1 a (.lst vs) b = none → H b = none := fun b hb => by
        by_cases hba : b = a
        · rw [hba]; exact hH
        · rw [upd_ne hba] at hb; exact Same.free e1.hh hb
      refine q P2 H2 (a :: as) (e2.trans e3) ⟨List.nodup_cons.mpr ⟨fun hm => ?_, fr.nd⟩, fun b hb => ?_, fun b hb => ?_, by rw [List.length_cons, List.length_cons, fr.len]⟩
      · have := (fr.new a hm).1
        rw [upd_same] at this; cases this
      · rcases List.mem_cons.mp hb with rfl | hb
        · exact ⟨hH, hP2⟩
        · exact ⟨low b (fr.new b hb).1, (fr.new b hb).2⟩
      · rcases List.mem_cons.mp hb with rfl | hb
        · exact ⟨vs, l, List.mem_cons_self, h2, dps_length rv⟩
        · obtain ⟨ws, l', h3, h4, h5⟩ := fr.there b hb
          exact ⟨ws, l', List.mem_cons_of_mem _ h3, h4, h5⟩
theorem ms_forApp {i j kk : Nat} {x z : Str} {p p2 apos cpos p3 spos tpos : Pos} (hN : X.N.Nodup) (hi : X.N[i]? = some x) (hx : Loc X.env.scope x) (hp : PassesOwn (model X.prog X.w) X.A X.env X.xe) (hc : X.calm = true) (h : MAN X ca W es ms)
    (hf : X.fn x = true ∨ X.env.scope.names.lookup x = some .local := by first | exact .inl rfl | exact .inr rfl | assumption)
    (hv : Vis X.env.scope x := by first | exact Or.inl rfl | exact Or.inr (Or.inl rfl) | exact Or.inr (Or.inr rfl)) (hd : (x == ("__debug__" : Str)) = false := by decide) (hcd : (x == ("__classdict__" : Str)) = false := by decide)
    (hbase : attributeBase (.Name x p2) "append" X.env (eval (.Name x p2) X.env) = eval (.Name x p2) X.env := by rfl)
    (hfew : ((backTo cpos (starEach [.Constant (.str z) j p3] X.env)).all (fun x => !x.1) && (backToKw cpos (keywordEach [] X.env)).all (fun x => x.1.isSome)
      && decide ([Expr.Constant (.str z) j p3].length + ([] : List Keyword).length + (if ([] : List Keyword).isEmpty then 0 else 1) < 30)) = true := by rfl)
    (hline : (apos.endLine == cpos.line) = true := by rfl) (he : starEach [.Constant (.str z) j p3] X.env = (false, eval (.Constant (.str z) j p3) X.env) :: starEach [] X.env := by rfl) (hplain : (backTo cpos (starEach [] X.env)).any (·.1) = false := by rfl)
    (hsw : swapsWith (.Call (.Attribute (.Name x p2) "append" apos) [.Constant (.str z) j p3] [] cpos) none spos.line X.env = pure false := by rfl)
    (hs : ∀ x, foldedSetIterable (.Tuple es kk tpos) X.env x = pure x := by intro _; rfl) :
    MS X ca W (.For (.Name x p) (.Tuple es kk tpos) [.Expr (.Call (.Attribute (.Name x p2) "append" apos) [.Constant (.str z) j p3] [] cpos) spos] [] pos) (mForApp i ms) := by
  refine ⟨(ps_for hp hc (pi_tup (pe_tup h.pa)) (pg_name hN hi hx hf) (pss_one (ps_expr (pe_bm PySem.F.plainAttrs_list PySem.F.slot_list_append PySem.F.type_list_append mt_append (pe_var hi hv hd hcd) (pa_cons pe_str pa_nil he) hbase hfew hline he hplain) hsw)) hs).imp fun D σ H ⟨H0, P0, P, ρ, er, q⟩ => ?_⟩
  refine ⟨H0, P0, P, ρ, er, ?_⟩
  unfold mForApp at q
  cases y : ms ρ with
  | er c => rw [y] at q; exact fun P1 H1 e1 => q P1 H1 σ e1.pp (er.step e1)
  | stk => rw [y] at q; exact q.elim
  | ok ls =>
    rw [y] at q
    intro P1 H1 as e1 fr
    by_cases hz : ((ls.all fun l => decide (l.length < sizeLine)) && (decide (ls.length ≤ sizeLine) && decide (i < ρ.length))) = true
    · have q : SatS X.K ca W H0 P0 P (.nx (ρ.set i none)) D := by
        have e : (obind (Res.ok ls) ρ fun ls => if (ls.all fun l => decide (l.length < sizeLine)) && (decide (ls.length ≤ sizeLine) && decide (i < ρ.length)) then Out.nx (ρ.set i none) else .stk) = .nx (ρ.set i none) := if_pos hz
        rw [← e]; exact q
      obtain ⟨z1, z2⟩ := Bool.and_eq_true_iff.mp hz
      have z1 := fun l hl => of_decide_eq_true (List.all_eq_true.mp z1 l hl)
      obtain ⟨z2, z3⟩ := Bool.and_eq_true_iff.mp z2
      have z2 := of_decide_eq_true z2
      have z3 := of_decide_eq_true z3
      refine ⟨by rw [List.length_map, fr.len]; exact z2, fun t ht => ⟨t, rfl, ⟨as.map V.ref, SqT.of upd_same⟩, ?_⟩⟩
      have e2 := Ex.out (o := .tup (as.map V.ref)) e1.ph ht
      have er1 := (er.step e1).step e2
      have tne : ∀ a ∈ as, a ≠ t := fun a ha e => by
        obtain ⟨vs, _, _, h3, _⟩ := fr.there a ha
        rw [e, ht] at h3; cases h3
      have apart : ∀ a ∈ as, H0 a = none ∧ ∀ (j : Nat) (s : Sl), ρ[j]? = some (some s) → s.isVal = false → σ[j]? ≠ some (some (.ref a)) := fun a ha => by
        have hH := (fr.new a ha).1
        refine ⟨Same.free er.bs.hh hH, fun j s hs sv hx => ?_⟩
        obtain ⟨x, hx', rs⟩ := er.slot j s hs
        rw [hx] at hx'
        cases hx'
        cases s with
        | val d => cases sv
        | own l => obtain ⟨b, vs, e, h1, _⟩ := rs; cases e; rw [hH] at h1; cases h1
        | dct l => obtain ⟨b, vs, e, h1, _⟩ := rs; cases e; rw [hH] at h1; cases h1
      refine for_tup (K := X.K) (a := t) (xs := as.map V.ref) (fun k σ' H' => σ'.length = σ.length ∧ (∀ j, j ≠ i → σ'[j]? = σ[j]?) ∧ ER X.K H0 P0 P1 H' σ' (ρ.set i none) ∧ H' t = some (.tup (as.map V.ref)) ∧ ∀ m a, k ≤ m → as[m]? = some a → ∃ vs, H' a = some (.lst vs) ∧ vs.length < sizeLine)
        ⟨rfl, fun _ _ => rfl, er1.hide rfl fun _ _ => rfl, upd_same, fun m a _ hm => ?_⟩ (fun k σ' H' _ hP => SqT.of hP.2.2.2.1) (fun k v σ' H' hk hP => ?_) fun σ' H' hP => ?_
      · have ha := List.mem_of_getElem? hm
        obtain ⟨vs, l, h2, h3, h4⟩ := fr.there a ha
        exact ⟨vs, by rw [upd_ne (tne a ha)]; exact h3, by rw [h4]; exact z1 l h2⟩
      · obtain ⟨p1, p2, p3, p4, p5⟩ := hP
        rw [List.getElem?_map] at hk
        cases hka : as[k]? with
        | none => rw [hka] at hk; cases hk
        | some a =>
          rw [hka] at hk
          cases hk
          have ha := List.mem_of_getElem? hka
          obtain ⟨vs, h3, h4⟩ := p5 k a (Nat.le_refl _) hka
          have hil : i < σ'.length := by rw [p1, ← er.len]; exact z3
          have hat : (σ'.set i (some (V.ref a)))[i]? = some (some (.ref a)) := List.getElem?_set_self hil
          refine ⟨_, hat, .inl ⟨rfl, vs, SqL.of h3⟩, ⟨a, vs, .str z, rfl, rfl, h3, h4, ?_⟩⟩
          obtain ⟨hp1, hh0⟩ := fr.new a ha
          obtain ⟨h00, hap⟩ := apart a ha
          have same : ∀ j, j ≠ i → (σ'.set i (some (V.ref a)))[j]? = σ'[j]? := fun j hj => List.getElem?_set_ne (fun e => hj e.symm)
          have p3' : ER X.K H0 P0 P1 H' (σ'.set i (some (V.ref a))) (ρ.set i none) := by
            have := p3.hide (σ' := σ'.set i (some (V.ref a))) (i := i) (by rw [List.length_set]) same
            rw [List.set_set] at this
            exact this
          refine ⟨by rw [List.length_set]; exact p1, fun j hj => (same j hj).trans (p2 j hj), p3'.other hh0 h00 (fun j s hs sv => ?_), by rw [upd_ne (tne a ha).symm]; exact p4, fun m b hm hb => ?_⟩
          · by_cases hji : j = i
            · subst hji
              rw [List.getElem?_set_self (by rw [er.len, ← p1]; exact hil)] at hs
              cases hs
            · rw [List.getElem?_set_ne (fun e => hji e.symm)] at hs
              rw [same j hji, p2 j hji]
              exact hap j s hs sv
          · obtain ⟨ws, w1, w2⟩ := p5 m b (by omega) hb
            have hne : b ≠ a := fun e => by
              subst e
              obtain ⟨k1, k2⟩ := List.getElem?_eq_some_iff.mp hka
              obtain ⟨m1, m2⟩ := List.getElem?_eq_some_iff.mp hb
              have := (List.getElem_inj fr.nd).mp (k2.trans m2.symm)
              omega
            exact ⟨ws, by rw [upd_ne hne]; exact w1, w2⟩
      · obtain ⟨p1, p2, p3, _⟩ := hP
        exact q P1 H' σ' e1.pp p3
    · have q : SatS X.K ca W H0 P0 P .stk D := by
        have e : (obind (Res.ok ls) ρ fun ls => if (ls.all fun l => decide (l.length < sizeLine)) && (decide (ls.length ≤ sizeLine) && decide (i < ρ.length)) then Out.nx (ρ.set i none) else .stk) = .stk := if_neg hz
        rw [← e]; exact q
      exact q.elim
end
end PX
/-! The plain layer, part 29: a caught exception by its name, asked of its class. -/
namespace PX
open PySem PySem.Spec PyProof.Rows L2
/-- what the classes tell isinstance -/
structure KitF (K : PySem.W.Frag) (ca : EC → Addr) (us : List EC) : Prop where
  ex : ∀ c ∈ us, ExcC K (ca c)
  ve : ∀ c ∈ us, PySem.W.kitOne K (.ref (ca c)) (.type "ValueError") = some true
  is : ∀ c ∈ us, ∀ h ∈ us, PySem.W.kitOne K (.ref (ca c)) (.ref (ca h)) = some (takesC c h)
def holdsAt (i : Nat) (a : Addr) (σ : L2.St) : Prop := σ[i]? = some (some (V.ref a))
structure MEX (X : Cx) (ca : EC → Addr) (W : WX) (i : Nat) (a : Addr) (e : Expr) (m : Rho → Res D) : Prop where
  pe : PE X e (fun σ H Q => holdsAt i a σ ∧ tG X.K (rD X.K) ca W m σ H Q)
structure MAX (X : Cx) (ca : EC → Addr) (W : WX) (i : Nat) (a : Addr) (es : List Expr) (m : Rho → Res (List D)) : Prop where
  pa : PA X es (fun σ H Q => holdsAt i a σ ∧ tG X.K (rDs X.K) ca W m σ H Q)
structure MFX (X : Cx) (ca : EC → Addr) (W : WX) (i : Nat) (a : Addr) (e : Expr) (m : Rho → Res (List D)) : Prop where
  pe : PE X e (fun σ H Q => holdsAt i a σ ∧ tF X.K ca W m σ H Q)
structure MSsX (X : Cx) (ca : EC → Addr) (W : WX) (i : Nat) (a : Addr) (sts : List Stmt) (m : Rho → Out) : Prop where
  ps : PSs X sts (fun D σ H => holdsAt i a σ ∧ tS X.K ca W m D σ H)
section
variable {X : Cx} {ca : EC → Addr} {W : WX} {i j : Nat} {a : Addr} {oe : Obj} {pn : List (Addr × Obj)} {pos p pe pT : Pos} {e : Expr} {es : List Expr} {me : Rho → Res D} {ms ml mr : Rho → Res (List D)} {x xC : Str} {c h : EC} {st : Stmt} {sts : List Stmt} {m : Rho → Out}
/-- isinstance(e, C), C the program's own -/
theorem mex_is (C : ExcC X.K (ca c)) (hz : Zc (.ref (ca c)) none oe) (hf : ∃ vs, oe.data = .fields vs) {b : Bool} (kk : PySem.W.kitOne X.K (.ref (ca c)) (.ref (ca h)) = some b) (hm : X.mg "isinstance" = none) (hC : X.mg xC = some (.ref (ca h)))
    (hg : Gl (X.suite a ((a, oe) :: pn)) "isinstance" := by rfl) (hgC : Gl (X.suite a ((a, oe) :: pn)) xC := by rfl) (hd : (xC == ("__debug__" : Str)) = false := by decide)
    (hN : X.N[i]? = some x := by rfl) (hv : Vis X.env.scope x := by first | exact Or.inl rfl | exact Or.inr (Or.inl rfl) | exact Or.inr (Or.inr rfl)) (hdx : (x == ("__debug__" : Str)) = false := by decide) (hcd : (x == ("__classdict__" : Str)) = false := by decide)
    (he : starEach [.Name x pe, .Name xC pT] (X.suite a ((a, oe) :: pn)).env = (false, eval (.Name x pe) (X.suite a ((a, oe) :: pn)).env) :: starEach [.Name xC pT] (X.suite a ((a, oe) :: pn)).env := by rfl) (hpl : (backTo pos (starEach [.Name xC pT] (X.suite a ((a, oe) :: pn)).env)).any (·.1) = false := by rfl)
    (he2 : starEach [.Name xC pT] (X.suite a ((a, oe) :: pn)).env = (false, eval (.Name xC pT) (X.suite a ((a, oe) :: pn)).env) :: starEach [] (X.suite a ((a, oe) :: pn)).env := by rfl) :
    MEX (X.suite a ((a, oe) :: pn)) ca W i a (.Call (.Name "isinstance" p) [.Name x pe, .Name xC pT] [] pos) (mC (.bool b)) := by
  have hb : PE (X.suite a ((a, oe) :: pn)) (.Name xC pT) (tC (.ref (ca h))) := pe_glob hgC hC rfl hd
  have hx : PE (X.suite a ((a, oe) :: pn)) (.Name x pe) (tVar i) := pe_var hN hv hdx hcd
  refine ⟨(pe_callB (call_isE C hz hf) hg hm (by decide +kernel) (pa_cons hx (pa_cons hb pa_nil he2) he) (by decide) (by decide) he hpl).imp fun σ H Q ⟨g, H0, P0, P, ρ, er, q⟩ => ?_⟩
  exact ⟨.ref a, g, .ref (ca h), .ref (ca h), b, rfl, fun u hu => hu, kk, q P H (.bl b) (Ex.refl er.sub) (.bl b)⟩
/-- .. ValueError -/
theorem mex_ve (C : ExcC X.K (ca c)) (hz : Zc (.ref (ca c)) none oe) (hf : ∃ vs, oe.data = .fields vs) {b : Bool} (kk : PySem.W.kitOne X.K (.ref (ca c)) (.type "ValueError") = some b) (hm : X.mg "isinstance" = none) (hC : X.mg "ValueError" = none)
    (hg : Gl (X.suite a ((a, oe) :: pn)) "isinstance" := by rfl) (hgC : Gl (X.suite a ((a, oe) :: pn)) "ValueError" := by rfl)
    (hN : X.N[i]? = some x := by rfl) (hv : Vis X.env.scope x := by first | exact Or.inl rfl | exact Or.inr (Or.inl rfl) | exact Or.inr (Or.inr rfl)) (hdx : (x == ("__debug__" : Str)) = false := by decide) (hcd : (x == ("__classdict__" : Str)) = false := by decide)
    (he : starEach [.Name x pe, .Name "ValueError" pT] (X.suite a ((a, oe) :: pn)).env = (false, eval (.Name x pe) (X.suite a ((a, oe) :: pn)).env) :: starEach [.Name "ValueError" pT] (X.suite a ((a, oe) :: pn)).env := by rfl) (hpl : (backTo pos (starEach [.Name "ValueError" pT] (X.suite a ((a, oe) :: pn)).env)).any (·.1) = false := by rfl)
    (he2 : starEach [.Name "ValueError" pT] (X.suite a ((a, oe) :: pn)).env = (false, eval (.Name "ValueError" pT) (X.suite a ((a, oe) :: pn)).env) :: starEach [] (X.suite a ((a, oe) :: pn)).env := by rfl) :
    MEX (X.suite a ((a, oe) :: pn)) ca W i a (.Call (.Name "isinstance" p) [.Name x pe, .Name "ValueError" pT] [] pos) (mC (.bool b)) := by
  have hb : PE (X.suite a ((a, oe) :: pn)) (.Name "ValueError" pT) (tC (.ty "ValueError")) := pe_bltn hgC hC (by decide +kernel) rfl
  have hx : PE (X.suite a ((a, oe) :: pn)) (.Name x pe) (tVar i) := pe_var hN hv hdx hcd
  refine ⟨(pe_callB (call_isE C hz hf) hg hm (by decide +kernel) (pa_cons hx (pa_cons hb pa_nil he2) he) (by decide) (by decide) he hpl).imp fun σ H Q ⟨g, H0, P0, P, ρ, er, q⟩ => ?_⟩
  exact ⟨.ref a, g, .ty "ValueError", .type "ValueError", b, rfl, fun u hu => hu, kk, q P H (.bl b) (Ex.refl er.sub) (.bl b)⟩
theorem max_nil : MAX X ca W i a [] mNil := ⟨pa_nil.imp fun σ H Q ⟨_, H0, P0, P, ρ, er, h⟩ => h P H [] (Ex.refl er.sub) .nil⟩
theorem max_cons (ha : MEX X ca W i a e me) (hr : MAX X ca W i a es ms) (hs : starEach (e :: es) X.env = (false, eval e X.env) :: starEach es X.env := by rfl) : MAX X ca W i a (e :: es) (mCons me ms) := by
  refine ⟨(pa_cons ha.pe hr.pa hs).imp fun σ H Q ⟨g, H0, P0, P, ρ, er, h⟩ => ⟨g, tG_bind er h fun P1 H1 x d e1 rx h1 => ⟨g, tG_bind (er.step e1) h1 fun P2 H2 xs ds e2 rxs h2 => ?_⟩⟩⟩
  exact h2 P2 H2 _ (Ex.refl e2.ph) (.cons (Dr.mono rx e2.pp) rxs)
theorem mfx_lst (h : MAX X ca W i a es ms) : MFX X ca W i a (.List es pos) (mLst ms) := by
  refine ⟨(pe_lst h.pa).imp fun σ H Q ⟨g, H0, P0, P, ρ, er, h⟩ => ⟨g, ?_⟩⟩
  unfold mLst at h
  refine ⟨H0, P0, P, ρ, er, ?_⟩
  cases q : ms ρ with
  | er c => rw [q] at h; exact h
  | stk => rw [q] at h; exact h
  | ok ds =>
    rw [q] at h
    intro P1 H1 xs e1 rxs
    by_cases hl : ds.length ≤ sizeLine
    · have h : ∀ P' H' a vs, Ex P H P' H' → H' a = none → DrAll X.K P' vs ds → Q (.ref a) (upd H' a (.lst vs)) := by
        have z : (Res.ok ds).bind (fun xs : List D => if xs.length ≤ sizeLine then Res.ok xs else Res.stk) = .ok ds := if_pos hl
        rw [z] at h
        exact h
      refine ⟨by rw [dps_length rxs]; exact hl, fun p hp => h P1 H1 p xs e1 hp rxs⟩
    · have z : (Res.ok ds).bind (fun xs : List D => if xs.length ≤ sizeLine then Res.ok xs else Res.stk) = .stk := if_neg hl
      rw [z] at h
      exact h.elim
/-- a list of one's own and a new one -/
theorem mfx_cat {b : Expr} (ha : MB X ca W e ml) (hb : MFX X ca W i a b mr) : MFX X ca W i a (.BinOp e .Add b pos) (mCatL ml mr) := by
  have hb' : PE X b (fun σ H Q => holdsAt i a σ ∧ tG X.K (rL X.K) ca W mr σ H Q) := by
    refine hb.pe.imp fun σ H Q ⟨g, H0, P0, P, ρ, er, h⟩ => ⟨g, H0, P0, P, ρ, er, ?_⟩
    cases q : mr ρ with
    | er c => rw [q] at h; exact h
    | stk => rw [q] at h; exact h
    | ok l =>
      rw [q] at h
      intro P1 H1 p vs e1 hp rv
      exact h _ _ _ (e1.trans (Ex.new e1.ph hp)) ⟨p, vs, rfl, .inl upd_same, rv.mono (same_upd (Same.free e1.ph hp))⟩
  refine ⟨(pe_op op_catR ha.pe hb').imp fun σ H Q ⟨g, H0, P0, P, ρ, er, h⟩ => tF_bind rfl er h fun P1 H1 x d e1 rx h1 => ⟨g, tF_bind rfl (er.step e1) h1 fun P2 H2 y e e2 ry h2 => ?_⟩⟩
  obtain ⟨p, vs, rfl, hr, rr⟩ := rx
  obtain ⟨q, us, rfl, hr', rr'⟩ := ry
  by_cases hl : d.length + e.length ≤ sizeLine
  · rw [if_pos hl] at h2
    exact ⟨p, q, vs, us, rfl, rfl, rd_mono e2.hh hr, hr', by rw [dps_length rr, dps_length rr']; exact hl, fun r hr => h2 P2 H2 r _ (Ex.refl e2.ph) hr (dps_append (rr.mono e2.pp) rr')⟩
  · rw [if_neg hl] at h2; exact h2.elim
/-- name = a new list; then the rest -/
theorem mssx_setF {y : Str} (hji : j ≠ i) (hN : X.N.Nodup) (hi : X.N[j]? = some y) (hx : Loc X.env.scope y) (he : MFX X ca W i a e ml) (r : MSsX X ca W i a sts m) (hf : X.fn y = true ∨ X.env.scope.names.lookup y = some .local := by first | exact .inl rfl | exact .inr rfl | assumption)
    (hs : swapsWithSole [.Name y p] e pos.line X.env = pure false := by rfl) (hw : swappedStores [.Name y p] e X.env = pure none := by rfl)
    (h1 : (assignEach [.Name y p] X.env).map (·.2) = [assign (.Name y p) X.env] := by rfl) : MSsX X ca W i a (.Assign [.Name y p] e pos :: sts) (mSeq (mSetF j ml) m) := by
  refine ⟨(pss_cons (ps_asg he.pe (pg_name hN hi hx hf) hs hw h1) r.ps).imp fun D σ H ⟨g, H0, P0, P, ρ, er, h⟩ => ⟨g, ?_⟩⟩
  unfold mSeq mSetF at h
  refine ⟨H0, P0, P, ρ, er, ?_⟩
  cases z : ml ρ with
  | er c => rw [z] at h; exact fun P1 H1 e1 => h P1 H1 σ e1.pp (er.step e1)
  | stk => rw [z] at h; exact h.elim
  | ok l =>
    rw [z] at h
    have h : SatS X.K ca W H0 P0 P (m (ρ.set j (some (.own l)))) D := h
    intro P1 H1 b vs e1 hb rv
    refine ⟨?_, H0, P0, P1, _, (er.step e1).setOwn hb rfl (own_rs (er.step e1) hb rv), SatS.up h e1.pp⟩
    unfold holdsAt at g ⊢
    rw [List.getElem?_set_ne hji]
    exact g
theorem mssx_append {y : Str} {apos cpos : Pos} (ha : MEX X ca W i a e me) (hN : X.N[j]? = some y := by rfl) (hv : Vis X.env.scope y := by first | exact Or.inl rfl | exact Or.inr (Or.inl rfl) | exact Or.inr (Or.inr rfl)) (hd : (y == ("__debug__" : Str)) = false := by decide) (hcd : (y == ("__classdict__" : Str)) = false := by decide)
    (hbase : attributeBase (.Name y p) "append" X.env (eval (.Name y p) X.env) = eval (.Name y p) X.env := by rfl)
    (hfew : ((backTo cpos (starEach [e] X.env)).all (fun x => !x.1) && (backToKw cpos (keywordEach [] X.env)).all (fun x => x.1.isSome)
      && decide ([e].length + ([] : List Keyword).length + (if ([] : List Keyword).isEmpty then 0 else 1) < 30)) = true := by rfl)
    (hline : (apos.endLine == cpos.line) = true := by rfl) (he : starEach [e] X.env = (false, eval e X.env) :: starEach [] X.env := by rfl) (hplain : (backTo cpos (starEach [] X.env)).any (·.1) = false := by rfl)
    (hs : swapsWith (.Call (.Attribute (.Name y p) "append" apos) [e] [] cpos) none pos.line X.env = pure false := by rfl) : MSsX X ca W i a [.Expr (.Call (.Attribute (.Name y p) "append" apos) [e] [] cpos) pos] (mAppend j me) := by
  refine ⟨(pss_one (ps_expr (pe_bm PySem.F.plainAttrs_list PySem.F.slot_list_append PySem.F.type_list_append mt_append (pe_var hN hv hd hcd) (pa_cons ha.pe pa_nil he) hbase hfew hline he hplain) hs)).imp fun D σ H ⟨g, H0, P0, P, ρ, er, h⟩ => ?_⟩
  unfold mAppend at h
  cases z : ρ[j]? with
  | none => rw [z] at h; exact h.elim
  | some o =>
    rw [z] at h
    cases o with
    | none => exact h.elim
    | some s =>
      cases s with
      | val d => exact h.elim
      | dct d => exact h.elim
      | own l =>
        obtain ⟨x, hx, b, vs, rfl, h1, h2, h3, h4⟩ := er.slot j _ z
        refine ⟨_, hx, .inl ⟨rfl, vs, SqL.of h1⟩, g, tG_bindS er h fun P1 H1 y d e1 ry q => ?_⟩
        by_cases hl : l.length < sizeLine
        · rw [if_pos hl] at q
          have h1' := e1.hh _ _ h1
          have h2' := e1.fr b (by rw [h1]; exact fun z => nomatch z) h2
          refine ⟨b, vs, y, rfl, rfl, h1', by rw [dps_length h4]; exact hl, q P1 _ _ (Same.refl _) ((er.step e1).write z rfl hx h2' h3 rfl ?_)⟩
          exact ⟨b, _, rfl, upd_same, h2', h3, dps_append (h4.mono e1.pp) (dps_one ry)⟩
        · rw [if_neg hl] at q; exact q.elim
/-- try: .. except C as e: .., C over all that may be raised -/
def mTryAs (us : List EC) (i : Nat) (mh : EC → Rho → Out) (b : Rho → Out) : Rho → Out := fun ρ => match b ρ with
  | .er c ρ1 => if c ∈ us ∧ i < ρ1.length then (match mh c (ρ1.set i none) with
    | .nx ρ2 => .nx (ρ2.set i none)
    | .rt d => .rt d
    | _ => .stk) else .stk
  | o => o
theorem ms_tryAs {us : List EC} {n : Str} {np pos' : Pos} {b₀ : Stmt} {suite body : List Stmt} {mb : Rho → Out} {mh : EC → Rho → Out} (hs : X.stack = X.env :: X.outer) (hf : X.env.frame = some X.env.locals) (hN : X.N.Nodup) (hi : X.N[i]? = some n) (hln : X.env.kindOf n = some .local) (hc : Names X x (.ref (ca h))) (hx : ∀ c, c ∈ us → PySem.W.exmOne X.K (.ref (ca c)) (.ref (ca h)) = some true) (tk : Takes X W)
    (hb : ∀ (W : WX) (pn : List (Addr × Obj)) (xe : Value → Shared → Prop), Takes (X.tr pn xe) W → PassesOwn (model X.prog X.w) X.A X.env xe → MSs (X.tr pn xe) ca W body mb)
    (hsu : ∀ c ∈ us, ∀ (a : Addr) (oe : Obj) (pn : List (Addr × Obj)), Zc (.ref (ca c)) none oe → (∃ vs, oe.data = .fields vs) → MSsX (X.suite a ((a, oe) :: pn)) ca W0 i a (b₀ :: suite) (mh c)) :
    MS X ca W (.Try body [.ExceptHandler (some (.Name x np)) (some n) (b₀ :: suite) pos'] [] [] pos) (mTryAs us i mh mb) := by
  refine ⟨(ps_try_as (tb := fun W => tS X.K ca W mb) (ts := fun a cls d D σ H => ∃ c ∈ us, cls = .ref (ca c) ∧ d = none ∧ holdsAt i a σ ∧ tS X.K ca W0 (mh c) D σ H) hs hf hN hi hln hc tk (fun W pn xe tk' hp => (hb W pn xe tk' hp).ps)
    fun a oe cls d pn hz hff => ⟨fun pins s σ H D I ⟨c, hc, e1, e2, g, t⟩ => by subst e1; subst e2; exact (hsu c hc a oe pn hz hff).ps.run pins s σ H D I ⟨g, t⟩⟩).imp fun D σ H ⟨H0, P0, P, ρ, er, q⟩ => ⟨H0, P0, P, ρ, er, ?_⟩⟩
  unfold mTryAs at q
  cases z : mb ρ with
  | nx ρ2 => rw [z] at q; exact q
  | rt d => rw [z] at q; exact q
  | bk ρ2 => rw [z] at q; exact q
  | ct ρ2 => rw [z] at q; exact q
  | stk => rw [z] at q; exact q
  | er c ρ1 =>
    rw [z] at q
    intro P1 H1 σ1 s1 er1
    by_cases hcu : c ∈ us ∧ i < ρ1.length
    · have q : SatS X.K ca W H0 P0 P (match mh c (ρ1.set i none) with
        | .nx ρ2 => Out.nx (ρ2.set i none)
        | .rt d => .rt d
        | _ => .stk) D := by
        have e : (if c ∈ us ∧ i < ρ1.length then (match mh c (ρ1.set i none) with
          | .nx ρ2 => Out.nx (ρ2.set i none)
          | .rt d => .rt d
          | _ => .stk) else .stk) = (match mh c (ρ1.set i none) with
          | .nx ρ2 => Out.nx (ρ2.set i none)
          | .rt d => .rt d
          | _ => .stk) := if_pos hcu
        rw [← e]; exact q
      refine ⟨true, hx c hcu.1, fun _ a ha => ?_, fun z => Bool.noConfusion z⟩
      have hil : i < σ1.length := by rw [← er1.len]; exact hcu.2
      refine ⟨c, hcu.1, rfl, rfl, List.getElem?_set_self hil, H0, P0, P1, ρ1.set i none, er1.hide (by rw [List.length_set]) fun j hj => List.getElem?_set_ne (fun e => hj e.symm), ?_⟩
      have q := SatS.up q s1
      revert q
      cases mh c (ρ1.set i none) with
      | nx ρ2 => exact fun q P2 H2 σ2 s2 er2 => q P2 H2 _ s2 (er2.hide (by rw [List.length_set]) fun j hj => List.getElem?_set_ne (fun e => hj e.symm))
      | rt d => exact fun q => q
      | er c ρ2 => exact fun q => q.elim
      | bk ρ2 => exact fun q => q.elim
      | ct ρ2 => exact fun q => q.elim
      | stk => exact fun q => q.elim
    · have q : SatS X.K ca W H0 P0 P (if c ∈ us ∧ i < ρ1.length then (match mh c (ρ1.set i none) with
        | .nx ρ2 => Out.nx (ρ2.set i none)
        | .rt d => .rt d
        | _ => .stk) else .stk) D := q
      rw [if_neg hcu] at q
      exact q.elim
end
end PX
/-! The plain layer, part 30: an exception out of a comprehension's element. -/
namespace PX
open PySem PySem.Spec PyProof.Rows L2
theorem FlyZ_less {B B2 : Heap} {l : List Env} {a : Addr} {Z : Obj → Prop} {h : Heap} (le : ∀ b o, B2.get? b = some o → B.get? b = some o) (f : HandSPX.FlyingZ B l a Z h) : HandSPX.FlyingZ B2 l a Z h := by
  have nn : ∀ b, B.get? b = none → B2.get? b = none := fun b e => by
    cases q : B2.get? b with
    | none => rfl
    | some o => rw [le b o q] at e; cases e
  obtain ⟨f1, f2, f3, oe, vs, T, oT, ts, he, hz, hd, h1, hnT, r⟩ := f
  exact ⟨fun b o e => f1 b o (le b o e), nn _ f2, funFrames_none f3 fun L hL => nn L (f3.mem hL).1, oe, vs, T, oT, ts, he, hz, hd, h1, nn _ hnT, r⟩
theorem HeldZ_but {B : Heap} {l : List Env} {a L C : Addr} {Z : Obj → Prop} {h h2 : Heap} {m m2 : Str → Option Value} (hB : B.get? C = none) (hn : h.Ns C m) (hn2 : h2.Ns C m2) (hs : Heap.SameBut C h h2) (f : HandSPX.HeldZ B l a Z L h) : HandSPX.HeldZ B l a Z L h2 := by
  obtain ⟨f1, f2, f3, oe, vs, T, oT, ts, he, hz, hd, h1, hnT, hTe, hT, hdT, h3⟩ := f
  obtain ⟨oC, es, ep, hC, hdC, _⟩ := hn
  have nf : ∀ b o ws, h.get? b = some o → o.data = .fields ws → b ≠ C := fun b o ws e d z => by
    rw [z, hC] at e; cases e; rw [hdC] at d; cases d
  exact ⟨fun b o e => (hs.2 b fun z => by rw [z, hB] at e; cases e).trans (f1 b o e), f2, Heap.FunFrames.sameBut hs hn2 f3, oe, vs, T, oT, ts, (hs.2 a (nf _ _ _ he hd)).trans he, hz, hd, h1, hnT, hTe, (hs.2 T (nf _ _ _ hT hdT)).trans hT, hdT, h3⟩
section
variable {X : Cx}
/-- a call's exception leaves the block of a comprehension -/
theorem xe_block {pins pb : List (Addr × Obj)} {σ σb : L2.St} {H3 Hb : Hp} {s3 sb s' : Shared} {scope : Scope} {ce : Env} {fp : List Addr} {E : XK} {W : WX} {u : Value} (hs : X.stack = X.env :: X.outer) (hf : X.env.frame = some X.env.locals) (tk : Takes X W) (I3 : Inv X pins σ H3 s3) (hC : s3.heap.get? ce.locals = none) (cF : ce.frame = X.env.frame)
    (hch : ∀ b ∈ fp, (b ∈ X.ex ∨ X.s_0.heap.objs.size ≤ b) ∧ b ≠ X.env.locals ∧ (∀ x c, X.env.cells.lookup x = some c → c ≠ b) ∧ ∀ p ∈ X.pn ++ pins, p.1 ≠ b)
    (Ib : Inv (X.blk s3 H3 scope ce fp) pb σb Hb sb) (c : L2.CX X.prog X.w X.stack Hb sb E u s') (hW : ∀ cls d H', E cls d H' → W cls d σ H') : notedBy (model X.prog X.w) X.A ce (CompFails (model X.prog X.w) X.A X.xe ce) u s' := by
  obtain ⟨a, B, H', cls, d, rfl, fl, hok, ub, na, os, ag, hE⟩ := c
  have hfr : X.A.frames = some (X.env :: X.outer) := by rw [I3.ok.frames, hs]
  generalize hCC : ce.locals = C at hC
  have lo3 : ∀ b o, s3.heap.get? b = some o → b ≠ C := fun b o e z => by rw [z, hC] at e; cases e
  have frN : ∀ b ∈ frs X.stack, ∃ o, s3.heap.get? b = some o ∧ ∀ vs, o.data ≠ .fields vs := fun b hb => (I3.stack.mem hb).2
  have Cfr : C ∉ frs X.stack := fun hm => by
    obtain ⟨o, e, _⟩ := frN C hm
    rw [hC] at e; cases e
  obtain ⟨m, hn, _⟩ := Ib.loc
  have hn : sb.heap.Ns C m := by rw [← hCC]; exact hn
  have HbC : Hb C = none := by rw [← hCC]; exact Ib.free
  obtain ⟨oC, es, ep, hoC, hdC, rC⟩ := hn
  have BC := ub.keep C oC hoC HbC Cfr
  have hns' : s'.heap.Ns C m := ⟨oC, es, ep, fl.1 C oC BC, hdC, rC⟩
  have H'C : H' C = none := ub.free C oC hoC HbC
  obtain ⟨B2, b1, b2⟩ := restrict B fun b => decide (b ≠ C)
  have bB : ∀ b o, B2.get? b = some o → B.get? b = some o ∧ b ≠ C := fun b o e => by
    by_cases z : b = C
    · rw [b2 b (by simp [z])] at e; cases e
    · rw [b1 b (by simp [z])] at e; exact ⟨e, z⟩
  have Bb : ∀ b o, B.get? b = some o → b ≠ C → B2.get? b = some o := fun b o e z => (b1 b (by simp [z])).trans e
  have B2C : B2.get? C = none := b2 C (by simp)
  have fl2 := FlyZ_less (fun b o e => (bB b o e).1) fl
  rw [hs] at fl2
  show wpAny (model X.prog X.w) X.A (noteFrame (.ref a) ce) _ _ s'
  rw [noteFrame_env _ cF]
  refine HandSPX.looks_onZ Zc.steady hfr hf fl2 fun h1 hH1 up1 => ?_
  have hns1 : h1.Ns C m := hns'.upToSlots up1
  refine ⟨m, by rw [hCC]; exact hns1, fun h2 m2 hn2 hs2 => ?_⟩
  rw [hCC] at hn2 hs2
  have hH2 := HeldZ_but B2C hns1 hn2 hs2 hH1
  have hH2' := hH2
  obtain ⟨f1, f2, f3, oe, vs, T, oT, ts, he, hz, hd, ht1, hnT, hTe, hT, hdT, h3⟩ := hH2'
  unfold PySem.passOn
  refine wpAny_bind (wpAny_field he hd ht1 ?_)
  rw [if_neg (show ¬ ((Value.ref T == Value.none) = true) from by simp)]
  rw [cF, hf]
  refine wpAny_bind (HandSPX.setFlight_onZ hH2 fun h3 hH3 up3 => ?_)
  refine wpAny_throw (tk _ _ ?_)
  -- the state without the exception
  obtain ⟨G, g1, g2⟩ := restrict h3 fun b => (B2.get? b).isSome || decide (b ∈ frs X.stack)
  have st : B2.StaysIn h3 := hH3.1
  have gB : ∀ b o, B2.get? b = some o → G.get? b = some o := fun b o e => by
    rw [g1 b (by simp [e])]
    exact st b o e
  have gF : ∀ b, b ∈ frs X.stack → G.get? b = h3.get? b := fun b hb => g1 b (by simp [hb])
  have og : ∀ b o, G.get? b = some o → h3.get? b = some o ∧ ((B2.get? b).isSome = true ∨ b ∈ frs X.stack) := fun b o e => by
    cases q : ((B2.get? b).isSome || decide (b ∈ frs X.stack)) with
    | false => rw [g2 b q] at e; cases e
    | true =>
      rw [g1 b q] at e
      exact ⟨e, by simpa [Bool.or_eq_true] using q⟩
  have slots : ∀ b ∈ frs X.stack, ∀ o, s3.heap.get? b = some o → H3 b = none → b ∉ fp → ∃ sl, sb.heap.get? b = some { o with slots := sl } ∧ ∃ sl', h3.get? b = some { o with slots := sl' } := fun b hb o e n hx => by
    obtain ⟨o', e', nf⟩ := frN b hb
    rw [e] at e'; cases e'
    obtain ⟨sl, q⟩ := Ib.base.slot b o e n hb hx
    obtain ⟨sl1, q1⟩ := ub.slot b _ q hb
    obtain ⟨sl2, q2⟩ := up1 b _ q1 nf
    have q3 := (hs2.2 b (lo3 b o e)).trans q2
    obtain ⟨sl4, q4⟩ := up3 b _ q3 nf
    exact ⟨sl, q, sl4, q4⟩
  refine ⟨a, B2, { s3 with heap := G, gens := s'.gens, drawn := s'.drawn, toks := s'.toks }, pins, σ, H', cls, d, rfl, ?_, fun b o e hb => ?_, Heap.UpToSlots.of_keeps fun b o e => (og b o e).1, .inr (.inr (by rw [hs]; exact hH3)), na, os.trans Ib.os, ag, hW _ _ _ hE⟩
  · refine I3.call' (ch := fp) rfl ⟨fun b o e n hb hx => ?_, fun b o e n hb hx => ?_, fun b o e n hx => ?_, fun b o e hx => ?_, fun b xs e => ub.tups b xs (Ib.base.tups b xs e), fun b o xs e => ub.frzs b o xs (Ib.base.frzs b o xs e), fun b ps e => ?_⟩ ?_ ag hch
    · exact gB b o (Bb b o (ub.keep b o (Ib.base.keep b o e n hb hx) (Ib.base.free b o e n hx) hb) (lo3 b o e))
    · obtain ⟨_, _, sl, q⟩ := slots b hb o e n hx
      exact ⟨sl, by rw [gF b hb]; exact q⟩
    · by_cases hb : b ∈ frs X.stack
      · obtain ⟨sl, q, _⟩ := slots b hb o e n hx
        exact ub.free b _ q (Ib.base.free b o e n hx)
      · exact ub.free b o (Ib.base.keep b o e n hb hx) (Ib.base.free b o e n hx)
    · obtain ⟨o1, q1⟩ := Ib.base.there b o e hx
      by_cases hb : b ∈ frs X.stack
      · obtain ⟨sl1, q2⟩ := ub.slot b _ q1 hb
        obtain ⟨o', e', nf⟩ := frN b hb
        rw [e] at e'; cases e'
        have nf1 : ∀ vs, o1.data ≠ .fields vs := fun vs z => by
          have hn3 := I3.stkFree b hb
          obtain ⟨sl, q⟩ := Ib.base.slot b o e hn3 hb hx
          rw [q1] at q; cases q
          exact nf vs z
        obtain ⟨sl2, q3⟩ := up1 b _ q2 nf1
        have q4 := (hs2.2 b (lo3 b o e)).trans q3
        obtain ⟨sl5, q5⟩ := up3 b _ q4 nf1
        exact ⟨_, by rw [gF b hb]; exact q5⟩
      · obtain ⟨o2, q2⟩ := ub.there b o1 q1 hb
        exact ⟨o2, gB b o2 (Bb b o2 q2 (lo3 b o e))⟩
    · obtain ⟨more, q⟩ := Ib.base.tbls b ps e
      obtain ⟨more2, q2⟩ := ub.tbls b _ q
      exact ⟨more ++ more2, by rw [q2, Array.append_assoc]⟩
    · exact HOk.kept (h := B2) (fun b o q => (hok b o q).stay (fun c u hc r => Bb c u r fun z => by
        rcases hc with hc | hc
        · rw [z] at hc; rw [← hc, H'C] at q; cases q
        · rw [z, H'C] at hc; cases hc) (fun _ r => r) fun _ _ r => r) gB
  · obtain ⟨e', h⟩ := og b o e
    rcases h with h | h
    · obtain ⟨o', q⟩ := Option.isSome_iff_exists.mp h
      have z := st b o' q
      rw [e'] at z; cases z
      exact q
    · exact absurd h hb
/-- [elt for target in iter if ..], whose element may raise: what leaves is what W wants of it -/
theorem lc_coreX {pins : List (Addr × Obj)} {s : Shared} {σ : L2.St} {H : Hp} {Q : VK} {elt tg iter : Expr} {ifs : List Expr} {scope : Scope} {own : List (Str × Nat)} {pos pos' : Pos} {wi : TI} {g : TG} {tt : TT} {te : XK → TE} {use : Option (Value → Sem Unit)} {Qf : Value → Shared → Prop} {W : WX}
    (hst : X.stack = X.env :: X.outer) (hfr : X.env.frame = some X.env.locals) (tk : Takes X W) (hc : X.calm = true) (hN : X.N.Nodup) (I : Inv X pins σ H s) (hi : PI X tg iter wi) (ok : BlkOk X.N X.env.scope scope own)
    (hg : ∀ (s : Shared) (H : Hp) (C : Addr) (cl : List (Str × Addr)) (fp : List Addr), PG (X.blk s H scope (compEnvC scope cl C X.env) fp) tg g) (ht : ∀ (s : Shared) (H : Hp) (C : Addr) (cl : List (Str × Addr)) (fp : List Addr), PTs (X.blk s H scope (compEnvC scope cl C X.env) fp) ifs tt)
    (he : ∀ (E0 : XK) (s : Shared) (H : Hp) (C : Addr) (cl : List (Str × Addr)) (fp : List Addr) (xe : Value → Shared → Prop), (∀ σ, PassesAt (L2.CX X.prog X.w) ((X.blk s H scope (compEnvC scope cl C X.env) fp).wish xe) σ E0) → PE ((X.blk s H scope (compEnvC scope cl C X.env) fp).wish xe) elt (te E0)) (hs : ∀ x, foldedSetIterable iter X.env x = pure x)
    (h : tLc wi g tt (te fun cls d H => W cls d σ H) (own.map (·.2)) σ H Q)
    (hRR : ∀ D C s' m H', Inv X pins σ H' s' → Q (.ref D) H' → s'.heap.Ns C m → FpOk X pins H' C → compPost (model X.prog X.w) X.A X.xe use Qf (.ref D) C (.ok .next) s') :
    wpAny (model X.prog X.w) X.A (comprehension (.ListComp elt [⟨tg, iter, ifs, 0⟩] scope pos) scope X.env pos' (newList []) false (eval iter X.env) use) Qf X.xe s := by
  have clos := closure_ok (scope := scope) (env := X.env) fun y hy e => by
    rcases ok.free y hy e with k | k
    · exact I.ok.has _ (.inl k)
    · exact I.ok.has _ (.inr k)
  refine comprehension_at (use := use) rfl hs clos ok.kind (fun y hy e => by rw [ok.uniq y hy, e]) (thn (hi.run pins s σ H _ I h) fun xv s1 hx => thn hx fun itv s2 h2 => ?_)
  obtain ⟨it, fp, tn, J, H2, rfl, I2, T, st2, f2, q⟩ := h2
  refine wpAny_newObj_type (newEnv_comp ?_) (by show 0 ≤ sizeLine; decide)
  -- the new list, the block's names
  generalize hD : s2.heap.objs.size = D
  have hDn : H2 D = none := I2.hok.fresh (Nat.le_of_eq hD)
  obtain ⟨V, ⟨m0, w0⟩, turn⟩ := q D hDn
  generalize hs3 : ({ s2 with heap := s2.heap.push { cls := .type "list", data := .seq ([] : List Value).toArray } } : Shared) = s3
  have h3 : s3.heap = s2.heap.push { cls := .type "list", data := .seq ([] : List Value).toArray } := by rw [← hs3]
  have I3 : Inv X pins σ (upd H2 D (.lst [])) s3 := by
    rw [← hs3]
    refine I2.laid (t' := s2.toks) (fun b o e => Heap.get?_push_of_some _ e) (Nat.le_of_eq hD) ⟨Nat.zero_le _, [], 0, .nil, ?_⟩
    rw [← hD]
    exact Heap.get?_push_size _ rfl
  have f3 : ∀ b ∈ fp, FpOk X pins (upd H2 D (.lst [])) b ∧ b < s3.heap.objs.size := fun b hb => by
    obtain ⟨o, e, _⟩ := T.obj _ _ st2 b hb
    have lt := Heap.lt_size e
    refine ⟨⟨?_, (f2 b hb).2⟩, by rw [h3, Heap.size_push]; exact Nat.lt_succ_of_lt lt⟩
    rw [upd_ne (by rw [← hD]; exact Nat.ne_of_lt lt)]
    exact (f2 b hb).1
  have st3 : tn 0 s3.heap := T.keep _ _ _ st2 fun b _ o e => by rw [h3]; exact Heap.get?_push_of_some _ e
  have I4 := block_start I3 ok hN f3
  have pg := hg s3 (upd H2 D (.lst [])) s3.heap.objs.size (cellsFrom (s3.heap.objs.size + 1) scope.names (cloFrom X.env.cells scope.names [])) fp
  have pt := ht s3 (upd H2 D (.lst [])) s3.heap.objs.size (cellsFrom (s3.heap.objs.size + 1) scope.names (cloFrom X.env.cells scope.names [])) fp
  have pe := he (fun cls d H => W cls d σ H) s3 (upd H2 D (.lst [])) s3.heap.objs.size (cellsFrom (s3.heap.objs.size + 1) scope.names (cloFrom X.env.cells scope.names [])) fp
  show codeAny _ _ (.compStart (.ListComp elt [⟨tg, iter, ifs, 0⟩] scope pos) 0 (.ref it) (.ref D) (compEnvC scope (cellsFrom (s3.heap.objs.size + 1) scope.names (cloFrom X.env.cells scope.names [])) s3.heap.objs.size X.env)) (compEnds (model X.prog X.w) X.A X.xe use Qf (.ref D) (compEnvC scope (cellsFrom (s3.heap.objs.size + 1) scope.names (cloFrom X.env.cells scope.names [])) s3.heap.objs.size X.env)) { s3 with heap := pushCells (s3.heap.push { cls := .type "dict", data := .dict #[] }) scope.names }
  have nfp : ∀ b ∈ fp, (upd H2 D (.lst [])) b = none := fun b hb => (f3 b hb).1.1
  have cF : (compEnvC scope (cellsFrom (s3.heap.objs.size + 1) scope.names (cloFrom X.env.cells scope.names [])) s3.heap.objs.size X.env).frame = X.env.frame := rfl
  have cL : (compEnvC scope (cellsFrom (s3.heap.objs.size + 1) scope.names (cloFrom X.env.cells scope.names [])) s3.heap.objs.size X.env).locals = s3.heap.objs.size := rfl
  generalize compEnvC scope (cellsFrom (s3.heap.objs.size + 1) scope.names (cloFrom X.env.cells scope.names [])) s3.heap.objs.size X.env = ce at I4 pg pt pe cF cL ⊢
  generalize upd H2 D (.lst []) = H3 at I3 I4 pg pt pe w0 nfp f3
  generalize hs4 : ({ s3 with heap := pushCells (s3.heap.push { cls := .type "dict", data := .dict #[] }) scope.names } : Shared) = s4 at I4 ⊢
  have st4 : tn 0 s4.heap := T.keep _ _ _ st3 fun b _ o e => by rw [← hs4]; exact pushCells_keeps _ _ _ _ (Heap.get?_push_of_some _ e)
  have chg : ∀ b ∈ fp, (b ∈ X.ex ∨ X.s_0.heap.objs.size ≤ b) ∧ b ≠ X.env.locals ∧ (∀ x c, X.env.cells.lookup x = some c → c ≠ b) ∧ ∀ p ∈ X.pn ++ pins, p.1 ≠ b := fun b hb => by
    obtain ⟨_, k1, _, k3, k4, k5⟩ := (f3 b hb).1
    exact ⟨k3, k1, k4, k5⟩
  have hCn : s3.heap.get? ce.locals = none := by
    rw [cL]
    cases e : s3.heap.get? s3.heap.objs.size with
    | none => rfl
    | some o => exact absurd (Heap.lt_size e) (Nat.lt_irrefl _)
  have stat : ∀ {σ' : L2.St} {H' : Hp} {s' : Shared}, Inv (X.blk s3 H3 scope ce fp) [] σ' H' s' → (∀ b ∈ fp, H' b = none) → ∀ b ∈ fp, FpOk (X.blk s3 H3 scope ce fp) [] H' b := fun {σ' H' s'} I' hn b hb =>
    ⟨hn b hb, (I'.ok.exf b hb).1, I'.ok.exfs b hb, .inl hb, fun x c e => (I'.ok.exf b hb).2 x c e, fun p hp => absurd (show p ∈ ([] : List (Addr × Obj)) ++ [] from hp) (by simp)⟩
  have errEq : (fun (e : Value) (s' : Shared) => compEnds (model X.prog X.w) X.A X.xe use Qf (.ref D) ce (.error e) s') = CompFails (model X.prog X.w) X.A X.xe ce := by
    funext e s'
    cases use <;> rfl
  have loop : codeAny (model X.prog X.w) X.A (.compLoop (.ListComp elt [⟨tg, iter, ifs, 0⟩] scope pos) 0 (.ref it) (.ref D) ce) (compEnds (model X.prog X.w) X.A X.xe use Qf (.ref D) ce) s4 := by
    refine compLoop_any (fun n s' => ∃ i H', Inv (X.blk s3 H3 scope ce fp) [] (L2.wipe σ (own.map (·.2))) H' s' ∧ tn i s'.heap ∧ (∀ b ∈ fp, H' b = none) ∧ V i n H') ?_ m0 ⟨0, H3, I4, st4, nfp, w0⟩
    rintro n s5 ⟨i, H5, I5, st5, n5, w5⟩
    rw [errEq]
    rcases turn i n H5 w5 with ⟨stop, qq⟩ | ⟨go, Nx, hNx, step⟩
    · refine thnF (T.done (X.blk s3 H3 scope ce fp) rfl rfl rfl hc i [] s5 _ H5 (fun _ _ => False) I5 (stat I5 n5) st5 stop) fun r s6 ⟨hr, I6⟩ => ?_
      subst hr
      have I7 : Inv X pins σ H5 s6 := I3.call' (ch := fp) I6.os I6.base I6.hok I6.bare chg
      have nC : H5 ce.locals = none := I6.free
      obtain ⟨m, hn, _⟩ := I6.loc
      have hn : s6.heap.Ns ce.locals m := hn
      have done := hRR D ce.locals s6 m H5 I7 qq hn (by rw [cL]; exact I3.fpOk (Nat.le_refl _) (by rw [← cL]; exact nC))
      show compEnds (model X.prog X.w) X.A X.xe use Qf (.ref D) ce (.ok .next) s6
      cases use <;> exact done
    · refine thnF (T.item (X.blk s3 H3 scope ce fp) rfl rfl rfl hc i [] s5 _ H5 (fun _ _ => False) I5 (stat I5 n5) st5 go) fun r s6 ⟨u, hr, h6⟩ => ?_
      subst hr
      refine thnF h6 fun _ s7 ⟨x, H7, I7, r7, y7, st7, n7⟩ => ?_
      refine thnF (pg.run _ s7 _ H7 x u _ (I7.pinned (stat I7 n7) (T.obj _ _ st7)) r7 (step x H7 y7)) fun _ s8 ⟨σ8, H8, I8, hw8, q8⟩ => ?_
      refine thnF (pt.run _ s8 σ8 H8 _ I8 q8) fun b s9 ⟨H9, I9, q9⟩ => ?_
      have fin : ∀ {s' : Shared} {H' : Hp}, Inv (X.blk s3 H3 scope ce fp) ([] ++ pinsAt fp s7.heap) σ8 H' s' → Nx H' → ∃ m, m < n ∧ ∃ i H', Inv (X.blk s3 H3 scope ce fp) [] (L2.wipe σ (own.map (·.2))) H' s' ∧ tn i s'.heap ∧ (∀ b ∈ fp, H' b = none) ∧ V i m H' := fun {s' H'} I' nx => by
        obtain ⟨m', hm, w'⟩ := hNx H' nx
        have pin' : ∀ b ∈ fp, ∀ o, s7.heap.get? b = some o → s'.heap.get? b = some o ∧ H' b = none := fun b hb o e =>
          let z := I'.pin (b, o) (List.mem_append_right _ (List.mem_append_right _ (mem_pinsAt hb e)))
          ⟨z.1, z.2.1⟩
        refine ⟨m', hm, i + 1, H', (I'.unpinned (pins := [])).weak (by rw [← hw8, L2.wipe_length]) (fun j v e => ?_), T.keep _ _ _ st7 fun b hb o e => (pin' b hb o e).1, fun b hb => ?_, w'⟩
        · rw [← hw8] at e
          exact (L2.wipe_some e).1
        · obtain ⟨o, e, _⟩ := T.obj _ _ st7 b hb
          exact (pin' b hb o e).2
      cases b with
      | false =>
        simp only [Bool.false_eq_true, if_false] at q9 ⊢
        exact fin I9 q9
      | true =>
        simp only [if_true] at q9 ⊢
        have per := (pe (fun e s' => ∃ pb σb Hb sb, Inv (X.blk s3 H3 scope ce fp) pb σb Hb sb ∧ L2.CX X.prog X.w X.stack Hb sb (fun cls d H => W cls d σ H) e s') fun σb pb Hb sb e s' Ib c => ⟨pb, σb, Hb, sb, Ib.unwish, c⟩).run _ s9 σ8 H9 _ (I9.wish _) q9
        refine wpAny_mono per (fun z s10 ⟨yv, H10, I10, r10, acc, hD10, hz10, nx⟩ => ?_) fun e s' ⟨pb, σb, Hb, sb, Ib, c⟩ => xe_block hst hfr tk I3 hCn cF chg Ib c fun _ _ _ w => w
        exact app_ok (X := X.blk s3 H3 scope ce fp) I10.unwish hD10 hz10 r10 fun s11 I11 => fin I11 nx
  exact codeAny_compStart_list loop (T.self X.A 0 _ _ _ st4 loop)
end
end PX
/-! The plain layer, part 31: comprehensions whose element may raise. -/
namespace PX
open PySem PySem.Spec PyProof.Rows L2
section
variable {X : Cx}
theorem pe_lcX {elt tg iter : Expr} {ifs : List Expr} {scope : Scope} {own : List (Str × Nat)} {pos : Pos} {wi : TI} {g : TG} {tt : TT} {te : XK → TE} {W : WX} (hst : X.stack = X.env :: X.outer) (hfr : X.env.frame = some X.env.locals) (tk : Takes X W) (hc : X.calm = true) (hN : X.N.Nodup) (hi : PI X tg iter wi) (ok : BlkOk X.N X.env.scope scope own)
    (hg : ∀ (s : Shared) (H : Hp) (C : Addr) (cl : List (Str × Addr)) (fp : List Addr), PG (X.blk s H scope (compEnvC scope cl C X.env) fp) tg g) (ht : ∀ (s : Shared) (H : Hp) (C : Addr) (cl : List (Str × Addr)) (fp : List Addr), PTs (X.blk s H scope (compEnvC scope cl C X.env) fp) ifs tt)
    (he : ∀ (E0 : XK) (s : Shared) (H : Hp) (C : Addr) (cl : List (Str × Addr)) (fp : List Addr) (xe : Value → Shared → Prop), (∀ σ, PassesAt (L2.CX X.prog X.w) ((X.blk s H scope (compEnvC scope cl C X.env) fp).wish xe) σ E0) → PE ((X.blk s H scope (compEnvC scope cl C X.env) fp).wish xe) elt (te E0)) (hs : ∀ x, foldedSetIterable iter X.env x = pure x := by intro _; rfl) :
    PE X (.ListComp elt [⟨tg, iter, ifs, 0⟩] scope pos) (fun σ H Q => tLc wi g tt (te fun cls d H => W cls d σ H) (own.map (·.2)) σ H Q) := by
  refine ⟨fun pins s σ H Q I h => ?_⟩
  rw [eval_ListComp]
  refine lc_coreX hst hfr tk hc hN I hi ok hg ht he hs h fun D C s' m H' I' q hn f => ⟨m, hn, fun h'' sb => ?_⟩
  obtain ⟨f0, f1, _, f3, f4, f5⟩ := f
  exact ⟨.ref D, H', I'.turned (t' := s'.toks) (fun b o hb e => (sb.2 b hb).trans e) f0 f1 f3 f4 f5, rfl, q⟩
theorem ps_setLcX {i : Nat} {y : Str} {py : Pos} {elt tg iter : Expr} {ifs : List Expr} {scope : Scope} {own : List (Str × Nat)} {pos spos : Pos} {wi : TI} {g : TG} {tt : TT} {te : XK → TE} {W : WX} (hst : X.stack = X.env :: X.outer) (hfr : X.env.frame = some X.env.locals) (tk : Takes X W) (hc : X.calm = true) (hN : X.N.Nodup) (hy : X.N[i]? = some y) (hyl : X.env.scope.names.lookup y = some .local)
    (hsw : swapsWith (.ListComp elt [⟨tg, iter, ifs, 0⟩] scope pos) (some (.Name y py)) spos.line X.env = pure true) (hi : PI X tg iter wi) (ok : BlkOk X.N X.env.scope scope own)
    (hg : ∀ (s : Shared) (H : Hp) (C : Addr) (cl : List (Str × Addr)) (fp : List Addr), PG (X.blk s H scope (compEnvC scope cl C X.env) fp) tg g) (ht : ∀ (s : Shared) (H : Hp) (C : Addr) (cl : List (Str × Addr)) (fp : List Addr), PTs (X.blk s H scope (compEnvC scope cl C X.env) fp) ifs tt)
    (he : ∀ (E0 : XK) (s : Shared) (H : Hp) (C : Addr) (cl : List (Str × Addr)) (fp : List Addr) (xe : Value → Shared → Prop), (∀ σ, PassesAt (L2.CX X.prog X.w) ((X.blk s H scope (compEnvC scope cl C X.env) fp).wish xe) σ E0) → PE ((X.blk s H scope (compEnvC scope cl C X.env) fp).wish xe) elt (te E0)) (hs : ∀ x, foldedSetIterable iter X.env x = pure x := by intro _; rfl) :
    PS X (.Assign [.Name y py] (.ListComp elt [⟨tg, iter, ifs, 0⟩] scope pos) spos) (fun D σ H => tLc wi g tt (te fun cls d H => W cls d σ H) (own.map (·.2)) σ H fun x H1 => gName i x σ H1 D.nx) := by
  refine ⟨fun pins s σ H D I h => ?_⟩
  rw [exec_Assign_Name_used _ _ _ _ hsw]
  refine wpAny_bind (wpAny_standAt (wpAny_bind ?_))
  show wpAny _ X.A (do let _ ← comprehension (.ListComp elt [⟨tg, iter, ifs, 0⟩] scope pos) scope X.env (firstIterPos [⟨tg, iter, ifs, 0⟩] pos) (newList []) false (eval iter X.env) (some (assign (.Name y py) X.env))) _ _ s
  refine wpAny_bind (thn (lc_coreX (Qf := fun _ s' => SP X pins D .next s') hst hfr tk hc hN I hi ok hg ht he hs h fun L C s' m H' I' q hn f => ?_) fun _ s' hq => wpAny_pure (wpAny_pure hq))
  show wpAny _ _ (assign (.Name y py) X.env (.ref L)) _ _ _
  refine wpAny_assign_Name (store_ok2 (v := V.ref L) I' hN hy (.inl hyl) rfl (fun s2 I2 ⟨a, sb, ha⟩ => ?_) (.inr hyl))
  obtain ⟨f0, f1, _, f3, f4, f5⟩ := f
  have haC : C ≠ a := by
    rcases ha with z | z
    · rw [z]; exact f1
    · exact fun e => f4 y a z e.symm
  exact ⟨m, hn.sameBut sb haC, fun h3 sb3 => ⟨_, H', I2.turned (t' := s2.toks) (fun b o hb e => (sb3.2 b hb).trans e) f0 f1 f3 f4 f5, q⟩⟩
end
/-! ### the mirror -/
def lcLX (g : D → Rho → Option Rho) (c : Rho → Res Bool) (e : Rho → Res D) (ρ : Rho) : List D → List D → Res (List D)
  | [], acc => .ok acc
  | d :: ds, acc => match g d ρ with
    | none => .stk
    | some ρ1 => (noer (c ρ1)).bind fun k => if k = true then (e ρ1).bind fun y => if acc.length < sizeLine then lcLX g c e ρ ds (acc ++ [y]) else .stk else lcLX g c e ρ ds acc
def mLcX (it : Rho → Res (List D)) (vs : List Nat) (g : D → Rho → Option Rho) (c : Rho → Res Bool) (e : Rho → Res D) : Rho → Res (List D) := fun ρ => (it ρ).bind fun l => lcLX g c e (wipeR ρ vs) l []
@[simp] theorem mLcX_ap {it : Rho → Res (List D)} {vs : List Nat} {g : D → Rho → Option Rho} {c : Rho → Res Bool} {e : Rho → Res D} {ρ : Rho} : mLcX it vs g c e ρ = (it ρ).bind fun l => lcLX g c e (wipeR ρ vs) l [] := rfl
section
variable {X : Cx} {ca : EC → Addr} {W : WX} {pos : Pos}
theorem lc_readX {K : PySem.W.Frag} {wi : TI} {t : TG} {tt : TT} {te : XK → TE} {vs : List Nat} {mi : Rho → Res (List D)} {g : D → Rho → Option Rho} {mc : Rho → Res Bool} {mel : Rho → Res D} {σ : L2.St} {H0 P0 P H : Hp} {ρ : Rho} {Q : VK}
    (hwi : ∀ R, tI K ca W mi σ H R → wi σ H R) (htg : TgW K t vs g) (htt : ∀ σ H Q, tG K rB ca W0 mc σ H Q → tt σ H Q) (hte : ∀ E0 σ H Q, tG K (rD K) ca (fun c d _ H => E0 c d H) mel σ H Q → te E0 σ H Q)
    (er : ER K H0 P0 P H σ ρ) (h : SatF K ca W σ P H (mLcX mi vs g mc mel ρ) Q) : tLc wi t tt (te fun c d H => W c d σ H) vs σ H Q := by
  refine hwi _ ⟨H0, P0, P, ρ, er, ?_⟩
  unfold mLcX at h
  cases z : mi ρ with
  | er c => rw [z] at h; exact h
  | stk => rw [z] at h; exact h
  | ok l =>
    rw [z] at h
    intro P1 H1 J e1 ⟨G, Y, wk, hG, hY⟩ D hD
    have h : SatF K ca W σ P H (lcLX g mc mel (wipeR ρ vs) l []) Q := h
    let FS : Res (List PX.D) → Prop := fun r => match r with
      | .ok l => ∀ P' H' a vs, Ex P1 H1 P' H' → H' a = none → DrAll K P' vs l → Q (.ref a) (upd H' a (.lst vs))
      | .er c => ∀ P' H', Ex P1 H1 P' H' → W (.ref (ca c)) none σ H'
      | .stk => False
    have h : FS (lcLX g mc mel (wipeR ρ vs) l []) := by
      revert h
      cases lcLX g mc mel (wipeR ρ vs) l [] with
      | ok l => exact fun h P' H' a vs e2 => h P' H' a vs (e1.trans e2)
      | er c => exact fun h P' H' e2 => h P' H' (e1.trans e2)
      | stk => exact fun h => h
    have nostk : ¬ FS .stk := fun h => h
    refine lc_it wk (fun i H => ∃ Pm Hm ws acc, H = upd Hm D (.lst ws) ∧ Hm D = none ∧ Ex P1 H1 Pm Hm ∧ DrAll K Pm ws acc ∧ FS (lcLX g mc mel (wipeR ρ vs) (l.drop i) acc)) ⟨P1, H1, [], [], rfl, hD, Ex.refl e1.ph, .nil, h⟩ ?_ ?_ ?_
    · rintro i H hi ⟨Pm, Hm, ws, acc, rfl, hm, em, rw', q⟩
      exact hG Pm _ em.pp (em.ph.trans (same_upd hm))
    · rintro i x H H' hi ⟨Pm, Hm, ws, acc, rfl, hm, em, rw', q⟩ y
      obtain ⟨P2, d, e2, hd, rd⟩ := hY i Pm _ x H' hi em.pp (em.ph.trans (same_upd hm)) y
      have hdr : l.drop i = d :: l.drop (i + 1) := by
        obtain ⟨h1, h2⟩ := List.getElem?_eq_some_iff.mp hd
        rw [← h2]; exact List.drop_eq_getElem_cons h1
      rw [hdr] at q
      unfold lcLX at q
      have er2 : ER K H0 P0 P2 H' (L2.wipe σ vs) (wipeR ρ vs) := (er.step ((e1.trans em).trans ((Ex.out em.ph hm).trans e2))).wipe vs
      cases zg : g d (wipeR ρ vs) with
      | none =>
        simp only [zg] at q
        exact absurd q nostk
      | some ρ1 =>
        simp only [zg] at q
        refine htg H0 P0 P2 H' σ _ x d ρ1 _ er2 rd zg fun σ2 hw er3 => ⟨hw, htt _ _ _ ?_⟩
        obtain ⟨k, zc, q⟩ := noer_ok FS nostk q
        obtain ⟨x2, hd2⟩ := Ex.wo em.ph hm e2
        refine ⟨H0, P0, P2, ρ1, er3, ?_⟩
        rw [zc]
        rintro P3 H3 b e3 rfl
        have e23 := e2.trans e3
        obtain ⟨x3, hd3⟩ := Ex.wo em.ph hm e23
        cases b with
        | false =>
          rw [if_neg Bool.false_ne_true] at q ⊢
          exact ⟨P3, wo H3 D, ws, acc, wo_self hd3, wo_at, em.trans x3, rw'.mono x3.pp, q⟩
        | true =>
          rw [if_pos rfl] at q ⊢
          refine hte _ _ _ _ ⟨H0, P0, P3, ρ1, er3.step e3, ?_⟩
          cases ze : mel ρ1 with
          | stk => rw [ze] at q; exact absurd q nostk
          | er c =>
            rw [ze] at q
            exact fun P4 H4 e4 => q P4 H4 (em.trans ((Ex.out em.ph hm).trans (e23.trans e4)))
          | ok v =>
            rw [ze] at q
            intro P4 H4 y4 e4 r4
            obtain ⟨x4, hd4⟩ := Ex.wo em.ph hm (e23.trans e4)
            have q : FS (if acc.length < sizeLine then lcLX g mc mel (wipeR ρ vs) (l.drop (i + 1)) (acc ++ [v]) else .stk) := q
            by_cases hl : acc.length < sizeLine
            · rw [if_pos hl] at q
              exact ⟨ws, hd4, by rw [dps_length rw']; exact hl, P4, wo H4 D, ws ++ [y4], acc ++ [v], wo_upd (o' := .lst ws), wo_at, em.trans x4, dps_append (rw'.mono x4.pp) (dps_one r4), q⟩
            · rw [if_neg hl] at q; exact absurd q nostk
    · rintro H ⟨Pm, Hm, ws, acc, rfl, hm, em, rw', q⟩
      rw [List.drop_length] at q
      exact q Pm Hm D ws em hm rw'
variable {elt tg iter c : Expr} {scope : Scope} {mi : Rho → Res (List D)} {g : D → Rho → Option Rho} {mc : Rho → Res Bool} {mel : Rho → Res D} {t : TG} {own : List (Str × Nat)}
structure CPX (X : Cx) (ca : EC → Addr) (W : WX) (scope : Scope) (own : List (Str × Nat)) (tg iter elt : Expr) (ifs : List Expr) (t : TG) (mi : Rho → Res (List D)) (g : D → Rho → Option Rho) (mc : Rho → Res Bool) (mel : Rho → Res D) : Prop where
  calm : X.calm = true
  nd : X.N.Nodup
  st : X.stack = X.env :: X.outer
  fr : X.env.frame = some X.env.locals
  tk : Takes X W
  it : MI X ca W tg iter mi
  blk : BlkOk X.N X.env.scope scope own
  pg : ∀ (s : Shared) (H : Hp) (C : Addr) (cl : List (Str × Addr)) (fp : List Addr), PG (X.blk s H scope (compEnvC scope cl C X.env) fp) tg t
  tgw : TgW X.K t (own.map (·.2)) g
  pt : ∀ (s : Shared) (H : Hp) (C : Addr) (cl : List (Str × Addr)) (fp : List Addr), PTs (X.blk s H scope (compEnvC scope cl C X.env) fp) ifs (tG X.K rB ca W0 mc)
  pe : ∀ (E0 : XK) (s : Shared) (H : Hp) (C : Addr) (cl : List (Str × Addr)) (fp : List Addr) (xe : Value → Shared → Prop), (∀ σ, PassesAt (L2.CX X.prog X.w) ((X.blk s H scope (compEnvC scope cl C X.env) fp).wish xe) σ E0) → ME ((X.blk s H scope (compEnvC scope cl C X.env) fp).wish xe) ca (fun c d _ H => E0 c d H) elt mel
theorem mf_lcX {ifs : List Expr} (p : CPX X ca W scope own tg iter elt ifs t mi g mc mel) (hs : ∀ x, foldedSetIterable iter X.env x = pure x := by intro _; rfl) : MF X ca W (.ListComp elt [⟨tg, iter, ifs, 0⟩] scope pos) (mLcX mi (own.map (·.2)) g mc mel) := by
  refine ⟨(pe_lcX (te := fun E0 => tG X.K (rD X.K) ca (fun c d _ H => E0 c d H) mel) p.st p.fr p.tk p.calm p.nd p.it.pi p.blk p.pg p.pt (fun E0 s H C cl fp xe hp => (p.pe E0 s H C cl fp xe hp).pe) hs).imp fun σ H Q ⟨H0, P0, P, ρ, er, h⟩ => ?_⟩
  exact lc_readX (te := fun E0 => tG X.K (rD X.K) ca (fun c d _ H => E0 c d H) mel) (fun R h => h) p.tgw (fun _ _ _ h => h) (fun _ _ _ _ h => h) er h
variable {i : Nat} {y : Str} {py p' spos : Pos}
theorem ms_setLcFX {ifs : List Expr} (p : CPX X ca W scope own tg iter elt ifs t mi g mc mel) (hy : X.N[i]? = some y) (hyl : X.env.scope.names.lookup y = some .local) (hsw : swapsWith (.ListComp elt [⟨tg, iter, ifs, 0⟩] scope pos) (some (.Name y py)) spos.line X.env = pure true)
    (hs : ∀ x, foldedSetIterable iter X.env x = pure x := by intro _; rfl) : MS X ca W (.Assign [.Name y py] (.ListComp elt [⟨tg, iter, ifs, 0⟩] scope pos) spos) (mSetF i (mLcX mi (own.map (·.2)) g mc mel)) := by
  refine ⟨(ps_setLcX (te := fun E0 => tG X.K (rD X.K) ca (fun c d _ H => E0 c d H) mel) p.st p.fr p.tk p.calm p.nd hy hyl hsw p.it.pi p.blk p.pg p.pt (fun E0 s H C cl fp xe hp => (p.pe E0 s H C cl fp xe hp).pe) hs).imp fun D σ H ⟨H0, P0, P, ρ, er, h⟩ => ?_⟩
  refine lc_readX (te := fun E0 => tG X.K (rD X.K) ca (fun c d _ H => E0 c d H) mel) (fun R h => h) p.tgw (fun _ _ _ h => h) (fun _ _ _ _ h => h) er (fs_of er h fun P1 H1 a vs l e1 ha rv q => ?_)
  exact q P1 _ _ (Same.refl _) ((er.step e1).setOwn ha rfl (own_rs (er.step e1) ha rv))
theorem ms_setLcVX {ifs : List Expr} (p : CPX X ca W scope own tg iter elt ifs t mi g mc mel) (hy : X.N[i]? = some y) (hyl : X.env.scope.names.lookup y = some .local) (hsw : swapsWith (.ListComp elt [⟨tg, iter, ifs, 0⟩] scope pos) (some (.Name y py)) spos.line X.env = pure true)
    (hs : ∀ x, foldedSetIterable iter X.env x = pure x := by intro _; rfl) : MS X ca W (.Assign [.Name y py] (.ListComp elt [⟨tg, iter, ifs, 0⟩] scope pos) spos) (mSet i (mList (mLcX mi (own.map (·.2)) g mc mel))) := by
  refine ⟨(ps_setLcX (te := fun E0 => tG X.K (rD X.K) ca (fun c d _ H => E0 c d H) mel) p.st p.fr p.tk p.calm p.nd hy hyl hsw p.it.pi p.blk p.pg p.pt (fun E0 s H C cl fp xe hp => (p.pe E0 s H C cl fp xe hp).pe) hs).imp fun D σ H ⟨H0, P0, P, ρ, er, h⟩ => ?_⟩
  have h : SatS X.K ca W H0 P0 P (obind (mLcX mi (own.map (·.2)) g mc mel ρ) ρ fun l => .nx (ρ.set i (some (.val (.list l))))) D := by
    unfold mSet mList at h
    cases z : mLcX mi (own.map (·.2)) g mc mel ρ with
    | ok l => rw [z] at h; exact h
    | er c => rw [z] at h; exact h
    | stk => rw [z] at h; exact h
  refine lc_readX (te := fun E0 => tG X.K (rD X.K) ca (fun c d _ H => E0 c d H) mel) (fun R h => h) p.tgw (fun _ _ _ h => h) (fun _ _ _ _ h => h) er (fs_of er h fun P1 H1 a vs l e1 ha rv q => ?_)
  have en := Ex.new (o := .lst vs) e1.ph ha
  exact q _ _ _ en.pp (((er.step e1).step en).set (.lst (.inl upd_same) (rv.mono en.pp)))
/-- a call in such an element -/
theorem me_callP {k j : Nat} {ps : List Str} {x : Str} {p : Pos} {e : Expr} {es : List Expr} {ms : Rho → Res (List D)} {g : List D → Res D} (F : FnM X.prog X.w X.K X.mg X.base ca x k ps g) (hr : Room j X.A) (hk : Nat.ble k j = true) (tk : ∀ σ, PassesAt (L2.CX X.prog X.w) X σ (fun c d H => W c d σ H)) (ha : MA X ca W (e :: es) ms) (hn : (e :: es).length = ps.length := by rfl) (hg : Gl X x := by rfl)
    (hdb : (x == ("__debug__" : Str)) = false := by decide)
    (he : starEach (e :: es) X.env = (false, eval e X.env) :: starEach es X.env := by rfl) (hpl : (backTo pos (starEach es X.env)).any (·.1) = false := by rfl)
    (hms : ∀ ρ ds, ms ρ = .ok ds → ds.length = ps.length) : ME X ca W (.Call (.Name x p) (e :: es) [] pos) (mCall g ms) := by
  obtain ⟨f, fd, hm, kp, hb, F⟩ := F
  refine ⟨(pe_callSD F (hr.mono (Nat.le_of_ble_eq_true hk)) hg hm kp hb .nil tk ha.pa hdb he hpl).imp fun σ H Q ⟨H0, P0, P, ρ, er, h⟩ => ⟨H0, P0, P, ρ, er, ?_⟩⟩
  unfold mCall at h
  cases q : ms ρ with
  | er c => rw [q] at h; exact h
  | stk => rw [q] at h; exact h
  | ok ds =>
    rw [q] at h
    intro P1 H1 xs e1 rxs
    refine ⟨by rw [List.append_nil, dps_length rxs]; exact hms ρ ds q, P1, ds, e1.ph, by rw [List.append_nil]; exact rxs, ?_⟩
    have h1 := Sat.step h e1
    have h1 : Sat (rD X.K) ca W σ P1 H1 (g ds) Q := h1
    revert h1
    cases g ds with
    | ok d => exact fun h1 => h1
    | er c => exact fun h1 => h1
    | stk => exact fun h1 => h1
end
end PX
namespace PR
open PySem PySem.Spec PyProof.Rows L2 PX
def m_is_within : List D → Res D := fnM 3 (
    mRet (mAnd (mUn (dIsi "int") (mVar 0)) (mAnd (mNot (mUn (dIsi "bool") (mVar 0))) (mChain dLe dLe (mVar 1) (mVar 0) (mVar 2)))))
def m_is_word : List D → Res D := fnM 4 (
    mSeq (mIfS (mOrT (mNotT (mTru (mUn (dIsi "str") (mVar 1)))) (mTst (mBin dGt (mUn dLen (mVar 1)) (mVar 2)))) (mRet (mC (.bool false))) (mNext)) <|
    mRet (mNot (mList (mLc (mIter (mVar 1)) [3] (gSet 3) (mTst (mBin (dIn true) (mVar 3) (mCut dCut (mC (.str "abc")) (mNo) (mPart (mVar 0))))) (mVar 3)))))
def m_is_rules : List D → Res D := fnM 2 (
    mSeq (mIfS (mOrT (mNotT (mTru (mUn (dIsi "tuple") (mVar 0)))) (mOrT (mTst (mBin dNe (mUn dLen (mVar 0)) (mC (.int 2)))) (mNotT (mTru (mCall m_is_within (mCons (mBin dIx (mVar 0) (mC (.int 0))) (mCons (mC (.int 1)) (mCons (mC (.int 3)) (mNil))))))))) (mRet (mC (.bool false))) (mNext)) <|
    mSeq (mIfS (mOrT (mNotT (mTru (mUn (dIsi "tuple") (mBin dIx (mVar 0) (mC (.int 1)))))) (mNotT (mTst (mChain dLe dLe (mC (.int 1)) (mUn dLen (mBin dIx (mVar 0) (mC (.int 1)))) (mUn dLen (mC (.str "abc"))))))) (mRet (mC (.bool false))) (mNext)) <|
    mRet (mNot (mList (mLc (mIter (mBin dIx (mVar 0) (mC (.int 1)))) [1] (gSet 1) (mAndT (mTst (mBin dIsN (mVar 1) (mC .none))) (mNotT (mTru (mCall m_is_word (mCons (mUn dLen (mBin dIx (mVar 0) (mC (.int 1)))) (mCons (mVar 1) (mCons (mC (.int 4)) (mNil)))))))) (mVar 1)))))
def m_look : List D → Res D := fnM 1 (
    mIfS (mNotT (mTru (mCall m_is_rules (mCons (mVar 0) (mNil))))) (mRaise .rules) (mNext))
def m_is_row : List D → Res D := fnM 2 (
    mRet (mCall m_is_word (mCons (mUn dLen (mBin dIx (mVar 0) (mC (.int 1)))) (mCons (mVar 1) (mCons (mC (.int 24)) (mNil))))))
def m_look_row : List D → Res D := fnM 2 (
    mSeq (mDrop (mCall m_look (mCons (mVar 0) (mNil)))) <|
    mIfS (mNotT (mTru (mCall m_is_row (mCons (mVar 0) (mCons (mVar 1) (mNil)))))) (mRaise .row) (mNext))
def m_word_of : List D → Res D := fnM 2 (
    mRet (mBin dIx (mBin dIx (mVar 0) (mC (.int 1))) (mSM gSIndex (mC (.str "abc")) (mCons (mVar 1) (mNil)))))
def m_has_ended : List D → Res D := fnM 2 (
    mRet (mOr (mBin dLt (mUn dLen (mVar 1)) (mBin dIx (mVar 0) (mC (.int 0)))) (mBin dIs (mCall m_word_of (mCons (mVar 0) (mCons (mBin dIx (mVar 1) (mC (.int 0))) (mNil)))) (mC .none))))
def m_next_of : List D → Res D := fnM 2 (
    mRet (mBin dAdd (mCut dCut (mVar 1) (mPart (mBin dIx (mVar 0) (mC (.int 0)))) (mNo)) (mCall m_word_of (mCons (mVar 0) (mCons (mBin dIx (mVar 1) (mC (.int 0))) (mNil))))))
def m_next_row : List D → Res D := fnM 2 (
    mSeq (mDrop (mCall m_look_row (mCons (mVar 0) (mCons (mVar 1) (mNil))))) <|
    mSeq (mIfS (mTru (mCall m_has_ended (mCons (mVar 0) (mCons (mVar 1) (mNil))))) (mRaise .ended) (mNext)) <|
    mRet (mCall m_next_of (mCons (mVar 0) (mCons (mVar 1) (mNil)))))
def m_after : List D → Res D := fnM 4 (
    mSeq (mDrop (mCall m_look_row (mCons (mVar 0) (mCons (mVar 1) (mNil))))) <|
    mSeq (mIfS (mNotT (mTru (mCall m_is_within (mCons (mVar 2) (mCons (mC (.int 0)) (mCons (mC (.int 200)) (mNil))))))) (mRaise .count) (mNext)) <|
    mSeq (mFor (mRng1 (mVar 2)) (gSet 3) (mSeq (mIfS (mTru (mCall m_has_ended (mCons (mVar 0) (mCons (mVar 1) (mNil))))) (mRaise .ended) (mNext)) <|
    mSet 1 (mCall m_next_of (mCons (mVar 0) (mCons (mVar 1) (mNil)))))) <|
    mRet (mVar 1))
def m_course : List D → Res D := fnM 4 (
    mSeq (mDrop (mCall m_look_row (mCons (mVar 0) (mCons (mVar 1) (mNil))))) <|
    mSeq (mIfS (mNotT (mTru (mCall m_is_within (mCons (mVar 2) (mCons (mC (.int 0)) (mCons (mC (.int 200)) (mNil))))))) (mRaise .count) (mNext)) <|
    mSeq (mSetF 3 (mLst (mCons (mVar 1) (mNil)))) <|
    mSeq (mWhile (mAndT (mTst (mBin dLe (mLenL (mOwn 3)) (mVar 2))) (mNotT (mTru (mCall m_has_ended (mCons (mVar 0) (mCons (mIxL dIxL (mOwn 3) (mUn dNeg (mC (.int 1)))) (mNil))))))) (mAppend 3 (mCall m_next_of (mCons (mVar 0) (mCons (mIxL dIxL (mOwn 3) (mUn dNeg (mC (.int 1)))) (mNil))))) 202) <|
    mFrz 3 (mRet (mVar 3)))
def m_ahead_of : List D → Res D := fnM 9 (
    mSeq (mSetF 2 (mLst (mNil))) <|
    mSeq (mSet 3 (mList (mLst (mCons (mC (.str "")) (mNil))))) <|
    mSeq (mFor (mRng1 (mBin dSub (mBin dIx (mVar 0) (mC (.int 0))) (mC (.int 1)))) (gSet 4) (mSeq (mSetF 6 (mLst (mNil))) <|
    mSeq (mFor (mIter (mVar 3)) (gSet 7) (mExtend 6 (mLc (mIter (mCut dCut (mC (.str "abc")) (mNo) (mPart (mUn dLen (mBin dIx (mVar 0) (mC (.int 1))))))) [5] (gSet 5) (mYes) (mBin dAdd (mVar 7) (mVar 5))))) <|
    mFrz 6 (mSet 3 (mVar 6)))) <|
    mSeq (mFor (mIter (mCut dCut (mC (.str "abc")) (mNo) (mPart (mUn dLen (mBin dIx (mVar 0) (mC (.int 1))))))) (gSet 5) (mSeq (mSet 8 (mCall m_word_of (mCons (mVar 0) (mCons (mVar 5) (mNil))))) <|
    mIfS (mAndT (mTst (mBin dIsN (mVar 8) (mC .none))) (mTru (mSM gEnds (mVar 1) (mCons (mVar 8) (mNil))))) (mExtend 2 (mLc (mIter (mVar 3)) [7] (gSet 7) (mYes) (mBin dAdd (mBin dAdd (mVar 5) (mVar 7)) (mCut dCut (mVar 1) (mNo) (mPart (mBin dSub (mUn dLen (mVar 1)) (mUn dLen (mVar 8)))))))) (mNext))) <|
    mRet (mList (mSort (mOwn 2))))
def m_before : List D → Res D := fnM 2 (
    mSeq (mDrop (mCall m_look_row (mCons (mVar 0) (mCons (mVar 1) (mNil))))) <|
    mRet (mCall m_ahead_of (mCons (mVar 0) (mCons (mVar 1) (mNil)))))
def m_is_whole : List D → Res D := fnM 3 (
    mSeq (mIfS (mTst (mBin dGt (mBin dMod (mUn dLen (mVar 1)) (mBin dIx (mVar 0) (mC (.int 0)))) (mC (.int 0)))) (mRet (mC (.bool false))) (mNext)) <|
    mRet (mNot (mList (mLc (mIter (mBin dStep (mVar 1) (mBin dIx (mVar 0) (mC (.int 0))))) [2] (gSet 2) (mTst (mBin dIs (mCall m_word_of (mCons (mVar 0) (mCons (mVar 2) (mNil)))) (mC .none))) (mVar 2)))))
def m_told_of : List D → Res D := fnM 3 (
    mRet (mJoin (mC (.str "")) (mLc (mIter (mBin dStep (mVar 1) (mBin dIx (mVar 0) (mC (.int 0))))) [2] (gSet 2) (mYes) (mCall m_word_of (mCons (mVar 0) (mCons (mVar 2) (mNil)))))))
def m_image : List D → Res D := fnM 2 (
    mSeq (mDrop (mCall m_look_row (mCons (mVar 0) (mCons (mVar 1) (mNil))))) <|
    mSeq (mIfS (mNotT (mTru (mCall m_is_whole (mCons (mVar 0) (mCons (mVar 1) (mNil)))))) (mRaise .word) (mNext)) <|
    mRet (mCall m_told_of (mCons (mVar 0) (mCons (mVar 1) (mNil)))))
def m_root_of : List D → Res D := fnM 2 (
    mSeq (mFor (mRng2 (mC (.int 1)) (mBin dAdd (mUn dLen (mVar 0)) (mC (.int 1)))) (gSet 1) (mIfS (mAndT (mTst (mBin dEq (mBin dMod (mUn dLen (mVar 0)) (mVar 1)) (mC (.int 0)))) (mTst (mBin dEq (mBin dMul (mCut dCut (mVar 0) (mNo) (mPart (mVar 1))) (mBin dDiv (mUn dLen (mVar 0)) (mVar 1))) (mVar 0)))) (mRet (mTup (mCons (mCut dCut (mVar 0) (mNo) (mPart (mVar 1))) (mCons (mBin dDiv (mUn dLen (mVar 0)) (mVar 1)) (mNil))))) (mNext))) <|
    mRet (mTup (mCons (mC (.str "")) (mCons (mC (.int 0)) (mNil)))))
def m_root : List D → Res D := fnM 2 (
    mSeq (mDrop (mCall m_look_row (mCons (mVar 0) (mCons (mVar 1) (mNil))))) <|
    mRet (mCall m_root_of (mCons (mVar 1) (mNil))))
def m_times_of : List D → Res D := fnM 2 (
    mSeq (mIfS (mOrT (mTst (mBin dGt (mBin dMod (mUn dLen (mVar 1)) (mUn dLen (mVar 0))) (mC (.int 0)))) (mTst (mBin dNe (mBin dMul (mVar 0) (mBin dDiv (mUn dLen (mVar 1)) (mUn dLen (mVar 0)))) (mVar 1)))) (mRet (mC .none)) (mNext)) <|
    mRet (mBin dDiv (mUn dLen (mVar 1)) (mUn dLen (mVar 0))))
def m_share : List D → Res D := fnM 2 (
    mSeq (mIfS (mOrT (mTst (mBin dEq (mVar 1) (mC (.str "")))) (mNotT (mTru (mCall m_is_whole (mCons (mVar 0) (mCons (mVar 1) (mNil))))))) (mRet (mC .none)) (mNext)) <|
    mRet (mCall m_times_of (mCons (mVar 1) (mCons (mCall m_told_of (mCons (mVar 0) (mCons (mVar 1) (mNil)))) (mNil)))))
def m_grows_by : List D → Res D := fnM 2 (
    mSeq (mDrop (mCall m_look_row (mCons (mVar 0) (mCons (mVar 1) (mNil))))) <|
    mRet (mCall m_share (mCons (mVar 0) (mCons (mVar 1) (mNil)))))
def m_part_of : List D → Res D := fnM 4 (
    mSeq (mFor (mRng2 (mC (.int 1)) (mBin dAdd (mUn dLen (mVar 1)) (mC (.int 1)))) (gSet 2) (mIfS (mTst (mBin dIsN (mCall m_times_of (mCons (mCut dCut (mVar 1) (mNo) (mPart (mVar 2))) (mCons (mVar 1) (mNil)))) (mC .none))) (mSeq (mSet 3 (mCall m_share (mCons (mVar 0) (mCons (mCut dCut (mVar 1) (mNo) (mPart (mVar 2))) (mNil))))) <|
    mIfS (mTst (mBin dIsN (mVar 3) (mC .none))) (mRet (mTup (mCons (mCut dCut (mVar 1) (mNo) (mPart (mVar 2))) (mCons (mVar 3) (mNil))))) (mNext)) (mNext))) <|
    mRet (mC .none))
def m_all_parts : List D → Res D := fnM 7 (
    mSeq (mDrop (mCall m_look (mCons (mVar 0) (mNil)))) <|
    mSeq (mIfS (mNotT (mTru (mCall m_is_within (mCons (mVar 1) (mCons (mC (.int 1)) (mCons (mC (.int 6)) (mNil))))))) (mRaise .count) (mNext)) <|
    mSeq (mSet 2 (mList (mLst (mCons (mC (.str "")) (mNil))))) <|
    mSeq (mFor (mRng1 (mVar 1)) (gSet 3) (mSeq (mSetF 4 (mLst (mNil))) <|
    mSeq (mFor (mIter (mVar 2)) (gSet 5) (mExtend 4 (mLc (mIter (mCut dCut (mC (.str "abc")) (mNo) (mPart (mUn dLen (mBin dIx (mVar 0) (mC (.int 1))))))) [6] (gSet 6) (mYes) (mBin dAdd (mVar 5) (mVar 6))))) <|
    mFrz 4 (mSet 2 (mVar 4)))) <|
    mRet (mList (mLc (mIter (mVar 2)) [5] (gSet 5) (mTst (mBin dIsN (mCall m_share (mCons (mVar 0) (mCons (mVar 5) (mNil)))) (mC .none))) (mTup (mCons (mVar 5) (mCons (mCall m_share (mCons (mVar 0) (mCons (mVar 5) (mNil)))) (mNil)))))))
def m_fate_of : List D → Res D := fnM 5 (
    mSeq (mSetE 2) <|
    mSeq (mSet 3 (mC (.int 0))) <|
    mSeq (mWhile (mAndT (mTst (mBin dLe (mVar 3) (mC (.int 200)))) (mTst (mBin dLe (mUn dLen (mVar 1)) (mC (.int 120))))) (mSeq (mIfS (mTru (mCall m_has_ended (mCons (mVar 0) (mCons (mVar 1) (mNil))))) (mRet (mTup (mCons (mC (.str "ends")) (mCons (mVar 3) (mCons (mVar 1) (mNil)))))) (mNext)) <|
    mSeq (mIfS (mDIn 2 (mVar 1)) (mRet (mTup (mCons (mC (.str "round")) (mCons (mDGet 2 (mVar 1)) (mCons (mBin dSub (mVar 3) (mDGet 2 (mVar 1))) (mNil)))))) (mNext)) <|
    mSeq (mSet 4 (mCall m_part_of (mCons (mVar 0) (mCons (mVar 1) (mNil))))) <|
    mSeq (mIfS (mAndT (mTst (mBin dIsN (mVar 4) (mC .none))) (mTst (mBin dGt (mBin dIx (mVar 4) (mC (.int 1))) (mC (.int 1))))) (mRet (mTup (mCons (mC (.str "grows")) (mCons (mVar 3) (mCons (mBin dIx (mVar 4) (mC (.int 0))) (mCons (mBin dIx (mVar 4) (mC (.int 1))) (mNil))))))) (mNext)) <|
    mSeq (mDPut 2 (mVar 1) (mVar 3)) <|
    mSeq (mSet 1 (mCall m_next_of (mCons (mVar 0) (mCons (mVar 1) (mNil))))) <|
    mAug dAddI 3 (mC (.int 1))) 203) <|
    mRet (mTup (mCons (mC (.str "far")) (mCons (mVar 3) (mCons (mUn dLen (mVar 1)) (mNil))))))
def m_fate : List D → Res D := fnM 2 (
    mSeq (mDrop (mCall m_look_row (mCons (mVar 0) (mCons (mVar 1) (mNil))))) <|
    mRet (mCall m_fate_of (mCons (mVar 0) (mCons (mVar 1) (mNil)))))
def m_behind : List D → Res D := fnM 4 (
    mSeq (mFor (mRng1 (mVar 2)) (gSet 3) (mSeq (mIfS (mTru (mCall m_has_ended (mCons (mVar 0) (mCons (mVar 1) (mNil))))) (mRet (mC .none)) (mNext)) <|
    mSet 1 (mCall m_next_of (mCons (mVar 0) (mCons (mVar 1) (mNil)))))) <|
    mRet (mVar 1))
def m_is_fate : List D → Res D := fnM 5 (
    mSeq (mDrop (mCall m_look_row (mCons (mVar 0) (mCons (mVar 1) (mNil))))) <|
    mSeq (mIfS (mOrT (mNotT (mTru (mUn (dIsi "tuple") (mVar 2)))) (mOrT (mTst (mBin (dIn true) (mUn dLen (mVar 2)) (mTup (mCons (mC (.int 3)) (mCons (mC (.int 4)) (mNil)))))) (mNotT (mTru (mUn (dIsi "str") (mBin dIx (mVar 2) (mC (.int 0)))))))) (mRet (mC (.bool false))) (mNext)) <|
    mSeq (mIfS (mNotT (mTru (mCall m_is_within (mCons (mBin dIx (mVar 2) (mC (.int 1))) (mCons (mC (.int 0)) (mCons (mC (.int 200)) (mNil))))))) (mRet (mC (.bool false))) (mNext)) <|
    mSeq (mSet 3 (mCall m_behind (mCons (mVar 0) (mCons (mVar 1) (mCons (mBin dIx (mVar 2) (mC (.int 1))) (mNil)))))) <|
    mSeq (mIfS (mTst (mBin dIs (mVar 3) (mC .none))) (mRet (mC (.bool false))) (mNext)) <|
    mSeq (mIfS (mTst (mBin dEq (mBin dIx (mVar 2) (mC (.int 0))) (mC (.str "ends")))) (mRet (mAnd (mBin dEq (mUn dLen (mVar 2)) (mC (.int 3))) (mAnd (mUn (dIsi "str") (mBin dIx (mVar 2) (mC (.int 2)))) (mAnd (mBin dEq (mBin dIx (mVar 2) (mC (.int 2))) (mVar 3)) (mCall m_has_ended (mCons (mVar 0) (mCons (mVar 3) (mNil)))))))) (mNext)) <|
    mSeq (mIfS (mTst (mBin dEq (mBin dIx (mVar 2) (mC (.int 0))) (mC (.str "round")))) (mSeq (mIfS (mOrT (mTst (mBin dNe (mUn dLen (mVar 2)) (mC (.int 3)))) (mNotT (mTru (mCall m_is_within (mCons (mBin dIx (mVar 2) (mC (.int 2))) (mCons (mC (.int 1)) (mCons (mC (.int 200)) (mNil)))))))) (mRet (mC (.bool false))) (mNext)) <|
    mRet (mBin dEq (mCall m_behind (mCons (mVar 0) (mCons (mVar 3) (mCons (mBin dIx (mVar 2) (mC (.int 2))) (mNil))))) (mVar 3))) (mNext)) <|
    mSeq (mIfS (mOrT (mTst (mBin dNe (mBin dIx (mVar 2) (mC (.int 0))) (mC (.str "grows")))) (mOrT (mTst (mBin dNe (mUn dLen (mVar 2)) (mC (.int 4)))) (mOrT (mNotT (mTru (mUn (dIsi "str") (mBin dIx (mVar 2) (mC (.int 2)))))) (mOrT (mTst (mBin dEq (mBin dIx (mVar 2) (mC (.int 2))) (mC (.str "")))) (mTst (mBin dEq (mVar 3) (mC (.str "")))))))) (mRet (mC (.bool false))) (mNext)) <|
    mSeq (mIfS (mOrT (mTru (mList (mLc (mIter (mBin dIx (mVar 2) (mC (.int 2)))) [4] (gSet 4) (mTst (mBin (dIn true) (mVar 4) (mCut dCut (mC (.str "abc")) (mNo) (mPart (mUn dLen (mBin dIx (mVar 0) (mC (.int 1)))))))) (mVar 4)))) (mTst (mBin dIs (mCall m_times_of (mCons (mBin dIx (mVar 2) (mC (.int 2))) (mCons (mVar 3) (mNil)))) (mC .none)))) (mRet (mC (.bool false))) (mNext)) <|
    mRet (mAnd (mCall m_is_within (mCons (mBin dIx (mVar 2) (mC (.int 3))) (mCons (mC (.int 2)) (mCons (mC (.int 99)) (mNil))))) (mBin dEq (mCall m_share (mCons (mVar 0) (mCons (mBin dIx (mVar 2) (mC (.int 2))) (mNil)))) (mBin dIx (mVar 2) (mC (.int 3))))))
def m_words_to : List D → Res D := fnM 8 (
    mSeq (mSetF 2 (mLst (mCons (mC (.str "")) (mNil)))) <|
    mSeq (mSet 3 (mList (mLst (mCons (mC (.str "")) (mNil))))) <|
    mSeq (mFor (mRng1 (mVar 1)) (gSet 4) (mSeq (mSetF 5 (mLst (mNil))) <|
    mSeq (mFor (mIter (mVar 3)) (gSet 6) (mExtend 5 (mLc (mIter (mCut dCut (mC (.str "abc")) (mNo) (mPart (mVar 0)))) [7] (gSet 7) (mYes) (mBin dAdd (mVar 6) (mVar 7))))) <|
    mSeq (mFrz 5 (mSet 3 (mVar 5))) <|
    mExtend 2 (mOfL (mVar 3)))) <|
    mFrz 2 (mRet (mVar 2)))
def m_longest : List D → Res D := fnM 6 (
    mSeq (mDrop (mCall m_look_row (mCons (mVar 0) (mCons (mVar 1) (mNil))))) <|
    mSeq (mSet 2 (mCall m_fate_of (mCons (mVar 0) (mCons (mVar 1) (mNil))))) <|
    mSeq (mIfS (mTst (mBin (dIn false) (mBin dIx (mVar 2) (mC (.int 0))) (mTup (mCons (mC (.str "grows")) (mCons (mC (.str "far")) (mNil)))))) (mRet (mC .none)) (mNext)) <|
    mSeq (mSet 3 (mTup (mCons (mVar 1) (mCons (mC (.int 0)) (mNil))))) <|
    mSeq (mSet 4 (mIf (mTst (mBin dEq (mBin dIx (mVar 2) (mC (.int 0))) (mC (.str "ends")))) (mBin dIx (mVar 2) (mC (.int 1))) (mBin dSub (mBin dAdd (mBin dIx (mVar 2) (mC (.int 1))) (mBin dIx (mVar 2) (mC (.int 2)))) (mC (.int 1))))) <|
    mSeq (mFor (mRng2 (mC (.int 1)) (mBin dAdd (mVar 4) (mC (.int 1)))) (gSet 5) (mSeq (mSet 1 (mCall m_next_of (mCons (mVar 0) (mCons (mVar 1) (mNil))))) <|
    mIfS (mTst (mBin dGt (mUn dLen (mVar 1)) (mUn dLen (mBin dIx (mVar 3) (mC (.int 0)))))) (mSet 3 (mTup (mCons (mVar 1) (mCons (mVar 5) (mNil))))) (mNext))) <|
    mRet (mVar 3))
def m_told_by : List D → Res D := fnM 3 (
    mSeq (mSetF 2 (mLst (mCons (mVar 1) (mNil)))) <|
    mSeq (mWhile (mAndT (mTst (mBin dLe (mLenL (mOwn 2)) (mC (.int 60)))) (mNotT (mTru (mCall m_has_ended (mCons (mVar 0) (mCons (mIxL dIxL (mOwn 2) (mUn dNeg (mC (.int 1)))) (mNil))))))) (mAppend 2 (mCall m_next_of (mCons (mVar 0) (mCons (mIxL dIxL (mOwn 2) (mUn dNeg (mC (.int 1)))) (mNil))))) 62) <|
    mFrz 2 (mRet (mVar 2)))
def m_meet : List D → Res D := fnM 7 (
    mSeq (mDrop (mCall m_look_row (mCons (mVar 0) (mCons (mVar 1) (mNil))))) <|
    mSeq (mDrop (mCall m_look_row (mCons (mVar 0) (mCons (mVar 2) (mNil))))) <|
    mSeq (mSet 3 (mCall m_told_by (mCons (mVar 0) (mCons (mVar 1) (mNil))))) <|
    mSeq (mSet 4 (mCall m_told_by (mCons (mVar 0) (mCons (mVar 2) (mNil))))) <|
    mSeq (mFor (mEnum (mVar 3)) (gSet2 5 6) (mIfS (mTst (mBin (dIn false) (mVar 6) (mVar 4))) (mRet (mTup (mCons (mVar 5) (mCons (mLM gIndexL (mOfL (mVar 4)) (mCons (mVar 6) (mNil))) (mNil))))) (mNext))) <|
    mRet (mC .none))
def m_leading : List D → Res D := fnM 8 (
    mSeq (mDrop (mCall m_look_row (mCons (mVar 0) (mCons (mVar 1) (mNil))))) <|
    mSeq (mIfS (mNotT (mTru (mCall m_is_within (mCons (mVar 2) (mCons (mC (.int 0)) (mCons (mC (.int 4)) (mNil))))))) (mRaise .count) (mNext)) <|
    mSeq (mSet 3 (mList (mLst (mCons (mVar 1) (mNil))))) <|
    mSeq (mFor (mRng1 (mVar 2)) (gSet 4) (mSeq (mSetE 5) <|
    mSeq (mFor (mIter (mVar 3)) (gSet 6) (mFor (mIter (mCall m_ahead_of (mCons (mVar 0) (mCons (mVar 6) (mNil))))) (gSet 7) (mDPut 5 (mVar 7) (mC (.bool true))))) <|
    mSeq (mIfS (mTst (mBin dGt (mDLen 5) (mC (.int 500)))) (mRaise .many) (mNext)) <|
    mSet 3 (mList (mSortedD 5)))) <|
    mRet (mVar 3))
def m__law_cell : List D → Res D := fnM 2 (
    mSeq (mIfS (mTst (mBin dLt (mVar 1) (mUn dLen (mVar 0)))) (mRet (mBin dIx (mVar 0) (mVar 1))) (mNext)) <|
    mRet (mC (.int 0)))
def m__law_mix : List D → Res D := fnM 3 (
    mRet (mBin dMod (mBin dMod (mBin dMul (mVar 0) (mC (.int 48271))) (mVar 1)) (mVar 2)))
def m__law_seed : List D → Res D := fnM 2 (
    mRet (mBin dMod (mBin dPow (mBin dMod (mBin dAdd (mBin dAdd (mBin dMul (mVar 0) (mC (.int 1103515245))) (mBin dMul (mC (.int 7919)) (mVar 1))) (mC (.int 12345))) (mC (.int 2147483647))) (mC (.int 5))) (mC (.int 2147483647))))
def m__law_pick : List D → Res D := fnM 2 (
    mRet (mBin dMod (mBin dDiv (mVar 0) (mC (.int 97))) (mVar 1)))
def m__law_letters : List D → Res D := fnM 4 (
    mRet (mJoin (mC (.str "")) (mLc (mRng1 (mVar 2)) [3] (gSet 3) (mYes) (mBin dIx (mC (.str "abc")) (mCall m__law_pick (mCons (mCall m__law_seed (mCons (mVar 0) (mCons (mVar 3) (mNil)))) (mCons (mVar 1) (mNil))))))))
def m__law_rules : List D → Res D := fnM 8 (
    mSeq (mSet 2 (mCall m__law_seed (mCons (mCall m__law_cell (mCons (mVar 0) (mCons (mVar 1) (mNil)))) (mCons (mC (.int 0)) (mNil))))) <|
    mSeq (mSet 3 (mBin dIx (mList (mLst (mCons (mBin dAdd (mC (.int 1)) (mBin dMod (mBin dDiv (mVar 2) (mC (.int 5))) (mC (.int 3)))) (mCons (mC (.int 2)) (mCons (mC (.int 2)) (mNil)))))) (mBin dMod (mBin dDiv (mVar 2) (mC (.int 7))) (mC (.int 3))))) <|
    mSeq (mSetF 4 (mLst (mNil))) <|
    mSeq (mFor (mRng1 (mVar 3)) (gSet 5) (mSeq (mSet 6 (mCall m__law_seed (mCons (mBin dAdd (mCall m__law_cell (mCons (mVar 0) (mCons (mBin dAdd (mVar 1) (mC (.int 1))) (mNil)))) (mBin dMul (mC (.int 41)) (mVar 5))) (mCons (mVar 5) (mNil))))) <|
    mSeq (mSet 7 (mCall m__law_letters (mCons (mCall m__law_seed (mCons (mVar 6) (mCons (mC (.int 2)) (mNil)))) (mCons (mVar 3) (mCons (mBin dMod (mBin dDiv (mVar 6) (mC (.int 7))) (mC (.int 5))) (mNil)))))) <|
    mAppend 4 (mIf (mTst (mBin dEq (mBin dMod (mBin dDiv (mVar 6) (mC (.int 11))) (mC (.int 9))) (mC (.int 0)))) (mC .none) (mVar 7)))) <|
    mRet (mTup (mCons (mBin dAdd (mC (.int 1)) (mBin dMod (mBin dDiv (mVar 2) (mC (.int 11))) (mC (.int 3)))) (mCons (mTupL (mOwn 4)) (mNil)))))
def m__law_as : List D → Res D := fnM 2 (
    mRet (mAnd (mUn (dIsi "bool") (mVar 0)) (mBin dEq (mVar 0) (mVar 1))))
def m__law_in : List D → Res D := fnM 3 (
    mRet (mAnd (mUn (dIsi "int") (mVar 0)) (mAnd (mNot (mUn (dIsi "bool") (mVar 0))) (mChain dLe dLe (mVar 1) (mVar 0) (mVar 2)))))
end PR
namespace PR
open PySem PySem.Spec PyProof.Rows L2 PX
end PR
namespace PR
open PySem PySem.Spec PyProof.Rows L2 PX
def m_sorted_out : List D → Res D := fnM 4 (
    mSeq (mDrop (mCall m_look (mCons (mVar 0) (mNil)))) <|
    mSeq (mIfS (mNotT (mTru (mCall m_is_within (mCons (mVar 1) (mCons (mC (.int 0)) (mCons (mC (.int 4)) (mNil))))))) (mRaise .count) (mNext)) <|
    mSeq (mSetD 2 [("ends", 0), ("round", 0), ("grows", 0), ("far", 0)]) <|
    mSeq (mFor (mIter (mCall m_words_to (mCons (mUn dLen (mBin dIx (mVar 0) (mC (.int 1)))) (mCons (mVar 1) (mNil))))) (gSet 3) (mDAug dAddI 2 (mBin dIx (mCall m_fate_of (mCons (mVar 0) (mCons (mVar 3) (mNil)))) (mC (.int 0))) (mC (.int 1)))) <|
    mRet (mTup (mCons (mDGet 2 (mC (.str "ends"))) (mCons (mDGet 2 (mC (.str "round"))) (mCons (mDGet 2 (mC (.str "grows"))) (mCons (mDGet 2 (mC (.str "far"))) (mNil)))))))
end PR
namespace PR
open PySem PySem.Spec PyProof.Rows L2 PX
end PR
namespace PR
open PySem PySem.Spec PyProof.Rows L2 PX
def m_shown : List D → Res D := fnM 4 (
    mSeq (mDrop (mCall m_look (mCons (mVar 0) (mNil)))) <|
    mSeq (mSetF 1 (mLst (mCons (mUn dStrI (mBin dIx (mVar 0) (mC (.int 0)))) (mNil)))) <|
    mSeq (mFor (mZip (mC (.str "abc")) (mBin dIx (mVar 0) (mC (.int 1)))) (gSet2 2 3) (mAppend 1 (mBin dAdd (mBin dAdd (mVar 2) (mC (.str ":"))) (mIf (mTst (mBin dIs (mVar 3) (mC .none))) (mC (.str "-")) (mVar 3))))) <|
    mRet (mJoin (mC (.str " ")) (mOwn 1)))
end PR
namespace PR
open PySem PySem.Spec PyProof.Rows L2 PX
end PR
namespace PR
open PySem PySem.Spec PyProof.Rows L2 PX
end PR
namespace PR
open PySem PySem.Spec PyProof.Rows L2 PX
end PR
namespace PR
open PySem PySem.Spec PyProof.Rows L2 PX
end PR
namespace K08
open PySem PySem.Spec PyProof.Rows L2 PX PR
/-! The text, by places. -/
/-- the classes that may be raised here -/
def us : List EC := [.cut, .rules, .row, .count, .word, .ended, .many, .text]
/-- what the head tells -/
structure GF (K : PySem.W.Frag) (mg : Str → Option Value) (ca : EC → Addr) : Prop where
  b_bool : mg "bool" = none
  b_enumerate : mg "enumerate" = none
  b_int : mg "int" = none
  b_isinstance : mg "isinstance" = none
  b_len : mg "len" = none
  b_list : mg "list" = none
  b_range : mg "range" = none
  b_sorted : mg "sorted" = none
  b_str : mg "str" = none
  b_tuple : mg "tuple" = none
  b_zip : mg "zip" = none
  c_LETTERS : ∃ t, mg "LETTERS" = some (.str "abc" t)
  c_MOST_CUT : ∃ t, mg "MOST_CUT" = some (.int 3 t)
  c_MOST_CUTS : ∃ t, mg "MOST_CUTS" = some (.int 200 t)
  c_MOST_LONG : ∃ t, mg "MOST_LONG" = some (.int 120 t)
  c_MOST_ROW : ∃ t, mg "MOST_ROW" = some (.int 24 t)
  c_MOST_WORD : ∃ t, mg "MOST_WORD" = some (.int 4 t)
  e_BadCount : ExcM K mg "BadCount" (ca .count)
  e_BadRow : ExcM K mg "BadRow" (ca .row)
  e_BadRules : ExcM K mg "BadRules" (ca .rules)
  e_BadText : ExcM K mg "BadText" (ca .text)
  e_BadWord : ExcM K mg "BadWord" (ca .word)
  e_Ended : ExcM K mg "Ended" (ca .ended)
  e_TooMany : ExcM K mg "TooMany" (ca .many)
  x_BadCount : ∀ c, c ∈ us → PySem.W.exmOne K (.ref (ca c)) (.ref (ca .count)) = some (takesC c .count)
  x_BadRow : ∀ c, c ∈ us → PySem.W.exmOne K (.ref (ca c)) (.ref (ca .row)) = some (takesC c .row)
  x_BadRules : ∀ c, c ∈ us → PySem.W.exmOne K (.ref (ca c)) (.ref (ca .rules)) = some (takesC c .rules)
  x_BadText : ∀ c, c ∈ us → PySem.W.exmOne K (.ref (ca c)) (.ref (ca .text)) = some (takesC c .text)
  x_BadWord : ∀ c, c ∈ us → PySem.W.exmOne K (.ref (ca c)) (.ref (ca .word)) = some (takesC c .word)
  x_Ended : ∀ c, c ∈ us → PySem.W.exmOne K (.ref (ca c)) (.ref (ca .ended)) = some (takesC c .ended)
  x_TooMany : ∀ c, c ∈ us → PySem.W.exmOne K (.ref (ca c)) (.ref (ca .many)) = some (takesC c .many)
abbrev N__law_seed : List Str := ["_law_seed_here", "_law_k"]
theorem sc__law_seed : FnScope N__law_seed ["_law_seed_here", "_law_k"] (defScope s__law_seed) := ⟨rfl, rfl, rfl, by decide +kernel, rfl, by decide +kernel, by decide +kernel⟩
abbrev N__law_cell : List Str := ["_law_script", "_law_k"]
theorem sc__law_cell : FnScope N__law_cell ["_law_script", "_law_k"] (defScope s__law_cell) := ⟨rfl, rfl, rfl, by decide +kernel, rfl, by decide +kernel, by decide +kernel⟩
abbrev N__law_pick : List Str := ["_law_seed_here", "_law_many"]
theorem sc__law_pick : FnScope N__law_pick ["_law_seed_here", "_law_many"] (defScope s__law_pick) := ⟨rfl, rfl, rfl, by decide +kernel, rfl, by decide +kernel, by decide +kernel⟩
abbrev N__law_letters : List Str := ["_law_seed_here", "_law_many", "_law_long", "_law_k"]
theorem sc__law_letters : FnScope N__law_letters ["_law_seed_here", "_law_many", "_law_long"] (defScope s__law_letters) := ⟨rfl, rfl, rfl, by decide +kernel, rfl, by decide +kernel, by decide +kernel⟩
abbrev N__law_rules : List Str := ["_law_script", "_law_at", "_law_seed_here", "_law_many", "_law_words", "_law_k", "_law_one", "_law_word"]
theorem sc__law_rules : FnScope N__law_rules ["_law_script", "_law_at"] (defScope s__law_rules) := ⟨rfl, rfl, rfl, by decide +kernel, rfl, by decide +kernel, by decide +kernel⟩
abbrev N__law_in : List Str := ["_law_thing", "_law_low", "_law_high"]
theorem sc__law_in : FnScope N__law_in ["_law_thing", "_law_low", "_law_high"] (defScope s__law_in) := ⟨rfl, rfl, rfl, by decide +kernel, rfl, by decide +kernel, by decide +kernel⟩
abbrev N__law_are_rules : List Str := ["_law_thing", "_law_word"]
theorem sc__law_are_rules : FnScope N__law_are_rules ["_law_thing"] (defScope s__law_are_rules) := ⟨rfl, rfl, rfl, by decide +kernel, rfl, by decide +kernel, by decide +kernel⟩
def m__law_are_rules : List D → Res D := fnM 2 (
    mSeq (mIfS (mOrT (mNotT (mTru (mUn (dIsi "tuple") (mVar 0)))) (mOrT (mTst (mBin dNe (mUn dLen (mVar 0)) (mC (.int 2)))) (mNotT (mTru (mCall m__law_in (mCons (mBin dIx (mVar 0) (mC (.int 0))) (mCons (mC (.int 1)) (mCons (mC (.int 3)) (mNil))))))))) (mRet (mC (.bool false))) (mNext)) <|
    mSeq (mIfS (mOrT (mNotT (mTru (mUn (dIsi "tuple") (mBin dIx (mVar 0) (mC (.int 1)))))) (mNotT (mTst (mChain dLe dLe (mC (.int 1)) (mUn dLen (mBin dIx (mVar 0) (mC (.int 1)))) (mC (.int 3)))))) (mRet (mC (.bool false))) (mNext)) <|
    mSeq (mFor (mIter (mBin dIx (mVar 0) (mC (.int 1)))) (gSet 1) (mSeq (mIfS (mAndT (mTst (mBin dIsN (mVar 1) (mC .none))) (mNotT (mTru (mUn (dIsi "str") (mVar 1))))) (mRet (mC (.bool false))) (mNext)) <|
    mIfS (mAndT (mTst (mBin dIsN (mVar 1) (mC .none))) (mOrT (mTst (mBin dGt (mUn dLen (mVar 1)) (mC (.int 4)))) (mTst (mBin dNe (mSM gStrip (mVar 1) (mCons (mCut dCut (mC (.str "abc")) (mNo) (mPart (mUn dLen (mBin dIx (mVar 0) (mC (.int 1)))))) (mNil))) (mC (.str "")))))) (mRet (mC (.bool false))) (mNext))) <|
    mRet (mC (.bool true)))
abbrev N__law_mix : List Str := ["_law_cell_here", "_law_prime", "_law_many"]
theorem sc__law_mix : FnScope N__law_mix ["_law_cell_here", "_law_prime", "_law_many"] (defScope s__law_mix) := ⟨rfl, rfl, rfl, by decide +kernel, rfl, by decide +kernel, by decide +kernel⟩
abbrev N_is_within : List Str := ["thing", "low", "high"]
theorem sc_is_within : FnScope N_is_within ["thing", "low", "high"] (defScope s_is_within) := ⟨rfl, rfl, rfl, by decide +kernel, rfl, by decide +kernel, by decide +kernel⟩
abbrev N_is_word : List Str := ["many", "thing", "most", "sign"]
theorem sc_is_word : FnScope N_is_word ["many", "thing", "most"] (defScope s_is_word) := ⟨rfl, rfl, rfl, by decide +kernel, rfl, by decide +kernel, by decide +kernel⟩
abbrev N_is_rules : List Str := ["thing", "one"]
theorem sc_is_rules : FnScope N_is_rules ["thing"] (defScope s_is_rules) := ⟨rfl, rfl, rfl, by decide +kernel, rfl, by decide +kernel, by decide +kernel⟩
abbrev N_word_read : List Str := ["letter", "text"]
theorem sc_word_read : FnScope N_word_read ["letter", "text"] (defScope s_word_read) := ⟨rfl, rfl, rfl, by decide +kernel, rfl, by decide +kernel, by decide +kernel⟩
def m_word_read : List D → Res D := fnM 2 (
    mSeq (mIfS (mTst (mBin dNe (mCut dCut (mVar 1) (mNo) (mPart (mC (.int 2)))) (mBin dAdd (mVar 0) (mC (.str ":"))))) (mRaise .text) (mNext)) <|
    mSeq (mIfS (mTst (mBin dEq (mCut dCut (mVar 1) (mPart (mC (.int 2))) (mNo)) (mC (.str "-")))) (mRet (mC .none)) (mNext)) <|
    mRet (mCut dCut (mVar 1) (mPart (mC (.int 2))) (mNo)))
abbrev N_read : List Str := ["text", "parts", "found", "letter", "part"]
theorem sc_read : FnScope N_read ["text"] (defScope s_read) := ⟨rfl, rfl, rfl, by decide +kernel, rfl, by decide +kernel, by decide +kernel⟩
def m_read : List D → Res D := fnM 5 (
    mSeq (mIfS (mNotT (mTru (mUn (dIsi "str") (mVar 0)))) (mRaise .text) (mNext)) <|
    mSeq (mSet 1 (mList (mSplit (mVar 0) (mCons (mC (.str " ")) (mNil))))) <|
    mSeq (mIfS (mOrT (mTst (mBin (dIn true) (mBin dIx (mVar 1) (mC (.int 0))) (mTup (mCons (mC (.str "1")) (mCons (mC (.str "2")) (mCons (mC (.str "3")) (mNil))))))) (mTst (mBin dGt (mUn dLen (mVar 1)) (mC (.int 4))))) (mRaise .text) (mNext)) <|
    mSeq (mSet 2 (mTup (mCons (mUn dIntS (mBin dIx (mVar 1) (mC (.int 0)))) (mCons (mTupL (mLcX (mZip (mC (.str "abc")) (mCut dCut (mVar 1) (mPart (mC (.int 1))) (mNo))) [3, 4] (gSet2 3 4) (mYes) (mCall m_word_read (mCons (mVar 3) (mCons (mVar 4) (mNil)))))) (mNil))))) <|
    mSeq (mIfS (mNotT (mTru (mCall m_is_rules (mCons (mVar 2) (mNil))))) (mRaise .text) (mNext)) <|
    mRet (mVar 2))
abbrev N__law_read : List Str := ["_law_text", "_law_found"]
theorem sc__law_read : FnScope N__law_read ["_law_text"] (defScope s__law_read) := ⟨rfl, rfl, rfl, by decide +kernel, rfl, by decide +kernel, by decide +kernel⟩
def m__law_read : List D → Res D := fnM 2 (
    mSeq (mSet 1 (mC .none)) <|
    mSeq (mTry us [(.text, mSet 1 (mC .none))] (mSet 1 (mCall m_read (mCons (mVar 0) (mNil))))) <|
    mRet (mVar 1))
abbrev N__law_read_here : List Str := ["_law_text", "_law_parts", "_law_words", "_law_letter", "_law_part", "_law_found"]
theorem sc__law_read_here : FnScope N__law_read_here ["_law_text"] (defScope s__law_read_here) := ⟨rfl, rfl, rfl, by decide +kernel, rfl, by decide +kernel, by decide +kernel⟩
def m__law_read_here : List D → Res D := fnM 6 (
    mSeq (mSet 1 (mList (mSplit (mVar 0) (mCons (mC (.str " ")) (mNil))))) <|
    mSeq (mIfS (mOrT (mTst (mBin (dIn true) (mBin dIx (mVar 1) (mC (.int 0))) (mTup (mCons (mC (.str "1")) (mCons (mC (.str "2")) (mCons (mC (.str "3")) (mNil))))))) (mTst (mBin dGt (mUn dLen (mVar 1)) (mC (.int 4))))) (mRet (mC .none)) (mNext)) <|
    mSeq (mSetF 2 (mLst (mNil))) <|
    mSeq (mFor (mZip (mC (.str "abc")) (mCut dCut (mVar 1) (mPart (mC (.int 1))) (mNo))) (gSet2 3 4) (mSeq (mIfS (mTst (mBin dNe (mCut dCut (mVar 4) (mNo) (mPart (mC (.int 2)))) (mBin dAdd (mVar 3) (mC (.str ":"))))) (mRet (mC .none)) (mNext)) <|
    mAppend 2 (mIf (mTst (mBin dEq (mCut dCut (mVar 4) (mPart (mC (.int 2))) (mNo)) (mC (.str "-")))) (mC .none) (mCut dCut (mVar 4) (mPart (mC (.int 2))) (mNo))))) <|
    mSeq (mSet 5 (mTup (mCons (mUn dIntS (mBin dIx (mVar 1) (mC (.int 0)))) (mCons (mTupL (mOwn 2)) (mNil))))) <|
    mRet (mIf (mTru (mCall m__law_are_rules (mCons (mVar 5) (mNil)))) (mVar 5) (mC .none)))
abbrev N_look : List Str := ["rules"]
theorem sc_look : FnScope N_look ["rules"] (defScope s_look) := ⟨rfl, rfl, rfl, by decide +kernel, rfl, by decide +kernel, by decide +kernel⟩
abbrev N_shown : List Str := ["rules", "rows", "letter", "word"]
theorem sc_shown : FnScope N_shown ["rules"] (defScope s_shown) := ⟨rfl, rfl, rfl, by decide +kernel, rfl, by decide +kernel, by decide +kernel⟩
abbrev N__law_as : List Str := ["_law_told_here", "_law_due"]
theorem sc__law_as : FnScope N__law_as ["_law_told_here", "_law_due"] (defScope s__law_as) := ⟨rfl, rfl, rfl, by decide +kernel, rfl, by decide +kernel, by decide +kernel⟩
abbrev N_is_row : List Str := ["rules", "thing"]
theorem sc_is_row : FnScope N_is_row ["rules", "thing"] (defScope s_is_row) := ⟨rfl, rfl, rfl, by decide +kernel, rfl, by decide +kernel, by decide +kernel⟩
abbrev N_look_row : List Str := ["rules", "row"]
theorem sc_look_row : FnScope N_look_row ["rules", "row"] (defScope s_look_row) := ⟨rfl, rfl, rfl, by decide +kernel, rfl, by decide +kernel, by decide +kernel⟩
abbrev N_word_of : List Str := ["rules", "letter"]
theorem sc_word_of : FnScope N_word_of ["rules", "letter"] (defScope s_word_of) := ⟨rfl, rfl, rfl, by decide +kernel, rfl, by decide +kernel, by decide +kernel⟩
abbrev N_has_ended : List Str := ["rules", "row"]
theorem sc_has_ended : FnScope N_has_ended ["rules", "row"] (defScope s_has_ended) := ⟨rfl, rfl, rfl, by decide +kernel, rfl, by decide +kernel, by decide +kernel⟩
abbrev N_next_of : List Str := ["rules", "row"]
theorem sc_next_of : FnScope N_next_of ["rules", "row"] (defScope s_next_of) := ⟨rfl, rfl, rfl, by decide +kernel, rfl, by decide +kernel, by decide +kernel⟩
abbrev N_told_by : List Str := ["rules", "row", "found"]
theorem sc_told_by : FnScope N_told_by ["rules", "row"] (defScope s_told_by) := ⟨rfl, rfl, rfl, by decide +kernel, rfl, by decide +kernel, by decide +kernel⟩
abbrev N_meet : List Str := ["rules", "one", "other", "mine", "theirs", "many", "row"]
theorem sc_meet : FnScope N_meet ["rules", "one", "other"] (defScope s_meet) := ⟨rfl, rfl, rfl, by decide +kernel, rfl, by decide +kernel, by decide +kernel⟩
abbrev N_times_of : List Str := ["part", "word"]
theorem sc_times_of : FnScope N_times_of ["part", "word"] (defScope s_times_of) := ⟨rfl, rfl, rfl, by decide +kernel, rfl, by decide +kernel, by decide +kernel⟩
abbrev N_told_of : List Str := ["rules", "word", "letter"]
theorem sc_told_of : FnScope N_told_of ["rules", "word"] (defScope s_told_of) := ⟨rfl, rfl, rfl, by decide +kernel, rfl, by decide +kernel, by decide +kernel⟩
abbrev N_is_whole : List Str := ["rules", "word", "letter"]
theorem sc_is_whole : FnScope N_is_whole ["rules", "word"] (defScope s_is_whole) := ⟨rfl, rfl, rfl, by decide +kernel, rfl, by decide +kernel, by decide +kernel⟩
abbrev N_share : List Str := ["rules", "part"]
theorem sc_share : FnScope N_share ["rules", "part"] (defScope s_share) := ⟨rfl, rfl, rfl, by decide +kernel, rfl, by decide +kernel, by decide +kernel⟩
abbrev N_all_parts : List Str := ["rules", "long", "rows", "place", "longer", "row", "letter"]
theorem sc_all_parts : FnScope N_all_parts ["rules", "long"] (defScope s_all_parts) := ⟨rfl, rfl, rfl, by decide +kernel, rfl, by decide +kernel, by decide +kernel⟩
abbrev N_words_to : List Str := ["many", "long", "found", "row", "place", "longer", "word", "letter"]
theorem sc_words_to : FnScope N_words_to ["many", "long"] (defScope s_words_to) := ⟨rfl, rfl, rfl, by decide +kernel, rfl, by decide +kernel, by decide +kernel⟩
abbrev N_part_of : List Str := ["rules", "row", "long", "many"]
theorem sc_part_of : FnScope N_part_of ["rules", "row"] (defScope s_part_of) := ⟨rfl, rfl, rfl, by decide +kernel, rfl, by decide +kernel, by decide +kernel⟩
abbrev N_fate_of : List Str := ["rules", "row", "seen", "many", "found"]
theorem sc_fate_of : FnScope N_fate_of ["rules", "row"] (defScope s_fate_of) := ⟨rfl, rfl, rfl, by decide +kernel, rfl, by decide +kernel, by decide +kernel⟩
abbrev N_sorted_out : List Str := ["rules", "long", "found", "row"]
theorem sc_sorted_out : FnScope N_sorted_out ["rules", "long"] (defScope s_sorted_out) := ⟨rfl, rfl, rfl, by decide +kernel, rfl, by decide +kernel, by decide +kernel⟩
abbrev N_next_row : List Str := ["rules", "row"]
theorem sc_next_row : FnScope N_next_row ["rules", "row"] (defScope s_next_row) := ⟨rfl, rfl, rfl, by decide +kernel, rfl, by decide +kernel, by decide +kernel⟩
abbrev N_after : List Str := ["rules", "row", "many", "turn"]
theorem sc_after : FnScope N_after ["rules", "row", "many"] (defScope s_after) := ⟨rfl, rfl, rfl, by decide +kernel, rfl, by decide +kernel, by decide +kernel⟩
abbrev N_image : List Str := ["rules", "word"]
theorem sc_image : FnScope N_image ["rules", "word"] (defScope s_image) := ⟨rfl, rfl, rfl, by decide +kernel, rfl, by decide +kernel, by decide +kernel⟩
abbrev N_ahead_of : List Str := ["rules", "row", "found", "tails", "place", "letter", "longer", "tail", "word"]
theorem sc_ahead_of : FnScope N_ahead_of ["rules", "row"] (defScope s_ahead_of) := ⟨rfl, rfl, rfl, by decide +kernel, rfl, by decide +kernel, by decide +kernel⟩
abbrev N_leading : List Str := ["rules", "row", "many", "rows", "turn", "longer", "one", "other"]
theorem sc_leading : FnScope N_leading ["rules", "row", "many"] (defScope s_leading) := ⟨rfl, rfl, rfl, by decide +kernel, rfl, by decide +kernel, by decide +kernel⟩
abbrev N_course : List Str := ["rules", "row", "many", "found"]
theorem sc_course : FnScope N_course ["rules", "row", "many"] (defScope s_course) := ⟨rfl, rfl, rfl, by decide +kernel, rfl, by decide +kernel, by decide +kernel⟩
abbrev N_before : List Str := ["rules", "row"]
theorem sc_before : FnScope N_before ["rules", "row"] (defScope s_before) := ⟨rfl, rfl, rfl, by decide +kernel, rfl, by decide +kernel, by decide +kernel⟩
abbrev N_root_of : List Str := ["word", "long"]
theorem sc_root_of : FnScope N_root_of ["word"] (defScope s_root_of) := ⟨rfl, rfl, rfl, by decide +kernel, rfl, by decide +kernel, by decide +kernel⟩
abbrev N_root : List Str := ["rules", "word"]
theorem sc_root : FnScope N_root ["rules", "word"] (defScope s_root) := ⟨rfl, rfl, rfl, by decide +kernel, rfl, by decide +kernel, by decide +kernel⟩
abbrev N_grows_by : List Str := ["rules", "part"]
theorem sc_grows_by : FnScope N_grows_by ["rules", "part"] (defScope s_grows_by) := ⟨rfl, rfl, rfl, by decide +kernel, rfl, by decide +kernel, by decide +kernel⟩
abbrev N_fate : List Str := ["rules", "row"]
theorem sc_fate : FnScope N_fate ["rules", "row"] (defScope s_fate) := ⟨rfl, rfl, rfl, by decide +kernel, rfl, by decide +kernel, by decide +kernel⟩
abbrev N_behind : List Str := ["rules", "row", "many", "turn"]
theorem sc_behind : FnScope N_behind ["rules", "row", "many"] (defScope s_behind) := ⟨rfl, rfl, rfl, by decide +kernel, rfl, by decide +kernel, by decide +kernel⟩
abbrev N_is_fate : List Str := ["rules", "row", "thing", "here", "sign"]
theorem sc_is_fate : FnScope N_is_fate ["rules", "row", "thing"] (defScope s_is_fate) := ⟨rfl, rfl, rfl, by decide +kernel, rfl, by decide +kernel, by decide +kernel⟩
abbrev N_longest : List Str := ["rules", "row", "told", "best", "last", "many"]
theorem sc_longest : FnScope N_longest ["rules", "row"] (defScope s_longest) := ⟨rfl, rfl, rfl, by decide +kernel, rfl, by decide +kernel, by decide +kernel⟩
abbrev N__law_asked : List Str := ["_law_kind", "_law_rules_here", "_law_row", "_law_thing"]
theorem sc__law_asked : FnScope N__law_asked ["_law_kind", "_law_rules_here", "_law_row", "_law_thing"] (defScope s__law_asked) := ⟨rfl, rfl, rfl, by decide +kernel, rfl, by decide +kernel, by decide +kernel⟩
def m__law_asked : List D → Res D := fnM 4 (
    mSeq (mIfS (mTst (mBin dLt (mVar 0) (mC (.int 4)))) (mSeq (mIfS (mTst (mBin dEq (mVar 0) (mC (.int 0)))) (mRet (mCall m_next_row (mCons (mVar 1) (mCons (mVar 2) (mNil))))) (mNext)) <|
    mSeq (mIfS (mTst (mBin dEq (mVar 0) (mC (.int 1)))) (mRet (mCall m_after (mCons (mVar 1) (mCons (mVar 2) (mCons (mVar 3) (mNil)))))) (mNext)) <|
    mRet (mIf (mTst (mBin dEq (mVar 0) (mC (.int 2)))) (mCall m_image (mCons (mVar 1) (mCons (mVar 2) (mNil)))) (mCall m_leading (mCons (mVar 1) (mCons (mVar 2) (mCons (mVar 3) (mNil))))))) (mNext)) <|
    mSeq (mIfS (mTst (mBin dLt (mVar 0) (mC (.int 8)))) (mSeq (mIfS (mTst (mBin dEq (mVar 0) (mC (.int 4)))) (mRet (mCall m_course (mCons (mVar 1) (mCons (mVar 2) (mCons (mVar 3) (mNil)))))) (mNext)) <|
    mSeq (mIfS (mTst (mBin dEq (mVar 0) (mC (.int 5)))) (mRet (mCall m_before (mCons (mVar 1) (mCons (mVar 2) (mNil))))) (mNext)) <|
    mRet (mIf (mTst (mBin dEq (mVar 0) (mC (.int 6)))) (mCall m_root (mCons (mVar 1) (mCons (mVar 2) (mNil)))) (mCall m_grows_by (mCons (mVar 1) (mCons (mVar 2) (mNil)))))) (mNext)) <|
    mSeq (mIfS (mTst (mBin dLt (mVar 0) (mC (.int 11)))) (mSeq (mIfS (mTst (mBin dEq (mVar 0) (mC (.int 8)))) (mRet (mCall m_fate (mCons (mVar 1) (mCons (mVar 2) (mNil))))) (mNext)) <|
    mRet (mIf (mTst (mBin dEq (mVar 0) (mC (.int 9)))) (mCall m_is_fate (mCons (mVar 1) (mCons (mVar 2) (mCons (mVar 3) (mNil))))) (mCall m_longest (mCons (mVar 1) (mCons (mVar 2) (mNil)))))) (mNext)) <|
    mSeq (mIfS (mTst (mBin dEq (mVar 0) (mC (.int 11)))) (mRet (mCall m_meet (mCons (mVar 1) (mCons (mVar 2) (mCons (mVar 3) (mNil)))))) (mNext)) <|
    mRet (mIf (mTst (mBin dEq (mVar 0) (mC (.int 12)))) (mCall m_all_parts (mCons (mVar 1) (mCons (mVar 3) (mNil)))) (mCall m_sorted_out (mCons (mVar 1) (mCons (mVar 3) (mNil))))))
abbrev N__law_told : List Str := ["_law_kind", "_law_rules_here", "_law_row", "_law_thing", "_law_found"]
theorem sc__law_told : FnScope N__law_told ["_law_kind", "_law_rules_here", "_law_row", "_law_thing"] (defScope s__law_told) := ⟨rfl, rfl, rfl, by decide +kernel, rfl, by decide +kernel, by decide +kernel⟩
def m__law_told : List D → Res D := fnM 5 (
    mSeq (mSet 4 (mC (.str ""))) <|
    mSeq (mTry us [(.ended, mSet 4 (mC (.str "ended"))), (.word, mSet 4 (mC (.str "word"))), (.many, mSet 4 (mC (.str "many"))), (.rules, mSet 4 (mC (.str "rules"))), (.row, mSet 4 (mC (.str "row"))), (.count, mSet 4 (mC (.str "count")))] (mSet 4 (mCall m__law_asked (mCons (mVar 0) (mCons (mVar 1) (mCons (mVar 2) (mCons (mVar 3) (mNil)))))))) <|
    mRet (mVar 4))
abbrev N_law : List Str := ["_law_script", "_law_rules_here", "_law_many", "_law_text", "_law_letter", "_law_word", "_law_odds", "_law_odd", "_law_at", "_law_bads", "_law_bad", "_law_good", "_law_place", "_law_sign", "_law_way", "_law_other", "_law_row", "_law_kind"]
theorem sc_law : FnScope N_law ["_law_script"] (defScope s_law) := ⟨rfl, rfl, rfl, by decide +kernel, rfl, by decide +kernel, by decide +kernel⟩
def m_law : List D → Res D := fnM 18 (
    mSeq (mSet 1 (mCall m__law_rules (mCons (mVar 0) (mCons (mC (.int 0)) (mNil))))) <|
    mSeq (mSet 2 (mUn dLen (mBin dIx (mVar 1) (mC (.int 1))))) <|
    mSeq (mSet 3 (mUn dStrI (mBin dIx (mVar 1) (mC (.int 0))))) <|
    mSeq (mFor (mZip (mC (.str "abc")) (mBin dIx (mVar 1) (mC (.int 1)))) (gSet2 4 5) (mSet 3 (mBin dAdd (mBin dAdd (mBin dAdd (mBin dAdd (mVar 3) (mC (.str " "))) (mVar 4)) (mC (.str ":"))) (mIf (mTst (mBin dIs (mVar 5) (mC .none))) (mC (.str "-")) (mVar 5))))) <|
    mSeq (mIfS (mOrT (mTst (mBin dIsN (mCall m_is_rules (mCons (mVar 1) (mNil))) (mC (.bool true)))) (mOrT (mTst (mBin dNe (mCall m_shown (mCons (mVar 1) (mNil))) (mVar 3))) (mTst (mBin dNe (mCall m_read (mCons (mVar 3) (mNil))) (mVar 1))))) (mRet (mC (.bool false))) (mNext)) <|
    mSeq (mSet 6 (mList (mLst (mCons (mC .none) (mCons (mC (.bool true)) (mCons (mC (.int 0)) (mCons (mC (.int 1)) (mCons (mC (.int 3)) (mCons (mC (.int 4)) (mCons (mUn dNeg (mC (.int 1))) (mCons (mC (.str "")) (mCons (mC (.str "a")) (mCons (mC (.str "b")) (mCons (mC (.str "c")) (mCons (mC (.str "d")) (mCons (mC (.str "aaaa")) (mCons (mC (.str "aaaaa")) (mCons (mTup (mNil)) (mCons (mTup (mCons (mC (.str "a")) (mNil))) (mNil)))))))))))))))))))) <|
    mSeq (mSet 7 (mBin dIx (mVar 6) (mBin dMod (mCall m__law_cell (mCons (mVar 0) (mCons (mC (.int 2)) (mNil)))) (mC (.int 16))))) <|
    mSeq (mSet 8 (mBin dMod (mCall m__law_cell (mCons (mVar 0) (mCons (mC (.int 3)) (mNil)))) (mVar 2))) <|
    mSeq (mSet 9 (mList (mLst (mCons (mTup (mCons (mVar 7) (mCons (mBin dIx (mVar 1) (mC (.int 1))) (mNil)))) (mCons (mTup (mCons (mBin dIx (mVar 1) (mC (.int 0))) (mCons (mVar 7) (mNil)))) (mCons (mTup (mCons (mBin dIx (mVar 1) (mC (.int 0))) (mCons (mBin dAdd (mBin dAdd (mCut dCut (mBin dIx (mVar 1) (mC (.int 1))) (mNo) (mPart (mVar 8))) (mTup (mCons (mVar 7) (mNil)))) (mCut dCut (mBin dIx (mVar 1) (mC (.int 1))) (mPart (mBin dAdd (mVar 8) (mC (.int 1)))) (mNo))) (mNil)))) (mNil))))))) <|
    mSeq (mSet 9 (mBin dAdd (mVar 9) (mList (mLst (mCons (mTup (mCons (mBin dIx (mVar 1) (mC (.int 0))) (mCons (mBin dAdd (mBin dIx (mVar 1) (mC (.int 1))) (mTup (mCons (mVar 7) (mNil)))) (mNil)))) (mCons (mList (mListOf (mVar 1))) (mCons (mTup (mCons (mBin dIx (mVar 1) (mC (.int 0))) (mCons (mList (mListOf (mBin dIx (mVar 1) (mC (.int 1))))) (mNil)))) (mCons (mTup (mCons (mBin dIx (mVar 1) (mC (.int 0))) (mCons (mBin dMulT (mTup (mCons (mC (.str "")) (mNil))) (mC (.int 4))) (mNil)))) (mNil))))))))) <|
    mSeq (mSet 10 (mBin dIx (mVar 9) (mBin dMod (mCall m__law_cell (mCons (mVar 0) (mCons (mC (.int 4)) (mNil)))) (mC (.int 7))))) <|
    mSeq (mSet 11 (mCall m__law_are_rules (mCons (mVar 10) (mNil)))) <|
    mSeq (mIfS (mOrT (mNotT (mTru (mCall m__law_as (mCons (mCall m_is_rules (mCons (mVar 10) (mNil))) (mCons (mVar 11) (mNil)))))) (mTst (mBin dEq (mBin dEq (mCall m__law_told (mCons (mC (.int 8)) (mCons (mVar 10) (mCons (mC (.str "")) (mCons (mC .none) (mNil)))))) (mC (.str "rules"))) (mVar 11)))) (mRet (mC (.bool false))) (mNext)) <|
    mSeq (mSet 12 (mCall m__law_mix (mCons (mCall m__law_cell (mCons (mVar 0) (mCons (mC (.int 5)) (mNil)))) (mCons (mC (.int 9949)) (mCons (mBin dAdd (mUn dLen (mVar 3)) (mC (.int 1))) (mNil)))))) <|
    mSeq (mSet 13 (mBin dIx (mC (.str "0123 abcd:-")) (mBin dMod (mCall m__law_cell (mCons (mVar 0) (mCons (mC (.int 6)) (mNil)))) (mC (.int 11))))) <|
    mSeq (mSet 14 (mBin dMod (mCall m__law_cell (mCons (mVar 0) (mCons (mC (.int 7)) (mNil)))) (mC (.int 3)))) <|
    mSeq (mSet 15 (mBin dAdd (mBin dAdd (mCut dCut (mVar 3) (mNo) (mPart (mVar 12))) (mBin dIx (mList (mLst (mCons (mVar 13) (mCons (mC (.str "")) (mCons (mVar 13) (mNil)))))) (mVar 14))) (mCut dCut (mVar 3) (mPart (mBin dAdd (mVar 12) (mBin dIx (mList (mLst (mCons (mC (.int 0)) (mCons (mC (.int 1)) (mCons (mC (.int 1)) (mNil)))))) (mVar 14)))) (mNo)))) <|
    mSeq (mIfS (mTst (mBin dNe (mCall m__law_read (mCons (mVar 15) (mNil))) (mCall m__law_read_here (mCons (mVar 15) (mNil))))) (mRet (mC (.bool false))) (mNext)) <|
    mSeq (mIfS (mTst (mBin dIsN (mCall m__law_read (mCons (mBin dIx (mList (mLst (mCons (mC .none) (mCons (mC (.int 7)) (mCons (mC (.str "")) (mCons (mC (.str "1")) (mCons (mC (.str "1 ")) (mCons (mC (.str "a:")) (mNil))))))))) (mBin dMod (mCall m__law_cell (mCons (mVar 0) (mCons (mC (.int 8)) (mNil)))) (mC (.int 6)))) (mNil))) (mC .none))) (mRet (mC (.bool false))) (mNext)) <|
    mSeq (mSet 16 (mBin dIx (mList (mLst (mCons (mC .none) (mCons (mC (.str "A")) (mCons (mOr (mCut dCut (mC (.str "abcd")) (mPart (mVar 2)) (mNo)) (mC (.str "x"))) (mCons (mBin dMul (mC (.str "a")) (mC (.int 25))) (mCons (mList (mLst (mCons (mC (.str "a")) (mNil)))) (mCons (mC (.int 7)) (mNil))))))))) (mBin dMod (mCall m__law_cell (mCons (mVar 0) (mCons (mC (.int 9)) (mNil)))) (mC (.int 6))))) <|
    mSeq (mIfS (mTst (mBin dNe (mList (mLc (mRng1 (mC (.int 12))) [17] (gSet 17) (mYes) (mCall m__law_told (mCons (mVar 17) (mCons (mVar 1) (mCons (mVar 16) (mCons (mC (.int 0)) (mNil)))))))) (mList (mRep (mLst (mCons (mC (.str "row")) (mNil))) (mC (.int 12)))))) (mRet (mC (.bool false))) (mNext)) <|
    mRet (mOr (mVar 11) (mBin dEq (mList (mLc (mRng1 (mC (.int 14))) [17] (gSet 17) (mYes) (mCall m__law_told (mCons (mVar 17) (mCons (mVar 10) (mCons (mVar 16) (mCons (mC (.int 0)) (mNil)))))))) (mList (mRep (mLst (mCons (mC (.str "rules")) (mNil))) (mC (.int 14)))))))
section
variable {P : Program} {w : World} {K : PySem.W.Frag} {mg : Str → Option Value} {base : Heap} {ca : EC → Addr} {f : Addr} {fd : FuncData}
theorem ok__law_seed (T : GF K mg ca) (F : FunD K "_law_seed" "_law_seed" (defArgs s__law_seed) (defBody s__law_seed) (defScope s__law_seed) [] [] f fd) (hm : mg "_law_seed" = some (.ref f)) : FnM P w K mg base ca "_law_seed" 1 ["_law_seed_here", "_law_k"] m__law_seed :=
  fn_ok (k := 0) F hm sc__law_seed (fun _ _ _ _ _ _ us hl => match us, hl with | [_, _], _ => rfl) fun cdv A outer s H E hr tk hp =>
    mss_one (ms_ret (me_op op_modN mod_s (me_op op_pow pow_s (me_op op_modN mod_s (me_op op_addA add_s (me_op op_addA add_s (me_op op_mulA mul_s (me_var 0) (me_int)) (me_op op_mulA mul_s (me_int) (me_var 1))) (me_int)) (me_int)) (me_int)) (me_int)))
theorem ok__law_cell (T : GF K mg ca) (F : FunD K "_law_cell" "_law_cell" (defArgs s__law_cell) (defBody s__law_cell) (defScope s__law_cell) [] [] f fd) (hm : mg "_law_cell" = some (.ref f)) : FnM P w K mg base ca "_law_cell" 1 ["_law_script", "_law_k"] m__law_cell :=
  fn_ok (k := 0) F hm sc__law_cell (fun _ _ _ _ _ _ us hl => match us, hl with | [_, _], _ => rfl) fun cdv A outer s H E hr tk hp =>
    mss_cons (ms_if (mt_cmp op_lt lt_s (me_var 1) (me_len T.b_len (me_var 0)) (nomark _)) (mss_one (ms_ret (me_ix ix_seq ix_s (me_var 0) (me_var 1)))) (mss_nil)) <|
    mss_one (ms_ret (me_int))
theorem ok__law_pick (T : GF K mg ca) (F : FunD K "_law_pick" "_law_pick" (defArgs s__law_pick) (defBody s__law_pick) (defScope s__law_pick) [] [] f fd) (hm : mg "_law_pick" = some (.ref f)) : FnM P w K mg base ca "_law_pick" 1 ["_law_seed_here", "_law_many"] m__law_pick :=
  fn_ok (k := 0) F hm sc__law_pick (fun _ _ _ _ _ _ us hl => match us, hl with | [_, _], _ => rfl) fun cdv A outer s H E hr tk hp =>
    mss_one (ms_ret (me_op op_modN mod_s (me_op op_fdivN div_s (me_var 0) (me_int)) (me_var 1)))
theorem ok__law_letters (T : GF K mg ca) (F : FunD K "_law_letters" "_law_letters" (defArgs s__law_letters) (defBody s__law_letters) (defScope s__law_letters) [] [] f fd) (hm : mg "_law_letters" = some (.ref f))
    (c__law_pick : FnM P w K mg base ca "_law_pick" 1 ["_law_seed_here", "_law_many"] m__law_pick)
    (c__law_seed : FnM P w K mg base ca "_law_seed" 1 ["_law_seed_here", "_law_k"] m__law_seed) : FnM P w K mg base ca "_law_letters" 2 ["_law_seed_here", "_law_many", "_law_long"] m__law_letters :=
  fn_ok (k := 1) F hm sc__law_letters (fun _ _ _ _ _ _ us hl => match us, hl with | [_, _, _], _ => rfl) fun cdv A outer s H E hr tk hp =>
    mss_one (ms_ret (me_join (me_str) (mb_of_mf (mf_lc (CP.mk (own := [("_law_k", 3)]) (t := gName 3) (g := gSet 3) (mc := mYes) (mel := mBin dIx (mC (.str "abc")) (mCall m__law_pick (mCons (mCall m__law_seed (mCons (mVar 0) (mCons (mVar 3) (mNil)))) (mCons (mVar 1) (mNil))))) rfl sc__law_letters.nd (mi_range1 T.b_range (me_var 2)) (blkOk_by (N := N__law_letters) (sc := defScope s__law_letters) (own := [("_law_k", 3)]) (by decide +kernel)) (fun _ _ _ _ _ => pg_name (i := 3) sc__law_letters.nd rfl (Or.inl rfl) (.inr rfl)) tgw_name (fun _ _ _ _ _ => pts_no) (fun _ _ _ _ _ => (me_ix ix_seq ix_s (me_str) (me_call c__law_pick hr (by rfl) takes0 (ma_cons (me_call c__law_seed hr (by rfl) takes0 (ma_cons (me_var 0) (ma_cons (me_var 3) (ma_nil))) (hms := len_cons (len_cons len_nil))) (ma_cons (me_var 1) (ma_nil))) (hms := len_cons (len_cons len_nil))) : ME _ ca W0 _ _).pe))))))
theorem ok__law_rules (T : GF K mg ca) (F : FunD K "_law_rules" "_law_rules" (defArgs s__law_rules) (defBody s__law_rules) (defScope s__law_rules) [] [] f fd) (hm : mg "_law_rules" = some (.ref f))
    (c__law_seed : FnM P w K mg base ca "_law_seed" 1 ["_law_seed_here", "_law_k"] m__law_seed)
    (c__law_cell : FnM P w K mg base ca "_law_cell" 1 ["_law_script", "_law_k"] m__law_cell)
    (c__law_letters : FnM P w K mg base ca "_law_letters" 2 ["_law_seed_here", "_law_many", "_law_long"] m__law_letters) : FnM P w K mg base ca "_law_rules" 3 ["_law_script", "_law_at"] m__law_rules :=
  fn_ok (k := 2) F hm sc__law_rules (fun _ _ _ _ _ _ us hl => match us, hl with | [_, _], _ => rfl) fun cdv A outer s H E hr tk hp =>
    mss_cons (ms_set (i := 2) sc__law_rules.nd rfl (Or.inl rfl) (me_call c__law_seed hr (by rfl) tk (ma_cons (me_call c__law_cell hr (by rfl) tk (ma_cons (me_var 0) (ma_cons (me_var 1) (ma_nil))) (hms := len_cons (len_cons len_nil))) (ma_cons (me_int) (ma_nil))) (hms := len_cons (len_cons len_nil)))) <|
    mss_cons (ms_set (i := 3) sc__law_rules.nd rfl (Or.inl rfl) (me_ix ix_seq ix_s (me_of_mf (mf_lst (ma_cons (me_op op_addA add_s (me_int) (me_op op_modN mod_s (me_op op_fdivN div_s (me_var 2) (me_int)) (me_int))) (ma_cons (me_int) (ma_cons (me_int) (ma_nil)))))) (me_op op_modN mod_s (me_op op_fdivN div_s (me_var 2) (me_int)) (me_int)))) <|
    mss_cons (ms_setF (i := 4) sc__law_rules.nd rfl (Or.inl rfl) (mf_lst (ma_nil))) <|
    mss_cons (ms_for hp rfl (mi_range1 T.b_range (me_var 3)) (mg_name (i := 5) sc__law_rules.nd rfl (Or.inl rfl)) (mss_cons (ms_set (i := 6) sc__law_rules.nd rfl (Or.inl rfl) (me_call c__law_seed hr (by rfl) tk (ma_cons (me_op op_addA add_s (me_call c__law_cell hr (by rfl) tk (ma_cons (me_var 0) (ma_cons (me_op op_addA add_s (me_var 1) (me_int)) (ma_nil))) (hms := len_cons (len_cons len_nil))) (me_op op_mulA mul_s (me_int) (me_var 5))) (ma_cons (me_var 5) (ma_nil))) (hms := len_cons (len_cons len_nil)))) <|
    mss_cons (ms_set (i := 7) sc__law_rules.nd rfl (Or.inl rfl) (me_call c__law_letters hr (by rfl) tk (ma_cons (me_call c__law_seed hr (by rfl) tk (ma_cons (me_var 6) (ma_cons (me_int) (ma_nil))) (hms := len_cons (len_cons len_nil))) (ma_cons (me_var 3) (ma_cons (me_op op_modN mod_s (me_op op_fdivN div_s (me_var 6) (me_int)) (me_int)) (ma_nil)))) (hms := len_cons (len_cons (len_cons len_nil))))) <|
    mss_one (ms_append (i := 4) (me_ifExp (mt_cmp (op_eqA hr) eq_s (me_op op_modN mod_s (me_op op_fdivN div_s (me_var 6) (me_int)) (me_int)) (me_int) (nomark _)) (me_non) (me_var 7))))) <|
    mss_one (ms_ret (me_tup (ma_cons (me_op op_addA add_s (me_int) (me_op op_modN mod_s (me_op op_fdivN div_s (me_var 2) (me_int)) (me_int))) (ma_cons (me_tupleL T.b_tuple (mb_own 4)) (ma_nil)))))
theorem ok__law_in (T : GF K mg ca) (F : FunD K "_law_in" "_law_in" (defArgs s__law_in) (defBody s__law_in) (defScope s__law_in) [] [] f fd) (hm : mg "_law_in" = some (.ref f)) : FnM P w K mg base ca "_law_in" 1 ["_law_thing", "_law_low", "_law_high"] m__law_in :=
  fn_ok (k := 0) F hm sc__law_in (fun _ _ _ _ _ _ us hl => match us, hl with | [_, _, _], _ => rfl) fun cdv A outer s H E hr tk hp =>
    mss_one (ms_ret (me_and (me_isi T.b_isinstance T.b_int (by decide +kernel) (me_var 0)) (me_and (me_not (me_isi T.b_isinstance T.b_bool (by decide +kernel) (me_var 0))) (me_one_and (me_chain op_le le_s op_le le_s (me_var 1) (me_var 0) (me_var 2))))))
theorem ok__law_are_rules (T : GF K mg ca) (F : FunD K "_law_are_rules" "_law_are_rules" (defArgs s__law_are_rules) (defBody s__law_are_rules) (defScope s__law_are_rules) [] [] f fd) (hm : mg "_law_are_rules" = some (.ref f))
    (c__law_in : FnM P w K mg base ca "_law_in" 1 ["_law_thing", "_law_low", "_law_high"] m__law_in) : FnM P w K mg base ca "_law_are_rules" 2 ["_law_thing"] m__law_are_rules :=
  fn_ok (k := 1) F hm sc__law_are_rules (fun _ _ _ _ _ _ us hl => match us, hl with | [_], _ => rfl) fun cdv A outer s H E hr tk hp =>
    mss_cons (ms_if (mt_w (mw_or (mt_not (mt_tru (me_isi T.b_isinstance T.b_tuple (by decide +kernel) (me_var 0)))) (mw_or (mt_cmp (op_neA hr) ne_s (me_len T.b_len (me_var 0)) (me_int) (nomark _)) (mw_or1 (mt_not (mt_tru (me_call c__law_in hr (by rfl) tk (ma_cons (me_ix ix_seq ix_s (me_var 0) (me_int)) (ma_cons (me_int) (ma_cons (me_int) (ma_nil)))) (hms := len_cons (len_cons (len_cons len_nil)))))))))) (mss_one (ms_ret (me_bl))) (mss_nil)) <|
    mss_cons (ms_if (mt_w (mw_or (mt_not (mt_tru (me_isi T.b_isinstance T.b_tuple (by decide +kernel) (me_ix ix_seq ix_s (me_var 0) (me_int))))) (mw_or1 (mt_not (mt_chain op_le le_s op_le le_s (me_int) (me_len T.b_len (me_ix ix_seq ix_s (me_var 0) (me_int))) (me_int)))))) (mss_one (ms_ret (me_bl))) (mss_nil)) <|
    mss_cons (ms_for hp rfl (mi_seq (me_ix ix_seq ix_s (me_var 0) (me_int))) (mg_name (i := 1) sc__law_are_rules.nd rfl (Or.inl rfl)) (mss_cons (ms_if (mt_w (mw_and (mt_cmp op_isNA isN_s (me_var 1) (me_non) (nomark _)) (mw_and1 (mt_not (mt_tru (me_isi T.b_isinstance T.b_str (by decide +kernel) (me_var 1))))))) (mss_one (ms_ret (me_bl))) (mss_nil)) <|
    mss_one (ms_if (mt_w (mw_and (mt_cmp op_isNA isN_s (me_var 1) (me_non) (nomark _)) (mw_and1 (mt_w (mw_or (mt_cmp op_gtA gt_s (me_len T.b_len (me_var 1)) (me_int) (nomark _)) (mw_or1 (mt_cmp (op_neA hr) ne_s (me_strip (me_var 1) (ma_cons (me_slice (me_str) (mo_none) (mo_some (me_len T.b_len (me_ix ix_seq ix_s (me_var 0) (me_int))))) (ma_nil))) (me_str) (nomark _)))))))) (mss_one (ms_ret (me_bl))) (mss_nil)))) <|
    mss_one (ms_ret (me_bl))
theorem ok__law_mix (T : GF K mg ca) (F : FunD K "_law_mix" "_law_mix" (defArgs s__law_mix) (defBody s__law_mix) (defScope s__law_mix) [] [] f fd) (hm : mg "_law_mix" = some (.ref f)) : FnM P w K mg base ca "_law_mix" 1 ["_law_cell_here", "_law_prime", "_law_many"] m__law_mix :=
  fn_ok (k := 0) F hm sc__law_mix (fun _ _ _ _ _ _ us hl => match us, hl with | [_, _, _], _ => rfl) fun cdv A outer s H E hr tk hp =>
    mss_one (ms_ret (me_op op_modN mod_s (me_op op_modN mod_s (me_op op_mulA mul_s (me_var 0) (me_int)) (me_var 1)) (me_var 2)))
theorem ok_is_within (T : GF K mg ca) (F : FunD K "is_within" "is_within" (defArgs s_is_within) (defBody s_is_within) (defScope s_is_within) [] [] f fd) (hm : mg "is_within" = some (.ref f)) : FnM P w K mg base ca "is_within" 1 ["thing", "low", "high"] m_is_within :=
  fn_ok (k := 0) F hm sc_is_within (fun _ _ _ _ _ _ us hl => match us, hl with | [_, _, _], _ => rfl) fun cdv A outer s H E hr tk hp =>
    mss_one (ms_ret (me_and (me_isi T.b_isinstance T.b_int (by decide +kernel) (me_var 0)) (me_and (me_not (me_isi T.b_isinstance T.b_bool (by decide +kernel) (me_var 0))) (me_one_and (me_chain op_le le_s op_le le_s (me_var 1) (me_var 0) (me_var 2))))))
theorem ok_is_word (T : GF K mg ca) (F : FunD K "is_word" "is_word" (defArgs s_is_word) (defBody s_is_word) (defScope s_is_word) [] [] f fd) (hm : mg "is_word" = some (.ref f)) : FnM P w K mg base ca "is_word" 1 ["many", "thing", "most"] m_is_word :=
  fn_ok (k := 0) F hm sc_is_word (fun _ _ _ _ _ _ us hl => match us, hl with | [_, _, _], _ => rfl) fun cdv A outer s H E hr tk hp =>
    mss_cons (ms_if (mt_w (mw_or (mt_not (mt_tru (me_isi T.b_isinstance T.b_str (by decide +kernel) (me_var 1)))) (mw_or1 (mt_cmp op_gtA gt_s (me_len T.b_len (me_var 1)) (me_var 2) (nomark _))))) (mss_one (ms_ret (me_bl))) (mss_nil)) <|
    mss_one (ms_ret (me_not (me_of_mf (mf_lc (CP.mk (own := [("sign", 3)]) (t := gName 3) (g := gSet 3) (mc := mTst (mBin (dIn true) (mVar 3) (mCut dCut (mC (.str "abc")) (mNo) (mPart (mVar 0))))) (mel := mVar 3) rfl sc_is_word.nd (mi_seq (me_var 1)) (blkOk_by (N := N_is_word) (sc := defScope s_is_word) (own := [("sign", 3)]) (by decide +kernel)) (fun _ _ _ _ _ => pg_name (i := 3) sc_is_word.nd rfl (Or.inl rfl) (.inr rfl)) tgw_name (fun _ _ _ _ _ => pts_one (mt_cmp (op_inNA hr) inN_s (me_var 3) (me_slice (me_gstr T.c_LETTERS) (mo_none) (mo_some (me_var 0))) (by rfl)).pt) (fun _ _ _ _ _ => (me_var 3 : ME _ ca W0 _ _).pe))))))
theorem ok_is_rules (T : GF K mg ca) (F : FunD K "is_rules" "is_rules" (defArgs s_is_rules) (defBody s_is_rules) (defScope s_is_rules) [] [] f fd) (hm : mg "is_rules" = some (.ref f))
    (c_is_within : FnM P w K mg base ca "is_within" 1 ["thing", "low", "high"] m_is_within)
    (c_is_word : FnM P w K mg base ca "is_word" 1 ["many", "thing", "most"] m_is_word) : FnM P w K mg base ca "is_rules" 2 ["thing"] m_is_rules :=
  fn_ok (k := 1) F hm sc_is_rules (fun _ _ _ _ _ _ us hl => match us, hl with | [_], _ => rfl) fun cdv A outer s H E hr tk hp =>
    mss_cons (ms_if (mt_w (mw_or (mt_not (mt_tru (me_isi T.b_isinstance T.b_tuple (by decide +kernel) (me_var 0)))) (mw_or (mt_cmp (op_neA hr) ne_s (me_len T.b_len (me_var 0)) (me_int) (nomark _)) (mw_or1 (mt_not (mt_tru (me_call c_is_within hr (by rfl) tk (ma_cons (me_ix ix_seq ix_s (me_var 0) (me_int)) (ma_cons (me_int) (ma_cons (me_gint T.c_MOST_CUT) (ma_nil)))) (hms := len_cons (len_cons (len_cons len_nil)))))))))) (mss_one (ms_ret (me_bl))) (mss_nil)) <|
    mss_cons (ms_if (mt_w (mw_or (mt_not (mt_tru (me_isi T.b_isinstance T.b_tuple (by decide +kernel) (me_ix ix_seq ix_s (me_var 0) (me_int))))) (mw_or1 (mt_not (mt_chain op_le le_s op_le le_s (me_int) (me_len T.b_len (me_ix ix_seq ix_s (me_var 0) (me_int))) (me_len T.b_len (me_gstr T.c_LETTERS))))))) (mss_one (ms_ret (me_bl))) (mss_nil)) <|
    mss_one (ms_ret (me_not (me_of_mf (mf_lc (CP.mk (own := [("one", 1)]) (t := gName 1) (g := gSet 1) (mc := mAndT (mTst (mBin dIsN (mVar 1) (mC .none))) (mNotT (mTru (mCall m_is_word (mCons (mUn dLen (mBin dIx (mVar 0) (mC (.int 1)))) (mCons (mVar 1) (mCons (mC (.int 4)) (mNil)))))))) (mel := mVar 1) rfl sc_is_rules.nd (mi_seq (me_ix ix_seq ix_s (me_var 0) (me_int))) (blkOk_by (N := N_is_rules) (sc := defScope s_is_rules) (own := [("one", 1)]) (by decide +kernel)) (fun _ _ _ _ _ => pg_name (i := 1) sc_is_rules.nd rfl (Or.inl rfl) (.inr rfl)) tgw_name (fun _ _ _ _ _ => pts_one (mt_w (mw_and (mt_cmp op_isNA isN_s (me_var 1) (me_non) (nomark _)) (mw_and1 (mt_not (mt_tru (me_call c_is_word hr (by rfl) takes0 (ma_cons (me_len T.b_len (me_ix ix_seq ix_s (me_var 0) (me_int))) (ma_cons (me_var 1) (ma_cons (me_gint T.c_MOST_WORD) (ma_nil)))) (hms := len_cons (len_cons (len_cons len_nil))))))))).pt) (fun _ _ _ _ _ => (me_var 1 : ME _ ca W0 _ _).pe))))))
theorem ok_word_read (T : GF K mg ca) (F : FunD K "word_read" "word_read" (defArgs s_word_read) (defBody s_word_read) (defScope s_word_read) [] [] f fd) (hm : mg "word_read" = some (.ref f)) : FnM P w K mg base ca "word_read" 1 ["letter", "text"] m_word_read :=
  fn_ok (k := 0) F hm sc_word_read (fun _ _ _ _ _ _ us hl => match us, hl with | [_, _], _ => rfl) fun cdv A outer s H E hr tk hp =>
    mss_cons (ms_if (mt_cmp (op_neA hr) ne_s (me_slice (me_var 1) (mo_none) (mo_some (me_int))) (me_op op_addA add_s (me_var 0) (me_str)) (nomark _)) (mss_one (ms_raise (k := .text) T.e_BadText tk)) (mss_nil)) <|
    mss_cons (ms_if (mt_cmp (op_eqA hr) eq_s (me_slice (me_var 1) (mo_some (me_int)) (mo_none)) (me_str) (nomark _)) (mss_one (ms_ret (me_non))) (mss_nil)) <|
    mss_one (ms_ret (me_slice (me_var 1) (mo_some (me_int)) (mo_none)))
theorem ok_read (T : GF K mg ca) (F : FunD K "read" "read" (defArgs s_read) (defBody s_read) (defScope s_read) [] [] f fd) (hm : mg "read" = some (.ref f))
    (c_word_read : FnM P w K mg base ca "word_read" 1 ["letter", "text"] m_word_read)
    (c_is_rules : FnM P w K mg base ca "is_rules" 2 ["thing"] m_is_rules) : FnM P w K mg base ca "read" 3 ["text"] m_read :=
  fn_ok (k := 2) F hm sc_read (fun _ _ _ _ _ _ us hl => match us, hl with | [_], _ => rfl) fun cdv A outer s H E hr tk hp =>
    mss_cons (ms_if (mt_not (mt_tru (me_isi T.b_isinstance T.b_str (by decide +kernel) (me_var 0)))) (mss_one (ms_raise (k := .text) T.e_BadText tk)) (mss_nil)) <|
    mss_cons (ms_set (i := 1) sc_read.nd rfl (Or.inl rfl) (me_of_mf (mf_split (me_var 0) (ma_cons (me_str) (ma_nil))))) <|
    mss_cons (ms_if (mt_w (mw_or (mt_cmp (op_inNA hr) inN_s (me_ix ix_seq ix_s (me_var 1) (me_int)) (me_tup (ma_cons (me_str) (ma_cons (me_str) (ma_cons (me_str) (ma_nil))))) (by rfl)) (mw_or1 (mt_cmp op_gtA gt_s (me_len T.b_len (me_var 1)) (me_int) (nomark _))))) (mss_one (ms_raise (k := .text) T.e_BadText tk)) (mss_nil)) <|
    mss_cons (ms_set (i := 2) sc_read.nd rfl (Or.inl rfl) (me_tup (ma_cons (me_intS T.b_int (me_ix ix_seq ix_s (me_var 1) (me_int))) (ma_cons (me_tupleL T.b_tuple (mb_of_mf (mf_lcX (CPX.mk (own := [("letter", 3), ("part", 4)]) (t := gTup K 2 (gCons (gName 3) (gCons (gName 4) gNil))) (g := gSet2 3 4) (mc := mYes) (mel := mCall m_word_read (mCons (mVar 3) (mCons (mVar 4) (mNil)))) rfl sc_read.nd rfl rfl tk (mi_zip T.b_zip (me_gstr T.c_LETTERS) (me_slice (me_var 1) (mo_some (me_int)) (mo_none))) (blkOk_by (N := N_read) (sc := defScope s_read) (own := [("letter", 3), ("part", 4)]) (by decide +kernel)) (fun _ _ _ _ _ => pg_tup rfl (pgs_cons (pg_name (i := 3) sc_read.nd rfl (Or.inl rfl) (.inr rfl)) (pgs_cons (pg_name (i := 4) sc_read.nd rfl (Or.inl rfl) (.inr rfl)) pgs_nil))) tgw_tup2 (fun _ _ _ _ _ => pts_no) (fun _ _ _ _ _ _ _ hx => me_callP c_word_read hr (by rfl) hx (ma_cons (me_var 3) (ma_cons (me_var 4) (ma_nil))) (hms := len_cons (len_cons len_nil))))))) (ma_nil))))) <|
    mss_cons (ms_if (mt_not (mt_tru (me_call c_is_rules hr (by rfl) tk (ma_cons (me_var 2) (ma_nil)) (hms := len_cons len_nil)))) (mss_one (ms_raise (k := .text) T.e_BadText tk)) (mss_nil)) <|
    mss_one (ms_ret (me_var 2))
theorem ok__law_read (T : GF K mg ca) (F : FunD K "_law_read" "_law_read" (defArgs s__law_read) (defBody s__law_read) (defScope s__law_read) [] [] f fd) (hm : mg "_law_read" = some (.ref f))
    (c_read : FnM P w K mg base ca "read" 3 ["text"] m_read) : FnM P w K mg base ca "_law_read" 4 ["_law_text"] m__law_read :=
  fn_ok (k := 3) F hm sc__law_read (fun _ _ _ _ _ _ us hl => match us, hl with | [_], _ => rfl) fun cdv A outer s H E hr tk hp =>
    mss_cons (ms_set (i := 1) sc__law_read.nd rfl (Or.inl rfl) (me_non)) <|
    mss_cons (ms_try (us := us) rfl rfl tk (fun _ _ _ tk1 hp1 => mss_one (ms_set (i := 1) sc__law_read.nd rfl (Or.inl rfl) (me_call c_read hr (by rfl) tk1 (ma_cons (me_var 0) (ma_nil)) (hms := len_cons len_nil)))) (MHs.cons (h := .text) ⟨rfl, rfl, .inl T.e_BadText.gC⟩ (T.x_BadText) (fun _ _ _ => mss_one (ms_set (i := 1) sc__law_read.nd rfl (Or.inl rfl) (me_non))) (MHs.nil))) <|
    mss_one (ms_ret (me_var 1))
theorem ok__law_read_here (T : GF K mg ca) (F : FunD K "_law_read_here" "_law_read_here" (defArgs s__law_read_here) (defBody s__law_read_here) (defScope s__law_read_here) [] [] f fd) (hm : mg "_law_read_here" = some (.ref f))
    (c__law_are_rules : FnM P w K mg base ca "_law_are_rules" 2 ["_law_thing"] m__law_are_rules) : FnM P w K mg base ca "_law_read_here" 3 ["_law_text"] m__law_read_here :=
  fn_ok (k := 2) F hm sc__law_read_here (fun _ _ _ _ _ _ us hl => match us, hl with | [_], _ => rfl) fun cdv A outer s H E hr tk hp =>
    mss_cons (ms_set (i := 1) sc__law_read_here.nd rfl (Or.inl rfl) (me_of_mf (mf_split (me_var 0) (ma_cons (me_str) (ma_nil))))) <|
    mss_cons (ms_if (mt_w (mw_or (mt_cmp (op_inNA hr) inN_s (me_ix ix_seq ix_s (me_var 1) (me_int)) (me_tup (ma_cons (me_str) (ma_cons (me_str) (ma_cons (me_str) (ma_nil))))) (by rfl)) (mw_or1 (mt_cmp op_gtA gt_s (me_len T.b_len (me_var 1)) (me_int) (nomark _))))) (mss_one (ms_ret (me_non))) (mss_nil)) <|
    mss_cons (ms_setF (i := 2) sc__law_read_here.nd rfl (Or.inl rfl) (mf_lst (ma_nil))) <|
    mss_cons (ms_for hp rfl (mi_zip T.b_zip (me_str) (me_slice (me_var 1) (mo_some (me_int)) (mo_none))) (mg_tup2 (i := 3) (j := 4) rfl sc__law_read_here.nd rfl rfl (Or.inl rfl) (Or.inl rfl) (Or.inl rfl) (Or.inl rfl)) (mss_cons (ms_if (mt_cmp (op_neA hr) ne_s (me_slice (me_var 4) (mo_none) (mo_some (me_int))) (me_op op_addA add_s (me_var 3) (me_str)) (nomark _)) (mss_one (ms_ret (me_non))) (mss_nil)) <|
    mss_one (ms_append (i := 2) (me_ifExp (mt_cmp (op_eqA hr) eq_s (me_slice (me_var 4) (mo_some (me_int)) (mo_none)) (me_str) (nomark _)) (me_non) (me_slice (me_var 4) (mo_some (me_int)) (mo_none)))))) <|
    mss_cons (ms_set (i := 5) sc__law_read_here.nd rfl (Or.inl rfl) (me_tup (ma_cons (me_intS T.b_int (me_ix ix_seq ix_s (me_var 1) (me_int))) (ma_cons (me_tupleL T.b_tuple (mb_own 2)) (ma_nil))))) <|
    mss_one (ms_ret (me_ifExp (mt_tru (me_call c__law_are_rules hr (by rfl) tk (ma_cons (me_var 5) (ma_nil)) (hms := len_cons len_nil))) (me_var 5) (me_non)))
theorem ok_look (T : GF K mg ca) (F : FunD K "look" "look" (defArgs s_look) (defBody s_look) (defScope s_look) [] [] f fd) (hm : mg "look" = some (.ref f))
    (c_is_rules : FnM P w K mg base ca "is_rules" 2 ["thing"] m_is_rules) : FnM P w K mg base ca "look" 3 ["rules"] m_look :=
  fn_ok (k := 2) F hm sc_look (fun _ _ _ _ _ _ us hl => match us, hl with | [_], _ => rfl) fun cdv A outer s H E hr tk hp =>
    mss_one (ms_if (mt_not (mt_tru (me_call c_is_rules hr (by rfl) tk (ma_cons (me_var 0) (ma_nil)) (hms := len_cons len_nil)))) (mss_one (ms_raise (k := .rules) T.e_BadRules tk)) (mss_nil))
theorem ok_shown (T : GF K mg ca) (F : FunD K "shown" "shown" (defArgs s_shown) (defBody s_shown) (defScope s_shown) [] [] f fd) (hm : mg "shown" = some (.ref f))
    (c_look : FnM P w K mg base ca "look" 3 ["rules"] m_look) : FnM P w K mg base ca "shown" 4 ["rules"] m_shown :=
  fn_ok (k := 3) F hm sc_shown (fun _ _ _ _ _ _ us hl => match us, hl with | [_], _ => rfl) fun cdv A outer s H E hr tk hp =>
    mss_cons (ms_expr (me_call c_look hr (by rfl) tk (ma_cons (me_var 0) (ma_nil)) (hms := len_cons len_nil))) <|
    mss_cons (ms_setF (i := 1) sc_shown.nd rfl (Or.inl rfl) (mf_lst (ma_cons (me_strI T.b_str (me_ix ix_seq ix_s (me_var 0) (me_int))) (ma_nil)))) <|
    mss_cons (ms_for hp rfl (mi_zip T.b_zip (me_gstr T.c_LETTERS) (me_ix ix_seq ix_s (me_var 0) (me_int))) (mg_tup2 (i := 2) (j := 3) rfl sc_shown.nd rfl rfl (Or.inl rfl) (Or.inl rfl) (Or.inl rfl) (Or.inl rfl)) (mss_one (ms_append (i := 1) (me_op op_addA add_s (me_op op_addA add_s (me_var 2) (me_str)) (me_ifExp (mt_cmp op_isA is_s (me_var 3) (me_non) (nomark _)) (me_str) (me_var 3)))))) <|
    mss_one (ms_ret (me_join (me_str) (mb_own 1)))
theorem ok__law_as (T : GF K mg ca) (F : FunD K "_law_as" "_law_as" (defArgs s__law_as) (defBody s__law_as) (defScope s__law_as) [] [] f fd) (hm : mg "_law_as" = some (.ref f)) : FnM P w K mg base ca "_law_as" 1 ["_law_told_here", "_law_due"] m__law_as :=
  fn_ok (k := 0) F hm sc__law_as (fun _ _ _ _ _ _ us hl => match us, hl with | [_, _], _ => rfl) fun cdv A outer s H E hr tk hp =>
    mss_one (ms_ret (me_and (me_isi T.b_isinstance T.b_bool (by decide +kernel) (me_var 0)) (me_one_and (me_cmp (op_eqA hr) eq_s (me_var 0) (me_var 1) (nomark _)))))
theorem ok_is_row (T : GF K mg ca) (F : FunD K "is_row" "is_row" (defArgs s_is_row) (defBody s_is_row) (defScope s_is_row) [] [] f fd) (hm : mg "is_row" = some (.ref f))
    (c_is_word : FnM P w K mg base ca "is_word" 1 ["many", "thing", "most"] m_is_word) : FnM P w K mg base ca "is_row" 2 ["rules", "thing"] m_is_row :=
  fn_ok (k := 1) F hm sc_is_row (fun _ _ _ _ _ _ us hl => match us, hl with | [_, _], _ => rfl) fun cdv A outer s H E hr tk hp =>
    mss_one (ms_ret (me_call c_is_word hr (by rfl) tk (ma_cons (me_len T.b_len (me_ix ix_seq ix_s (me_var 0) (me_int))) (ma_cons (me_var 1) (ma_cons (me_gint T.c_MOST_ROW) (ma_nil)))) (hms := len_cons (len_cons (len_cons len_nil)))))
theorem ok_look_row (T : GF K mg ca) (F : FunD K "look_row" "look_row" (defArgs s_look_row) (defBody s_look_row) (defScope s_look_row) [] [] f fd) (hm : mg "look_row" = some (.ref f))
    (c_look : FnM P w K mg base ca "look" 3 ["rules"] m_look)
    (c_is_row : FnM P w K mg base ca "is_row" 2 ["rules", "thing"] m_is_row) : FnM P w K mg base ca "look_row" 4 ["rules", "row"] m_look_row :=
  fn_ok (k := 3) F hm sc_look_row (fun _ _ _ _ _ _ us hl => match us, hl with | [_, _], _ => rfl) fun cdv A outer s H E hr tk hp =>
    mss_cons (ms_expr (me_call c_look hr (by rfl) tk (ma_cons (me_var 0) (ma_nil)) (hms := len_cons len_nil))) <|
    mss_one (ms_if (mt_not (mt_tru (me_call c_is_row hr (by rfl) tk (ma_cons (me_var 0) (ma_cons (me_var 1) (ma_nil))) (hms := len_cons (len_cons len_nil))))) (mss_one (ms_raise (k := .row) T.e_BadRow tk)) (mss_nil))
theorem ok_word_of (T : GF K mg ca) (F : FunD K "word_of" "word_of" (defArgs s_word_of) (defBody s_word_of) (defScope s_word_of) [] [] f fd) (hm : mg "word_of" = some (.ref f)) : FnM P w K mg base ca "word_of" 1 ["rules", "letter"] m_word_of :=
  fn_ok (k := 0) F hm sc_word_of (fun _ _ _ _ _ _ us hl => match us, hl with | [_, _], _ => rfl) fun cdv A outer s H E hr tk hp =>
    mss_one (ms_ret (me_ix ix_seq ix_s (me_ix ix_seq ix_s (me_var 0) (me_int)) (me_sindex (me_gstr T.c_LETTERS) (ma_cons (me_var 1) (ma_nil)))))
theorem ok_has_ended (T : GF K mg ca) (F : FunD K "has_ended" "has_ended" (defArgs s_has_ended) (defBody s_has_ended) (defScope s_has_ended) [] [] f fd) (hm : mg "has_ended" = some (.ref f))
    (c_word_of : FnM P w K mg base ca "word_of" 1 ["rules", "letter"] m_word_of) : FnM P w K mg base ca "has_ended" 2 ["rules", "row"] m_has_ended :=
  fn_ok (k := 1) F hm sc_has_ended (fun _ _ _ _ _ _ us hl => match us, hl with | [_, _], _ => rfl) fun cdv A outer s H E hr tk hp =>
    mss_one (ms_ret (me_or (me_cmp op_lt lt_s (me_len T.b_len (me_var 1)) (me_ix ix_seq ix_s (me_var 0) (me_int)) (nomark _)) (me_one_or (me_cmp op_isA is_s (me_call c_word_of hr (by rfl) tk (ma_cons (me_var 0) (ma_cons (me_ix ix_seq ix_s (me_var 1) (me_int)) (ma_nil))) (hms := len_cons (len_cons len_nil))) (me_non) (nomark _)))))
theorem ok_next_of (T : GF K mg ca) (F : FunD K "next_of" "next_of" (defArgs s_next_of) (defBody s_next_of) (defScope s_next_of) [] [] f fd) (hm : mg "next_of" = some (.ref f))
    (c_word_of : FnM P w K mg base ca "word_of" 1 ["rules", "letter"] m_word_of) : FnM P w K mg base ca "next_of" 2 ["rules", "row"] m_next_of :=
  fn_ok (k := 1) F hm sc_next_of (fun _ _ _ _ _ _ us hl => match us, hl with | [_, _], _ => rfl) fun cdv A outer s H E hr tk hp =>
    mss_one (ms_ret (me_op op_addA add_s (me_slice (me_var 1) (mo_some (me_ix ix_seq ix_s (me_var 0) (me_int))) (mo_none)) (me_call c_word_of hr (by rfl) tk (ma_cons (me_var 0) (ma_cons (me_ix ix_seq ix_s (me_var 1) (me_int)) (ma_nil))) (hms := len_cons (len_cons len_nil)))))
theorem ok_told_by (T : GF K mg ca) (F : FunD K "told_by" "told_by" (defArgs s_told_by) (defBody s_told_by) (defScope s_told_by) [] [] f fd) (hm : mg "told_by" = some (.ref f))
    (c_next_of : FnM P w K mg base ca "next_of" 2 ["rules", "row"] m_next_of)
    (c_has_ended : FnM P w K mg base ca "has_ended" 2 ["rules", "row"] m_has_ended) : FnM P w K mg base ca "told_by" 3 ["rules", "row"] m_told_by :=
  fn_ok (k := 2) F hm sc_told_by (fun _ _ _ _ _ _ us hl => match us, hl with | [_, _], _ => rfl) fun cdv A outer s H E hr tk hp =>
    mss_cons (ms_setF (i := 2) sc_told_by.nd rfl (Or.inl rfl) (mf_lst (ma_cons (me_var 1) (ma_nil)))) <|
    mss_cons (ms_while 62 hp (mt_w (mw_and (mt_cmp op_le le_s (me_lenL T.b_len (mb_own 2)) (me_int) (nomark _)) (mw_and1 (mt_not (mt_tru (me_call c_has_ended hr (by rfl) tk (ma_cons (me_var 0) (ma_cons (me_ixL (mb_own 2) (me_neg (me_int))) (ma_nil))) (hms := len_cons (len_cons len_nil)))))))) (mss_one (ms_append (i := 2) (me_call c_next_of hr (by rfl) tk (ma_cons (me_var 0) (ma_cons (me_ixL (mb_own 2) (me_neg (me_int))) (ma_nil))) (hms := len_cons (len_cons len_nil)))))) <|
    mss_one (ms_frz (i := 2) (ms_ret (me_var 2)))
theorem ok_meet (T : GF K mg ca) (F : FunD K "meet" "meet" (defArgs s_meet) (defBody s_meet) (defScope s_meet) [] [] f fd) (hm : mg "meet" = some (.ref f))
    (c_look_row : FnM P w K mg base ca "look_row" 4 ["rules", "row"] m_look_row)
    (c_told_by : FnM P w K mg base ca "told_by" 3 ["rules", "row"] m_told_by) : FnM P w K mg base ca "meet" 5 ["rules", "one", "other"] m_meet :=
  fn_ok (k := 4) F hm sc_meet (fun _ _ _ _ _ _ us hl => match us, hl with | [_, _, _], _ => rfl) fun cdv A outer s H E hr tk hp =>
    mss_cons (ms_expr (me_call c_look_row hr (by rfl) tk (ma_cons (me_var 0) (ma_cons (me_var 1) (ma_nil))) (hms := len_cons (len_cons len_nil)))) <|
    mss_cons (ms_expr (me_call c_look_row hr (by rfl) tk (ma_cons (me_var 0) (ma_cons (me_var 2) (ma_nil))) (hms := len_cons (len_cons len_nil)))) <|
    mss_cons (ms_set (i := 3) sc_meet.nd rfl (Or.inl rfl) (me_call c_told_by hr (by rfl) tk (ma_cons (me_var 0) (ma_cons (me_var 1) (ma_nil))) (hms := len_cons (len_cons len_nil)))) <|
    mss_cons (ms_set (i := 4) sc_meet.nd rfl (Or.inl rfl) (me_call c_told_by hr (by rfl) tk (ma_cons (me_var 0) (ma_cons (me_var 2) (ma_nil))) (hms := len_cons (len_cons len_nil)))) <|
    mss_cons (ms_for hp rfl (mi_enum T.b_enumerate (me_var 3)) (mg_tup2 (i := 5) (j := 6) rfl sc_meet.nd rfl rfl (Or.inl rfl) (Or.inl rfl) (Or.inl rfl) (Or.inl rfl)) (mss_one (ms_if (mt_cmp (op_inA hr) in_s (me_var 6) (me_var 4) (by rfl)) (mss_one (ms_ret (me_tup (ma_cons (me_var 5) (ma_cons (me_lindex (mb_of_me (me_var 4)) (ma_cons (me_var 6) (ma_nil))) (ma_nil)))))) (mss_nil)))) <|
    mss_one (ms_ret (me_non))
theorem ok_times_of (T : GF K mg ca) (F : FunD K "times_of" "times_of" (defArgs s_times_of) (defBody s_times_of) (defScope s_times_of) [] [] f fd) (hm : mg "times_of" = some (.ref f)) : FnM P w K mg base ca "times_of" 1 ["part", "word"] m_times_of :=
  fn_ok (k := 0) F hm sc_times_of (fun _ _ _ _ _ _ us hl => match us, hl with | [_, _], _ => rfl) fun cdv A outer s H E hr tk hp =>
    mss_cons (ms_if (mt_w (mw_or (mt_cmp op_gtA gt_s (me_op op_modN mod_s (me_len T.b_len (me_var 1)) (me_len T.b_len (me_var 0))) (me_int) (nomark _)) (mw_or1 (mt_cmp (op_neA hr) ne_s (me_op op_mulA mul_s (me_var 0) (me_op op_fdivN div_s (me_len T.b_len (me_var 1)) (me_len T.b_len (me_var 0)))) (me_var 1) (nomark _))))) (mss_one (ms_ret (me_non))) (mss_nil)) <|
    mss_one (ms_ret (me_op op_fdivN div_s (me_len T.b_len (me_var 1)) (me_len T.b_len (me_var 0))))
theorem ok_told_of (T : GF K mg ca) (F : FunD K "told_of" "told_of" (defArgs s_told_of) (defBody s_told_of) (defScope s_told_of) [] [] f fd) (hm : mg "told_of" = some (.ref f))
    (c_word_of : FnM P w K mg base ca "word_of" 1 ["rules", "letter"] m_word_of) : FnM P w K mg base ca "told_of" 2 ["rules", "word"] m_told_of :=
  fn_ok (k := 1) F hm sc_told_of (fun _ _ _ _ _ _ us hl => match us, hl with | [_, _], _ => rfl) fun cdv A outer s H E hr tk hp =>
    mss_one (ms_ret (me_join (me_str) (mb_of_mf (mf_lc (CP.mk (own := [("letter", 2)]) (t := gName 2) (g := gSet 2) (mc := mYes) (mel := mCall m_word_of (mCons (mVar 0) (mCons (mVar 2) (mNil)))) rfl sc_told_of.nd (mi_seq (me_stepT (me_var 1) (me_ix ix_seq ix_s (me_var 0) (me_int)))) (blkOk_by (N := N_told_of) (sc := defScope s_told_of) (own := [("letter", 2)]) (by decide +kernel)) (fun _ _ _ _ _ => pg_name (i := 2) sc_told_of.nd rfl (Or.inl rfl) (.inr rfl)) tgw_name (fun _ _ _ _ _ => pts_no) (fun _ _ _ _ _ => (me_call c_word_of hr (by rfl) takes0 (ma_cons (me_var 0) (ma_cons (me_var 2) (ma_nil))) (hms := len_cons (len_cons len_nil)) : ME _ ca W0 _ _).pe))))))
theorem ok_is_whole (T : GF K mg ca) (F : FunD K "is_whole" "is_whole" (defArgs s_is_whole) (defBody s_is_whole) (defScope s_is_whole) [] [] f fd) (hm : mg "is_whole" = some (.ref f))
    (c_word_of : FnM P w K mg base ca "word_of" 1 ["rules", "letter"] m_word_of) : FnM P w K mg base ca "is_whole" 2 ["rules", "word"] m_is_whole :=
  fn_ok (k := 1) F hm sc_is_whole (fun _ _ _ _ _ _ us hl => match us, hl with | [_, _], _ => rfl) fun cdv A outer s H E hr tk hp =>
    mss_cons (ms_if (mt_cmp op_gtA gt_s (me_op op_modN mod_s (me_len T.b_len (me_var 1)) (me_ix ix_seq ix_s (me_var 0) (me_int))) (me_int) (nomark _)) (mss_one (ms_ret (me_bl))) (mss_nil)) <|
    mss_one (ms_ret (me_not (me_of_mf (mf_lc (CP.mk (own := [("letter", 2)]) (t := gName 2) (g := gSet 2) (mc := mTst (mBin dIs (mCall m_word_of (mCons (mVar 0) (mCons (mVar 2) (mNil)))) (mC .none))) (mel := mVar 2) rfl sc_is_whole.nd (mi_seq (me_stepT (me_var 1) (me_ix ix_seq ix_s (me_var 0) (me_int)))) (blkOk_by (N := N_is_whole) (sc := defScope s_is_whole) (own := [("letter", 2)]) (by decide +kernel)) (fun _ _ _ _ _ => pg_name (i := 2) sc_is_whole.nd rfl (Or.inl rfl) (.inr rfl)) tgw_name (fun _ _ _ _ _ => pts_one (mt_cmp op_isA is_s (me_call c_word_of hr (by rfl) takes0 (ma_cons (me_var 0) (ma_cons (me_var 2) (ma_nil))) (hms := len_cons (len_cons len_nil))) (me_non) (nomark _)).pt) (fun _ _ _ _ _ => (me_var 2 : ME _ ca W0 _ _).pe))))))
theorem ok_share (T : GF K mg ca) (F : FunD K "share" "share" (defArgs s_share) (defBody s_share) (defScope s_share) [] [] f fd) (hm : mg "share" = some (.ref f))
    (c_is_whole : FnM P w K mg base ca "is_whole" 2 ["rules", "word"] m_is_whole)
    (c_times_of : FnM P w K mg base ca "times_of" 1 ["part", "word"] m_times_of)
    (c_told_of : FnM P w K mg base ca "told_of" 2 ["rules", "word"] m_told_of) : FnM P w K mg base ca "share" 3 ["rules", "part"] m_share :=
  fn_ok (k := 2) F hm sc_share (fun _ _ _ _ _ _ us hl => match us, hl with | [_, _], _ => rfl) fun cdv A outer s H E hr tk hp =>
    mss_cons (ms_if (mt_w (mw_or (mt_cmp (op_eqA hr) eq_s (me_var 1) (me_str) (nomark _)) (mw_or1 (mt_not (mt_tru (me_call c_is_whole hr (by rfl) tk (ma_cons (me_var 0) (ma_cons (me_var 1) (ma_nil))) (hms := len_cons (len_cons len_nil)))))))) (mss_one (ms_ret (me_non))) (mss_nil)) <|
    mss_one (ms_ret (me_call c_times_of hr (by rfl) tk (ma_cons (me_var 1) (ma_cons (me_call c_told_of hr (by rfl) tk (ma_cons (me_var 0) (ma_cons (me_var 1) (ma_nil))) (hms := len_cons (len_cons len_nil))) (ma_nil))) (hms := len_cons (len_cons len_nil))))
theorem ok_all_parts (T : GF K mg ca) (F : FunD K "all_parts" "all_parts" (defArgs s_all_parts) (defBody s_all_parts) (defScope s_all_parts) [] [] f fd) (hm : mg "all_parts" = some (.ref f))
    (c_look : FnM P w K mg base ca "look" 3 ["rules"] m_look)
    (c_is_within : FnM P w K mg base ca "is_within" 1 ["thing", "low", "high"] m_is_within)
    (c_share : FnM P w K mg base ca "share" 3 ["rules", "part"] m_share) : FnM P w K mg base ca "all_parts" 4 ["rules", "long"] m_all_parts :=
  fn_ok (k := 3) F hm sc_all_parts (fun _ _ _ _ _ _ us hl => match us, hl with | [_, _], _ => rfl) fun cdv A outer s H E hr tk hp =>
    mss_cons (ms_expr (me_call c_look hr (by rfl) tk (ma_cons (me_var 0) (ma_nil)) (hms := len_cons len_nil))) <|
    mss_cons (ms_if (mt_not (mt_tru (me_call c_is_within hr (by rfl) tk (ma_cons (me_var 1) (ma_cons (me_int) (ma_cons (me_int) (ma_nil)))) (hms := len_cons (len_cons (len_cons len_nil)))))) (mss_one (ms_raise (k := .count) T.e_BadCount tk)) (mss_nil)) <|
    mss_cons (ms_set (i := 2) sc_all_parts.nd rfl (Or.inl rfl) (me_of_mf (mf_lst (ma_cons (me_str) (ma_nil))))) <|
    mss_cons (ms_for hp rfl (mi_range1 T.b_range (me_var 1)) (mg_name (i := 3) sc_all_parts.nd rfl (Or.inl rfl)) (mss_cons (ms_setF (i := 4) sc_all_parts.nd rfl (Or.inl rfl) (mf_lst (ma_nil))) <|
    mss_cons (ms_for hp rfl (mi_seq (me_var 2)) (mg_name (i := 5) sc_all_parts.nd rfl (Or.inr rfl)) (mss_one (ms_extend (i := 4) (mb_of_mf (mf_lc (CP.mk (own := [("letter", 6)]) (t := gName 6) (g := gSet 6) (mc := mYes) (mel := mBin dAdd (mVar 5) (mVar 6)) rfl sc_all_parts.nd (mi_seq (me_slice (me_gstr T.c_LETTERS) (mo_none) (mo_some (me_len T.b_len (me_ix ix_seq ix_s (me_var 0) (me_int)))))) (blkOk_by (N := N_all_parts) (sc := defScope s_all_parts) (own := [("letter", 6)]) (by decide +kernel)) (fun _ _ _ _ _ => pg_name (i := 6) sc_all_parts.nd rfl (Or.inl rfl) (.inr rfl)) tgw_name (fun _ _ _ _ _ => pts_no) (fun _ _ _ _ _ => (me_op op_addA add_s (me_var 5) (me_var 6) : ME _ ca W0 _ _).pe))))))) <|
    mss_one (ms_frz (i := 4) (ms_set (i := 2) sc_all_parts.nd rfl (Or.inl rfl) (me_var 4))))) <|
    mss_one (ms_ret (me_of_mf (mf_lc (CP.mk (own := [("row", 5)]) (t := gName 5) (g := gSet 5) (mc := mTst (mBin dIsN (mCall m_share (mCons (mVar 0) (mCons (mVar 5) (mNil)))) (mC .none))) (mel := mTup (mCons (mVar 5) (mCons (mCall m_share (mCons (mVar 0) (mCons (mVar 5) (mNil)))) (mNil)))) rfl sc_all_parts.nd (mi_seq (me_var 2)) (blkOk_by (N := N_all_parts) (sc := defScope s_all_parts) (own := [("row", 5)]) (by decide +kernel)) (fun _ _ _ _ _ => pg_name (i := 5) sc_all_parts.nd rfl (Or.inl rfl) (.inr rfl)) tgw_name (fun _ _ _ _ _ => pts_one (mt_cmp op_isNA isN_s (me_call c_share hr (by rfl) takes0 (ma_cons (me_var 0) (ma_cons (me_var 5) (ma_nil))) (hms := len_cons (len_cons len_nil))) (me_non) (nomark _)).pt) (fun _ _ _ _ _ => (me_tup (ma_cons (me_var 5) (ma_cons (me_call c_share hr (by rfl) takes0 (ma_cons (me_var 0) (ma_cons (me_var 5) (ma_nil))) (hms := len_cons (len_cons len_nil))) (ma_nil))) : ME _ ca W0 _ _).pe)))))
theorem ok_words_to (T : GF K mg ca) (F : FunD K "words_to" "words_to" (defArgs s_words_to) (defBody s_words_to) (defScope s_words_to) [] [] f fd) (hm : mg "words_to" = some (.ref f)) : FnM P w K mg base ca "words_to" 1 ["many", "long"] m_words_to :=
  fn_ok (k := 0) F hm sc_words_to (fun _ _ _ _ _ _ us hl => match us, hl with | [_, _], _ => rfl) fun cdv A outer s H E hr tk hp =>
    mss_cons (ms_setF (i := 2) sc_words_to.nd rfl (Or.inl rfl) (mf_lst (ma_cons (me_str) (ma_nil)))) <|
    mss_cons (ms_set (i := 3) sc_words_to.nd rfl (Or.inl rfl) (me_of_mf (mf_lst (ma_cons (me_str) (ma_nil))))) <|
    mss_cons (ms_for hp rfl (mi_range1 T.b_range (me_var 1)) (mg_name (i := 4) sc_words_to.nd rfl (Or.inl rfl)) (mss_cons (ms_setF (i := 5) sc_words_to.nd rfl (Or.inl rfl) (mf_lst (ma_nil))) <|
    mss_cons (ms_for hp rfl (mi_seq (me_var 3)) (mg_name (i := 6) sc_words_to.nd rfl (Or.inr rfl)) (mss_one (ms_extend (i := 5) (mb_of_mf (mf_lc (CP.mk (own := [("letter", 7)]) (t := gName 7) (g := gSet 7) (mc := mYes) (mel := mBin dAdd (mVar 6) (mVar 7)) rfl sc_words_to.nd (mi_seq (me_slice (me_gstr T.c_LETTERS) (mo_none) (mo_some (me_var 0)))) (blkOk_by (N := N_words_to) (sc := defScope s_words_to) (own := [("letter", 7)]) (by decide +kernel)) (fun _ _ _ _ _ => pg_name (i := 7) sc_words_to.nd rfl (Or.inl rfl) (.inr rfl)) tgw_name (fun _ _ _ _ _ => pts_no) (fun _ _ _ _ _ => (me_op op_addA add_s (me_var 6) (me_var 7) : ME _ ca W0 _ _).pe))))))) <|
    mss_cons (ms_frz (i := 5) (ms_set (i := 3) sc_words_to.nd rfl (Or.inl rfl) (me_var 5))) <|
    mss_one (ms_extend (i := 2) (mb_of_me (me_var 3))))) <|
    mss_one (ms_frz (i := 2) (ms_ret (me_var 2)))
theorem ok_part_of (T : GF K mg ca) (F : FunD K "part_of" "part_of" (defArgs s_part_of) (defBody s_part_of) (defScope s_part_of) [] [] f fd) (hm : mg "part_of" = some (.ref f))
    (c_times_of : FnM P w K mg base ca "times_of" 1 ["part", "word"] m_times_of)
    (c_share : FnM P w K mg base ca "share" 3 ["rules", "part"] m_share) : FnM P w K mg base ca "part_of" 4 ["rules", "row"] m_part_of :=
  fn_ok (k := 3) F hm sc_part_of (fun _ _ _ _ _ _ us hl => match us, hl with | [_, _], _ => rfl) fun cdv A outer s H E hr tk hp =>
    mss_cons (ms_for hp rfl (mi_range2 T.b_range (me_int) (me_op op_addA add_s (me_len T.b_len (me_var 1)) (me_int))) (mg_name (i := 2) sc_part_of.nd rfl (Or.inl rfl)) (mss_one (ms_if (mt_cmp op_isNA isN_s (me_call c_times_of hr (by rfl) tk (ma_cons (me_slice (me_var 1) (mo_none) (mo_some (me_var 2))) (ma_cons (me_var 1) (ma_nil))) (hms := len_cons (len_cons len_nil))) (me_non) (nomark _)) (mss_cons (ms_set (i := 3) sc_part_of.nd rfl (Or.inl rfl) (me_call c_share hr (by rfl) tk (ma_cons (me_var 0) (ma_cons (me_slice (me_var 1) (mo_none) (mo_some (me_var 2))) (ma_nil))) (hms := len_cons (len_cons len_nil)))) <|
    mss_one (ms_if (mt_cmp op_isNA isN_s (me_var 3) (me_non) (nomark _)) (mss_one (ms_ret (me_tup (ma_cons (me_slice (me_var 1) (mo_none) (mo_some (me_var 2))) (ma_cons (me_var 3) (ma_nil)))))) (mss_nil))) (mss_nil)))) <|
    mss_one (ms_ret (me_non))
theorem ok_fate_of (T : GF K mg ca) (F : FunD K "fate_of" "fate_of" (defArgs s_fate_of) (defBody s_fate_of) (defScope s_fate_of) [] [] f fd) (hm : mg "fate_of" = some (.ref f))
    (c_has_ended : FnM P w K mg base ca "has_ended" 2 ["rules", "row"] m_has_ended)
    (c_part_of : FnM P w K mg base ca "part_of" 4 ["rules", "row"] m_part_of)
    (c_next_of : FnM P w K mg base ca "next_of" 2 ["rules", "row"] m_next_of) : FnM P w K mg base ca "fate_of" 5 ["rules", "row"] m_fate_of :=
  fn_ok (k := 4) F hm sc_fate_of (fun _ _ _ _ _ _ us hl => match us, hl with | [_, _], _ => rfl) fun cdv A outer s H E hr tk hp =>
    mss_cons (ms_setE (i := 2) sc_fate_of.nd rfl (Or.inl rfl)) <|
    mss_cons (ms_set (i := 3) sc_fate_of.nd rfl (Or.inl rfl) (me_int)) <|
    mss_cons (ms_while 203 hp (mt_w (mw_and (mt_cmp op_le le_s (me_var 3) (me_gint T.c_MOST_CUTS) (nomark _)) (mw_and1 (mt_cmp op_le le_s (me_len T.b_len (me_var 1)) (me_gint T.c_MOST_LONG) (nomark _))))) (mss_cons (ms_if (mt_tru (me_call c_has_ended hr (by rfl) tk (ma_cons (me_var 0) (ma_cons (me_var 1) (ma_nil))) (hms := len_cons (len_cons len_nil)))) (mss_one (ms_ret (me_tup (ma_cons (me_str) (ma_cons (me_var 3) (ma_cons (me_var 1) (ma_nil))))))) (mss_nil)) <|
    mss_cons (ms_if (mt_din (i := 2) hr (me_var 1)) (mss_one (ms_ret (me_tup (ma_cons (me_str) (ma_cons (me_dget (i := 2) hr (me_var 1)) (ma_cons (me_op op_sub sub_s (me_var 3) (me_dget (i := 2) hr (me_var 1))) (ma_nil))))))) (mss_nil)) <|
    mss_cons (ms_set (i := 4) sc_fate_of.nd rfl (Or.inl rfl) (me_call c_part_of hr (by rfl) tk (ma_cons (me_var 0) (ma_cons (me_var 1) (ma_nil))) (hms := len_cons (len_cons len_nil)))) <|
    mss_cons (ms_if (mt_w (mw_and (mt_cmp op_isNA isN_s (me_var 4) (me_non) (nomark _)) (mw_and1 (mt_cmp op_gtA gt_s (me_ix ix_seq ix_s (me_var 4) (me_int)) (me_int) (nomark _))))) (mss_one (ms_ret (me_tup (ma_cons (me_str) (ma_cons (me_var 3) (ma_cons (me_ix ix_seq ix_s (me_var 4) (me_int)) (ma_cons (me_ix ix_seq ix_s (me_var 4) (me_int)) (ma_nil)))))))) (mss_nil)) <|
    mss_cons (ms_dput (i := 2) hr (me_var 1) (me_var 3)) <|
    mss_cons (ms_set (i := 1) sc_fate_of.nd rfl (Or.inl rfl) (me_call c_next_of hr (by rfl) tk (ma_cons (me_var 0) (ma_cons (me_var 1) (ma_nil))) (hms := len_cons (len_cons len_nil)))) <|
    mss_one (ms_aug (i := 3) ip_add ipadd_s sc_fate_of.nd rfl (Or.inl rfl) (me_int) (fun h => ps_aug (i := 3) sc_fate_of.nd rfl (Or.inl rfl) h ip_add)))) <|
    mss_one (ms_ret (me_tup (ma_cons (me_str) (ma_cons (me_var 3) (ma_cons (me_len T.b_len (me_var 1)) (ma_nil))))))
theorem ok_sorted_out (T : GF K mg ca) (F : FunD K "sorted_out" "sorted_out" (defArgs s_sorted_out) (defBody s_sorted_out) (defScope s_sorted_out) [] [] f fd) (hm : mg "sorted_out" = some (.ref f))
    (c_look : FnM P w K mg base ca "look" 3 ["rules"] m_look)
    (c_is_within : FnM P w K mg base ca "is_within" 1 ["thing", "low", "high"] m_is_within)
    (c_words_to : FnM P w K mg base ca "words_to" 1 ["many", "long"] m_words_to)
    (c_fate_of : FnM P w K mg base ca "fate_of" 5 ["rules", "row"] m_fate_of) : FnM P w K mg base ca "sorted_out" 6 ["rules", "long"] m_sorted_out :=
  fn_ok (k := 5) F hm sc_sorted_out (fun _ _ _ _ _ _ us hl => match us, hl with | [_, _], _ => rfl) fun cdv A outer s H E hr tk hp =>
    mss_cons (ms_expr (me_call c_look hr (by rfl) tk (ma_cons (me_var 0) (ma_nil)) (hms := len_cons len_nil))) <|
    mss_cons (ms_if (mt_not (mt_tru (me_call c_is_within hr (by rfl) tk (ma_cons (me_var 1) (ma_cons (me_int) (ma_cons (me_int) (ma_nil)))) (hms := len_cons (len_cons (len_cons len_nil)))))) (mss_one (ms_raise (k := .count) T.e_BadCount tk)) (mss_nil)) <|
    mss_cons (ms_setDisp (i := 2) sc_sorted_out.nd rfl (Or.inl rfl) (kv_cons (kv_cons (kv_cons (kv_cons (kv_nil)))))) <|
    mss_cons (ms_for hp rfl (mi_seq (me_call c_words_to hr (by rfl) tk (ma_cons (me_len T.b_len (me_ix ix_seq ix_s (me_var 0) (me_int))) (ma_cons (me_var 1) (ma_nil))) (hms := len_cons (len_cons len_nil)))) (mg_name (i := 3) sc_sorted_out.nd rfl (Or.inl rfl)) (mss_one (ms_daug (i := 2) hr (me_ix ix_seq ix_s (me_call c_fate_of hr (by rfl) tk (ma_cons (me_var 0) (ma_cons (me_var 3) (ma_nil))) (hms := len_cons (len_cons len_nil))) (me_int)) (me_int)))) <|
    mss_one (ms_ret (me_tup (ma_cons (me_dget (i := 2) hr (me_str)) (ma_cons (me_dget (i := 2) hr (me_str)) (ma_cons (me_dget (i := 2) hr (me_str)) (ma_cons (me_dget (i := 2) hr (me_str)) (ma_nil)))))))
theorem ok_next_row (T : GF K mg ca) (F : FunD K "next_row" "next_row" (defArgs s_next_row) (defBody s_next_row) (defScope s_next_row) [] [] f fd) (hm : mg "next_row" = some (.ref f))
    (c_look_row : FnM P w K mg base ca "look_row" 4 ["rules", "row"] m_look_row)
    (c_has_ended : FnM P w K mg base ca "has_ended" 2 ["rules", "row"] m_has_ended)
    (c_next_of : FnM P w K mg base ca "next_of" 2 ["rules", "row"] m_next_of) : FnM P w K mg base ca "next_row" 5 ["rules", "row"] m_next_row :=
  fn_ok (k := 4) F hm sc_next_row (fun _ _ _ _ _ _ us hl => match us, hl with | [_, _], _ => rfl) fun cdv A outer s H E hr tk hp =>
    mss_cons (ms_expr (me_call c_look_row hr (by rfl) tk (ma_cons (me_var 0) (ma_cons (me_var 1) (ma_nil))) (hms := len_cons (len_cons len_nil)))) <|
    mss_cons (ms_if (mt_tru (me_call c_has_ended hr (by rfl) tk (ma_cons (me_var 0) (ma_cons (me_var 1) (ma_nil))) (hms := len_cons (len_cons len_nil)))) (mss_one (ms_raise (k := .ended) T.e_Ended tk)) (mss_nil)) <|
    mss_one (ms_ret (me_call c_next_of hr (by rfl) tk (ma_cons (me_var 0) (ma_cons (me_var 1) (ma_nil))) (hms := len_cons (len_cons len_nil))))
theorem ok_after (T : GF K mg ca) (F : FunD K "after" "after" (defArgs s_after) (defBody s_after) (defScope s_after) [] [] f fd) (hm : mg "after" = some (.ref f))
    (c_look_row : FnM P w K mg base ca "look_row" 4 ["rules", "row"] m_look_row)
    (c_is_within : FnM P w K mg base ca "is_within" 1 ["thing", "low", "high"] m_is_within)
    (c_has_ended : FnM P w K mg base ca "has_ended" 2 ["rules", "row"] m_has_ended)
    (c_next_of : FnM P w K mg base ca "next_of" 2 ["rules", "row"] m_next_of) : FnM P w K mg base ca "after" 5 ["rules", "row", "many"] m_after :=
  fn_ok (k := 4) F hm sc_after (fun _ _ _ _ _ _ us hl => match us, hl with | [_, _, _], _ => rfl) fun cdv A outer s H E hr tk hp =>
    mss_cons (ms_expr (me_call c_look_row hr (by rfl) tk (ma_cons (me_var 0) (ma_cons (me_var 1) (ma_nil))) (hms := len_cons (len_cons len_nil)))) <|
    mss_cons (ms_if (mt_not (mt_tru (me_call c_is_within hr (by rfl) tk (ma_cons (me_var 2) (ma_cons (me_int) (ma_cons (me_int) (ma_nil)))) (hms := len_cons (len_cons (len_cons len_nil)))))) (mss_one (ms_raise (k := .count) T.e_BadCount tk)) (mss_nil)) <|
    mss_cons (ms_for hp rfl (mi_range1 T.b_range (me_var 2)) (mg_name (i := 3) sc_after.nd rfl (Or.inl rfl)) (mss_cons (ms_if (mt_tru (me_call c_has_ended hr (by rfl) tk (ma_cons (me_var 0) (ma_cons (me_var 1) (ma_nil))) (hms := len_cons (len_cons len_nil)))) (mss_one (ms_raise (k := .ended) T.e_Ended tk)) (mss_nil)) <|
    mss_one (ms_set (i := 1) sc_after.nd rfl (Or.inl rfl) (me_call c_next_of hr (by rfl) tk (ma_cons (me_var 0) (ma_cons (me_var 1) (ma_nil))) (hms := len_cons (len_cons len_nil)))))) <|
    mss_one (ms_ret (me_var 1))
theorem ok_image (T : GF K mg ca) (F : FunD K "image" "image" (defArgs s_image) (defBody s_image) (defScope s_image) [] [] f fd) (hm : mg "image" = some (.ref f))
    (c_look_row : FnM P w K mg base ca "look_row" 4 ["rules", "row"] m_look_row)
    (c_is_whole : FnM P w K mg base ca "is_whole" 2 ["rules", "word"] m_is_whole)
    (c_told_of : FnM P w K mg base ca "told_of" 2 ["rules", "word"] m_told_of) : FnM P w K mg base ca "image" 5 ["rules", "word"] m_image :=
  fn_ok (k := 4) F hm sc_image (fun _ _ _ _ _ _ us hl => match us, hl with | [_, _], _ => rfl) fun cdv A outer s H E hr tk hp =>
    mss_cons (ms_expr (me_call c_look_row hr (by rfl) tk (ma_cons (me_var 0) (ma_cons (me_var 1) (ma_nil))) (hms := len_cons (len_cons len_nil)))) <|
    mss_cons (ms_if (mt_not (mt_tru (me_call c_is_whole hr (by rfl) tk (ma_cons (me_var 0) (ma_cons (me_var 1) (ma_nil))) (hms := len_cons (len_cons len_nil))))) (mss_one (ms_raise (k := .word) T.e_BadWord tk)) (mss_nil)) <|
    mss_one (ms_ret (me_call c_told_of hr (by rfl) tk (ma_cons (me_var 0) (ma_cons (me_var 1) (ma_nil))) (hms := len_cons (len_cons len_nil))))
theorem ok_ahead_of (T : GF K mg ca) (F : FunD K "ahead_of" "ahead_of" (defArgs s_ahead_of) (defBody s_ahead_of) (defScope s_ahead_of) [] [] f fd) (hm : mg "ahead_of" = some (.ref f))
    (c_word_of : FnM P w K mg base ca "word_of" 1 ["rules", "letter"] m_word_of) : FnM P w K mg base ca "ahead_of" 2 ["rules", "row"] m_ahead_of :=
  fn_ok (k := 1) F hm sc_ahead_of (fun _ _ _ _ _ _ us hl => match us, hl with | [_, _], _ => rfl) fun cdv A outer s H E hr tk hp =>
    mss_cons (ms_setF (i := 2) sc_ahead_of.nd rfl (Or.inl rfl) (mf_lst (ma_nil))) <|
    mss_cons (ms_set (i := 3) sc_ahead_of.nd rfl (Or.inl rfl) (me_of_mf (mf_lst (ma_cons (me_str) (ma_nil))))) <|
    mss_cons (ms_for hp rfl (mi_range1 T.b_range (me_op op_sub sub_s (me_ix ix_seq ix_s (me_var 0) (me_int)) (me_int))) (mg_name (i := 4) sc_ahead_of.nd rfl (Or.inl rfl)) (mss_cons (ms_setF (i := 6) sc_ahead_of.nd rfl (Or.inl rfl) (mf_lst (ma_nil))) <|
    mss_cons (ms_for hp rfl (mi_seq (me_var 3)) (mg_name (i := 7) sc_ahead_of.nd rfl (Or.inr rfl)) (mss_one (ms_extend (i := 6) (mb_of_mf (mf_lc (CP.mk (own := [("letter", 5)]) (t := gName 5) (g := gSet 5) (mc := mYes) (mel := mBin dAdd (mVar 7) (mVar 5)) rfl sc_ahead_of.nd (mi_seq (me_slice (me_gstr T.c_LETTERS) (mo_none) (mo_some (me_len T.b_len (me_ix ix_seq ix_s (me_var 0) (me_int)))))) (blkOk_by (N := N_ahead_of) (sc := defScope s_ahead_of) (own := [("letter", 5)]) (by decide +kernel)) (fun _ _ _ _ _ => pg_name (i := 5) sc_ahead_of.nd rfl (Or.inl rfl) (.inr rfl)) tgw_name (fun _ _ _ _ _ => pts_no) (fun _ _ _ _ _ => (me_op op_addA add_s (me_var 7) (me_var 5) : ME _ ca W0 _ _).pe))))))) <|
    mss_one (ms_frz (i := 6) (ms_set (i := 3) sc_ahead_of.nd rfl (Or.inl rfl) (me_var 6))))) <|
    mss_cons (ms_for hp rfl (mi_seq (me_slice (me_gstr T.c_LETTERS) (mo_none) (mo_some (me_len T.b_len (me_ix ix_seq ix_s (me_var 0) (me_int)))))) (mg_name (i := 5) sc_ahead_of.nd rfl (Or.inr rfl)) (mss_cons (ms_set (i := 8) sc_ahead_of.nd rfl (Or.inr rfl) (me_call c_word_of hr (by rfl) tk (ma_cons (me_var 0) (ma_cons (me_var 5) (ma_nil))) (hms := len_cons (len_cons len_nil)))) <|
    mss_one (ms_if (mt_w (mw_and (mt_cmp op_isNA isN_s (me_var 8) (me_non) (nomark _)) (mw_and1 (mt_tru (me_ends (me_var 1) (ma_cons (me_var 8) (ma_nil))))))) (mss_one (ms_extend (i := 2) (mb_of_mf (mf_lc (CP.mk (own := [("tail", 7)]) (t := gName 7) (g := gSet 7) (mc := mYes) (mel := mBin dAdd (mBin dAdd (mVar 5) (mVar 7)) (mCut dCut (mVar 1) (mNo) (mPart (mBin dSub (mUn dLen (mVar 1)) (mUn dLen (mVar 8)))))) rfl sc_ahead_of.nd (mi_seq (me_var 3)) (blkOk_by (N := N_ahead_of) (sc := defScope s_ahead_of) (own := [("tail", 7)]) (by decide +kernel)) (fun _ _ _ _ _ => pg_name (i := 7) sc_ahead_of.nd rfl (Or.inl rfl) (.inr rfl)) tgw_name (fun _ _ _ _ _ => pts_no) (fun _ _ _ _ _ => (me_op op_addA add_s (me_op op_addA add_s (me_var 5) (me_var 7)) (me_slice (me_var 1) (mo_none) (mo_some (me_op op_sub sub_s (me_len T.b_len (me_var 1)) (me_len T.b_len (me_var 8))))) : ME _ ca W0 _ _).pe)))))) (mss_nil)))) <|
    mss_one (ms_ret (me_of_mf (mf_sorted T.b_sorted (mb_own 2))))
theorem ok_leading (T : GF K mg ca) (F : FunD K "leading" "leading" (defArgs s_leading) (defBody s_leading) (defScope s_leading) [] [] f fd) (hm : mg "leading" = some (.ref f))
    (c_look_row : FnM P w K mg base ca "look_row" 4 ["rules", "row"] m_look_row)
    (c_is_within : FnM P w K mg base ca "is_within" 1 ["thing", "low", "high"] m_is_within)
    (c_ahead_of : FnM P w K mg base ca "ahead_of" 2 ["rules", "row"] m_ahead_of) : FnM P w K mg base ca "leading" 5 ["rules", "row", "many"] m_leading :=
  fn_ok (k := 4) F hm sc_leading (fun _ _ _ _ _ _ us hl => match us, hl with | [_, _, _], _ => rfl) fun cdv A outer s H E hr tk hp =>
    mss_cons (ms_expr (me_call c_look_row hr (by rfl) tk (ma_cons (me_var 0) (ma_cons (me_var 1) (ma_nil))) (hms := len_cons (len_cons len_nil)))) <|
    mss_cons (ms_if (mt_not (mt_tru (me_call c_is_within hr (by rfl) tk (ma_cons (me_var 2) (ma_cons (me_int) (ma_cons (me_int) (ma_nil)))) (hms := len_cons (len_cons (len_cons len_nil)))))) (mss_one (ms_raise (k := .count) T.e_BadCount tk)) (mss_nil)) <|
    mss_cons (ms_set (i := 3) sc_leading.nd rfl (Or.inl rfl) (me_of_mf (mf_lst (ma_cons (me_var 1) (ma_nil))))) <|
    mss_cons (ms_for hp rfl (mi_range1 T.b_range (me_var 2)) (mg_name (i := 4) sc_leading.nd rfl (Or.inl rfl)) (mss_cons (ms_setE (i := 5) sc_leading.nd rfl (Or.inl rfl)) <|
    mss_cons (ms_for hp rfl (mi_seq (me_var 3)) (mg_name (i := 6) sc_leading.nd rfl (Or.inl rfl)) (mss_one (ms_for hp rfl (mi_seq (me_call c_ahead_of hr (by rfl) tk (ma_cons (me_var 0) (ma_cons (me_var 6) (ma_nil))) (hms := len_cons (len_cons len_nil)))) (mg_name (i := 7) sc_leading.nd rfl (Or.inl rfl)) (mss_one (ms_dput (i := 5) hr (me_var 7) (me_bl)))))) <|
    mss_cons (ms_if (mt_cmp op_gtA gt_s (me_dlen (i := 5) T.b_len) (me_int) (nomark _)) (mss_one (ms_raise (k := .many) T.e_TooMany tk)) (mss_nil)) <|
    mss_one (ms_set (i := 3) sc_leading.nd rfl (Or.inl rfl) (me_of_mf (mf_sortedD (i := 5) rfl T.b_sorted))))) <|
    mss_one (ms_ret (me_var 3))
theorem ok_course (T : GF K mg ca) (F : FunD K "course" "course" (defArgs s_course) (defBody s_course) (defScope s_course) [] [] f fd) (hm : mg "course" = some (.ref f))
    (c_look_row : FnM P w K mg base ca "look_row" 4 ["rules", "row"] m_look_row)
    (c_is_within : FnM P w K mg base ca "is_within" 1 ["thing", "low", "high"] m_is_within)
    (c_next_of : FnM P w K mg base ca "next_of" 2 ["rules", "row"] m_next_of)
    (c_has_ended : FnM P w K mg base ca "has_ended" 2 ["rules", "row"] m_has_ended) : FnM P w K mg base ca "course" 5 ["rules", "row", "many"] m_course :=
  fn_ok (k := 4) F hm sc_course (fun _ _ _ _ _ _ us hl => match us, hl with | [_, _, _], _ => rfl) fun cdv A outer s H E hr tk hp =>
    mss_cons (ms_expr (me_call c_look_row hr (by rfl) tk (ma_cons (me_var 0) (ma_cons (me_var 1) (ma_nil))) (hms := len_cons (len_cons len_nil)))) <|
    mss_cons (ms_if (mt_not (mt_tru (me_call c_is_within hr (by rfl) tk (ma_cons (me_var 2) (ma_cons (me_int) (ma_cons (me_int) (ma_nil)))) (hms := len_cons (len_cons (len_cons len_nil)))))) (mss_one (ms_raise (k := .count) T.e_BadCount tk)) (mss_nil)) <|
    mss_cons (ms_setF (i := 3) sc_course.nd rfl (Or.inl rfl) (mf_lst (ma_cons (me_var 1) (ma_nil)))) <|
    mss_cons (ms_while 202 hp (mt_w (mw_and (mt_cmp op_le le_s (me_lenL T.b_len (mb_own 3)) (me_var 2) (nomark _)) (mw_and1 (mt_not (mt_tru (me_call c_has_ended hr (by rfl) tk (ma_cons (me_var 0) (ma_cons (me_ixL (mb_own 3) (me_neg (me_int))) (ma_nil))) (hms := len_cons (len_cons len_nil)))))))) (mss_one (ms_append (i := 3) (me_call c_next_of hr (by rfl) tk (ma_cons (me_var 0) (ma_cons (me_ixL (mb_own 3) (me_neg (me_int))) (ma_nil))) (hms := len_cons (len_cons len_nil)))))) <|
    mss_one (ms_frz (i := 3) (ms_ret (me_var 3)))
theorem ok_before (T : GF K mg ca) (F : FunD K "before" "before" (defArgs s_before) (defBody s_before) (defScope s_before) [] [] f fd) (hm : mg "before" = some (.ref f))
    (c_look_row : FnM P w K mg base ca "look_row" 4 ["rules", "row"] m_look_row)
    (c_ahead_of : FnM P w K mg base ca "ahead_of" 2 ["rules", "row"] m_ahead_of) : FnM P w K mg base ca "before" 5 ["rules", "row"] m_before :=
  fn_ok (k := 4) F hm sc_before (fun _ _ _ _ _ _ us hl => match us, hl with | [_, _], _ => rfl) fun cdv A outer s H E hr tk hp =>
    mss_cons (ms_expr (me_call c_look_row hr (by rfl) tk (ma_cons (me_var 0) (ma_cons (me_var 1) (ma_nil))) (hms := len_cons (len_cons len_nil)))) <|
    mss_one (ms_ret (me_call c_ahead_of hr (by rfl) tk (ma_cons (me_var 0) (ma_cons (me_var 1) (ma_nil))) (hms := len_cons (len_cons len_nil))))
theorem ok_root_of (T : GF K mg ca) (F : FunD K "root_of" "root_of" (defArgs s_root_of) (defBody s_root_of) (defScope s_root_of) [] [] f fd) (hm : mg "root_of" = some (.ref f)) : FnM P w K mg base ca "root_of" 1 ["word"] m_root_of :=
  fn_ok (k := 0) F hm sc_root_of (fun _ _ _ _ _ _ us hl => match us, hl with | [_], _ => rfl) fun cdv A outer s H E hr tk hp =>
    mss_cons (ms_for hp rfl (mi_range2 T.b_range (me_int) (me_op op_addA add_s (me_len T.b_len (me_var 0)) (me_int))) (mg_name (i := 1) sc_root_of.nd rfl (Or.inl rfl)) (mss_one (ms_if (mt_w (mw_and (mt_cmp (op_eqA hr) eq_s (me_op op_modN mod_s (me_len T.b_len (me_var 0)) (me_var 1)) (me_int) (nomark _)) (mw_and1 (mt_cmp (op_eqA hr) eq_s (me_op op_mulA mul_s (me_slice (me_var 0) (mo_none) (mo_some (me_var 1))) (me_op op_fdivN div_s (me_len T.b_len (me_var 0)) (me_var 1))) (me_var 0) (nomark _))))) (mss_one (ms_ret (me_tup (ma_cons (me_slice (me_var 0) (mo_none) (mo_some (me_var 1))) (ma_cons (me_op op_fdivN div_s (me_len T.b_len (me_var 0)) (me_var 1)) (ma_nil)))))) (mss_nil)))) <|
    mss_one (ms_ret (me_tup (ma_cons (me_str) (ma_cons (me_int) (ma_nil)))))
theorem ok_root (T : GF K mg ca) (F : FunD K "root" "root" (defArgs s_root) (defBody s_root) (defScope s_root) [] [] f fd) (hm : mg "root" = some (.ref f))
    (c_look_row : FnM P w K mg base ca "look_row" 4 ["rules", "row"] m_look_row)
    (c_root_of : FnM P w K mg base ca "root_of" 1 ["word"] m_root_of) : FnM P w K mg base ca "root" 5 ["rules", "word"] m_root :=
  fn_ok (k := 4) F hm sc_root (fun _ _ _ _ _ _ us hl => match us, hl with | [_, _], _ => rfl) fun cdv A outer s H E hr tk hp =>
    mss_cons (ms_expr (me_call c_look_row hr (by rfl) tk (ma_cons (me_var 0) (ma_cons (me_var 1) (ma_nil))) (hms := len_cons (len_cons len_nil)))) <|
    mss_one (ms_ret (me_call c_root_of hr (by rfl) tk (ma_cons (me_var 1) (ma_nil)) (hms := len_cons len_nil)))
theorem ok_grows_by (T : GF K mg ca) (F : FunD K "grows_by" "grows_by" (defArgs s_grows_by) (defBody s_grows_by) (defScope s_grows_by) [] [] f fd) (hm : mg "grows_by" = some (.ref f))
    (c_look_row : FnM P w K mg base ca "look_row" 4 ["rules", "row"] m_look_row)
    (c_share : FnM P w K mg base ca "share" 3 ["rules", "part"] m_share) : FnM P w K mg base ca "grows_by" 5 ["rules", "part"] m_grows_by :=
  fn_ok (k := 4) F hm sc_grows_by (fun _ _ _ _ _ _ us hl => match us, hl with | [_, _], _ => rfl) fun cdv A outer s H E hr tk hp =>
    mss_cons (ms_expr (me_call c_look_row hr (by rfl) tk (ma_cons (me_var 0) (ma_cons (me_var 1) (ma_nil))) (hms := len_cons (len_cons len_nil)))) <|
    mss_one (ms_ret (me_call c_share hr (by rfl) tk (ma_cons (me_var 0) (ma_cons (me_var 1) (ma_nil))) (hms := len_cons (len_cons len_nil))))
theorem ok_fate (T : GF K mg ca) (F : FunD K "fate" "fate" (defArgs s_fate) (defBody s_fate) (defScope s_fate) [] [] f fd) (hm : mg "fate" = some (.ref f))
    (c_look_row : FnM P w K mg base ca "look_row" 4 ["rules", "row"] m_look_row)
    (c_fate_of : FnM P w K mg base ca "fate_of" 5 ["rules", "row"] m_fate_of) : FnM P w K mg base ca "fate" 6 ["rules", "row"] m_fate :=
  fn_ok (k := 5) F hm sc_fate (fun _ _ _ _ _ _ us hl => match us, hl with | [_, _], _ => rfl) fun cdv A outer s H E hr tk hp =>
    mss_cons (ms_expr (me_call c_look_row hr (by rfl) tk (ma_cons (me_var 0) (ma_cons (me_var 1) (ma_nil))) (hms := len_cons (len_cons len_nil)))) <|
    mss_one (ms_ret (me_call c_fate_of hr (by rfl) tk (ma_cons (me_var 0) (ma_cons (me_var 1) (ma_nil))) (hms := len_cons (len_cons len_nil))))
theorem ok_behind (T : GF K mg ca) (F : FunD K "behind" "behind" (defArgs s_behind) (defBody s_behind) (defScope s_behind) [] [] f fd) (hm : mg "behind" = some (.ref f))
    (c_has_ended : FnM P w K mg base ca "has_ended" 2 ["rules", "row"] m_has_ended)
    (c_next_of : FnM P w K mg base ca "next_of" 2 ["rules", "row"] m_next_of) : FnM P w K mg base ca "behind" 3 ["rules", "row", "many"] m_behind :=
  fn_ok (k := 2) F hm sc_behind (fun _ _ _ _ _ _ us hl => match us, hl with | [_, _, _], _ => rfl) fun cdv A outer s H E hr tk hp =>
    mss_cons (ms_for hp rfl (mi_range1 T.b_range (me_var 2)) (mg_name (i := 3) sc_behind.nd rfl (Or.inl rfl)) (mss_cons (ms_if (mt_tru (me_call c_has_ended hr (by rfl) tk (ma_cons (me_var 0) (ma_cons (me_var 1) (ma_nil))) (hms := len_cons (len_cons len_nil)))) (mss_one (ms_ret (me_non))) (mss_nil)) <|
    mss_one (ms_set (i := 1) sc_behind.nd rfl (Or.inl rfl) (me_call c_next_of hr (by rfl) tk (ma_cons (me_var 0) (ma_cons (me_var 1) (ma_nil))) (hms := len_cons (len_cons len_nil)))))) <|
    mss_one (ms_ret (me_var 1))
theorem ok_is_fate (T : GF K mg ca) (F : FunD K "is_fate" "is_fate" (defArgs s_is_fate) (defBody s_is_fate) (defScope s_is_fate) [] [] f fd) (hm : mg "is_fate" = some (.ref f))
    (c_look_row : FnM P w K mg base ca "look_row" 4 ["rules", "row"] m_look_row)
    (c_is_within : FnM P w K mg base ca "is_within" 1 ["thing", "low", "high"] m_is_within)
    (c_behind : FnM P w K mg base ca "behind" 3 ["rules", "row", "many"] m_behind)
    (c_has_ended : FnM P w K mg base ca "has_ended" 2 ["rules", "row"] m_has_ended)
    (c_times_of : FnM P w K mg base ca "times_of" 1 ["part", "word"] m_times_of)
    (c_share : FnM P w K mg base ca "share" 3 ["rules", "part"] m_share) : FnM P w K mg base ca "is_fate" 5 ["rules", "row", "thing"] m_is_fate :=
  fn_ok (k := 4) F hm sc_is_fate (fun _ _ _ _ _ _ us hl => match us, hl with | [_, _, _], _ => rfl) fun cdv A outer s H E hr tk hp =>
    mss_cons (ms_expr (me_call c_look_row hr (by rfl) tk (ma_cons (me_var 0) (ma_cons (me_var 1) (ma_nil))) (hms := len_cons (len_cons len_nil)))) <|
    mss_cons (ms_if (mt_w (mw_or (mt_not (mt_tru (me_isi T.b_isinstance T.b_tuple (by decide +kernel) (me_var 2)))) (mw_or (mt_cmp (op_inNA hr) inN_s (me_len T.b_len (me_var 2)) (me_tup (ma_cons (me_int) (ma_cons (me_int) (ma_nil)))) (by rfl)) (mw_or1 (mt_not (mt_tru (me_isi T.b_isinstance T.b_str (by decide +kernel) (me_ix ix_seq ix_s (me_var 2) (me_int))))))))) (mss_one (ms_ret (me_bl))) (mss_nil)) <|
    mss_cons (ms_if (mt_not (mt_tru (me_call c_is_within hr (by rfl) tk (ma_cons (me_ix ix_seq ix_s (me_var 2) (me_int)) (ma_cons (me_int) (ma_cons (me_gint T.c_MOST_CUTS) (ma_nil)))) (hms := len_cons (len_cons (len_cons len_nil)))))) (mss_one (ms_ret (me_bl))) (mss_nil)) <|
    mss_cons (ms_set (i := 3) sc_is_fate.nd rfl (Or.inl rfl) (me_call c_behind hr (by rfl) tk (ma_cons (me_var 0) (ma_cons (me_var 1) (ma_cons (me_ix ix_seq ix_s (me_var 2) (me_int)) (ma_nil)))) (hms := len_cons (len_cons (len_cons len_nil))))) <|
    mss_cons (ms_if (mt_cmp op_isA is_s (me_var 3) (me_non) (nomark _)) (mss_one (ms_ret (me_bl))) (mss_nil)) <|
    mss_cons (ms_if (mt_cmp (op_eqA hr) eq_s (me_ix ix_seq ix_s (me_var 2) (me_int)) (me_str) (nomark _)) (mss_one (ms_ret (me_and (me_cmp (op_eqA hr) eq_s (me_len T.b_len (me_var 2)) (me_int) (nomark _)) (me_and (me_isi T.b_isinstance T.b_str (by decide +kernel) (me_ix ix_seq ix_s (me_var 2) (me_int))) (me_and (me_cmp (op_eqA hr) eq_s (me_ix ix_seq ix_s (me_var 2) (me_int)) (me_var 3) (nomark _)) (me_one_and (me_call c_has_ended hr (by rfl) tk (ma_cons (me_var 0) (ma_cons (me_var 3) (ma_nil))) (hms := len_cons (len_cons len_nil))))))))) (mss_nil)) <|
    mss_cons (ms_if (mt_cmp (op_eqA hr) eq_s (me_ix ix_seq ix_s (me_var 2) (me_int)) (me_str) (nomark _)) (mss_cons (ms_if (mt_w (mw_or (mt_cmp (op_neA hr) ne_s (me_len T.b_len (me_var 2)) (me_int) (nomark _)) (mw_or1 (mt_not (mt_tru (me_call c_is_within hr (by rfl) tk (ma_cons (me_ix ix_seq ix_s (me_var 2) (me_int)) (ma_cons (me_int) (ma_cons (me_gint T.c_MOST_CUTS) (ma_nil)))) (hms := len_cons (len_cons (len_cons len_nil))))))))) (mss_one (ms_ret (me_bl))) (mss_nil)) <|
    mss_one (ms_ret (me_cmp (op_eqA hr) eq_s (me_call c_behind hr (by rfl) tk (ma_cons (me_var 0) (ma_cons (me_var 3) (ma_cons (me_ix ix_seq ix_s (me_var 2) (me_int)) (ma_nil)))) (hms := len_cons (len_cons (len_cons len_nil)))) (me_var 3) (nomark _)))) (mss_nil)) <|
    mss_cons (ms_if (mt_w (mw_or (mt_cmp (op_neA hr) ne_s (me_ix ix_seq ix_s (me_var 2) (me_int)) (me_str) (nomark _)) (mw_or (mt_cmp (op_neA hr) ne_s (me_len T.b_len (me_var 2)) (me_int) (nomark _)) (mw_or (mt_not (mt_tru (me_isi T.b_isinstance T.b_str (by decide +kernel) (me_ix ix_seq ix_s (me_var 2) (me_int))))) (mw_or (mt_cmp (op_eqA hr) eq_s (me_ix ix_seq ix_s (me_var 2) (me_int)) (me_str) (nomark _)) (mw_or1 (mt_cmp (op_eqA hr) eq_s (me_var 3) (me_str) (nomark _)))))))) (mss_one (ms_ret (me_bl))) (mss_nil)) <|
    mss_cons (ms_if (mt_w (mw_or (mt_tru (me_of_mf (mf_lc (CP.mk (own := [("sign", 4)]) (t := gName 4) (g := gSet 4) (mc := mTst (mBin (dIn true) (mVar 4) (mCut dCut (mC (.str "abc")) (mNo) (mPart (mUn dLen (mBin dIx (mVar 0) (mC (.int 1)))))))) (mel := mVar 4) rfl sc_is_fate.nd (mi_seq (me_ix ix_seq ix_s (me_var 2) (me_int))) (blkOk_by (N := N_is_fate) (sc := defScope s_is_fate) (own := [("sign", 4)]) (by decide +kernel)) (fun _ _ _ _ _ => pg_name (i := 4) sc_is_fate.nd rfl (Or.inl rfl) (.inr rfl)) tgw_name (fun _ _ _ _ _ => pts_one (mt_cmp (op_inNA hr) inN_s (me_var 4) (me_slice (me_gstr T.c_LETTERS) (mo_none) (mo_some (me_len T.b_len (me_ix ix_seq ix_s (me_var 0) (me_int))))) (by rfl)).pt) (fun _ _ _ _ _ => (me_var 4 : ME _ ca W0 _ _).pe))))) (mw_or1 (mt_cmp op_isA is_s (me_call c_times_of hr (by rfl) tk (ma_cons (me_ix ix_seq ix_s (me_var 2) (me_int)) (ma_cons (me_var 3) (ma_nil))) (hms := len_cons (len_cons len_nil))) (me_non) (nomark _))))) (mss_one (ms_ret (me_bl))) (mss_nil)) <|
    mss_one (ms_ret (me_and (me_call c_is_within hr (by rfl) tk (ma_cons (me_ix ix_seq ix_s (me_var 2) (me_int)) (ma_cons (me_int) (ma_cons (me_int) (ma_nil)))) (hms := len_cons (len_cons (len_cons len_nil)))) (me_one_and (me_cmp (op_eqA hr) eq_s (me_call c_share hr (by rfl) tk (ma_cons (me_var 0) (ma_cons (me_ix ix_seq ix_s (me_var 2) (me_int)) (ma_nil))) (hms := len_cons (len_cons len_nil))) (me_ix ix_seq ix_s (me_var 2) (me_int)) (nomark _)))))
theorem ok_longest (T : GF K mg ca) (F : FunD K "longest" "longest" (defArgs s_longest) (defBody s_longest) (defScope s_longest) [] [] f fd) (hm : mg "longest" = some (.ref f))
    (c_look_row : FnM P w K mg base ca "look_row" 4 ["rules", "row"] m_look_row)
    (c_fate_of : FnM P w K mg base ca "fate_of" 5 ["rules", "row"] m_fate_of)
    (c_next_of : FnM P w K mg base ca "next_of" 2 ["rules", "row"] m_next_of) : FnM P w K mg base ca "longest" 6 ["rules", "row"] m_longest :=
  fn_ok (k := 5) F hm sc_longest (fun _ _ _ _ _ _ us hl => match us, hl with | [_, _], _ => rfl) fun cdv A outer s H E hr tk hp =>
    mss_cons (ms_expr (me_call c_look_row hr (by rfl) tk (ma_cons (me_var 0) (ma_cons (me_var 1) (ma_nil))) (hms := len_cons (len_cons len_nil)))) <|
    mss_cons (ms_set (i := 2) sc_longest.nd rfl (Or.inl rfl) (me_call c_fate_of hr (by rfl) tk (ma_cons (me_var 0) (ma_cons (me_var 1) (ma_nil))) (hms := len_cons (len_cons len_nil)))) <|
    mss_cons (ms_if (mt_cmp (op_inA hr) in_s (me_ix ix_seq ix_s (me_var 2) (me_int)) (me_tup (ma_cons (me_str) (ma_cons (me_str) (ma_nil)))) (by rfl)) (mss_one (ms_ret (me_non))) (mss_nil)) <|
    mss_cons (ms_set (i := 3) sc_longest.nd rfl (Or.inl rfl) (me_tup (ma_cons (me_var 1) (ma_cons (me_int) (ma_nil))))) <|
    mss_cons (ms_set (i := 4) sc_longest.nd rfl (Or.inl rfl) (me_ifExp (mt_cmp (op_eqA hr) eq_s (me_ix ix_seq ix_s (me_var 2) (me_int)) (me_str) (nomark _)) (me_ix ix_seq ix_s (me_var 2) (me_int)) (me_op op_sub sub_s (me_op op_addA add_s (me_ix ix_seq ix_s (me_var 2) (me_int)) (me_ix ix_seq ix_s (me_var 2) (me_int))) (me_int)))) <|
    mss_cons (ms_for hp rfl (mi_range2 T.b_range (me_int) (me_op op_addA add_s (me_var 4) (me_int))) (mg_name (i := 5) sc_longest.nd rfl (Or.inl rfl)) (mss_cons (ms_set (i := 1) sc_longest.nd rfl (Or.inl rfl) (me_call c_next_of hr (by rfl) tk (ma_cons (me_var 0) (ma_cons (me_var 1) (ma_nil))) (hms := len_cons (len_cons len_nil)))) <|
    mss_one (ms_if (mt_cmp op_gtA gt_s (me_len T.b_len (me_var 1)) (me_len T.b_len (me_ix ix_seq ix_s (me_var 3) (me_int))) (nomark _)) (mss_one (ms_set (i := 3) sc_longest.nd rfl (Or.inl rfl) (me_tup (ma_cons (me_var 1) (ma_cons (me_var 5) (ma_nil)))))) (mss_nil)))) <|
    mss_one (ms_ret (me_var 3))
theorem ok__law_asked (T : GF K mg ca) (F : FunD K "_law_asked" "_law_asked" (defArgs s__law_asked) (defBody s__law_asked) (defScope s__law_asked) [] [] f fd) (hm : mg "_law_asked" = some (.ref f))
    (c_next_row : FnM P w K mg base ca "next_row" 5 ["rules", "row"] m_next_row)
    (c_after : FnM P w K mg base ca "after" 5 ["rules", "row", "many"] m_after)
    (c_image : FnM P w K mg base ca "image" 5 ["rules", "word"] m_image)
    (c_leading : FnM P w K mg base ca "leading" 5 ["rules", "row", "many"] m_leading)
    (c_course : FnM P w K mg base ca "course" 5 ["rules", "row", "many"] m_course)
    (c_before : FnM P w K mg base ca "before" 5 ["rules", "row"] m_before)
    (c_root : FnM P w K mg base ca "root" 5 ["rules", "word"] m_root)
    (c_grows_by : FnM P w K mg base ca "grows_by" 5 ["rules", "part"] m_grows_by)
    (c_fate : FnM P w K mg base ca "fate" 6 ["rules", "row"] m_fate)
    (c_is_fate : FnM P w K mg base ca "is_fate" 5 ["rules", "row", "thing"] m_is_fate)
    (c_longest : FnM P w K mg base ca "longest" 6 ["rules", "row"] m_longest)
    (c_meet : FnM P w K mg base ca "meet" 5 ["rules", "one", "other"] m_meet)
    (c_all_parts : FnM P w K mg base ca "all_parts" 4 ["rules", "long"] m_all_parts)
    (c_sorted_out : FnM P w K mg base ca "sorted_out" 6 ["rules", "long"] m_sorted_out) : FnM P w K mg base ca "_law_asked" 7 ["_law_kind", "_law_rules_here", "_law_row", "_law_thing"] m__law_asked :=
  fn_ok (k := 6) F hm sc__law_asked (fun _ _ _ _ _ _ us hl => match us, hl with | [_, _, _, _], _ => rfl) fun cdv A outer s H E hr tk hp =>
    mss_cons (ms_if (mt_cmp op_lt lt_s (me_var 0) (me_int) (nomark _)) (mss_cons (ms_if (mt_cmp (op_eqA hr) eq_s (me_var 0) (me_int) (nomark _)) (mss_one (ms_ret (me_call c_next_row hr (by rfl) tk (ma_cons (me_var 1) (ma_cons (me_var 2) (ma_nil))) (hms := len_cons (len_cons len_nil))))) (mss_nil)) <|
    mss_cons (ms_if (mt_cmp (op_eqA hr) eq_s (me_var 0) (me_int) (nomark _)) (mss_one (ms_ret (me_call c_after hr (by rfl) tk (ma_cons (me_var 1) (ma_cons (me_var 2) (ma_cons (me_var 3) (ma_nil)))) (hms := len_cons (len_cons (len_cons len_nil)))))) (mss_nil)) <|
    mss_one (ms_ret (me_ifExp (mt_cmp (op_eqA hr) eq_s (me_var 0) (me_int) (nomark _)) (me_call c_image hr (by rfl) tk (ma_cons (me_var 1) (ma_cons (me_var 2) (ma_nil))) (hms := len_cons (len_cons len_nil))) (me_call c_leading hr (by rfl) tk (ma_cons (me_var 1) (ma_cons (me_var 2) (ma_cons (me_var 3) (ma_nil)))) (hms := len_cons (len_cons (len_cons len_nil))))))) (mss_nil)) <|
    mss_cons (ms_if (mt_cmp op_lt lt_s (me_var 0) (me_int) (nomark _)) (mss_cons (ms_if (mt_cmp (op_eqA hr) eq_s (me_var 0) (me_int) (nomark _)) (mss_one (ms_ret (me_call c_course hr (by rfl) tk (ma_cons (me_var 1) (ma_cons (me_var 2) (ma_cons (me_var 3) (ma_nil)))) (hms := len_cons (len_cons (len_cons len_nil)))))) (mss_nil)) <|
    mss_cons (ms_if (mt_cmp (op_eqA hr) eq_s (me_var 0) (me_int) (nomark _)) (mss_one (ms_ret (me_call c_before hr (by rfl) tk (ma_cons (me_var 1) (ma_cons (me_var 2) (ma_nil))) (hms := len_cons (len_cons len_nil))))) (mss_nil)) <|
    mss_one (ms_ret (me_ifExp (mt_cmp (op_eqA hr) eq_s (me_var 0) (me_int) (nomark _)) (me_call c_root hr (by rfl) tk (ma_cons (me_var 1) (ma_cons (me_var 2) (ma_nil))) (hms := len_cons (len_cons len_nil))) (me_call c_grows_by hr (by rfl) tk (ma_cons (me_var 1) (ma_cons (me_var 2) (ma_nil))) (hms := len_cons (len_cons len_nil)))))) (mss_nil)) <|
    mss_cons (ms_if (mt_cmp op_lt lt_s (me_var 0) (me_int) (nomark _)) (mss_cons (ms_if (mt_cmp (op_eqA hr) eq_s (me_var 0) (me_int) (nomark _)) (mss_one (ms_ret (me_call c_fate hr (by rfl) tk (ma_cons (me_var 1) (ma_cons (me_var 2) (ma_nil))) (hms := len_cons (len_cons len_nil))))) (mss_nil)) <|
    mss_one (ms_ret (me_ifExp (mt_cmp (op_eqA hr) eq_s (me_var 0) (me_int) (nomark _)) (me_call c_is_fate hr (by rfl) tk (ma_cons (me_var 1) (ma_cons (me_var 2) (ma_cons (me_var 3) (ma_nil)))) (hms := len_cons (len_cons (len_cons len_nil)))) (me_call c_longest hr (by rfl) tk (ma_cons (me_var 1) (ma_cons (me_var 2) (ma_nil))) (hms := len_cons (len_cons len_nil)))))) (mss_nil)) <|
    mss_cons (ms_if (mt_cmp (op_eqA hr) eq_s (me_var 0) (me_int) (nomark _)) (mss_one (ms_ret (me_call c_meet hr (by rfl) tk (ma_cons (me_var 1) (ma_cons (me_var 2) (ma_cons (me_var 3) (ma_nil)))) (hms := len_cons (len_cons (len_cons len_nil)))))) (mss_nil)) <|
    mss_one (ms_ret (me_ifExp (mt_cmp (op_eqA hr) eq_s (me_var 0) (me_int) (nomark _)) (me_call c_all_parts hr (by rfl) tk (ma_cons (me_var 1) (ma_cons (me_var 3) (ma_nil))) (hms := len_cons (len_cons len_nil))) (me_call c_sorted_out hr (by rfl) tk (ma_cons (me_var 1) (ma_cons (me_var 3) (ma_nil))) (hms := len_cons (len_cons len_nil)))))
theorem ok__law_told (T : GF K mg ca) (F : FunD K "_law_told" "_law_told" (defArgs s__law_told) (defBody s__law_told) (defScope s__law_told) [] [] f fd) (hm : mg "_law_told" = some (.ref f))
    (c__law_asked : FnM P w K mg base ca "_law_asked" 7 ["_law_kind", "_law_rules_here", "_law_row", "_law_thing"] m__law_asked) : FnM P w K mg base ca "_law_told" 8 ["_law_kind", "_law_rules_here", "_law_row", "_law_thing"] m__law_told :=
  fn_ok (k := 7) F hm sc__law_told (fun _ _ _ _ _ _ us hl => match us, hl with | [_, _, _, _], _ => rfl) fun cdv A outer s H E hr tk hp =>
    mss_cons (ms_set (i := 4) sc__law_told.nd rfl (Or.inl rfl) (me_str)) <|
    mss_cons (ms_try (us := us) rfl rfl tk (fun _ _ _ tk1 hp1 => mss_one (ms_set (i := 4) sc__law_told.nd rfl (Or.inl rfl) (me_call c__law_asked hr (by rfl) tk1 (ma_cons (me_var 0) (ma_cons (me_var 1) (ma_cons (me_var 2) (ma_cons (me_var 3) (ma_nil))))) (hms := len_cons (len_cons (len_cons (len_cons len_nil))))))) (MHs.cons (h := .ended) ⟨rfl, rfl, .inl T.e_Ended.gC⟩ (T.x_Ended) (fun _ _ _ => mss_one (ms_set (i := 4) sc__law_told.nd rfl (Or.inl rfl) (me_str))) (MHs.cons (h := .word) ⟨rfl, rfl, .inl T.e_BadWord.gC⟩ (T.x_BadWord) (fun _ _ _ => mss_one (ms_set (i := 4) sc__law_told.nd rfl (Or.inl rfl) (me_str))) (MHs.cons (h := .many) ⟨rfl, rfl, .inl T.e_TooMany.gC⟩ (T.x_TooMany) (fun _ _ _ => mss_one (ms_set (i := 4) sc__law_told.nd rfl (Or.inl rfl) (me_str))) (MHs.cons (h := .rules) ⟨rfl, rfl, .inl T.e_BadRules.gC⟩ (T.x_BadRules) (fun _ _ _ => mss_one (ms_set (i := 4) sc__law_told.nd rfl (Or.inl rfl) (me_str))) (MHs.cons (h := .row) ⟨rfl, rfl, .inl T.e_BadRow.gC⟩ (T.x_BadRow) (fun _ _ _ => mss_one (ms_set (i := 4) sc__law_told.nd rfl (Or.inl rfl) (me_str))) (MHs.cons (h := .count) ⟨rfl, rfl, .inl T.e_BadCount.gC⟩ (T.x_BadCount) (fun _ _ _ => mss_one (ms_set (i := 4) sc__law_told.nd rfl (Or.inl rfl) (me_str))) (MHs.nil)))))))) <|
    mss_one (ms_ret (me_var 4))
theorem ok_law (T : GF K mg ca) (F : FunD K "law" "law" (defArgs s_law) (defBody s_law) (defScope s_law) [] [] f fd) (hm : mg "law" = some (.ref f))
    (c__law_rules : FnM P w K mg base ca "_law_rules" 3 ["_law_script", "_law_at"] m__law_rules)
    (c_is_rules : FnM P w K mg base ca "is_rules" 2 ["thing"] m_is_rules)
    (c_shown : FnM P w K mg base ca "shown" 4 ["rules"] m_shown)
    (c_read : FnM P w K mg base ca "read" 3 ["text"] m_read)
    (c__law_cell : FnM P w K mg base ca "_law_cell" 1 ["_law_script", "_law_k"] m__law_cell)
    (c__law_are_rules : FnM P w K mg base ca "_law_are_rules" 2 ["_law_thing"] m__law_are_rules)
    (c__law_as : FnM P w K mg base ca "_law_as" 1 ["_law_told_here", "_law_due"] m__law_as)
    (c__law_told : FnM P w K mg base ca "_law_told" 8 ["_law_kind", "_law_rules_here", "_law_row", "_law_thing"] m__law_told)
    (c__law_mix : FnM P w K mg base ca "_law_mix" 1 ["_law_cell_here", "_law_prime", "_law_many"] m__law_mix)
    (c__law_read : FnM P w K mg base ca "_law_read" 4 ["_law_text"] m__law_read)
    (c__law_read_here : FnM P w K mg base ca "_law_read_here" 3 ["_law_text"] m__law_read_here) : FnOk P w K mg base (L2.CX P w) 9 f fd ["_law_script"] (spM K ca 1 m_law) :=
  fn_okF (k := 8) F hm sc_law (fun _ _ _ _ _ _ us hl => match us, hl with | [_], _ => rfl) fun cdv A outer s H E hr tk hp =>
    mss_cons (ms_set (i := 1) sc_law.nd rfl (Or.inr rfl) (me_call c__law_rules hr (by rfl) tk (ma_cons (me_var 0) (ma_cons (me_int) (ma_nil))) (hms := len_cons (len_cons len_nil)))) <|
    mss_cons (ms_set (i := 2) sc_law.nd rfl (Or.inl rfl) (me_len T.b_len (me_ix ix_seq ix_s (me_var 1) (me_int)))) <|
    mss_cons (ms_set (i := 3) sc_law.nd rfl (Or.inl rfl) (me_strI T.b_str (me_ix ix_seq ix_s (me_var 1) (me_int)))) <|
    mss_cons (ms_for hp rfl (mi_zip T.b_zip (me_str) (me_ix ix_seq ix_s (me_var 1) (me_int))) (mg_tup2 (i := 4) (j := 5) rfl sc_law.nd rfl rfl (Or.inl rfl) (Or.inl rfl) (Or.inl rfl) (Or.inl rfl)) (mss_one (ms_set (i := 3) sc_law.nd rfl (Or.inl rfl) (me_op op_addA add_s (me_op op_addA add_s (me_op op_addA add_s (me_op op_addA add_s (me_var 3) (me_str)) (me_var 4)) (me_str)) (me_ifExp (mt_cmp op_isA is_s (me_var 5) (me_non) (nomark _)) (me_str) (me_var 5)))))) <|
    mss_cons (ms_if (mt_w (mw_or (mt_cmp op_isNA isN_s (me_call c_is_rules hr (by rfl) tk (ma_cons (me_var 1) (ma_nil)) (hms := len_cons len_nil)) (me_bl) (nomark _)) (mw_or (mt_cmp (op_neA hr) ne_s (me_call c_shown hr (by rfl) tk (ma_cons (me_var 1) (ma_nil)) (hms := len_cons len_nil)) (me_var 3) (nomark _)) (mw_or1 (mt_cmp (op_neA hr) ne_s (me_call c_read hr (by rfl) tk (ma_cons (me_var 3) (ma_nil)) (hms := len_cons len_nil)) (me_var 1) (nomark _)))))) (mss_one (ms_ret (me_bl))) (mss_nil)) <|
    mss_cons (ms_set (i := 6) sc_law.nd rfl (Or.inl rfl) (me_of_mf (mf_lst (ma_cons (me_non) (ma_cons (me_bl) (ma_cons (me_int) (ma_cons (me_int) (ma_cons (me_int) (ma_cons (me_int) (ma_cons (me_neg (me_int)) (ma_cons (me_str) (ma_cons (me_str) (ma_cons (me_str) (ma_cons (me_str) (ma_cons (me_str) (ma_cons (me_str) (ma_cons (me_str) (ma_cons (me_tup (ma_nil)) (ma_cons (me_tup (ma_cons (me_str) (ma_nil))) (ma_nil)))))))))))))))))))) <|
    mss_cons (ms_set (i := 7) sc_law.nd rfl (Or.inl rfl) (me_ix ix_seq ix_s (me_var 6) (me_op op_modN mod_s (me_call c__law_cell hr (by rfl) tk (ma_cons (me_var 0) (ma_cons (me_int) (ma_nil))) (hms := len_cons (len_cons len_nil))) (me_int)))) <|
    mss_cons (ms_set (i := 8) sc_law.nd rfl (Or.inl rfl) (me_op op_modN mod_s (me_call c__law_cell hr (by rfl) tk (ma_cons (me_var 0) (ma_cons (me_int) (ma_nil))) (hms := len_cons (len_cons len_nil))) (me_var 2))) <|
    mss_cons (ms_set (i := 9) sc_law.nd rfl (Or.inl rfl) (me_of_mf (mf_lst (ma_cons (me_tup (ma_cons (me_var 7) (ma_cons (me_ix ix_seq ix_s (me_var 1) (me_int)) (ma_nil)))) (ma_cons (me_tup (ma_cons (me_ix ix_seq ix_s (me_var 1) (me_int)) (ma_cons (me_var 7) (ma_nil)))) (ma_cons (me_tup (ma_cons (me_ix ix_seq ix_s (me_var 1) (me_int)) (ma_cons (me_op op_addA add_s (me_op op_addA add_s (me_slice (me_ix ix_seq ix_s (me_var 1) (me_int)) (mo_none) (mo_some (me_var 8))) (me_tup (ma_cons (me_var 7) (ma_nil)))) (me_slice (me_ix ix_seq ix_s (me_var 1) (me_int)) (mo_some (me_op op_addA add_s (me_var 8) (me_int))) (mo_none))) (ma_nil)))) (ma_nil))))))) <|
    mss_cons (ms_set (i := 9) sc_law.nd rfl (Or.inl rfl) (me_op op_addA add_s (me_var 9) (me_of_mf (mf_lst (ma_cons (me_tup (ma_cons (me_ix ix_seq ix_s (me_var 1) (me_int)) (ma_cons (me_op op_addA add_s (me_ix ix_seq ix_s (me_var 1) (me_int)) (me_tup (ma_cons (me_var 7) (ma_nil)))) (ma_nil)))) (ma_cons (me_of_mf (mf_listOf rfl T.b_list (me_var 1))) (ma_cons (me_tup (ma_cons (me_ix ix_seq ix_s (me_var 1) (me_int)) (ma_cons (me_of_mf (mf_listOf rfl T.b_list (me_ix ix_seq ix_s (me_var 1) (me_int)))) (ma_nil)))) (ma_cons (me_tup (ma_cons (me_ix ix_seq ix_s (me_var 1) (me_int)) (ma_cons (me_op op_mulB mulB_s (me_tup (ma_cons (me_str) (ma_nil))) (me_int)) (ma_nil)))) (ma_nil))))))))) <|
    mss_cons (ms_set (i := 10) sc_law.nd rfl (Or.inr rfl) (me_ix ix_seq ix_s (me_var 9) (me_op op_modN mod_s (me_call c__law_cell hr (by rfl) tk (ma_cons (me_var 0) (ma_cons (me_int) (ma_nil))) (hms := len_cons (len_cons len_nil))) (me_int)))) <|
    mss_cons (ms_set (i := 11) sc_law.nd rfl (Or.inl rfl) (me_call c__law_are_rules hr (by rfl) tk (ma_cons (me_var 10) (ma_nil)) (hms := len_cons len_nil))) <|
    mss_cons (ms_if (mt_w (mw_or (mt_not (mt_tru (me_call c__law_as hr (by rfl) tk (ma_cons (me_call c_is_rules hr (by rfl) tk (ma_cons (me_var 10) (ma_nil)) (hms := len_cons len_nil)) (ma_cons (me_var 11) (ma_nil))) (hms := len_cons (len_cons len_nil))))) (mw_or1 (mt_cmp (op_eqA hr) eq_s (me_cmp (op_eqA hr) eq_s (me_call c__law_told hr (by rfl) tk (ma_cons (me_int) (ma_cons (me_var 10) (ma_cons (me_str) (ma_cons (me_non) (ma_nil))))) (hms := len_cons (len_cons (len_cons (len_cons len_nil))))) (me_str) (nomark _)) (me_var 11) (nomark _))))) (mss_one (ms_ret (me_bl))) (mss_nil)) <|
    mss_cons (ms_set (i := 12) sc_law.nd rfl (Or.inl rfl) (me_call c__law_mix hr (by rfl) tk (ma_cons (me_call c__law_cell hr (by rfl) tk (ma_cons (me_var 0) (ma_cons (me_int) (ma_nil))) (hms := len_cons (len_cons len_nil))) (ma_cons (me_int) (ma_cons (me_op op_addA add_s (me_len T.b_len (me_var 3)) (me_int)) (ma_nil)))) (hms := len_cons (len_cons (len_cons len_nil))))) <|
    mss_cons (ms_set (i := 13) sc_law.nd rfl (Or.inl rfl) (me_ix ix_seq ix_s (me_str) (me_op op_modN mod_s (me_call c__law_cell hr (by rfl) tk (ma_cons (me_var 0) (ma_cons (me_int) (ma_nil))) (hms := len_cons (len_cons len_nil))) (me_int)))) <|
    mss_cons (ms_set (i := 14) sc_law.nd rfl (Or.inl rfl) (me_op op_modN mod_s (me_call c__law_cell hr (by rfl) tk (ma_cons (me_var 0) (ma_cons (me_int) (ma_nil))) (hms := len_cons (len_cons len_nil))) (me_int))) <|
    mss_cons (ms_set (i := 15) sc_law.nd rfl (Or.inl rfl) (me_op op_addA add_s (me_op op_addA add_s (me_slice (me_var 3) (mo_none) (mo_some (me_var 12))) (me_ix ix_seq ix_s (me_of_mf (mf_lst (ma_cons (me_var 13) (ma_cons (me_str) (ma_cons (me_var 13) (ma_nil)))))) (me_var 14))) (me_slice (me_var 3) (mo_some (me_op op_addA add_s (me_var 12) (me_ix ix_seq ix_s (me_of_mf (mf_lst (ma_cons (me_int) (ma_cons (me_int) (ma_cons (me_int) (ma_nil)))))) (me_var 14)))) (mo_none)))) <|
    mss_cons (ms_if (mt_cmp (op_neA hr) ne_s (me_call c__law_read hr (by rfl) tk (ma_cons (me_var 15) (ma_nil)) (hms := len_cons len_nil)) (me_call c__law_read_here hr (by rfl) tk (ma_cons (me_var 15) (ma_nil)) (hms := len_cons len_nil)) (nomark _)) (mss_one (ms_ret (me_bl))) (mss_nil)) <|
    mss_cons (ms_if (mt_cmp op_isNA isN_s (me_call c__law_read hr (by rfl) tk (ma_cons (me_ix ix_seq ix_s (me_of_mf (mf_lst (ma_cons (me_non) (ma_cons (me_int) (ma_cons (me_str) (ma_cons (me_str) (ma_cons (me_str) (ma_cons (me_str) (ma_nil))))))))) (me_op op_modN mod_s (me_call c__law_cell hr (by rfl) tk (ma_cons (me_var 0) (ma_cons (me_int) (ma_nil))) (hms := len_cons (len_cons len_nil))) (me_int))) (ma_nil)) (hms := len_cons len_nil)) (me_non) (nomark _)) (mss_one (ms_ret (me_bl))) (mss_nil)) <|
    mss_cons (ms_set (i := 16) sc_law.nd rfl (Or.inr rfl) (me_ix ix_seq ix_s (me_of_mf (mf_lst (ma_cons (me_non) (ma_cons (me_str) (ma_cons (me_or (me_slice (me_str) (mo_some (me_var 2)) (mo_none)) (me_one_or (me_str))) (ma_cons (me_op op_mulA mul_s (me_str) (me_int)) (ma_cons (me_of_mf (mf_lst (ma_cons (me_str) (ma_nil)))) (ma_cons (me_int) (ma_nil))))))))) (me_op op_modN mod_s (me_call c__law_cell hr (by rfl) tk (ma_cons (me_var 0) (ma_cons (me_int) (ma_nil))) (hms := len_cons (len_cons len_nil))) (me_int)))) <|
    mss_cons (ms_if (mt_cmp (op_neA hr) ne_s (me_of_mf (mf_lc (CP.mk (own := [("_law_kind", 17)]) (t := gName 17) (g := gSet 17) (mc := mYes) (mel := mCall m__law_told (mCons (mVar 17) (mCons (mVar 1) (mCons (mVar 16) (mCons (mC (.int 0)) (mNil)))))) rfl sc_law.nd (mi_range1 T.b_range (me_int)) (blkOk_by (N := N_law) (sc := defScope s_law) (own := [("_law_kind", 17)]) (by decide +kernel)) (fun _ _ _ _ _ => pg_name (i := 17) sc_law.nd rfl (Or.inl rfl) (.inr rfl)) tgw_name (fun _ _ _ _ _ => pts_no) (fun _ _ _ _ _ => (me_call c__law_told hr (by rfl) takes0 (ma_cons (me_var 17) (ma_cons (me_var 1) (ma_cons (me_var 16) (ma_cons (me_int) (ma_nil))))) (hms := len_cons (len_cons (len_cons (len_cons len_nil)))) : ME _ ca W0 _ _).pe)))) (me_of_mf (mf_rep (mf_lst (ma_cons (me_str) (ma_nil))) (me_int))) (nomark _)) (mss_one (ms_ret (me_bl))) (mss_nil)) <|
    mss_one (ms_ret (me_or (me_var 11) (me_one_or (me_cmp (op_eqA hr) eq_s (me_of_mf (mf_lc (CP.mk (own := [("_law_kind", 17)]) (t := gName 17) (g := gSet 17) (mc := mYes) (mel := mCall m__law_told (mCons (mVar 17) (mCons (mVar 10) (mCons (mVar 16) (mCons (mC (.int 0)) (mNil)))))) rfl sc_law.nd (mi_range1 T.b_range (me_int)) (blkOk_by (N := N_law) (sc := defScope s_law) (own := [("_law_kind", 17)]) (by decide +kernel)) (fun _ _ _ _ _ => pg_name (i := 17) sc_law.nd rfl (Or.inl rfl) (.inr rfl)) tgw_name (fun _ _ _ _ _ => pts_no) (fun _ _ _ _ _ => (me_call c__law_told hr (by rfl) takes0 (ma_cons (me_var 17) (ma_cons (me_var 10) (ma_cons (me_var 16) (ma_cons (me_int) (ma_nil))))) (hms := len_cons (len_cons (len_cons (len_cons len_nil)))) : ME _ ca W0 _ _).pe)))) (me_of_mf (mf_rep (mf_lst (ma_cons (me_str) (ma_nil))) (me_int))) (nomark _)))))
end
end K08
/-! Plain mathematics, part 1: how the mirrors compute. -/
namespace PX
open PySem PySem.Spec PyProof.Rows L2
/-! ### the words, applied -/
/-- how a def ends -/
def Out.res : Out → Res D
  | .rt d => .ok d
  | .nx _ => .ok .none
  | .er c _ => .er c
  | _ => .stk
def Out.thn (o : Out) (f : Rho → Out) : Out := match o with
  | .nx ρ => f ρ
  | .rt d => .rt d
  | .bk ρ => .bk ρ
  | .ct ρ => .ct ρ
  | .er c ρ => .er c ρ
  | .stk => .stk
@[simp] theorem res_rt (d : D) : (Out.rt d).res = .ok d := rfl
@[simp] theorem res_nx (ρ : Rho) : (Out.nx ρ).res = .ok .none := rfl
@[simp] theorem res_er (c : EC) (ρ : Rho) : (Out.er c ρ).res = .er c := rfl
@[simp] theorem res_stk : Out.stk.res = .stk := rfl
@[simp] theorem thn_nx (ρ : Rho) (f : Rho → Out) : (Out.nx ρ).thn f = f ρ := rfl
@[simp] theorem thn_rt (d : D) (f : Rho → Out) : (Out.rt d).thn f = .rt d := rfl
@[simp] theorem thn_bk (ρ : Rho) (f : Rho → Out) : (Out.bk ρ).thn f = .bk ρ := rfl
@[simp] theorem thn_ct (ρ : Rho) (f : Rho → Out) : (Out.ct ρ).thn f = .ct ρ := rfl
@[simp] theorem thn_er (c : EC) (ρ : Rho) (f : Rho → Out) : (Out.er c ρ).thn f = .er c ρ := rfl
@[simp] theorem thn_stk (f : Rho → Out) : Out.stk.thn f = .stk := rfl
theorem fnM_eq (n : Nat) (b : Rho → Out) (ds : List D) : fnM n b ds = (b (startR n ds)).res := by unfold fnM Out.res; cases b (startR n ds) <;> rfl
@[simp] theorem bind_ite {α β : Type} {c : Prop} [Decidable c] (a b : Res α) (f : α → Res β) : (if c then a else b).bind f = if c then a.bind f else b.bind f := by split <;> rfl
@[simp] theorem obind_ite {α : Type} {c : Prop} [Decidable c] (a b : Res α) (ρ : Rho) (f : α → Out) : obind (if c then a else b) ρ f = if c then obind a ρ f else obind b ρ f := by split <;> rfl
@[simp] theorem thn_ite {c : Prop} [Decidable c] (a b : Out) (f : Rho → Out) : (if c then a else b).thn f = if c then a.thn f else b.thn f := by split <;> rfl
@[simp] theorem res_ite {c : Prop} [Decidable c] (a b : Out) : (if c then a else b).res = if c then a.res else b.res := by split <;> rfl
@[simp] theorem of_ite {α : Type} {c : Prop} [Decidable c] (a b : Option α) : Res.of (if c then a else b) = if c then .of a else .of b := by split <;> rfl
@[simp] theorem obind_bind {α β : Type} (r : Res α) (f : α → Res β) (ρ : Rho) (k : β → Out) : obind (r.bind f) ρ k = obind r ρ fun a => obind (f a) ρ k := by cases r <;> rfl
@[simp] theorem bind_bind {α β γ : Type} (r : Res α) (f : α → Res β) (g : β → Res γ) : (r.bind f).bind g = r.bind fun a => (f a).bind g := by cases r <;> rfl
section
variable {ρ : Rho} {f g : D → D → Option D} {u : D → Option D} {a b c : Rho → Res D} {ta tb tc : Rho → Res Bool} {ms ml : Rho → Res (List D)} {sa sb : Rho → Out} {i j n : Nat} {d : D}
@[simp] theorem mC_ap : mC d ρ = .ok d := rfl
@[simp] theorem mBin_ap : mBin f a b ρ = (a ρ).bind fun x => (b ρ).bind fun y => .of (f x y) := rfl
@[simp] theorem mUn_ap : mUn u a ρ = (a ρ).bind fun x => .of (u x) := rfl
@[simp] theorem mTst_ap : mTst a ρ = (a ρ).bind fun x => .of (dBool x) := rfl
@[simp] theorem mTru_ap : mTru a ρ = (a ρ).bind fun x => .of (dTru x) := rfl
@[simp] theorem mNotT_ap : mNotT ta ρ = (ta ρ).bind fun k => .ok (!k) := rfl
@[simp] theorem mAndT_ap : mAndT ta tb ρ = (ta ρ).bind fun k => if k = true then tb ρ else .ok false := rfl
@[simp] theorem mOrT_ap : mOrT ta tb ρ = (ta ρ).bind fun k => if k = true then .ok true else tb ρ := rfl
@[simp] theorem mIf_ap : mIf ta a b ρ = (ta ρ).bind fun k => if k = true then a ρ else b ρ := rfl
@[simp] theorem mAnd_ap : mAnd a b ρ = (a ρ).bind fun x => (Res.of (dTru x)).bind fun k => if k = true then b ρ else .ok x := rfl
@[simp] theorem mOr_ap : mOr a b ρ = (a ρ).bind fun x => (Res.of (dTru x)).bind fun k => if k = true then .ok x else b ρ := rfl
@[simp] theorem mNot_ap : mNot a ρ = (a ρ).bind fun x => (Res.of (dTru x)).bind fun k => .ok (.bool !k) := rfl
@[simp] theorem mChain_ap : mChain f g a b c ρ = (a ρ).bind fun x => (b ρ).bind fun y => (Res.of ((f x y).bind dBool)).bind fun k => if k = true then (c ρ).bind fun z => .of (g y z) else .ok (.bool false) := rfl
@[simp] theorem mNil_ap : mNil ρ = .ok [] := rfl
@[simp] theorem mCons_ap : mCons a ms ρ = (a ρ).bind fun x => (ms ρ).bind fun xs => .ok (x :: xs) := rfl
@[simp] theorem mTup_ap : mTup ms ρ = (ms ρ).bind fun xs => if xs.length ≤ sizeLine then .ok (.tuple xs) else .stk := rfl
@[simp] theorem mLst_ap : mLst ms ρ = (ms ρ).bind fun xs => if xs.length ≤ sizeLine then .ok xs else .stk := rfl
@[simp] theorem mList_ap : mList ml ρ = (ml ρ).bind fun l => .ok (.list l) := rfl
@[simp] theorem mCall_ap {h : List D → Res D} : mCall h ms ρ = (ms ρ).bind h := rfl
@[simp] theorem mCB_ap {h : List D → Option D} : mCB h ms ρ = (ms ρ).bind fun xs => .of (h xs) := rfl
@[simp] theorem mOfL_ap : mOfL a ρ = (a ρ).bind fun x => .of (dLst x) := rfl
@[simp] theorem mIxL_ap {h : List D → D → Option D} : mIxL h ml b ρ = (ml ρ).bind fun x => (b ρ).bind fun y => .of (h x y) := rfl
@[simp] theorem mSM_ap {h : Str → List D → Option D} : mSM h a ms ρ = (a ρ).bind fun x => (Res.of (dStr x)).bind fun z => (ms ρ).bind fun xs => .of (h z xs) := rfl
@[simp] theorem mLM_ap {h : List D → List D → Option D} : mLM h ml ms ρ = (ml ρ).bind fun x => (ms ρ).bind fun xs => .of (h x xs) := rfl
@[simp] theorem mJoin_ap : mJoin a ml ρ = (a ρ).bind fun x => (Res.of (dStr x)).bind fun z => (ml ρ).bind fun l => .of (gJoin z l) := rfl
@[simp] theorem mNo_ap : mNo ρ = .ok none := rfl
@[simp] theorem mPart_ap : mPart a ρ = (a ρ).bind fun x => (Res.of (dInt x)).bind fun i => .ok (some i) := rfl
@[simp] theorem mCut_ap {h : D → Option Int → Option Int → Option D} {l u : Rho → Res (Option Int)} : mCut h a l u ρ = (a ρ).bind fun x => (l ρ).bind fun lo => (u ρ).bind fun hi => .of (h x lo hi) := rfl
@[simp] theorem mCutL_ap {l u : Rho → Res (Option Int)} : mCutL ml l u ρ = (ml ρ).bind fun x => (l ρ).bind fun lo => (u ρ).bind fun hi => .ok (cutL x lo hi) := rfl
@[simp] theorem mLenL_ap : mLenL ml ρ = (ml ρ).bind fun l => .ok (.int l.length) := rfl
@[simp] theorem mTupL_ap : mTupL ml ρ = (ml ρ).bind fun l => .ok (.tuple l) := rfl
@[simp] theorem mTruL_ap : mTruL ml ρ = (ml ρ).bind fun l => .ok (!l.isEmpty) := rfl
@[simp] theorem mYes_ap : mYes ρ = .ok true := rfl
@[simp] theorem mIter_ap : mIter a ρ = (a ρ).bind fun x => .of (dItems x) := rfl
@[simp] theorem mRng1_ap : mRng1 a ρ = (a ρ).bind fun d => .of (gR1 d) := by unfold mRng1; cases a ρ <;> rfl
@[simp] theorem mRng2_ap : mRng2 a b ρ = (a ρ).bind fun d => (b ρ).bind fun e => .of (gR2 d e) := by unfold mRng2; cases a ρ <;> rfl
@[simp] theorem mSeq_ap : mSeq sa sb ρ = (sa ρ).thn sb := by unfold mSeq Out.thn; cases sa ρ <;> rfl
@[simp] theorem mNext_ap : mNext ρ = .nx ρ := rfl
@[simp] theorem mSet_ap : mSet i a ρ = obind (a ρ) ρ fun d => .nx (ρ.set i (some (.val d))) := rfl
@[simp] theorem mSetF_ap : mSetF i ml ρ = obind (ml ρ) ρ fun l => .nx (ρ.set i (some (.own l))) := rfl
@[simp] theorem mRet_ap : mRet a ρ = obind (a ρ) ρ fun d => .rt d := rfl
@[simp] theorem mRetN_ap : mRetN ρ = .rt .none := rfl
@[simp] theorem mDrop_ap : mDrop a ρ = obind (a ρ) ρ fun _ => .nx ρ := rfl
@[simp] theorem mIfS_ap : mIfS ta sa sb ρ = obind (ta ρ) ρ fun k => if k = true then sa ρ else sb ρ := rfl
@[simp] theorem mBrk_ap : mBrk ρ = .bk ρ := rfl
@[simp] theorem mRaise_ap {k : EC} : mRaise k ρ = .er k ρ := rfl
@[simp] theorem mFor_ap {it : Rho → Res (List D)} {t : D → Rho → Option Rho} : mFor it t sa ρ = obind (it ρ) ρ fun l => forL t sa l ρ := rfl
@[simp] theorem mLc_ap {it : Rho → Res (List D)} {vs : List Nat} {t : D → Rho → Option Rho} : mLc it vs t ta a ρ = (it ρ).bind fun l => lcL t ta a (wipeR ρ vs) l [] := rfl
@[simp] theorem mTgt_ap {t : D → Rho → Option Rho} : mTgt t a ρ = obind (a ρ) ρ fun d => match t d ρ with
  | some ρ' => .nx ρ'
  | none => .stk := rfl
@[simp] theorem gSet_ap : gSet i d ρ = some (ρ.set i (some (.val d))) := rfl
@[simp] theorem mFrz_ap : mFrz i sa ρ = sa (frz i ρ) := rfl
end
@[simp] theorem dAdd_int (i j : Int) : dAdd (.int i) (.int j) = some (.int (i + j)) := rfl
@[simp] theorem dI0_int (f : Int → Int → D) (i j : Int) : dI0 f (.int i) (.int j) = some (f i j) := rfl
theorem dII_int (C : Int → Int → Bool) (f : Int → Int → D) (i j : Int) : dII C f (.int i) (.int j) = if C i j = true then some (f i j) else none := rfl
@[simp] theorem dBool_b (b : Bool) : dBool (.bool b) = some b := rfl
@[simp] theorem dTru_b (b : Bool) : dTru (.bool b) = some b := rfl
@[simp] theorem gSet2_ap (i j : Nat) (a b : D) (ρ : Rho) : gSet2 i j (.tuple [a, b]) ρ = some ((ρ.set i (some (.val a))).set j (some (.val b))) := rfl
@[simp] theorem gSet3_ap (i j k : Nat) (a b c : D) (ρ : Rho) : gSet3 i j k (.tuple [a, b, c]) ρ = some (((ρ.set i (some (.val a))).set j (some (.val b))).set k (some (.val c))) := rfl
def Out.lp (o : Out) (f : Rho → Out) : Out := match o with
  | .nx ρ => f ρ
  | .ct ρ => f ρ
  | .bk ρ => .nx ρ
  | .rt d => .rt d
  | .er c ρ => .er c ρ
  | .stk => .stk
@[simp] theorem lp_nx (ρ : Rho) (f : Rho → Out) : (Out.nx ρ).lp f = f ρ := rfl
@[simp] theorem lp_rt (d : D) (f : Rho → Out) : (Out.rt d).lp f = .rt d := rfl
@[simp] theorem lp_bk (ρ : Rho) (f : Rho → Out) : (Out.bk ρ).lp f = .nx ρ := rfl
@[simp] theorem lp_ct (ρ : Rho) (f : Rho → Out) : (Out.ct ρ).lp f = f ρ := rfl
@[simp] theorem lp_er (c : EC) (ρ : Rho) (f : Rho → Out) : (Out.er c ρ).lp f = .er c ρ := rfl
@[simp] theorem lp_stk (f : Rho → Out) : Out.stk.lp f = .stk := rfl
@[simp] theorem lp_ite {c : Prop} [Decidable c] (a b : Out) (f : Rho → Out) : (if c then a else b).lp f = if c then a.lp f else b.lp f := by split <;> rfl
@[simp] theorem forL_nil (g : D → Rho → Option Rho) (b : Rho → Out) (ρ : Rho) : forL g b [] ρ = .nx ρ := rfl
@[simp] theorem forL_cons (i : Nat) (b : Rho → Out) (d : D) (ds : List D) (ρ : Rho) : forL (gSet i) b (d :: ds) ρ = (b (ρ.set i (some (.val d)))).lp (forL (gSet i) b ds) := by
  show (match gSet i d ρ with
    | none => Out.stk
    | some ρ1 => match b ρ1 with
      | .nx ρ2 => forL (gSet i) b ds ρ2
      | .ct ρ2 => forL (gSet i) b ds ρ2
      | .bk ρ2 => .nx ρ2
      | .rt d => .rt d
      | .er c ρ2 => .er c ρ2
      | .stk => .stk) = _
  simp only [gSet_ap]
  cases b (ρ.set i (some (.val d))) <;> rfl
theorem forL_consG (g : D → Rho → Option Rho) (b : Rho → Out) (d : D) (ds : List D) (ρ ρ1 : Rho) (h : g d ρ = some ρ1) : forL g b (d :: ds) ρ = (b ρ1).lp (forL g b ds) := by
  show (match g d ρ with
    | none => Out.stk
    | some ρ1 => match b ρ1 with
      | .nx ρ2 => forL g b ds ρ2
      | .ct ρ2 => forL g b ds ρ2
      | .bk ρ2 => .nx ρ2
      | .rt d => .rt d
      | .er c ρ2 => .er c ρ2
      | .stk => .stk) = _
  simp only [h]
  cases b ρ1 <;> rfl
theorem while_0 (c : Rho → Res Bool) (b : Rho → Out) (ρ : Rho) : mWhile c b 0 ρ = .stk := rfl
theorem while_1 (c : Rho → Res Bool) (b : Rho → Out) (n : Nat) (ρ : Rho) : mWhile c b (n + 1) ρ = obind (c ρ) ρ fun k => if k = true then (b ρ).lp (mWhile c b n) else .nx ρ := by
  show (obind (c ρ) ρ fun k => if k = true then (match b ρ with
      | .nx ρ2 => mWhile c b n ρ2
      | .ct ρ2 => mWhile c b n ρ2
      | .bk ρ2 => .nx ρ2
      | .rt d => .rt d
      | .er e ρ2 => .er e ρ2
      | .stk => .stk) else .nx ρ) = _
  congr 1
/-! try -/
def Out.tr (o : Out) (us : List EC) (hs : List (EC × (Rho → Out))) : Out := match o with
  | .er c ρ1 => if c ∈ us then (match hSel hs c with
    | some m => noerO (m ρ1)
    | none => .er c ρ1) else .stk
  | o => o
@[simp] theorem mTry_ap (us : List EC) (hs : List (EC × (Rho → Out))) (b : Rho → Out) (ρ : Rho) : mTry us hs b ρ = (b ρ).tr us hs := by unfold mTry Out.tr; cases b ρ <;> rfl
@[simp] theorem tr_nx (us : List EC) (hs : List (EC × (Rho → Out))) (ρ : Rho) : (Out.nx ρ).tr us hs = .nx ρ := rfl
@[simp] theorem tr_rt (us : List EC) (hs : List (EC × (Rho → Out))) (d : D) : (Out.rt d).tr us hs = .rt d := rfl
theorem tr_er (us : List EC) (hs : List (EC × (Rho → Out))) (c : EC) (ρ : Rho) (m : Rho → Out) (h : c ∈ us) (h' : hSel hs c = some m) : (Out.er c ρ).tr us hs = noerO (m ρ) := by
  show (if c ∈ us then (match hSel hs c with
    | some m => noerO (m ρ)
    | none => .er c ρ) else .stk) = _
  rw [if_pos h, h']
@[simp] theorem noerO_nx (ρ : Rho) : noerO (.nx ρ) = .nx ρ := rfl
@[simp] theorem noerO_rt (d : D) : noerO (.rt d) = .rt d := rfl
/-! sizes -/
theorem size_ge {n : Nat} (h : n ≤ 16777216) : n ≤ sizeLine := h
@[simp] theorem size_0 : (0 ≤ sizeLine) = True := eq_true (size_ge (by omega))
@[simp] theorem size_1 : (1 ≤ sizeLine) = True := eq_true (size_ge (by omega))
@[simp] theorem size_2 : (2 ≤ sizeLine) = True := eq_true (size_ge (by omega))
@[simp] theorem size_3 : (3 ≤ sizeLine) = True := eq_true (size_ge (by omega))
@[simp] theorem size_4 : (4 ≤ sizeLine) = True := eq_true (size_ge (by omega))
@[simp] theorem size_5 : (5 ≤ sizeLine) = True := eq_true (size_ge (by omega))
@[simp] theorem size_6 : (6 ≤ sizeLine) = True := eq_true (size_ge (by omega))
@[simp] theorem size_7 : (7 ≤ sizeLine) = True := eq_true (size_ge (by omega))
@[simp] theorem size_8 : (8 ≤ sizeLine) = True := eq_true (size_ge (by omega))
@[simp] theorem size_9 : (9 ≤ sizeLine) = True := eq_true (size_ge (by omega))
@[simp] theorem size_10 : (10 ≤ sizeLine) = True := eq_true (size_ge (by omega))
@[simp] theorem size_11 : (11 ≤ sizeLine) = True := eq_true (size_ge (by omega))
@[simp] theorem size_12 : (12 ≤ sizeLine) = True := eq_true (size_ge (by omega))
@[simp] theorem size_13 : (13 ≤ sizeLine) = True := eq_true (size_ge (by omega))
@[simp] theorem size_14 : (14 ≤ sizeLine) = True := eq_true (size_ge (by omega))
@[simp] theorem size_15 : (15 ≤ sizeLine) = True := eq_true (size_ge (by omega))
@[simp] theorem size_16 : (16 ≤ sizeLine) = True := eq_true (size_ge (by omega))
/-! slots -/
@[simp] theorem mVar_ap (i : Nat) (ρ : Rho) (d : D) (h : ρ[i]? = some (some (.val d))) : mVar i ρ = .ok d := by unfold mVar; rw [h]
@[simp] theorem mOwn_ap (i : Nat) (ρ : Rho) (l : List D) (h : ρ[i]? = some (some (.own l))) : mOwn i ρ = .ok l := by unfold mOwn; rw [h]
@[simp] theorem frz_own (i : Nat) (ρ : Rho) (l : List D) (h : ρ[i]? = some (some (.own l))) : frz i ρ = ρ.set i (some (.val (.list l))) := by unfold frz; rw [h]
@[simp] theorem frz_val (i : Nat) (ρ : Rho) (d : D) (h : ρ[i]? = some (some (.val d))) : frz i ρ = ρ := by unfold frz; rw [h]
@[simp] theorem mAppend_ap (i : Nat) (ρ : Rho) (m : Rho → Res D) (l : List D) (h : ρ[i]? = some (some (.own l))) : mAppend i m ρ = obind (m ρ) ρ fun d => if l.length < sizeLine then .nx (ρ.set i (some (.own (l ++ [d])))) else .stk := by unfold mAppend; rw [h]
@[simp] theorem mExtend_ap (i : Nat) (ρ : Rho) (m : Rho → Res (List D)) (l : List D) (h : ρ[i]? = some (some (.own l))) : mExtend i m ρ = obind (m ρ) ρ fun es => if l.length + es.length ≤ sizeLine then .nx (ρ.set i (some (.own (l ++ es)))) else .stk := by unfold mExtend; rw [h]
/-! indices -/
theorem atI_nn {α : Type} (l : List α) (i : Int) (h : 0 ≤ i) : atI l i = l[i.toNat]? := by
  unfold atI ixN
  rw [if_pos h]
  by_cases h1 : i < l.length
  · rw [if_pos h1]; rfl
  · rw [if_neg h1]
    show none = _
    rw [List.getElem?_eq_none (by omega)]
theorem atI_nat {α : Type} (l : List α) (n : Nat) : atI l (n : Int) = l[n]? := by rw [atI_nn _ _ (by omega)]; simp
@[simp] theorem atI_0 {α : Type} (l : List α) : atI l 0 = l[0]? := atI_nat l 0
@[simp] theorem atI_1 {α : Type} (l : List α) : atI l 1 = l[1]? := atI_nat l 1
@[simp] theorem atI_2 {α : Type} (l : List α) : atI l 2 = l[2]? := atI_nat l 2
@[simp] theorem atI_3 {α : Type} (l : List α) : atI l 3 = l[3]? := atI_nat l 3
@[simp] theorem atI_last {α : Type} (l : List α) : atI l (-1) = l.getLast? := by
  unfold atI ixN
  rw [if_neg (by omega)]
  cases l with
  | nil => rfl
  | cons a r =>
    rw [if_pos (by simp; omega)]
    rw [List.getLast?_eq_getElem?]
    show (a :: r)[_]? = _
    congr 1
    simp
    omega
@[simp] theorem dIx_tup (l : List D) (i : Int) : dIx (.tuple l) (.int i) = atI l i := rfl
@[simp] theorem dIx_lst (l : List D) (i : Int) : dIx (.list l) (.int i) = atI l i := rfl
@[simp] theorem dIxL_int (l : List D) (i : Int) : dIxL l (.int i) = atI l i := rfl
@[simp] theorem dLen_tup (l : List D) : dLen (.tuple l) = some (.int l.length) := rfl
@[simp] theorem dLen_lst (l : List D) : dLen (.list l) = some (.int l.length) := rfl
@[simp] theorem dLst_lst (l : List D) : dLst (.list l) = some l := rfl
@[simp] theorem dInt_int (i : Int) : dInt (.int i) = some i := rfl
@[simp] theorem dStr_str (s : Str) : dStr (.str s) = some s := rfl
@[simp] theorem dNeg_int (i : Int) : dNeg (.int i) = some (.int (-i)) := rfl
@[simp] theorem dItems_lst (l : List D) : dItems (.list l) = some l := rfl
@[simp] theorem dItems_tup (l : List D) : dItems (.tuple l) = some l := rfl
@[simp] theorem dItems_str (s : Str) : dItems (.str s) = some (signs s) := rfl
@[simp] theorem dTru_l (l : List D) : dTru (.list l) = some (!l.isEmpty) := rfl
@[simp] theorem dTru_t (l : List D) : dTru (.tuple l) = some (!l.isEmpty) := rfl
@[simp] theorem dTru_i (i : Int) : dTru (.int i) = some (i != 0) := rfl
@[simp] theorem dTru_n : dTru .none = some false := rfl
/-! is None, == -/
def isN : D → Bool
  | .none => true
  | _ => false
@[simp] theorem isN_none : isN .none = true := rfl
@[simp] theorem isN_bool (b : Bool) : isN (.bool b) = false := rfl
@[simp] theorem isN_int (b : Int) : isN (.int b) = false := rfl
@[simp] theorem isN_str (b : Str) : isN (.str b) = false := rfl
@[simp] theorem isN_list (b : List D) : isN (.list b) = false := rfl
@[simp] theorem isN_tuple (b : List D) : isN (.tuple b) = false := rfl
@[simp] theorem isN_dict (b : List (D × D)) : isN (.dict b) = false := rfl
@[simp] theorem dIs_none (d : D) : dIs d .none = some (.bool (isN d)) := by cases d <;> rfl
@[simp] theorem dIsN_none (d : D) : dIsN d .none = some (.bool (!isN d)) := by cases d <;> rfl
@[simp] theorem dIs_bool (a b : Bool) : dIs (.bool a) (.bool b) = some (.bool (decide (a = b))) := rfl
@[simp] theorem dIsN_bool (a b : Bool) : dIsN (.bool a) (.bool b) = some (.bool (!decide (a = b))) := rfl
@[simp] theorem dEq_int (i j : Int) : dEq (.int i) (.int j) = some (.bool (i == j)) := rfl
@[simp] theorem dNe_int (i j : Int) : dNe (.int i) (.int j) = some (.bool (i != j)) := rfl
@[simp] theorem dEq_str (s t : Str) : dEq (.str s) (.str t) = some (.bool (s == t)) := rfl
@[simp] theorem dNe_str (s t : Str) : dNe (.str s) (.str t) = some (.bool (!(s == t))) := rfl
@[simp] theorem dGt_int (i j : Int) : dGt (.int i) (.int j) = some (.bool (decide (j < i))) := rfl
/-! comprehensions -/
theorem noer_okE {α : Type} (a : α) : noer (.ok a) = .ok a := rfl
@[simp] theorem noer_ok' {α : Type} (a : α) : noer (.ok a) = .ok a := rfl
/-- a comprehension over one name, by its items -/
theorem lcL_fm {i : Nat} {c : Rho → Res Bool} {e : Rho → Res D} {ρ : Rho} (p : D → Bool) (f : D → D) : ∀ (l acc : List D), (∀ d ∈ l, c (ρ.set i (some (.val d))) = .ok (p d)) → (∀ d ∈ l, p d = true → e (ρ.set i (some (.val d))) = .ok (f d)) → acc.length + l.length ≤ sizeLine →
    lcL (gSet i) c e ρ l acc = .ok (acc ++ (l.filter p).map f)
  | [], acc, _, _, _ => by simp [lcL]
  | d :: ds, acc, hc, he, hl => by
    have h1 := hc d List.mem_cons_self
    unfold lcL
    simp only [gSet_ap, h1, noer_ok', Res.bind_ok]
    cases hp : p d with
    | true =>
      rw [if_pos rfl, he d List.mem_cons_self hp]
      simp only [noer_ok', Res.bind_ok]
      rw [List.length_cons] at hl
      rw [if_pos (by omega), lcL_fm p f ds (acc ++ [f d]) (fun d h => hc d (List.mem_cons_of_mem _ h)) (fun d h => he d (List.mem_cons_of_mem _ h)) (by simp; omega)]
      simp [hp]
    | false =>
      rw [if_neg Bool.false_ne_true]
      rw [List.length_cons] at hl
      rw [lcL_fm p f ds acc (fun d h => hc d (List.mem_cons_of_mem _ h)) (fun d h => he d (List.mem_cons_of_mem _ h)) (by omega)]
      simp [hp]
theorem lcL_map {i : Nat} {e : Rho → Res D} {ρ : Rho} (f : D → D) (l acc : List D) (he : ∀ d ∈ l, e (ρ.set i (some (.val d))) = .ok (f d)) (hl : acc.length + l.length ≤ sizeLine) : lcL (gSet i) mYes e ρ l acc = .ok (acc ++ l.map f) := by
  rw [lcL_fm (fun _ => true) f l acc (fun d _ => rfl) (fun d h _ => he d h) hl, List.filter_eq_self.mpr (fun _ _ => rfl)]
/-- .. over two names -/
theorem lcL_fm2 {i j : Nat} {c : Rho → Res Bool} {e : Rho → Res D} {ρ : Rho} (p : D × D → Bool) (f : D × D → D) : ∀ (l : List (D × D)) (acc : List D), (∀ d ∈ l, c ((ρ.set i (some (.val d.1))).set j (some (.val d.2))) = .ok (p d)) → (∀ d ∈ l, p d = true → e ((ρ.set i (some (.val d.1))).set j (some (.val d.2))) = .ok (f d)) → acc.length + l.length ≤ sizeLine →
    lcL (gSet2 i j) c e ρ (l.map fun q => .tuple [q.1, q.2]) acc = .ok (acc ++ (l.filter p).map f)
  | [], acc, _, _, _ => by simp [lcL]
  | d :: ds, acc, hc, he, hl => by
    have h1 := hc d List.mem_cons_self
    rw [List.map_cons]
    unfold lcL
    simp only [gSet2_ap, h1, noer_ok', Res.bind_ok]
    cases hp : p d with
    | true =>
      rw [if_pos rfl, he d List.mem_cons_self hp]
      simp only [noer_ok', Res.bind_ok]
      rw [List.length_cons] at hl
      rw [if_pos (by omega), lcL_fm2 p f ds (acc ++ [f d]) (fun d h => hc d (List.mem_cons_of_mem _ h)) (fun d h => he d (List.mem_cons_of_mem _ h)) (by simp; omega)]
      simp [hp]
    | false =>
      rw [if_neg Bool.false_ne_true]
      rw [List.length_cons] at hl
      rw [lcL_fm2 p f ds acc (fun d h => hc d (List.mem_cons_of_mem _ h)) (fun d h => he d (List.mem_cons_of_mem _ h)) (by omega)]
      simp [hp]
end PX
/-! Plain mathematics, part 2: built-ins' values. -/
namespace PX
open PySem PySem.Spec PyProof.Rows L2
/-! ### isinstance -/
def qInt : D → Bool
  | .int _ => true
  | .bool _ => true
  | _ => false
def qBool : D → Bool
  | .bool _ => true
  | _ => false
def qStr : D → Bool
  | .str _ => true
  | _ => false
def qTup : D → Bool
  | .tuple _ => true
  | _ => false
def qLst : D → Bool
  | .list _ => true
  | .dict _ => true
  | _ => false
@[simp] theorem dIsi_int (d : D) : dIsi "int" d = some (.bool (qInt d)) := by
  cases d <;> (unfold dIsi tyN qInt; first | (rw [show kitB "NoneType" "int" = some false from by decide +kernel]; rfl) | (rw [show kitB "bool" "int" = some true from by decide +kernel]; rfl) | (rw [show kitB "int" "int" = some true from by decide +kernel]; rfl) | (rw [show kitB "str" "int" = some false from by decide +kernel]; rfl) | (rw [show kitB "list" "int" = some false from by decide +kernel]; rfl) | (rw [show kitB "tuple" "int" = some false from by decide +kernel]; rfl))
@[simp] theorem dIsi_bool (d : D) : dIsi "bool" d = some (.bool (qBool d)) := by
  cases d <;> (unfold dIsi tyN qBool; first | (rw [show kitB "NoneType" "bool" = some false from by decide +kernel]; rfl) | (rw [show kitB "bool" "bool" = some true from by decide +kernel]; rfl) | (rw [show kitB "int" "bool" = some false from by decide +kernel]; rfl) | (rw [show kitB "str" "bool" = some false from by decide +kernel]; rfl) | (rw [show kitB "list" "bool" = some false from by decide +kernel]; rfl) | (rw [show kitB "tuple" "bool" = some false from by decide +kernel]; rfl))
@[simp] theorem dIsi_str (d : D) : dIsi "str" d = some (.bool (qStr d)) := by
  cases d <;> (unfold dIsi tyN qStr; first | (rw [show kitB "NoneType" "str" = some false from by decide +kernel]; rfl) | (rw [show kitB "bool" "str" = some false from by decide +kernel]; rfl) | (rw [show kitB "int" "str" = some false from by decide +kernel]; rfl) | (rw [show kitB "str" "str" = some true from by decide +kernel]; rfl) | (rw [show kitB "list" "str" = some false from by decide +kernel]; rfl) | (rw [show kitB "tuple" "str" = some false from by decide +kernel]; rfl))
@[simp] theorem dIsi_tuple (d : D) : dIsi "tuple" d = some (.bool (qTup d)) := by
  cases d <;> (unfold dIsi tyN qTup; first | (rw [show kitB "NoneType" "tuple" = some false from by decide +kernel]; rfl) | (rw [show kitB "bool" "tuple" = some false from by decide +kernel]; rfl) | (rw [show kitB "int" "tuple" = some false from by decide +kernel]; rfl) | (rw [show kitB "str" "tuple" = some false from by decide +kernel]; rfl) | (rw [show kitB "list" "tuple" = some false from by decide +kernel]; rfl) | (rw [show kitB "tuple" "tuple" = some true from by decide +kernel]; rfl))
@[simp] theorem dIsi_list (d : D) : dIsi "list" d = some (.bool (qLst d)) := by
  cases d <;> (unfold dIsi tyN qLst; first | (rw [show kitB "NoneType" "list" = some false from by decide +kernel]; rfl) | (rw [show kitB "bool" "list" = some false from by decide +kernel]; rfl) | (rw [show kitB "int" "list" = some false from by decide +kernel]; rfl) | (rw [show kitB "str" "list" = some false from by decide +kernel]; rfl) | (rw [show kitB "list" "list" = some true from by decide +kernel]; rfl) | (rw [show kitB "tuple" "list" = some false from by decide +kernel]; rfl))
/-! ### texts as lists of code points -/
def tx (l : List Nat) : Str := ⟨l.toArray⟩
@[simp] theorem tx_len (l : List Nat) : (tx l).length = l.length := by simp [tx, Str.length]
@[simp] theorem tx_cps (l : List Nat) : (tx l).cps.toList = l := by simp [tx]
theorem tx_of (s : Str) : s = tx s.cps.toList := by simp [tx]
theorem tx_inj {a b : List Nat} (h : tx a = tx b) : a = b := by
  have := congrArg (fun s : Str => s.cps.toList) h
  simpa using this
@[simp] theorem tx_eq {a b : List Nat} : tx a = tx b ↔ a = b := ⟨tx_inj, fun h => by rw [h]⟩
@[simp] theorem tx_beq (a b : List Nat) : (tx a == tx b) = (a == b) := by
  rw [Bool.eq_iff_iff]; simp
@[simp] theorem tx_app (a b : List Nat) : tx a ++ tx b = tx (a ++ b) := by
  show (⟨(tx a).cps ++ (tx b).cps⟩ : Str) = _
  simp [tx]
/-- a text as a datum -/
abbrev sD (l : List Nat) : D := .str (tx l)
@[simp] theorem dAdd_str {a b : List Nat} (h : a.length + b.length ≤ sizeLine) : dAdd (sD a) (sD b) = some (sD (a ++ b)) := by
  show (if (tx a).length + (tx b).length ≤ sizeLine then some (PyData.str (tx a ++ tx b)) else none) = _
  rw [tx_len, tx_len, if_pos h, tx_app]
@[simp] theorem tx_cut (l : List Nat) (lo hi : Option Int) : cutS (tx l) lo hi = tx (cutL l lo hi) := by
  unfold cutS cutL
  simp [tx, Str.length]
theorem tx_mul (l : List Nat) (n : Int) : Txt.mul (tx l) n = tx (List.replicate n.toNat l).flatten := by
  unfold Txt.mul
  by_cases h : n < 1
  · rw [if_pos h, show n.toNat = 0 by omega]; rfl
  · rw [if_neg h]
    split
    · rename_i h2
      rw [Bool.or_eq_true] at h2
      rcases h2 with h2 | h2
      · have : n = 1 := by simpa using h2
        subst this
        simp
      · have : l = [] := by simpa using h2
        subst this
        simp
    · have key : ∀ (m : Nat) (acc : List Nat), (List.replicate m l.toArray).foldl (· ++ ·) acc.toArray = (acc ++ (List.replicate m l).flatten).toArray := by
        intro m
        induction m with
        | zero => intro acc; simp
        | succ m ih =>
          intro acc
          rw [List.replicate_succ, List.foldl_cons, List.replicate_succ, List.flatten_cons, ← List.append_assoc, ← ih]
          simp
      have := key n.toNat []
      rw [List.nil_append] at this
      show (⟨(List.replicate n.toNat l.toArray).foldl (· ++ ·) #[]⟩ : Str) = _
      rw [this]; rfl
theorem abc_tx : (Str.ofString "abc") = tx [97, 98, 99] := by decide +kernel
theorem empty_tx : (Str.ofString "") = tx [] := by decide +kernel
theorem ends_tx : (Str.ofString "ends") = tx [101, 110, 100, 115] := by decide +kernel
end PX
/-! Plain mathematics, part 3: cuts, joins, comparisons. -/
namespace PX
open PySem PySem.Spec PyProof.Rows L2
/-! ### cuts -/
section
variable {α : Type}
theorem cutL_nn (l : List α) : cutL l none none = l := by simp [cutL, HT.sIx]
theorem cutL_lo (l : List α) (n : Nat) : cutL l (some (n : Int)) none = l.drop n := by
  unfold cutL
  rw [HT.sIx_nat, HT.sIx_none]
  rw [List.take_of_length_le (by rw [List.length_drop]; omega)]
  by_cases h : n ≤ l.length
  · rw [Nat.min_eq_left h]
  · rw [Nat.min_eq_right (by omega), List.drop_of_length_le (Nat.le_refl _), List.drop_of_length_le (by omega)]
theorem cutL_hi (l : List α) (n : Nat) : cutL l none (some (n : Int)) = l.take n := by
  unfold cutL
  rw [HT.sIx_nat, HT.sIx_none]
  simp
theorem cutL_lohi (l : List α) (m n : Nat) : cutL l (some (m : Int)) (some (n : Int)) = (l.take n).drop m := by
  unfold cutL
  rw [HT.sIx_nat, HT.sIx_nat]
  apply List.ext_getElem?
  intro i
  simp only [List.getElem?_take, List.getElem?_drop]
  by_cases h1 : m ≤ l.length
  · by_cases h2 : n ≤ l.length
    · rw [Nat.min_eq_left h1, Nat.min_eq_left h2]
      by_cases h3 : i < n - m
      · rw [if_pos h3, if_pos (by omega)]
      · rw [if_neg h3, if_neg (by omega)]
    · rw [Nat.min_eq_left h1, Nat.min_eq_right (by omega)]
      by_cases h3 : i < l.length - m
      · rw [if_pos h3, if_pos (by omega)]
      · rw [if_neg h3]
        by_cases h4 : m + i < n
        · rw [if_pos h4, List.getElem?_eq_none (by omega)]
        · rw [if_neg h4]
  · have e : l[m + i]? = none := List.getElem?_eq_none (by omega)
    rw [e]
    by_cases h2 : n ≤ l.length
    · rw [Nat.min_eq_right (by omega : l.length ≤ m), Nat.min_eq_left h2, if_neg (by omega)]
      by_cases h4 : m + i < n
      · rw [if_pos h4]
      · rw [if_neg h4]
    · rw [Nat.min_eq_right (by omega : l.length ≤ m), Nat.min_eq_right (by omega), if_neg (by omega)]
      by_cases h4 : m + i < n
      · rw [if_pos h4]
      · rw [if_neg h4]
end
theorem cutL_i_lo {α : Type} (l : List α) {i : Int} (h : 0 ≤ i) : cutL l (some i) none = l.drop i.toNat := by
  obtain ⟨n, rfl⟩ := Int.eq_ofNat_of_zero_le h
  exact cutL_lo l n
theorem cutL_i_hi {α : Type} (l : List α) {i : Int} (h : 0 ≤ i) : cutL l none (some i) = l.take i.toNat := by
  obtain ⟨n, rfl⟩ := Int.eq_ofNat_of_zero_le h
  exact cutL_hi l n
theorem dCut_s (l : List Nat) (lo hi : Option Int) (h : l.length ≤ sizeLine) : dCut (sD l) lo hi = some (sD (cutL l lo hi)) := by
  show (if (tx l).length ≤ sizeLine then some (PyData.str (cutS (tx l) lo hi)) else none) = _
  rw [tx_len, if_pos h, tx_cut]
theorem dIx_s (l : List Nat) (i : Int) (h : l.length ≤ sizeLine) : dIx (sD l) (.int i) = (atI l i).map fun c => sD [c] := by
  show (if (tx l).length ≤ sizeLine then (atI (tx l).cps.toList i).map fun c => PyData.str ⟨#[c]⟩ else none) = _
  rw [tx_len, if_pos h, tx_cps]; rfl
theorem dLen_s (l : List Nat) (h : l.length ≤ sizeLine) : dLen (sD l) = some (.int l.length) := by
  show (if (tx l).length ≤ sizeLine then some (PyData.int ((tx l).length : Nat)) else none) = _
  rw [tx_len, if_pos h]
theorem signs_tx (l : List Nat) : signs (tx l) = l.map fun c => sD [c] := by
  unfold signs; rw [tx_cps]; rfl
theorem strsD_map (l : List (List Nat)) : strsD (l.map sD) = some (l.map tx) := by
  induction l with
  | nil => rfl
  | cons a r ih =>
    show (strsD (r.map sD)).map _ = _
    rw [ih]; rfl
/-- texts with one between -/
def jn (S : List Nat) : List (List Nat) → List Nat
  | [] => []
  | [p] => p
  | p :: q :: r => p ++ (S ++ jn S (q :: r))
theorem joinG (S : List Nat) : ∀ l : List (List Nat), Txt.join (tx S) (l.map tx) = tx (jn S l) := by
  intro l
  show Builtin.Str.glued (tx S) (l.map tx) = _
  rw [StrLaws.glued_eq_join]
  induction l with
  | nil => rfl
  | cons a r ih =>
    cases r with
    | nil => rfl
    | cons b r =>
      show tx a ++ tx S ++ Str.join (tx S) ((b :: r).map tx) = _
      rw [ih, tx_app, tx_app, List.append_assoc]; rfl
theorem jn0 : ∀ l : List (List Nat), jn [] l = l.flatten
  | [] => rfl
  | [p] => by simp [jn]
  | p :: q :: r => by
    show p ++ ([] ++ jn [] (q :: r)) = _
    rw [jn0 (q :: r)]; simp
theorem join0 (l : List (List Nat)) : Txt.join (tx []) (l.map tx) = tx l.flatten := by rw [joinG, jn0]
theorem len_tx_sum (l : List (List Nat)) : ((l.map tx).map (·.length)).sum = l.flatten.length := by
  rw [List.map_map, List.length_flatten]
  rfl
theorem gJoin0 (l : List (List Nat)) (h : l.flatten.length ≤ 16777216) : gJoin (tx []) (l.map sD) = some (sD l.flatten) := by
  unfold gJoin
  rw [strsD_map]
  show (if ((l.map tx).map (·.length)).sum + (l.map tx).length * (tx []).length ≤ 16777216 then _ else none) = _
  rw [len_tx_sum, tx_len, if_pos (by simpa using h), join0]
theorem gJoinS (S : List Nat) (l : List (List Nat)) (h : l.flatten.length + l.length * S.length ≤ 16777216) : gJoin (tx S) (l.map sD) = some (sD (jn S l)) := by
  unfold gJoin
  rw [strsD_map]
  show (if ((l.map tx).map (·.length)).sum + (l.map tx).length * (tx S).length ≤ 16777216 then _ else none) = _
  rw [len_tx_sum, tx_len, if_pos (by simpa using h), joinG]
theorem flat1 (l : List Nat) : (l.map fun c => [c]).flatten = l := by induction l with
  | nil => rfl
  | cons a r ih => simp [ih]
theorem gJoin1 (l : List Nat) (h : l.length ≤ 16777216) : gJoin (tx []) (l.map fun c => sD [c]) = some (sD l) := by
  have := gJoin0 (l.map fun c => [c]) (by rw [flat1]; exact h)
  rw [List.map_map, flat1] at this
  exact this
theorem dIn_s (neg : Bool) (c : Nat) (l : List Nat) : dIn neg (sD [c]) (sD l) = some (.bool (if neg then !decide (c ∈ l) else decide (c ∈ l))) := by
  have : dIn neg (sD [c]) (sD l) = if (tx [c]).length = 1 then some (PyData.bool (if neg then !decide ((tx [c]).cps.getD 0 0 ∈ (tx l).cps.toList) else decide ((tx [c]).cps.getD 0 0 ∈ (tx l).cps.toList))) else none := rfl
  rw [this, tx_len, tx_cps]; rfl
@[simp] theorem dIn_sF (c : Nat) (l : List Nat) : dIn false (sD [c]) (sD l) = some (.bool (decide (c ∈ l))) := dIn_s false c l
@[simp] theorem dIn_sT (c : Nat) (l : List Nat) : dIn true (sD [c]) (sD l) = some (.bool (!decide (c ∈ l))) := dIn_s true c l
/-! ### plain data, and comparing -/
/-- plain, of so many levels -/
def pl (n : Nat) (d : D) : Prop := d.canLay0 = true ∧ d.depth ≤ n
theorem pl_none (n : Nat) : pl n .none := ⟨rfl, Nat.zero_le _⟩
theorem pl_bool (n : Nat) (b : Bool) : pl n (.bool b) := ⟨rfl, Nat.zero_le _⟩
theorem pl_int (n : Nat) (i : Int) : pl n (.int i) := ⟨rfl, Nat.zero_le _⟩
/-- letters and signs that a text may hold -/
def pt (l : List Nat) : Prop := ∀ c ∈ l, c < 55296
theorem canLayAll_of {l : List D} (h : ∀ d ∈ l, d.canLay0 = true) : PyData.canLayAll0 l = true := by
  induction l with
  | nil => rfl
  | cons a r ih => simp only [PyData.canLayAll0, h a List.mem_cons_self, ih fun d hd => h d (List.mem_cons_of_mem _ hd), Bool.and_self]
theorem depthAll_of {n : Nat} {l : List D} (h : ∀ d ∈ l, d.depth ≤ n) : PyData.depthAll l ≤ n := by
  induction l with
  | nil => exact Nat.zero_le _
  | cons a r ih => simp only [PyData.depthAll]; exact Nat.max_le.mpr ⟨h a List.mem_cons_self, ih fun d hd => h d (List.mem_cons_of_mem _ hd)⟩
theorem pl_list {n : Nat} {l : List D} (h : ∀ d ∈ l, pl n d) : pl (n + 1) (.list l) := by
  constructor
  · simp only [PyData.canLay0]; exact canLayAll_of fun d hd => (h d hd).1
  · simp only [PyData.depth]; exact Nat.succ_le_succ (depthAll_of fun d hd => (h d hd).2)
theorem pl_tup {n : Nat} {l : List D} (h : ∀ d ∈ l, pl n d) : pl (n + 1) (.tuple l) := by
  constructor
  · simp only [PyData.canLay0]; exact canLayAll_of fun d hd => (h d hd).1
  · simp only [PyData.depth]; exact Nat.succ_le_succ (depthAll_of fun d hd => (h d hd).2)
theorem pl_mono {m n : Nat} {d : D} (h : pl m d) (e : m ≤ n) : pl n d := ⟨h.1, Nat.le_trans h.2 e⟩
theorem shaped_of {n : Nat} {d : D} (h : pl n d) (hn : n ≤ 64) : SeqAt.shaped d = true := by
  unfold SeqAt.shaped
  rw [h.1, Bool.true_and]
  exact decide_eq_true (Nat.le_trans h.2 hn)
mutual
theorem eqv_self : ∀ d : D, d.canLay0 = true → PyData.eqv d d = true
  | .none, _ => by simp only [PyData.eqv]
  | .bool b, _ => by simp [PyData.eqv]
  | .int i, _ => by simp [PyData.eqv]
  | .str z, _ => by simp [PyData.eqv]
  | .list l, h => by
    simp only [PyData.canLay0] at h
    simp only [PyData.eqv]
    exact eqvAll_self l h
  | .tuple l, h => by
    simp only [PyData.canLay0] at h
    simp only [PyData.eqv]
    exact eqvAll_self l h
  | .dict _, h => by simp [PyData.canLay0] at h
theorem eqvAll_self : ∀ l : List D, PyData.canLayAll0 l = true → PyData.eqvAll l l = true
  | [], _ => rfl
  | x :: xs, h => by
    simp only [PyData.canLayAll0, Bool.and_eq_true] at h
    simp only [PyData.eqvAll, eqv_self x h.1, eqvAll_self xs h.2, Bool.and_self]
end
theorem eqOk_of {n : Nat} {d e : D} (h : pl n d) (h' : pl n e) (hn : n ≤ 64) : eqOk d e = true := by
  unfold eqOk
  rw [shaped_of h hn, shaped_of h' hn]; simp
theorem dEq_self {n : Nat} {d : D} (h : pl n d) (hn : n ≤ 64) : dEq d d = some (.bool true) := by
  unfold dEq
  rw [if_pos (eqOk_of h h hn), eqv_self d h.1]
theorem dNe_self {n : Nat} {d : D} (h : pl n d) (hn : n ≤ 64) : dNe d d = some (.bool false) := by
  unfold dNe
  rw [if_pos (eqOk_of h h hn), eqv_self d h.1]; rfl
theorem dEq_pl {n : Nat} {d e : D} (h : pl n d) (h' : pl n e) (hn : n ≤ 64) : dEq d e = some (.bool (PyData.eqv d e)) := by
  unfold dEq
  rw [if_pos (eqOk_of h h' hn)]
theorem dNe_pl {n : Nat} {d e : D} (h : pl n d) (h' : pl n e) (hn : n ≤ 64) : dNe d e = some (.bool (!PyData.eqv d e)) := by
  unfold dNe
  rw [if_pos (eqOk_of h h' hn)]
/-! ranges -/
theorem gR1_nat (n : Nat) (h : n < 4611686018427387904) : gR1 (.int (n : Int)) = some ((List.range n).map fun (i : Nat) => .int (i : Int)) := by
  have hs : small (n : Int) = true := decide_eq_true (by rw [Int.natAbs_natCast]; exact Nat.le_of_lt_succ h)
  show (if small (n : Int) = true then some (rangeD 0 (n : Int).toNat) else none) = _
  rw [if_pos hs]
  refine congrArg some ?_
  unfold rangeD
  rw [Int.toNat_natCast]
  exact List.map_congr_left fun i _ => by rw [Int.zero_add]
theorem gR2_nat (m n : Nat) (h : m < 4611686018427387904) (h' : n < 4611686018427387904) : gR2 (.int (m : Int)) (.int (n : Int)) = some ((List.range (n - m)).map fun (i : Nat) => .int ((m + i : Nat) : Int)) := by
  have hs : small (m : Int) = true := decide_eq_true (by rw [Int.natAbs_natCast]; exact Nat.le_of_lt_succ h)
  have hs' : small (n : Int) = true := decide_eq_true (by rw [Int.natAbs_natCast]; exact Nat.le_of_lt_succ h')
  show (if small (m : Int) = true ∧ small (n : Int) = true then some (rangeD (m : Int) ((n : Int) - (m : Int)).toNat) else none) = _
  rw [if_pos ⟨hs, hs'⟩]
  refine congrArg some ?_
  unfold rangeD
  have : ((n : Int) - (m : Int)).toNat = n - m := by omega
  rw [this]
  simp
/-! numbers -/
@[simp] theorem dDiv_p (i : Int) {j : Int} (h : 0 < j) (h' : j < 1073741824) : dDiv (.int i) (.int j) = some (.int (i / j)) := by
  show (if cDiv i j = true then some (PyData.int (i.fdiv j)) else none) = _
  rw [if_pos (by unfold cDiv; rw [Bool.and_eq_true]; exact ⟨decide_eq_true (by omega), decide_eq_true (by omega)⟩), Int.fdiv_eq_ediv_of_nonneg _ (by omega)]
@[simp] theorem dMod_p (i : Int) {j : Int} (h : 0 < j) : dMod (.int i) (.int j) = some (.int (i % j)) := by
  show (if cMod i j = true then some (PyData.int (i.fmod j)) else none) = _
  rw [if_pos (by unfold cMod; exact decide_eq_true (by omega)), Int.fmod_eq_emod_of_nonneg _ (by omega)]
@[simp] theorem dMul_l (i j : Int) (h : i.natAbs < 18446744073709551616) : dMul (.int i) (.int j) = some (.int (i * j)) := by
  show (if cMul i j = true then some (PyData.int (i * j)) else none) = _
  rw [if_pos]
  unfold cMul
  rw [Bool.or_eq_true]
  exact .inl (decide_eq_true h)
@[simp] theorem dMul_r (i j : Int) (h : j.natAbs < 18446744073709551616) : dMul (.int i) (.int j) = some (.int (i * j)) := by
  show (if cMul i j = true then some (PyData.int (i * j)) else none) = _
  rw [if_pos]
  unfold cMul
  rw [Bool.or_eq_true]
  exact .inr (decide_eq_true h)
theorem dMul_s (l : List Nat) (n : Nat) (h1 : n ≤ 1000000) (h2 : l.length * n ≤ 1000000) : dMul (sD l) (.int (n : Int)) = some (sD (List.replicate n l).flatten) := by
  show (if 0 ≤ (n : Int) ∧ (n : Int) ≤ 1000000 ∧ (tx l).length * (n : Int).toNat ≤ 1000000 then some (PyData.str (Txt.mul (tx l) (n : Int))) else none) = _
  rw [if_pos ⟨by omega, by omega, by rw [tx_len]; simpa using h2⟩, tx_mul]; simp
/-! comprehensions over encoded items -/
theorem lcL_en {α : Type} (enc : α → D) {i : Nat} {c : Rho → Res Bool} {e : Rho → Res D} {ρ : Rho} (p : α → Bool) (f : α → D) : ∀ (l : List α) (acc : List D), (∀ d ∈ l, c (ρ.set i (some (.val (enc d)))) = .ok (p d)) → (∀ d ∈ l, p d = true → e (ρ.set i (some (.val (enc d)))) = .ok (f d)) → acc.length + l.length ≤ sizeLine →
    lcL (gSet i) c e ρ (l.map enc) acc = .ok (acc ++ (l.filter p).map f)
  | [], acc, _, _, _ => by simp [lcL]
  | d :: ds, acc, hc, he, hl => by
    have h1 := hc d List.mem_cons_self
    rw [List.map_cons]
    unfold lcL
    simp only [gSet_ap, h1, noer_ok', Res.bind_ok]
    cases hp : p d with
    | true =>
      rw [if_pos rfl, he d List.mem_cons_self hp]
      simp only [noer_ok', Res.bind_ok]
      rw [List.length_cons] at hl
      rw [if_pos (by omega), lcL_en enc p f ds (acc ++ [f d]) (fun d h => hc d (List.mem_cons_of_mem _ h)) (fun d h => he d (List.mem_cons_of_mem _ h)) (by simp; omega)]
      simp [hp]
    | false =>
      rw [if_neg Bool.false_ne_true]
      rw [List.length_cons] at hl
      rw [lcL_en enc p f ds acc (fun d h => hc d (List.mem_cons_of_mem _ h)) (fun d h => he d (List.mem_cons_of_mem _ h)) (by omega)]
      simp [hp]
theorem lcL_enM {α : Type} (enc : α → D) {i : Nat} {e : Rho → Res D} {ρ : Rho} (f : α → D) (l : List α) (acc : List D) (he : ∀ d ∈ l, e (ρ.set i (some (.val (enc d)))) = .ok (f d)) (hl : acc.length + l.length ≤ sizeLine) :
    lcL (gSet i) mYes e ρ (l.map enc) acc = .ok (acc ++ l.map f) := by
  rw [lcL_en enc (fun _ => true) f l acc (fun d _ => rfl) (fun d h _ => he d h) hl, List.filter_eq_self.mpr (fun _ _ => rfl)]
theorem flt_empty {α β : Type} (p : α → Bool) (f : α → β) (l : List α) : ((l.filter p).map f).isEmpty = l.all fun a => !p a := by
  induction l with
  | nil => rfl
  | cons a r ih =>
    rw [List.filter_cons, List.all_cons]
    cases p a with
    | true => rfl
    | false => simpa using ih
theorem all_congr {α : Type} {p q : α → Bool} {l : List α} (h : ∀ a ∈ l, p a = q a) : l.all p = l.all q := by
  induction l with
  | nil => rfl
  | cons a r ih => rw [List.all_cons, List.all_cons, h a List.mem_cons_self, ih fun b hb => h b (List.mem_cons_of_mem _ hb)]
@[simp] theorem dLen_abc : dLen (.str (Str.ofString "abc")) = some (.int 3) := by rw [abc_tx]; exact dLen_s [97, 98, 99] (by decide)
theorem dCut_abc (n : Nat) : dCut (.str (Str.ofString "abc")) none (some (n : Int)) = some (sD ([97, 98, 99].take n)) := by rw [abc_tx, dCut_s [97, 98, 99] none (some (n : Int)) (by decide), cutL_hi]
end PX
/-! Plain mathematics, part 4: rules and rows. -/
namespace PX
open PySem PySem.Spec PyProof.Rows L2
/-- a whole number from low to high -/
def within (d : D) (lo hi : Int) : Bool := match d with
  | .int i => decide (lo ≤ i) && decide (i ≤ hi)
  | _ => false
/-- letters of the first n -/
def okL (n : Nat) (l : List Nat) : Prop := ∀ c ∈ l, 97 ≤ c ∧ c < 97 + n
theorem okL_nil (n : Nat) : okL n [] := fun _ h => nomatch h
theorem okL_app {n : Nat} {a b : List Nat} : okL n (a ++ b) ↔ okL n a ∧ okL n b := by
  constructor
  · intro h
    exact ⟨fun c hc => h c (List.mem_append_left _ hc), fun c hc => h c (List.mem_append_right _ hc)⟩
  · intro ⟨h, h'⟩ c hc
    rcases List.mem_append.mp hc with hc | hc
    · exact h c hc
    · exact h' c hc
theorem okL_drop {n k : Nat} {a : List Nat} (h : okL n a) : okL n (a.drop k) := fun c hc => h c (List.mem_of_mem_drop hc)
theorem okL_take {n k : Nat} {a : List Nat} (h : okL n a) : okL n (a.take k) := fun c hc => h c (List.mem_of_mem_take hc)
theorem okL_cons {n c : Nat} {a : List Nat} : okL n (c :: a) ↔ (97 ≤ c ∧ c < 97 + n) ∧ okL n a := by
  constructor
  · intro h; exact ⟨h c List.mem_cons_self, fun d hd => h d (List.mem_cons_of_mem _ hd)⟩
  · intro ⟨h, h'⟩ d hd
    rcases List.mem_cons.mp hd with rfl | hd
    · exact h
    · exact h' d hd
theorem okL_mono {m n : Nat} {a : List Nat} (h : okL m a) (e : m ≤ n) : okL n a := fun c hc => ⟨(h c hc).1, by have := (h c hc).2; omega⟩
theorem okL_rep {n k : Nat} {a : List Nat} (h : okL n a) : okL n (List.replicate k a).flatten := by
  intro c hc
  obtain ⟨b, hb, hc⟩ := List.mem_flatten.mp hc
  rw [(List.mem_replicate.mp hb).2] at hc
  exact h c hc
theorem okL_pt {n : Nat} {a : List Nat} (h : okL n a) (hn : n ≤ 3) : pt a := fun c hc => by have := (h c hc).2; omega
abbrev lets : List Nat := [97, 98, 99]
theorem mem_lets (n c : Nat) (h : n ≤ 3) : c ∈ lets.take n ↔ 97 ≤ c ∧ c < 97 + n := by
  match n, h with
  | 0, _ => simp
  | 1, _ => simp [lets]; omega
  | 2, _ => simp [lets]; omega
  | 3, _ => simp [lets]; omega
/-- a word of the first n letters, up to so long -/
def isWord (n : Nat) (d : D) (most : Nat) : Bool := match d with
  | .str s => decide (s.length ≤ most) && s.cps.toList.all fun c => decide (97 ≤ c) && decide (c < 97 + n)
  | _ => false
theorem isWord_s (n : Nat) (l : List Nat) (most : Nat) : isWord n (sD l) most = (decide (l.length ≤ most) && l.all fun c => decide (97 ≤ c) && decide (c < 97 + n)) := by
  show (decide ((tx l).length ≤ most) && (tx l).cps.toList.all _) = _
  rw [tx_len, tx_cps]
theorem isWord_ok {n : Nat} {l : List Nat} {most : Nat} (h : okL n l) (h' : l.length ≤ most) : isWord n (sD l) most = true := by
  rw [isWord_s, Bool.and_eq_true]
  refine ⟨decide_eq_true h', List.all_eq_true.mpr fun c hc => ?_⟩
  rw [Bool.and_eq_true]
  exact ⟨decide_eq_true (h c hc).1, decide_eq_true (h c hc).2⟩
theorem isWord_iff {n : Nat} {d : D} {most : Nat} (h : isWord n d most = true) : ∃ l, d = sD l ∧ okL n l ∧ l.length ≤ most := by
  match d, h with
  | .str s, h =>
    rw [tx_of s] at h ⊢
    refine ⟨_, rfl, ?_⟩
    have h : isWord n (sD s.cps.toList) most = true := h
    rw [isWord_s, Bool.and_eq_true] at h
    refine ⟨fun c hc => ?_, of_decide_eq_true h.1⟩
    have := List.all_eq_true.mp h.2 c hc
    rw [Bool.and_eq_true] at this
    exact ⟨of_decide_eq_true this.1, of_decide_eq_true this.2⟩
/-- rules: how much is cut, and the letters' words -/
structure Ru where
  cut : Nat
  ws : List (Option (List Nat))
deriving DecidableEq
def oD : Option (List Nat) → D
  | none => .none
  | some w => sD w
def ruD (R : Ru) : D := .tuple [.int R.cut, .tuple (R.ws.map oD)]
def Ru.n (R : Ru) : Nat := R.ws.length
structure okR (R : Ru) : Prop where
  c1 : 1 ≤ R.cut
  c3 : R.cut ≤ 3
  n1 : 1 ≤ R.ws.length
  n3 : R.ws.length ≤ 3
  w : ∀ w, some w ∈ R.ws → okL R.ws.length w ∧ w.length ≤ 4
def isWd (n : Nat) (w : D) : Bool := match w with
  | .none => true
  | w => isWord n w 4
def isRules (d : D) : Bool := match d with
  | .tuple [c, .tuple ws] => within c 1 3 && (decide (1 ≤ ws.length) && decide (ws.length ≤ 3)) && ws.all (isWd ws.length)
  | _ => false
theorem isRules_ok {R : Ru} (h : okR R) : isRules (ruD R) = true := by
  have h0 : within (.int (R.cut : Int)) 1 3 = true := by
    show (decide ((1 : Int) ≤ (R.cut : Int)) && decide ((R.cut : Int) ≤ 3)) = true
    rw [Bool.and_eq_true]
    exact ⟨decide_eq_true (by have := h.c1; omega), decide_eq_true (by have := h.c3; omega)⟩
  show (within (.int (R.cut : Int)) 1 3 && (decide (1 ≤ (R.ws.map oD).length) && decide ((R.ws.map oD).length ≤ 3)) && (R.ws.map oD).all _) = true
  rw [h0, List.length_map, Bool.and_eq_true, Bool.and_eq_true, Bool.and_eq_true]
  refine ⟨⟨rfl, decide_eq_true h.n1, decide_eq_true h.n3⟩, List.all_eq_true.mpr fun d hd => ?_⟩
  obtain ⟨o, ho, rfl⟩ := List.mem_map.mp hd
  cases o with
  | none => rfl
  | some w => exact isWord_ok (h.w w ho).1 (h.w w ho).2
/-- what rules are -/
theorem isRules_iff {d : D} (h : isRules d = true) : ∃ R, d = ruD R ∧ okR R := by
  unfold isRules at h
  split at h
  · rename_i c ws
    rw [Bool.and_eq_true, Bool.and_eq_true, Bool.and_eq_true] at h
    obtain ⟨⟨h1, h2, h3⟩, h4⟩ := h
    have h2 := of_decide_eq_true h2
    have h3 := of_decide_eq_true h3
    have h4 := List.all_eq_true.mp h4
    match c, h1 with
    | .int i, h1 =>
      have h1 := Bool.and_eq_true_iff.mp h1
      have a1 := of_decide_eq_true h1.1
      have a2 := of_decide_eq_true h1.2
      have key : ∀ (n : Nat) (ws : List D), (∀ x ∈ ws, isWd n x = true) → ∃ os : List (Option (List Nat)), ws = os.map oD ∧ ∀ w, some w ∈ os → okL n w ∧ w.length ≤ 4 := by
        intro n ws
        induction ws with
        | nil => exact fun _ => ⟨[], rfl, fun _ h => nomatch h⟩
        | cons x xs ih =>
          intro hh
          obtain ⟨os, e1, e2⟩ := ih fun y hy => hh y (List.mem_cons_of_mem _ hy)
          have hx := hh x List.mem_cons_self
          by_cases hn : x = .none
          · subst hn
            refine ⟨none :: os, by rw [e1]; rfl, fun w hw => ?_⟩
            rcases List.mem_cons.mp hw with hw | hw
            · cases hw
            · exact e2 w hw
          · have hx : isWord n x 4 = true := by
              cases x <;> first | exact hx | exact absurd rfl hn
            obtain ⟨l, rfl, h5, h6⟩ := isWord_iff hx
            refine ⟨some l :: os, by rw [e1]; rfl, fun w hw => ?_⟩
            rcases List.mem_cons.mp hw with hw | hw
            · cases hw; exact ⟨h5, h6⟩
            · exact e2 w hw
      obtain ⟨os, rfl, h5⟩ := key _ ws h4
      refine ⟨⟨i.toNat, os⟩, ?_, ?_⟩
      · show _ = PyData.tuple [.int (i.toNat : Int), _]
        rw [Int.toNat_of_nonneg (by omega)]
      · rw [List.length_map] at h2 h3 h5
        exact ⟨by show 1 ≤ i.toNat; omega, by show i.toNat ≤ 3; omega, h2, h3, h5⟩
  · cases h
theorem ruD_inj {R S : Ru} (h : ruD R = ruD S) : R = S := by
  have oi : ∀ a b : Option (List Nat), oD a = oD b → a = b := by
    intro a b e
    cases a <;> cases b
    · rfl
    · cases e
    · cases e
    · exact congrArg some (tx_inj (PyData.str.inj e))
  obtain ⟨c, ws⟩ := R
  obtain ⟨c', ws'⟩ := S
  have h1 := PyData.tuple.inj h
  have h2 := List.cons.inj h1
  have h3 := List.cons.inj h2.2
  have e1 : c = c' := Int.ofNat.inj (PyData.int.inj h2.1)
  have e2 : ws.map oD = ws'.map oD := PyData.tuple.inj h3.1
  have e3 : ws = ws' := by
    clear h h1 h2 h3
    induction ws generalizing ws' with
    | nil => cases ws' with
      | nil => rfl
      | cons _ _ => cases e2
    | cons a r ih => cases ws' with
      | nil => cases e2
      | cons b s =>
        have := List.cons.inj e2
        rw [oi _ _ this.1, ih s this.2]
  rw [e1, e3]
/-- a letter's word -/
def wordO (R : Ru) (c : Nat) : Option (List Nat) := (R.ws[c - 97]?).join
/-- what comes of a row -/
def stepO (R : Ru) (r : List Nat) : Option (List Nat) := if r.length < R.cut then none else match r with
  | [] => none
  | c :: _ => (wordO R c).map (r.drop R.cut ++ ·)
/-- behind so many cuts -/
def itO (R : Ru) : Nat → List Nat → Option (List Nat)
  | 0, r => some r
  | n + 1, r => (stepO R r).bind (itO R n)
/-- the course -/
def crs (R : Ru) : Nat → List Nat → List (List Nat)
  | 0, r => [r]
  | n + 1, r => r :: match stepO R r with
    | none => []
    | some q => crs R n q
theorem wordO_ok {R : Ru} {c : Nat} {w : List Nat} (ok : okR R) (h : wordO R c = some w) : okL R.ws.length w ∧ w.length ≤ 4 := by
  unfold wordO at h
  cases e : R.ws[c - 97]? with
  | none => rw [e] at h; cases h
  | some o =>
    rw [e] at h
    have h : o = some w := h
    rw [h] at e
    exact ok.w w (List.mem_of_getElem? e)
theorem stepO_some {R : Ru} {r q : List Nat} (h : stepO R r = some q) : R.cut ≤ r.length ∧ ∃ c t w, r = c :: t ∧ wordO R c = some w ∧ q = r.drop R.cut ++ w := by
  unfold stepO at h
  by_cases hl : r.length < R.cut
  · rw [if_pos hl] at h; cases h
  · rw [if_neg hl] at h
    refine ⟨by omega, ?_⟩
    cases r with
    | nil => cases h
    | cons c t =>
      have h : (wordO R c).map _ = some q := h
      cases e : wordO R c with
      | none => rw [e] at h; cases h
      | some w =>
        rw [e] at h
        exact ⟨c, t, w, rfl, e, (Option.some.inj h).symm⟩
theorem stepO_ok {R : Ru} {r q : List Nat} (ok : okR R) (hr : okL R.ws.length r) (h : stepO R r = some q) : okL R.ws.length q := by
  obtain ⟨_, c, t, w, rfl, hw, rfl⟩ := stepO_some h
  exact okL_app.mpr ⟨okL_drop hr, (wordO_ok ok hw).1⟩
theorem stepO_len {R : Ru} {r q : List Nat} (ok : okR R) (h : stepO R r = some q) : q.length ≤ r.length + 3 := by
  obtain ⟨_, c, t, w, rfl, hw, rfl⟩ := stepO_some h
  have := (wordO_ok ok hw).2
  have := ok.c1
  rw [List.length_append, List.length_drop]
  have : (c :: t).length = t.length + 1 := rfl
  omega
/-- a row that may be met: letters, and not too long -/
def okW (R : Ru) (B : Nat) (r : List Nat) : Prop := okL R.ws.length r ∧ r.length ≤ B
theorem okW_step {R : Ru} {B : Nat} {r q : List Nat} (ok : okR R) (hr : okW R B r) (h : stepO R r = some q) : okW R (B + 3) q := ⟨stepO_ok ok hr.1 h, by have := stepO_len ok h; have := hr.2; omega⟩
theorem crs_ok {R : Ru} (ok : okR R) : ∀ (n B : Nat) (r : List Nat), okW R B r → ∀ q ∈ crs R n r, okW R (B + 3 * n) q
  | 0, B, r, h, q, hq => by
    rw [List.mem_singleton.mp hq]; exact h
  | n + 1, B, r, h, q, hq => by
    rcases List.mem_cons.mp hq with rfl | hq
    · exact ⟨h.1, by have := h.2; omega⟩
    · cases e : stepO R r with
      | none => rw [e] at hq; cases hq
      | some p =>
        rw [e] at hq
        have := crs_ok ok n (B + 3) p (okW_step ok h e) q hq
        exact ⟨this.1, by have := this.2; omega⟩
theorem crs_len (R : Ru) : ∀ (n : Nat) (r : List Nat), (crs R n r).length ≤ n + 1
  | 0, _ => Nat.le_refl _
  | n + 1, r => by
    show (r :: _).length ≤ _
    cases e : stepO R r with
    | none => simp
    | some q => have := crs_len R n q; simp; omega
theorem itO_ok {R : Ru} (ok : okR R) : ∀ (n B : Nat) (r q : List Nat), okW R B r → itO R n r = some q → okW R (B + 3 * n) q
  | 0, B, r, q, h, e => by cases e; exact h
  | n + 1, B, r, q, h, e => by
    have e : (stepO R r).bind (itO R n) = some q := e
    cases s : stepO R r with
    | none => rw [s] at e; cases e
    | some p =>
      rw [s] at e
      have := itO_ok ok n (B + 3) p q (okW_step ok h s) e
      exact ⟨this.1, by have := this.2; omega⟩
/-- the course's rows, one by one -/
theorem crs_get (R : Ru) : ∀ (n i : Nat) (r : List Nat), i ≤ n → (crs R n r)[i]? = itO R i r
  | 0, 0, r, _ => rfl
  | n + 1, 0, r, _ => rfl
  | n + 1, i + 1, r, h => by
    show (r :: _)[i + 1]? = (stepO R r).bind (itO R i)
    rw [List.getElem?_cons_succ]
    cases e : stepO R r with
    | none => rfl
    | some q => exact crs_get R n i q (by omega)
theorem itO_add (R : Ru) : ∀ (m n : Nat) (r : List Nat), itO R (m + n) r = (itO R m r).bind (itO R n)
  | 0, n, r => by rw [Nat.zero_add]; rfl
  | m + 1, n, r => by
    rw [Nat.add_right_comm]
    show (stepO R r).bind (itO R (m + n)) = ((stepO R r).bind (itO R m)).bind (itO R n)
    cases stepO R r with
    | none => rfl
    | some q => exact itO_add R m n q
theorem crs_full (R : Ru) : ∀ (n : Nat) (r : List Nat), (crs R n r).length = n + 1 ↔ (itO R n r).isSome = true
  | 0, r => by simp [crs, itO]
  | n + 1, r => by
    show (r :: _).length = _ ↔ ((stepO R r).bind (itO R n)).isSome = true
    cases e : stepO R r with
    | none => simp
    | some q =>
      have := crs_full R n q
      rw [List.length_cons, Nat.add_right_cancel_iff]
      exact this
theorem ru_small {R : Ru} (ok : okR R) : ∀ t ws w s, ruD R = .tuple [t, .tuple ws] → w ∈ ws → w = .str s → s.length ≤ sizeLine := by
  intro t ws w s e hw ew
  have e1 := List.cons.inj (PyData.tuple.inj e)
  have e2 : R.ws.map oD = ws := PyData.tuple.inj (List.cons.inj e1.2).1
  rw [← e2] at hw
  obtain ⟨o, ho, e3⟩ := List.mem_map.mp hw
  rw [ew] at e3
  cases o with
  | none => cases e3
  | some w =>
    rw [← PyData.str.inj e3, tx_len]
    exact Nat.le_trans (ok.w w ho).2 (by decide)
theorem let_index {n c : Nat} (hn : n ≤ 3) (h : 97 ≤ c ∧ c < 97 + n) : gSIndex (Str.ofString "abc") [sD [c]] = some (.int ((c - 97 : Nat) : Int)) := by
  have : c = 97 ∨ c = 98 ∨ c = 99 := by omega
  have key : ∀ k i : Nat, Builtin.Str.occurrences (Str.ofString "abc") (tx [k]) 0 (Str.ofString "abc").length 1 = [i] → gSIndex (Str.ofString "abc") [sD [k]] = some (.int (i : Int)) := by
    intro k i e
    show (match Builtin.Str.occurrences (Str.ofString "abc") (tx [k]) 0 (Str.ofString "abc").length 1 with
    | i :: _ => some (PyData.int (i : Nat))
    | [] => none) = _
    rw [e]
  rcases this with rfl | rfl | rfl
  · exact key 97 0 (by decide +kernel)
  · exact key 98 1 (by decide +kernel)
  · exact key 99 2 (by decide +kernel)
@[simp] theorem ru_ix1 (R : Ru) : dIx (ruD R) (.int 1) = some (.tuple (R.ws.map oD)) := by
  show dIx (.tuple _) _ = _
  rw [dIx_tup, atI_1]; rfl
@[simp] theorem ru_ix0 (R : Ru) : dIx (ruD R) (.int 0) = some (.int R.cut) := by
  show dIx (.tuple _) _ = _
  rw [dIx_tup, atI_0]; rfl
theorem ws_at {R : Ru} {c : Nat} (h : 97 ≤ c ∧ c < 97 + R.ws.length) : atI (R.ws.map oD) ((c - 97 : Nat) : Int) = some (oD (wordO R c)) := by
  rw [atI_nat, List.getElem?_map]
  unfold wordO
  have h : c - 97 < R.ws.length := by omega
  rw [List.getElem?_eq_getElem h]
  rfl
@[simp] theorem isN_oD (o : Option (List Nat)) : isN (oD o) = o.isNone := by cases o <;> rfl
theorem crs_last {R : Ru} {n : Nat} {r q : List Nat} (h : itO R n r = some q) : (crs R n r).length = n + 1 ∧ (crs R n r).getLast? = some q := by
  have h1 := (crs_full R n r).mpr (by rw [h]; rfl)
  refine ⟨h1, ?_⟩
  rw [List.getLast?_eq_getElem?, h1, Nat.add_sub_cancel, crs_get R n n r (Nat.le_refl _), h]
theorem crs_short {R : Ru} {n : Nat} {r : List Nat} (h : itO R n r = none) : (crs R n r).length ≤ n := by
  have h1 := crs_len R n r
  have h2 := (crs_full R n r).mp
  rw [h] at h2
  by_cases e : (crs R n r).length = n + 1
  · exact absurd (h2 e) (by decide)
  · omega
theorem pl_s {n : Nat} {l : List Nat} (h : pt l) : pl n (sD l) := by
  refine ⟨?_, Nat.zero_le _⟩
  simp only [PyData.canLay0, PyData.strOk, tx]
  rw [← Array.all_toList]
  exact List.all_eq_true.mpr fun c hc => decide_eq_true (by have := h c hc; omega)
theorem pl_row {m n : Nat} {l : List Nat} (h : okL n l) (hn : n ≤ 3) : pl m (sD l) := pl_s (okL_pt h hn)
theorem pl_rows {m n B : Nat} {R : Ru} (ok : okR R) {l : List (List Nat)} (h : ∀ q ∈ l, okW R B q) : pl (m + 1) (.list (l.map sD)) := by
  refine pl_list fun d hd => ?_
  obtain ⟨q, hq, rfl⟩ := List.mem_map.mp hd
  exact pl_row (h q hq).1 ok.n3
end PX
/-! Plain mathematics, part 5: scripts, seeds. -/
namespace PX
open PySem PySem.Spec PyProof.Rows L2
theorem size_le {n : Nat} (h : n ≤ 1000000) : n ≤ sizeLine := Nat.le_trans h (by decide)
theorem size_lt {n : Nat} (h : n < 1000000) : n < sizeLine := Nat.lt_of_lt_of_le h (by decide)
theorem big_lt {n : Nat} (h : n ≤ 1000000) : n < 4611686018427387904 := Nat.lt_of_le_of_lt h (by decide)
theorem at_mem {α : Type} {l : List α} {i : Int} (h : 0 ≤ i) (h' : i < l.length) : ∃ x, atI l i = some x ∧ x ∈ l := by
  rw [atI_nn _ _ h]
  have : i.toNat < l.length := by omega
  exact ⟨l[i.toNat], List.getElem?_eq_getElem this, List.getElem_mem this⟩
/-- a script, as it is asked -/
structure IsS (d : D) (ns : List Int) : Prop where
  len : dLen d = some (.int ns.length)
  ix : ∀ k : Int, dIx d (.int k) = (atI ns k).map .int
  items : dItems d = some (ns.map .int)
theorem atI_map {α β : Type} (f : α → β) (l : List α) (i : Int) : atI (l.map f) i = (atI l i).map f := by
  unfold atI
  rw [List.length_map]
  cases ixN l.length i with
  | none => rfl
  | some j => exact List.getElem?_map
theorem isS_scr (ns : List Int) : IsS (scr ns) ns := by
  refine ⟨?_, fun k => ?_, ?_⟩
  · show some (PyData.int ((ns.map _).length : Nat)) = _
    rw [List.length_map]
  · show atI ((ns.map fun n => ((PyData.int n, PyData.none) : D × D)).map (·.1)) k = _
    rw [List.map_map, ← atI_map]; rfl
  · show some ((ns.map fun n => ((PyData.int n, PyData.none) : D × D)).map (·.1)) = _
    rw [List.map_map]; rfl
theorem isS_list (ns : List Int) : IsS (.list (ns.map .int)) ns := by
  refine ⟨?_, fun k => ?_, ?_⟩
  · rw [dLen_lst, List.length_map]
  · rw [dIx_lst, atI_map]
  · rfl
/-- the number at a place, or nought -/
def cl (ns : List Int) (k : Int) : Int := if k < ns.length then (atI ns k).getD 0 else 0
/-- another number, of a number and a place -/
def sd (a k : Int) : Int := ((a * 1103515245 + 7919 * k + 12345) % 2147483647) ^ 5 % 2147483647
theorem sd_lo (a k : Int) : 0 ≤ sd a k := Int.emod_nonneg _ (by decide)
theorem sd_hi (a k : Int) : sd a k < 2147483647 := Int.emod_lt_of_pos _ (by decide)
/-- letters by seeds -/
def ltrs (a : Int) (n m : Nat) : List Nat := (List.range m).map fun (k : Nat) => 97 + (sd a k / 97 % n).toNat
theorem ltrs_len (a : Int) (n m : Nat) : (ltrs a n m).length = m := by unfold ltrs; rw [List.length_map, List.length_range]
theorem ltrs_ok (a : Int) (n m : Nat) (h : 1 ≤ n) : okL n (ltrs a n m) := by
  intro c hc
  obtain ⟨k, _, rfl⟩ := List.mem_map.mp hc
  have h1 : 0 ≤ sd a k / 97 % n := Int.emod_nonneg _ (by omega)
  have h2 : sd a k / 97 % n < n := Int.emod_lt_of_pos _ (by omega)
  omega
theorem dPow5 {i : Int} (h : 0 ≤ i) (h' : i < 2147483647) : dPow (.int i) (.int 5) = some (.int (i ^ 5)) := by
  show (if cPow i 5 = true then some (PyData.int (i ^ (5 : Int).toNat)) else none) = _
  rw [if_pos]; rfl
  unfold cPow
  rw [Bool.and_eq_true, Bool.and_eq_true]
  exact ⟨⟨rfl, rfl⟩, decide_eq_true (by omega)⟩
theorem len_rep (n : Nat) (l : List Nat) : (List.replicate n l).flatten.length = n * l.length := by simp
@[simp] theorem dPow5m (x : Int) : dPow (.int (x % 2147483647)) (.int 5) = some (.int ((x % 2147483647) ^ 5)) := dPow5 (Int.emod_nonneg _ (by decide)) (Int.emod_lt_of_pos _ (by decide))
end PX
/-! Plain mathematics, part 6: loops; rows ahead; where courses meet. -/
namespace PX
open PySem PySem.Spec PyProof.Rows L2
section
variable {ρ : Rho} {ma mb : Rho → Res (List D)} {a b : Rho → Res D}
@[simp] theorem mRevL_ap : mRevL ma ρ = (ma ρ).bind fun l => .ok l.reverse := rfl
@[simp] theorem mEnum_ap : mEnum a ρ = (a ρ).bind fun x => (Res.of (dLst x)).bind fun l => .ok (enumD l) := rfl
@[simp] theorem mCatL_ap : mCatL ma mb ρ = (ma ρ).bind fun l => (mb ρ).bind fun m => if l.length + m.length ≤ sizeLine then .ok (l ++ m) else .stk := rfl
@[simp] theorem mSort_ap : mSort ma ρ = (ma ρ).bind fun l => (Res.of (strsD l)).bind fun zs => .ok ((srt zs).map .str) := rfl
@[simp] theorem mLRng1_ap : mLRng1 a ρ = (a ρ).bind fun d => .of (gL1 d) := by unfold mLRng1; cases a ρ <;> rfl
@[simp] theorem mLRng2_ap : mLRng2 a b ρ = (a ρ).bind fun d => (b ρ).bind fun e => .of (gL2 d e) := by unfold mLRng2; cases a ρ <;> rfl
@[simp] theorem mPar_ap {i j : Nat} : mPar i j ma ρ = obind (ma ρ) ρ fun l => match l with
  | [a, b] => .nx ((ρ.set i (some (.val a))).set j (some (.val b)))
  | _ => .stk := rfl
end
theorem gL1_nat (n : Nat) (h : n ≤ 1000000) : gL1 (.int (n : Int)) = some ((List.range n).map fun (i : Nat) => .int (i : Int)) := by
  have hs : small (n : Int) = true := decide_eq_true (by rw [Int.natAbs_natCast]; exact Nat.le_of_lt_succ (big_lt h))
  show (if (n : Int).toNat ≤ 16777216 ∧ small (n : Int) = true then some (rangeD 0 (n : Int).toNat) else none) = _
  rw [if_pos ⟨by rw [Int.toNat_natCast]; omega, hs⟩]
  refine congrArg some ?_
  unfold rangeD
  rw [Int.toNat_natCast]
  exact List.map_congr_left fun i _ => by rw [Int.zero_add]
@[simp] theorem gMax2_int (i j : Int) : gMax2 [.int i, .int j] = some (.int (if i < j then j else i)) := rfl
@[simp] theorem gMin2_int (i j : Int) : gMin2 [.int i, .int j] = some (.int (if j < i then j else i)) := rfl
theorem dAdd_list {a b : List D} (h : a.length + b.length ≤ sizeLine) : dAdd (.list a) (.list b) = some (.list (a ++ b)) := by
  show (if a.length + b.length ≤ sizeLine then some (PyData.list (a ++ b)) else none) = _
  rw [if_pos h]
@[simp] theorem dCut_list (l : List D) (lo hi : Option Int) : dCut (.list l) lo hi = some (.list (cutL l lo hi)) := rfl
@[simp] theorem dCut_tup (l : List D) (lo hi : Option Int) : dCut (.tuple l) lo hi = some (.tuple (cutL l lo hi)) := rfl
/-- a loop that goes on to its end, by its states -/
theorem forL_sim {α β : Type} (enc : α → D) {g : D → Rho → Option Rho} {b : Rho → Out} (st : β → Rho → Prop) (f : β → α → β) : ∀ (l : List α), (∀ a ∈ l, ∀ s ρ, st s ρ → ∃ ρ1 ρ2, g (enc a) ρ = some ρ1 ∧ b ρ1 = .nx ρ2 ∧ st (f s a) ρ2) → ∀ s ρ, st s ρ → ∃ ρ', forL g b (l.map enc) ρ = .nx ρ' ∧ st (l.foldl f s) ρ'
  | [], _, s, ρ, h => ⟨ρ, rfl, h⟩
  | a :: l, hs, s, ρ, h => by
    obtain ⟨ρ1, ρ2, h1, h2, h3⟩ := hs a List.mem_cons_self s ρ h
    obtain ⟨ρ', h4, h5⟩ := forL_sim enc st f l (fun a ha => hs a (List.mem_cons_of_mem _ ha)) (f s a) ρ2 h3
    refine ⟨ρ', ?_, h5⟩
    rw [List.map_cons, forL_consG g b _ _ ρ ρ1 h1, h2]
    exact h4
theorem forL_simN {α β : Type} (enc : α → D) {g : D → Rho → Option Rho} {b : Rho → Out} (st : Nat → β → Rho → Prop) (f : β → α → β) : ∀ (l : List α), (∀ a ∈ l, ∀ n s ρ, st (n + 1) s ρ → ∃ ρ1 ρ2, g (enc a) ρ = some ρ1 ∧ b ρ1 = .nx ρ2 ∧ st n (f s a) ρ2) → ∀ s ρ, st l.length s ρ → ∃ ρ', forL g b (l.map enc) ρ = .nx ρ' ∧ st 0 (l.foldl f s) ρ'
  | [], _, s, ρ, h => ⟨ρ, rfl, h⟩
  | a :: l, hs, s, ρ, h => by
    obtain ⟨ρ1, ρ2, h1, h2, h3⟩ := hs a List.mem_cons_self l.length s ρ h
    obtain ⟨ρ', h4, h5⟩ := forL_simN enc st f l (fun a ha => hs a (List.mem_cons_of_mem _ ha)) (f s a) ρ2 h3
    refine ⟨ρ', ?_, h5⟩
    rw [List.map_cons, forL_consG g b _ _ ρ ρ1 h1, h2]
    exact h4
theorem foldl_app {α β : Type} (g : α → List β) : ∀ (l : List α) (v : List β), l.foldl (fun v t => v ++ g t) v = v ++ l.flatMap g
  | [], v => by simp
  | a :: l, v => by rw [List.foldl_cons, foldl_app g l, List.flatMap_cons, List.append_assoc]
theorem foldl_it {α β : Type} (F : β → β) : ∀ (l : List α) (a : α) (u : β), (a :: l).foldl (fun u _ => F u) u = F (l.foldl (fun u _ => F u) u)
  | [], _, _ => rfl
  | b :: l, a, u => by
    have := foldl_it F l a (F u)
    exact this
theorem mapIdx_map' {α β γ : Type} (f : α → β) (g : Nat → β → γ) (l : List α) : (l.map f).mapIdx g = l.mapIdx fun i a => g i (f a) := by
  apply List.ext_getElem?
  intro i
  simp
  rfl
/-! ### rows in lists -/
theorem flat_rows (l : List (List Nat)) : (l.map sD).all flatD = true := by
  rw [List.all_map]; exact List.all_eq_true.mpr fun _ _ => rfl
theorem eqv_s (a b : List Nat) : PyData.eqv (sD a) (sD b) = (a == b) := by
  show PyData.eqv (.str (tx a)) (.str (tx b)) = _
  simp only [PyData.eqv, tx_beq]
theorem any_rows (r : List Nat) (l : List (List Nat)) : ((l.map sD).any fun z => PyData.eqv z (sD r)) = decide (r ∈ l) := by
  rw [List.any_map, Bool.eq_iff_iff, List.any_eq_true, decide_eq_true_iff]
  constructor
  · rintro ⟨x, hx, e⟩
    have e : (x == r) = true := by rw [← eqv_s]; exact e
    rw [← eq_of_beq e]; exact hx
  · intro h
    exact ⟨r, h, by show PyData.eqv (sD r) (sD r) = true; rw [eqv_s]; exact beq_self_eq_true r⟩
@[simp] theorem dIn_rows (r : List Nat) (l : List (List Nat)) : dIn false (sD r) (.list (l.map sD)) = some (.bool (decide (r ∈ l))) := by
  have hk : inOk (sD r) (l.map sD) = true := by unfold inOk; rw [flat_rows]; rfl
  show (if inOk (sD r) (l.map sD) = true ∨ _ then some (PyData.bool (if false = true then !(l.map sD).any fun z => PyData.eqv z (sD r) else (l.map sD).any fun z => PyData.eqv z (sD r))) else none) = _
  rw [if_pos (.inl hk), any_rows]; rfl
def idxR (r : List Nat) (l : List (List Nat)) : Option Nat := l.findIdx? fun x => x == r
theorem gIndexL_rows (r : List Nat) (l : List (List Nat)) : gIndexL (l.map sD) [sD r] = (idxR r l).map fun (j : Nat) => .int (j : Int) := by
  have hk : inOk (sD r) (l.map sD) = true := by unfold inOk; rw [flat_rows]; rfl
  show (if inOk (sD r) (l.map sD) = true then ((l.map sD).findIdx? fun z => PyData.eqv z (sD r)).map fun (j : Nat) => PyData.int (j : Int) else none) = _
  rw [if_pos hk, List.findIdx?_map]
  unfold idxR
  congr 2
  funext x
  exact eqv_s x r
theorem idxR_mem (r : List Nat) (l : List (List Nat)) : (∃ j, idxR r l = some j) ↔ r ∈ l := by
  unfold idxR
  constructor
  · rintro ⟨j, h⟩
    obtain ⟨hj, h1, _⟩ := List.findIdx?_eq_some_iff_getElem.mp h
    rw [← eq_of_beq h1]; exact List.getElem_mem hj
  · intro h
    cases e : l.findIdx? fun x => x == r with
    | some j => exact ⟨j, rfl⟩
    | none =>
      have := List.findIdx?_eq_none_iff.mp e r h
      simp at this
theorem idxR_get {r : List Nat} {l : List (List Nat)} {j : Nat} (h : idxR r l = some j) : l[j]? = some r := by
  obtain ⟨hj, h1, _⟩ := List.findIdx?_eq_some_iff_getElem.mp h
  rw [List.getElem?_eq_getElem hj, eq_of_beq h1]
/-! ### where two lists of rows meet first -/
def mtO (th : List (List Nat)) : Nat → List (List Nat) → Option (Nat × Nat)
  | _, [] => none
  | i, r :: rest => match idxR r th with
    | some j => some (i, j)
    | none => mtO th (i + 1) rest
def mtD : Option (Nat × Nat) → D
  | none => .none
  | some (i, j) => .tuple [.int (i : Int), .int (j : Int)]
theorem mtO_none (th : List (List Nat)) : ∀ (l : List (List Nat)) (i : Nat), mtO th i l = none ↔ ∀ r ∈ l, r ∉ th
  | [], i => by simp [mtO]
  | r :: rest, i => by
    have ih := mtO_none th rest (i + 1)
    unfold mtO
    cases e : idxR r th with
    | some j =>
      simp only
      constructor
      · intro h; cases h
      · intro h
        exact absurd ((idxR_mem r th).mp ⟨j, e⟩) (h r List.mem_cons_self)
    | none =>
      have hn : r ∉ th := fun hm => by obtain ⟨j, hj⟩ := (idxR_mem r th).mpr hm; rw [e] at hj; cases hj
      simp only
      rw [ih]
      constructor
      · intro h q hq
        rcases List.mem_cons.mp hq with rfl | hq
        · exact hn
        · exact h q hq
      · intro h q hq; exact h q (List.mem_cons_of_mem _ hq)
theorem mtO_some (th : List (List Nat)) : ∀ (l : List (List Nat)) (i k j : Nat), mtO th i l = some (k, j) → i ≤ k ∧ ∃ r, l[k - i]? = some r ∧ th[j]? = some r
  | [], i, k, j, h => by cases h
  | r :: rest, i, k, j, h => by
    unfold mtO at h
    cases e : idxR r th with
    | some j' =>
      rw [e] at h
      have h : some (i, j') = some (k, j) := h
      cases h
      exact ⟨Nat.le_refl _, r, by rw [Nat.sub_self]; rfl, idxR_get e⟩
    | none =>
      rw [e] at h
      obtain ⟨h1, r', h2, h3⟩ := mtO_some th rest (i + 1) k j h
      refine ⟨by omega, r', ?_, h3⟩
      rw [show k - i = (k - (i + 1)) + 1 by omega, List.getElem?_cons_succ]
      exact h2
theorem mtO_sym {a b : List (List Nat)} (h : mtO b 0 a = none) : mtO a 0 b = none := by
  rw [mtO_none] at h ⊢
  exact fun r hr hm => h r hm hr
/-! ### a course behind its rows -/
theorem crs_drop (R : Ru) : ∀ (n i : Nat) (r x : List Nat), i ≤ n → (crs R n r)[i]? = some x → (crs R n r).drop i = crs R (n - i) x
  | n, 0, r, x, _, h => by
    have : r = x := by
      cases n with
      | zero => exact Option.some.inj h
      | succ n => exact Option.some.inj h
    rw [this]; rfl
  | n + 1, i + 1, r, x, hi, h => by
    have h : (r :: match stepO R r with
    | none => []
    | some q => crs R n q)[i + 1]? = some x := h
    rw [List.getElem?_cons_succ] at h
    show (r :: match stepO R r with
    | none => []
    | some q => crs R n q).drop (i + 1) = _
    rw [List.drop_succ_cons, Nat.succ_sub_succ]
    cases e : stepO R r with
    | none => rw [e] at h; cases h
    | some q =>
      rw [e] at h
      exact crs_drop R n i q x (by omega) h
theorem crs_take (R : Ru) : ∀ (m n f : Nat) (x : List Nat), f ≤ (crs R m x).length → f ≤ (crs R n x).length → (crs R m x).take f = (crs R n x).take f
  | _, _, 0, _, _, _ => rfl
  | 0, 0, f + 1, x, _, _ => rfl
  | 0, n + 1, f + 1, x, h, _ => by
    have : f = 0 := by have h : f + 1 ≤ 1 := h; omega
    subst this
    rfl
  | m + 1, 0, f + 1, x, _, h => by
    have : f = 0 := by have h : f + 1 ≤ 1 := h; omega
    subst this
    rfl
  | m + 1, n + 1, f + 1, x, h, h' => by
    show (x :: match stepO R x with
    | none => []
    | some q => crs R m q).take (f + 1) = (x :: match stepO R x with
    | none => []
    | some q => crs R n q).take (f + 1)
    have h : f + 1 ≤ (x :: match stepO R x with
    | none => []
    | some q => crs R m q).length := h
    have h' : f + 1 ≤ (x :: match stepO R x with
    | none => []
    | some q => crs R n q).length := h'
    rw [List.take_succ_cons, List.take_succ_cons]
    cases e : stepO R x with
    | none => rfl
    | some q =>
      rw [e] at h h'
      have h : f + 1 ≤ (crs R m q).length + 1 := h
      have h' : f + 1 ≤ (crs R n q).length + 1 := h'
      rw [crs_take R m n f q (by omega) (by omega)]
theorem crs_0 (R : Ru) (n : Nat) (r : List Nat) : ∃ l, crs R n r = r :: l := by
  cases n with
  | zero => exact ⟨[], rfl⟩
  | succ n => exact ⟨_, rfl⟩
/-! ### rows ahead -/
def letN (n : Nat) : List Nat := lets.take n
/-- all texts of so many letters -/
def tls (n : Nat) : Nat → List (List Nat)
  | 0 => [[]]
  | k + 1 => (tls n k).flatMap fun t => (letN n).map fun c => t ++ [c]
def pre1 (R : Ru) (r : List Nat) (c : Nat) : List (List Nat) := match wordO R c with
  | none => []
  | some w => if r.drop (r.length - w.length) = w then (tls R.ws.length (R.cut - 1)).map fun t => c :: t ++ r.take (r.length - w.length) else []
def pre (R : Ru) (r : List Nat) : List (List Nat) := (letN R.ws.length).flatMap (pre1 R r)
def srtR (l : List (List Nat)) : List (List Nat) := (srt (l.map tx)).map fun s => s.cps.toList
theorem srt_rows (l : List (List Nat)) : (srt (l.map tx)).map PyData.str = (srtR l).map sD := by
  unfold srtR
  rw [List.map_map]
  exact List.map_congr_left fun s _ => congrArg PyData.str (tx_of s)
theorem srtR_perm (l : List (List Nat)) : (srtR l).Perm l := by
  have h := (List.mergeSort_perm (l.map tx) leS).map fun s => s.cps.toList
  rw [List.map_map] at h
  have e : l.map ((fun s : Str => s.cps.toList) ∘ tx) = l := by
    rw [List.map_congr_left (f := (fun s : Str => s.cps.toList) ∘ tx) (g := id) fun a _ => tx_cps a, List.map_id]
  rw [e] at h
  exact h
theorem letN_len (n : Nat) : (letN n).length ≤ 3 := by unfold letN; rw [List.length_take]; exact Nat.min_le_right _ _
theorem letN_ok {n c : Nat} (hn : n ≤ 3) (h : c ∈ letN n) : 97 ≤ c ∧ c < 97 + n := (mem_lets n c hn).mp h
theorem tls_ok {n : Nat} (hn : n ≤ 3) : ∀ k, ∀ t ∈ tls n k, okL n t ∧ t.length = k
  | 0, t, h => by rw [List.mem_singleton.mp h]; exact ⟨okL_nil n, rfl⟩
  | k + 1, t, h => by
    obtain ⟨u, hu, h⟩ := List.mem_flatMap.mp h
    obtain ⟨c, hc, rfl⟩ := List.mem_map.mp h
    obtain ⟨h1, h2⟩ := tls_ok hn k u hu
    exact ⟨okL_app.mpr ⟨h1, okL_cons.mpr ⟨letN_ok hn hc, okL_nil n⟩⟩, by rw [List.length_append, h2]; rfl⟩
theorem len_flatMap_le {α β : Type} {f : α → List β} {k : Nat} : ∀ {l : List α}, (∀ a ∈ l, (f a).length ≤ k) → (l.flatMap f).length ≤ l.length * k
  | [], _ => Nat.zero_le _
  | a :: l, h => by
    rw [List.flatMap_cons, List.length_append, List.length_cons, Nat.succ_mul]
    have := h a List.mem_cons_self
    have := len_flatMap_le (l := l) fun b hb => h b (List.mem_cons_of_mem _ hb)
    omega
theorem tls_len (n : Nat) : ∀ k, (tls n k).length ≤ 3 ^ k
  | 0 => Nat.le_refl _
  | k + 1 => by
    have := len_flatMap_le (f := fun t => (letN n).map fun c => t ++ [c]) (k := 3) (l := tls n k) fun a _ => by rw [List.length_map]; exact letN_len n
    have := tls_len n k
    show ((tls n k).flatMap _).length ≤ _
    rw [Nat.pow_succ]
    exact Nat.le_trans ‹_› (Nat.mul_le_mul_right 3 this)
theorem pre1_ok {R : Ru} (ok : okR R) {B : Nat} {r : List Nat} (h : okW R B r) {c : Nat} (hc : c ∈ letN R.ws.length) : ∀ q ∈ pre1 R r c, okW R (B + 3) q := by
  intro q hq
  unfold pre1 at hq
  cases e : wordO R c with
  | none => rw [e] at hq; cases hq
  | some w =>
    rw [e] at hq
    have hq : q ∈ (if r.drop (r.length - w.length) = w then (tls R.ws.length (R.cut - 1)).map fun t => c :: t ++ r.take (r.length - w.length) else []) := hq
    split at hq
    · obtain ⟨t, ht, rfl⟩ := List.mem_map.mp hq
      obtain ⟨h1, h2⟩ := tls_ok ok.n3 _ t ht
      have := ok.c3
      have := h.2
      refine ⟨okL_app.mpr ⟨okL_cons.mpr ⟨letN_ok ok.n3 hc, h1⟩, okL_take h.1⟩, ?_⟩
      rw [List.length_append, List.length_cons, List.length_take, h2]
      omega
    · cases hq
theorem pre_ok {R : Ru} (ok : okR R) {B : Nat} {r : List Nat} (h : okW R B r) : ∀ q ∈ pre R r, okW R (B + 3) q := by
  intro q hq
  obtain ⟨c, hc, hq⟩ := List.mem_flatMap.mp hq
  exact pre1_ok ok h hc q hq
theorem pre1_len (R : Ru) (r : List Nat) (c : Nat) (h : R.cut ≤ 3) : (pre1 R r c).length ≤ 9 := by
  unfold pre1
  cases wordO R c with
  | none => exact Nat.zero_le _
  | some w =>
    show (if _ then _ else _ : List (List Nat)).length ≤ 9
    split
    · rw [List.length_map]
      exact Nat.le_trans (tls_len _ _) (Nat.pow_le_pow_right (by decide) (by omega : R.cut - 1 ≤ 2))
    · exact Nat.zero_le _
theorem pre_len {R : Ru} (r : List Nat) (h : R.cut ≤ 3) : (pre R r).length ≤ 27 := by
  have h1 := len_flatMap_le (f := pre1 R r) (k := 9) (l := letN R.ws.length) fun c _ => pre1_len R r c h
  have h2 := letN_len R.ws.length
  unfold pre
  omega
def stepN (n : Nat) (u : List (List Nat)) : List (List Nat) := u.flatMap fun t => (letN n).map fun c => t ++ [c]
theorem tls_fold {α : Type} (n c : Nat) : ∀ l : List α, l.foldl (fun u _ => stepN n u) [[c]] = (tls n l.length).map (c :: ·)
  | [] => rfl
  | a :: l => by
    rw [foldl_it (stepN n), tls_fold n c l]
    show stepN n ((tls n l.length).map (c :: ·)) = (stepN n (tls n l.length)).map (c :: ·)
    unfold stepN
    rw [List.flatMap_map, List.map_flatMap]
    congr 1
    funext t
    rw [List.map_map]; rfl
end PX
/-! Plain mathematics, part 7: whole cuts, roots, shares. -/
namespace PX
open PySem PySem.Spec PyProof.Rows L2
/-- a loop that looks for the first item of a kind -/
theorem forL_find {α : Type} (enc : α → D) {i : Nat} {b : Rho → Out} (p : α → Bool) (v : α → D) (f : Rho → Out) (r : Out) : ∀ (l : List α) (ρ : Rho), (∀ a ∈ l, ∀ s, b ((ρ.set i s).set i (some (.val (enc a)))) = if p a = true then .rt (v a) else .nx ((ρ.set i s).set i (some (.val (enc a))))) → (∀ s, f (ρ.set i s) = r) → f ρ = r → (forL (gSet i) b (l.map enc) ρ).thn f = match l.find? p with
    | some a => .rt (v a)
    | none => r
  | [], ρ, _, _, h => h
  | a :: l, ρ, hb, hf, h => by
    have h1 := hb a List.mem_cons_self (some (.val (enc a)))
    rw [List.set_set] at h1
    rw [List.map_cons, forL_cons, h1, List.find?_cons]
    cases hp : p a with
    | true => rfl
    | false =>
      show (forL (gSet i) b (l.map enc) (ρ.set i _)).thn f = _
      exact forL_find enc p v f r l _ (fun c hc s => by have := hb c (List.mem_cons_of_mem _ hc) s; rw [List.set_set] at this ⊢; rw [List.set_set]; exact this) (fun s => by rw [List.set_set]; exact hf s) (hf _)
theorem fm_congr {α β : Type} {f g : α → Option β} : ∀ {l : List α}, (∀ a ∈ l, f a = g a) → l.filterMap f = l.filterMap g
  | [], _ => rfl
  | a :: l, h => by rw [List.filterMap_cons, List.filterMap_cons, h a List.mem_cons_self, fm_congr fun b hb => h b (List.mem_cons_of_mem _ hb)]
/-! ### every k-th -/
def evF : Nat → Nat → List Nat → List Nat
  | 0, _, _ => []
  | _ + 1, _, [] => []
  | n + 1, k, c :: t => c :: evF n k (t.drop (k - 1))
def evr (k : Nat) (l : List Nat) : List Nat := evF l.length k l
def cnt (k n : Nat) : Nat := (n + k - 1) / k
theorem evF_get {k : Nat} (hk : 1 ≤ k) : ∀ (n : Nat) (l : List Nat) (i : Nat), l.length ≤ n → (evF n k l)[i]? = l[i * k]?
  | 0, l, i, h => by
    have : l = [] := List.length_eq_zero_iff.mp (by omega)
    subst this; rfl
  | n + 1, [], i, _ => rfl
  | n + 1, c :: t, 0, _ => by rw [Nat.zero_mul]; rfl
  | n + 1, c :: t, i + 1, h => by
    show (evF n k (t.drop (k - 1)))[i]? = _
    rw [evF_get hk n _ i (by rw [List.length_drop]; have : (c :: t).length = t.length + 1 := rfl; omega), List.getElem?_drop, Nat.succ_mul, show i * k + k = (k - 1 + i * k) + 1 by omega, List.getElem?_cons_succ]
theorem evr_get {k : Nat} (hk : 1 ≤ k) (l : List Nat) (i : Nat) : (evr k l)[i]? = l[i * k]? := evF_get hk _ l i (Nat.le_refl _)
theorem cnt_lt {k n i : Nat} (hk : 1 ≤ k) : i < cnt k n ↔ i * k < n := by
  unfold cnt
  rw [Nat.lt_div_iff_mul_lt hk]
  omega
theorem evr_len {k : Nat} (hk : 1 ≤ k) (l : List Nat) : (evr k l).length = cnt k l.length := by
  apply Nat.le_antisymm
  · apply Nat.le_of_not_lt
    intro h
    have h1 := evr_get hk l (cnt k l.length)
    rw [List.getElem?_eq_getElem h] at h1
    have h2 := (List.getElem?_eq_some_iff.mp h1.symm).1
    have := (cnt_lt (n := l.length) hk).mpr h2
    omega
  · apply Nat.le_of_not_lt
    intro h
    have h1 := evr_get hk l (evr k l).length
    rw [List.getElem?_eq_none (Nat.le_refl _)] at h1
    have h2 := (cnt_lt (n := l.length) hk).mp h
    rw [List.getElem?_eq_getElem h2] at h1
    cases h1
theorem evr_map {k : Nat} (hk : 1 ≤ k) (l : List Nat) : evr k l = (List.range (cnt k l.length)).filterMap fun i => l[i * k]? := by
  have e : (List.range (cnt k l.length)).filterMap (fun i => l[i * k]?) = (List.range (cnt k l.length)).map fun i => l.getD (i * k) 0 := by
    rw [← List.filterMap_eq_map]
    refine fm_congr fun i hi => ?_
    have := (cnt_lt hk).mp (List.mem_range.mp hi)
    simp [List.getD, this]
  rw [e]
  apply List.ext_getElem?
  intro i
  rw [evr_get hk, List.getElem?_map]
  by_cases h : i < cnt k l.length
  · have := (cnt_lt hk).mp h
    rw [List.getElem?_range h]
    simp [List.getD, this]
  · have h2 : ¬ i * k < l.length := fun z => h ((cnt_lt hk).mpr z)
    rw [List.getElem?_eq_none (by omega), List.getElem?_eq_none (by simpa using h)]
    rfl
theorem evr_one (l : List Nat) : evr 1 l = l := by
  apply List.ext_getElem?
  intro i
  rw [evr_get (Nat.le_refl _), Nat.mul_one]
theorem idx_step {k n : Nat} (hk : 1 ≤ k) : Builtin.Str.strSliceIndices none none (k : Int) n = (List.range (cnt k n)).map fun i => i * k := by
  unfold Builtin.Str.strSliceIndices sliceRange
  have h0 : (k : Int) > 0 := by omega
  simp only [h0, if_true]
  have hc : (if (0 : Int) < (n : Int) then ((n : Int) - 0 + k - 1) / k else 0).toNat = cnt k n := by
    unfold cnt
    split
    · have : (n : Int) - 0 + k - 1 = ((n + k - 1 : Nat) : Int) := by omega
      rw [this, ← Int.natCast_ediv, Int.toNat_natCast]
    · have : n = 0 := by omega
      subst this
      rw [Nat.div_eq_of_lt (by omega)]; rfl
  rw [hc]
  apply List.map_congr_left
  intro i _
  rw [Int.zero_add, ← Int.natCast_mul, Int.toNat_natCast, Nat.mul_comm]
theorem stepT_tx {k : Nat} (hk : 1 ≤ k) (l : List Nat) : stepT (tx l) (k : Int) = tx (evr k l) := by
  unfold stepT
  rw [tx_len, idx_step hk]
  split
  · rename_i h
    rw [Bool.and_eq_true] at h
    have : (k : Int) = 1 := eq_of_beq h.1
    have : k = 1 := by omega
    rw [this, evr_one]
  · rw [evr_map hk, List.filterMap_map]
    show _ = (⟨_⟩ : Str)
    congr 2
    refine fm_congr fun i _ => ?_
    simp [tx]
theorem evr_le (k : Nat) (hk : 1 ≤ k) (l : List Nat) : (evr k l).length ≤ l.length := by
  rw [evr_len hk]
  unfold cnt
  by_cases h : l.length = 0
  · rw [h]; rw [Nat.div_eq_of_lt (by omega)]; omega
  · rw [Nat.div_le_iff_le_mul_add_pred (by omega)]
    have := Nat.le_mul_of_pos_left l.length (show 0 < k by omega)
    omega
theorem dStep_s {k : Nat} (hk : 1 ≤ k) (l : List Nat) (h : l.length ≤ sizeLine) : dStep (sD l) (.int (k : Int)) = some (sD (evr k l)) := by
  show (if 0 < (k : Int) ∧ (stepT (tx l) k).length ≤ sizeLine then some (PyData.str (stepT (tx l) k)) else none) = _
  rw [stepT_tx hk, if_pos ⟨by omega, by rw [tx_len]; exact Nat.le_trans (evr_le k hk l) h⟩]
theorem evr_mem {k : Nat} (hk : 1 ≤ k) {l : List Nat} {c : Nat} (h : c ∈ evr k l) : c ∈ l := by
  obtain ⟨i, hi⟩ := List.getElem?_of_mem h
  rw [evr_get hk] at hi
  exact List.mem_of_getElem? hi
/-! ### whole cuts -/
def whole (R : Ru) (w : List Nat) : Bool := decide (w.length % R.cut = 0) && (evr R.cut w).all fun c => (wordO R c).isSome
def told (R : Ru) (w : List Nat) : List Nat := (evr R.cut w).flatMap fun c => (wordO R c).getD []
/-- how many of a part, not empty, a word is -/
def timesO (p w : List Nat) : Option Nat := if w.length % p.length = 0 ∧ (List.replicate (w.length / p.length) p).flatten = w then some (w.length / p.length) else none
def nD : Option Nat → D
  | none => .none
  | some n => .int (n : Int)
@[simp] theorem isN_nD (o : Option Nat) : isN (nD o) = o.isNone := by cases o <;> rfl
def shareO (R : Ru) (p : List Nat) : Option Nat := if p = [] ∨ whole R p = false then none else timesO p (told R p)
theorem told_ok {R : Ru} (ok : okR R) (w : List Nat) : okL R.ws.length (told R w) ∧ (told R w).length ≤ w.length * 4 := by
  unfold told
  have h1 := len_flatMap_le (f := fun c => (wordO R c).getD []) (k := 4) (l := evr R.cut w) fun c _ => by
    cases e : wordO R c with
    | none => exact Nat.zero_le _
    | some w => exact (wordO_ok ok e).2
  have h2 := evr_le R.cut ok.c1 w
  refine ⟨fun d hd => ?_, Nat.le_trans h1 (Nat.mul_le_mul_right 4 h2)⟩
  obtain ⟨c, _, hd⟩ := List.mem_flatMap.mp hd
  cases e : wordO R c with
  | none => rw [e] at hd; cases hd
  | some w => rw [e] at hd; exact (wordO_ok ok e).1 d hd
/-- the root -/
def isRt (w : List Nat) (i : Nat) : Bool := decide (w.length % (1 + i) = 0) && decide ((List.replicate (w.length / (1 + i)) (w.take (1 + i))).flatten = w)
def rtV (w : List Nat) (i : Nat) : List Nat × Nat := (w.take (1 + i), w.length / (1 + i))
def firstV {α β : Type} (p : α → Bool) (v : α → β) (d : β) (l : List α) : β := match l.find? p with
  | some a => v a
  | none => d
def rootO (w : List Nat) : List Nat × Nat := firstV (isRt w) (rtV w) ([], 0) (List.range w.length)
def pnD (p : List Nat × Nat) : D := .tuple [sD p.1, .int (p.2 : Int)]
theorem dMod_n (a b : Nat) (h : 1 ≤ b) : dMod (.int (a : Int)) (.int (b : Int)) = some (.int ((a % b : Nat) : Int)) := by rw [dMod_p _ (by omega)]; rfl
theorem dDiv_n (a b : Nat) (h : 1 ≤ b) (h' : b < 1000000) : dDiv (.int (a : Int)) (.int (b : Int)) = some (.int ((a / b : Nat) : Int)) := by rw [dDiv_p _ (by omega) (by omega)]; rfl
theorem evr_cons {k : Nat} (hk : 1 ≤ k) (c : Nat) (t : List Nat) : evr k (c :: t) = c :: evr k ((c :: t).drop k) := by
  apply List.ext_getElem?
  intro i
  rw [evr_get hk]
  cases i with
  | zero => rw [Nat.zero_mul]; rfl
  | succ i => rw [List.getElem?_cons_succ, evr_get hk, List.getElem?_drop, Nat.succ_mul, Nat.add_comm]
theorem evr_nil (k : Nat) : evr k [] = [] := rfl
/-- cuts through a word of whole cuts -/
theorem it_told {R : Ru} (ok : okR R) : ∀ (k : Nat) (w x : List Nat), w.length = k * R.cut → ((evr R.cut w).all fun c => (wordO R c).isSome) = true → itO R k (w ++ x) = some (x ++ told R w)
  | 0, w, x, h, _ => by
    have : w = [] := List.length_eq_zero_iff.mp (by omega)
    subst this
    show some ([] ++ x) = some (x ++ (evr R.cut []).flatMap _)
    rw [evr_nil]; simp
  | k + 1, [], x, h, _ => by
    have := ok.c1
    rw [Nat.succ_mul] at h
    have h : 0 = k * R.cut + R.cut := h
    omega
  | k + 1, c :: t, x, h, ha => by
    have c1 := ok.c1
    rw [Nat.succ_mul] at h
    have ev := evr_cons c1 c t
    rw [ev, List.all_cons, Bool.and_eq_true] at ha
    obtain ⟨wd, hw⟩ := Option.isSome_iff_exists.mp ha.1
    have hst : stepO R ((c :: t) ++ x) = some ((c :: t).drop R.cut ++ (x ++ wd)) := by
      unfold stepO
      rw [if_neg (by rw [List.length_append]; omega)]
      show (wordO R c).map _ = _
      rw [hw]
      show some (((c :: t) ++ x).drop R.cut ++ wd) = _
      rw [List.drop_append_of_le_length (by omega), List.append_assoc]
    show (stepO R ((c :: t) ++ x)).bind (itO R k) = _
    rw [hst]
    show itO R k _ = _
    rw [it_told ok k ((c :: t).drop R.cut) (x ++ wd) (by rw [List.length_drop]; omega) ha.2, List.append_assoc]
    congr 2
    unfold told
    rw [ev, List.flatMap_cons, hw]; rfl
theorem foldl_rev_find {α β : Type} (p : α → Bool) (v : α → β) (d : β) (l : List α) : l.reverse.foldl (fun s a => if p a = true then v a else s) d = firstV p v d l := by
  rw [List.foldl_reverse]
  unfold firstV
  induction l with
  | nil => rfl
  | cons a l ih =>
    rw [List.foldr_cons, List.find?_cons]
    cases h : p a with
    | true => rfl
    | false => simpa using ih
/-- the root, found without asking first whether it fits -/
def isRt' (w : List Nat) (i : Nat) : Bool := decide ((List.replicate (w.length / (1 + i)) (w.take (1 + i))).flatten = w)
theorem isRt_eq (w : List Nat) {i : Nat} (hi : i < w.length) : isRt' w i = isRt w i := by
  unfold isRt isRt'
  by_cases h : (List.replicate (w.length / (1 + i)) (w.take (1 + i))).flatten = w
  · have h2 := congrArg List.length h
    rw [len_rep, List.length_take, Nat.min_eq_left (by omega)] at h2
    have : w.length % (1 + i) = 0 := by
      rw [← h2]
      exact Nat.mul_mod_left _ _
    rw [decide_eq_true h, decide_eq_true this]; rfl
  · rw [decide_eq_false h, Bool.and_false]
theorem find_congr {α : Type} {p q : α → Bool} : ∀ {l : List α}, (∀ a ∈ l, p a = q a) → l.find? p = l.find? q
  | [], _ => rfl
  | a :: l, h => by rw [List.find?_cons, List.find?_cons, h a List.mem_cons_self, find_congr fun b hb => h b (List.mem_cons_of_mem _ hb)]
theorem firstV_congr {α β : Type} {p q : α → Bool} {v : α → β} {d : β} {l : List α} (h : ∀ a ∈ l, p a = q a) : firstV p v d l = firstV q v d l := by unfold firstV; rw [find_congr h]
/-- words that grow -/
def partsO (R : Ru) (k : Nat) : List (List Nat) := (tls R.ws.length k).filter fun t => (shareO R t).isSome
def prD (R : Ru) (t : List Nat) : D := .tuple [sD t, nD (shareO R t)]
@[simp] theorem mRng3_ap {a b c : Rho → Res D} {ρ : Rho} : mRng3 a b c ρ = (a ρ).bind fun x => (b ρ).bind fun y => (c ρ).bind fun z => .of (gR3 x y z) := by unfold mRng3; cases a ρ <;> rfl
theorem fmc {α β : Type} {f g : α → List β} : ∀ {l : List α}, (∀ a ∈ l, f a = g a) → l.flatMap f = l.flatMap g
  | [], _ => rfl
  | a :: l, h => by rw [List.flatMap_cons, List.flatMap_cons, h a List.mem_cons_self, fmc fun b hb => h b (List.mem_cons_of_mem _ hb)]
theorem tls_fold0 {α : Type} (n : Nat) : ∀ l : List α, l.foldl (fun u _ => stepN n u) [[]] = tls n l.length
  | [] => rfl
  | a :: l => by rw [foldl_it (stepN n), tls_fold0 n l]; rfl
theorem stepN_len (n : Nat) (u : List (List Nat)) : (stepN n u).length ≤ u.length * 3 := len_flatMap_le (f := fun t => (letN n).map fun c => t ++ [c]) (k := 3) (l := u) fun a _ => by rw [List.length_map]; exact letN_len _
theorem stepN_el {n k : Nat} {u : List (List Nat)} (h : ∀ t ∈ u, t.length ≤ k) : ∀ t ∈ stepN n u, t.length ≤ k + 1 := by
  intro t ht
  obtain ⟨v, hv, ht⟩ := List.mem_flatMap.mp ht
  obtain ⟨d, hd, rfl⟩ := List.mem_map.mp ht
  rw [List.length_append]
  exact Nat.succ_le_succ (h v hv)
end PX
/-! Plain mathematics, part 8: what becomes of rows. -/
namespace PX
open PySem PySem.Spec PyProof.Rows L2
section
variable {ρ : Rho} {i : Nat} {a b : Rho → Res D} {f : D → D → Option D}
theorem mDct_ap (kvs : List (Str × D)) (h : ρ[i]? = some (some (.dct kvs))) : mDct i ρ = .ok kvs := by unfold mDct; rw [h]
@[simp] theorem mSetE_ap : mSetE i ρ = .nx (ρ.set i (some (.dct []))) := rfl
@[simp] theorem mDGet_ap : mDGet i a ρ = (mDct i ρ).bind fun kvs => (a ρ).bind fun d => (Res.of (dStr d)).bind fun s => .of (valD kvs s) := rfl
@[simp] theorem mDIn_ap : mDIn i a ρ = (a ρ).bind fun d => (mDct i ρ).bind fun kvs => (Res.of (dStr d)).bind fun s => .ok (valD kvs s).isSome := rfl
@[simp] theorem mDPut_ap : mDPut i a b ρ = obind (b ρ) ρ fun v => obind (mDct i ρ) ρ fun kvs => obind (a ρ) ρ fun d => obind (Res.of (dStr d)) ρ fun s => if kvs.length < sizeLine then .nx (ρ.set i (some (.dct (putD kvs s v)))) else .stk := rfl
@[simp] theorem mDLen_ap : mDLen i ρ = (mDct i ρ).bind fun kvs => .ok (.int kvs.length) := rfl
theorem mAug_ap (d : D) (h : ρ[i]? = some (some (.val d))) : mAug f i a ρ = obind (a ρ) ρ fun y => obind (Res.of (f d y)) ρ fun z => .nx (ρ.set i (some (.val z))) := by
  unfold mAug
  rw [h]
  cases a ρ with
  | ok y =>
    simp only [obind]
    cases f d y <;> rfl
  | er c => rfl
  | stk => rfl
@[simp] theorem dAddI_int (i j : Int) : dAddI (.int i) (.int j) = some (.int (i + j)) := rfl
end
/-- a dict of rows and their places -/
def dctF (o : Nat) (l : List (List Nat)) : List (Str × D) := l.mapIdx fun i r => (tx r, .int ((o + i : Nat) : Int))
theorem dctF_cons (o : Nat) (r : List Nat) (l : List (List Nat)) : dctF o (r :: l) = (tx r, .int (o : Int)) :: dctF (o + 1) l := by
  unfold dctF
  rw [List.mapIdx_cons]
  congr 1
  congr 1
  funext i r
  rw [show o + (i + 1) = o + 1 + i by omega]
theorem valD_dct (r : List Nat) : ∀ (l : List (List Nat)) (o : Nat), valD (dctF o l) (tx r) = (idxR r l).map fun j => .int ((o + j : Nat) : Int)
  | [], o => rfl
  | q :: l, o => by
    rw [dctF_cons]
    by_cases e : q = r
    · subst e
      simp [valD, idxR, List.findIdx?_cons]
    · have h1 : ¬ tx q = tx r := fun z => e (tx_inj z)
      have h2 : (q == r) = false := by simpa using e
      have : valD ((tx q, PyData.int (o : Int)) :: dctF (o + 1) l) (tx r) = valD (dctF (o + 1) l) (tx r) := by simp [valD, h1]
      rw [this, valD_dct r l (o + 1)]
      unfold idxR
      rw [List.findIdx?_cons, h2]
      simp only [Bool.false_eq_true, if_false]
      cases l.findIdx? fun x => x == r with
      | none => rfl
      | some j =>
        show some (PyData.int ((o + 1 + j : Nat) : Int)) = some (PyData.int ((o + (j + 1) : Nat) : Int))
        rw [show o + 1 + j = o + (j + 1) by omega]
theorem putD_dct {r : List Nat} {l : List (List Nat)} (h : idxR r l = none) : putD (dctF 0 l) (tx r) (.int (l.length : Int)) = dctF 0 (l ++ [r]) := by
  have hv := valD_dct r l 0
  rw [h] at hv
  have ha : ((dctF 0 l).any fun kv => decide (kv.1 = tx r)) = false := by
    rw [Bool.eq_false_iff]
    intro z
    obtain ⟨p, hp, e⟩ := List.any_eq_true.mp z
    have hv : valD (dctF 0 l) (tx r) = none := hv
    unfold valD at hv
    cases q : (dctF 0 l).find? fun kv => decide (kv.1 = tx r) with
    | none => exact List.find?_eq_none.mp q p hp e
    | some u => rw [q] at hv; cases hv
  unfold putD
  rw [if_neg (by rw [ha]; decide)]
  unfold dctF
  rw [List.mapIdx_append]
  simp
theorem dctF_len (o : Nat) (l : List (List Nat)) : (dctF o l).length = l.length := by simp [dctF]
/-! ### the part of a row -/
def isPt (R : Ru) (r : List Nat) (i : Nat) : Bool := (timesO (r.take (1 + i)) r).isSome && (shareO R (r.take (1 + i))).isSome
def partO (R : Ru) (r : List Nat) : Option (List Nat × Nat) := firstV (isPt R r) (fun i => some (r.take (1 + i), (shareO R (r.take (1 + i))).getD 0)) none (List.range r.length)
def ptD : Option (List Nat × Nat) → D
  | none => .none
  | some p => pnD p
/-! ### what becomes of a row -/
inductive Fate where
  | ends (n : Nat) (r : List Nat) | round (a b : Nat) | grows (n : Nat) (p : List Nat) (m : Nat) | far (n l : Nat)
def fatD : Fate → D
  | .ends n r => .tuple [.str (Str.ofString "ends"), .int (n : Int), sD r]
  | .round a b => .tuple [.str (Str.ofString "round"), .int (a : Int), .int (b : Int)]
  | .grows n p m => .tuple [.str (Str.ofString "grows"), .int (n : Int), sD p, .int (m : Int)]
  | .far n l => .tuple [.str (Str.ofString "far"), .int (n : Int), .int (l : Int)]
def fateF (R : Ru) : Nat → List (List Nat) → List Nat → Fate
  | 0, seen, r => .far seen.length r.length
  | f + 1, seen, r => if seen.length ≤ 200 ∧ r.length ≤ 120 then (match stepO R r with
      | none => .ends seen.length r
      | some q => match idxR r seen with
        | some j => .round j (seen.length - j)
        | none => match partO R r with
          | some (p, m) => if 1 < m then .grows seen.length p m else fateF R f (seen ++ [r]) q
          | none => fateF R f (seen ++ [r]) q) else .far seen.length r.length
def fateO (R : Ru) (r : List Nat) : Fate := fateF R 203 [] r
end PX
/-! Plain mathematics, part 9. -/
namespace PX
open PySem PySem.Spec PyProof.Rows L2
@[simp] theorem obind_rt_res (r : Res D) (ρ : Rho) : (obind r ρ fun d => .rt d).res = r := by cases r <;> rfl
@[simp] theorem obind_rt_thn (r : Res D) (ρ : Rho) (f : Rho → Out) : (obind r ρ fun d => .rt d).thn f = obind r ρ fun d => .rt d := by cases r <;> rfl
@[simp] theorem mSortedD_ap {i : Nat} {ρ : Rho} : mSortedD i ρ = (mDct i ρ).bind fun kvs => .ok ((srt (kvs.map (·.1))).map .str) := rfl
@[simp] theorem dEq_bool (a b : Bool) : dEq (.bool a) (.bool b) = some (.bool (a == b)) := by
  rw [dEq_pl (pl_bool 0 a) (pl_bool 0 b) (by decide)]
  simp only [PyData.eqv]
@[simp] theorem dNe_bool (a b : Bool) : dNe (.bool a) (.bool b) = some (.bool (!(a == b))) := by
  rw [dNe_pl (pl_bool 0 a) (pl_bool 0 b) (by decide)]
  simp only [PyData.eqv]
theorem ended_tx : (Str.ofString "ended") = tx [101, 110, 100, 101, 100] := by decide +kernel
theorem word_tx : (Str.ofString "word") = tx [119, 111, 114, 100] := by decide +kernel
theorem ne_ended {n : Nat} {q : List Nat} (hn : n ≤ 3) (h : okL n q) : (tx q == Str.ofString "ended") = false := by
  rw [ended_tx, tx_beq, beq_eq_false_iff_ne]
  rintro rfl
  have := (h 101 (by simp)).2
  omega
theorem ne_word {n : Nat} {q : List Nat} (hn : n ≤ 3) (h : okL n q) : (tx q == Str.ofString "word") = false := by
  rw [word_tx, tx_beq, beq_eq_false_iff_ne]
  rintro rfl
  have := (h 119 (by simp)).2
  omega
theorem pl_word {n : Nat} (s : Str) (h : PyData.strOk s = true) : pl n (.str s) := ⟨by simp only [PyData.canLay0]; exact h, Nat.zero_le _⟩
theorem stepO_nil {R : Ru} (ok : okR R) : stepO R [] = none := by
  unfold stepO
  rw [if_pos (show ([] : List Nat).length < R.cut from ok.c1)]
theorem fateO_nil {R : Ru} (ok : okR R) : fateO R [] = .ends 0 [] := by
  unfold fateO
  show (if ([] : List (List Nat)).length ≤ 200 ∧ ([] : List Nat).length ≤ 120 then _ else _) = _
  rw [if_pos ⟨by decide, by decide⟩, stepO_nil ok]
  rfl
theorem okW_nil (R : Ru) (B : Nat) : okW R B [] := ⟨okL_nil _, Nat.zero_le _⟩
end PX
/-! Plain mathematics, part 10: what fates tell. -/
namespace PX
open PySem PySem.Spec PyProof.Rows L2
/-- the next state of a fate's search -/
theorem fateF_1 (R : Ru) (f : Nat) (seen : List (List Nat)) (r : List Nat) : fateF R (f + 1) seen r = if seen.length ≤ 200 ∧ r.length ≤ 120 then (match stepO R r with
      | none => .ends seen.length r
      | some q => match idxR r seen with
        | some j => .round j (seen.length - j)
        | none => match partO R r with
          | some (p, m) => if 1 < m then .grows seen.length p m else fateF R f (seen ++ [r]) q
          | none => fateF R f (seen ++ [r]) q) else .far seen.length r.length := rfl
theorem idxR_none (r : List Nat) (l : List (List Nat)) : idxR r l = none ↔ r ∉ l := by
  constructor
  · intro h z
    obtain ⟨j, hj⟩ := (idxR_mem r l).mpr z
    rw [h] at hj; cases hj
  · intro h
    cases e : idxR r l with
    | none => rfl
    | some j => exact absurd ((idxR_mem r l).mp ⟨j, e⟩) h
/-- a row ends just so, whatever fewer rows were seen ahead of it -/
theorem fateF_ends (R : Ru) : ∀ (f f' : Nat) (seen seen' : List (List Nat)) (r e : List Nat) (n : Nat), fateF R f seen r = .ends n e → (∀ x ∈ seen', x ∈ seen) → seen'.length ≤ seen.length → f ≤ f' → seen.length ≤ n ∧ fateF R f' seen' r = .ends (n - seen.length + seen'.length) e
  | 0, _, seen, seen', r, e, n, h, _, _, _ => by cases h
  | f + 1, 0, _, _, _, _, _, _, _, _, hf => absurd hf (by omega)
  | f + 1, f' + 1, seen, seen', r, e, n, h, hm, hl, hf => by
    rw [fateF_1] at h ⊢
    by_cases hc : seen.length ≤ 200 ∧ r.length ≤ 120
    · rw [if_pos hc] at h
      rw [if_pos ⟨by omega, hc.2⟩]
      cases hq : stepO R r with
      | none =>
        rw [hq] at h
        have h : Fate.ends seen.length r = .ends n e := h
        cases h
        exact ⟨Nat.le_refl _, by show Fate.ends seen'.length r = _; rw [Nat.sub_self, Nat.zero_add]⟩
      | some q =>
        rw [hq] at h
        have go : fateF R f (seen ++ [r]) q = .ends n e → seen.length ≤ n ∧ fateF R f' (seen' ++ [r]) q = .ends (n - seen.length + seen'.length) e := fun h => by
          obtain ⟨h1, h2⟩ := fateF_ends R f f' (seen ++ [r]) (seen' ++ [r]) q e n h (fun x hx => by
            rcases List.mem_append.mp hx with hx | hx
            · exact List.mem_append_left _ (hm x hx)
            · exact List.mem_append_right _ hx) (by simp; omega) (by omega)
          rw [List.length_append, List.length_append] at h2
          rw [List.length_append] at h1
          have h1 : seen.length + 1 ≤ n := h1
          refine ⟨by omega, ?_⟩
          rw [h2]
          congr 1
          show n - (seen.length + 1) + (seen'.length + 1) = _
          omega
        cases hi : idxR r seen with
        | some j =>
          rw [hi] at h
          cases h
        | none =>
          rw [hi] at h
          have hi' : idxR r seen' = none := (idxR_none r seen').mpr fun z => (idxR_none r seen).mp hi (hm r z)
          rw [hi']
          cases hp : partO R r with
          | none =>
            rw [hp] at h
            exact go h
          | some pm =>
            obtain ⟨p, m⟩ := pm
            rw [hp] at h
            have h : (if 1 < m then Fate.grows seen.length p m else fateF R f (seen ++ [r]) q) = .ends n e := h
            show _ ∧ (if 1 < m then Fate.grows seen'.length p m else fateF R f' (seen' ++ [r]) q) = _
            by_cases hm1 : 1 < m
            · rw [if_pos hm1] at h; cases h
            · rw [if_neg hm1] at h ⊢
              exact go h
    · rw [if_neg hc] at h; cases h
end PX
/-! Plain mathematics, part 11: what fates tell, the longest row. -/
namespace PX
open PySem PySem.Spec PyProof.Rows L2
theorem itO_succ (R : Ru) (n : Nat) (r : List Nat) : itO R (n + 1) r = (itO R n r).bind (stepO R) := by
  rw [itO_add R n 1 r]
  congr 1
  funext q
  show (stepO R q).bind (itO R 0) = stepO R q
  cases stepO R q <;> rfl
/-- what a fate says of a row's course -/
def FateSays (R : Ru) (r0 : List Nat) : Fate → Prop
  | .ends n e => n ≤ 200 ∧ e.length ≤ 120 ∧ itO R n r0 = some e ∧ stepO R e = none
  | .round a b => 1 ≤ b ∧ a + b ≤ 200 ∧ ∃ x, itO R a r0 = some x ∧ itO R (a + b) r0 = some x ∧ x.length ≤ 120 ∧ (∃ y, stepO R x = some y) ∧ ∀ i, i < a + b → i ≠ a → itO R i r0 ≠ some x
  | .grows n p m => n ≤ 200 ∧ 1 < m ∧ ∃ x, itO R n r0 = some x ∧ x.length ≤ 120 ∧ partO R x = some (p, m)
  | .far n l => n ≤ 201 ∧ ∃ x, itO R n r0 = some x ∧ x.length = l ∧ (n = 201 ∨ 120 < l)
theorem idxR_first {r : List Nat} {l : List (List Nat)} {j : Nat} (h : idxR r l = some j) : ∀ i, i < j → l[i]? ≠ some r := by
  obtain ⟨hj, h1, h2⟩ := List.findIdx?_eq_some_iff_getElem.mp h
  intro i hi e
  have h3 := h2 i hi
  rw [List.getElem?_eq_getElem (by omega)] at e
  rw [Option.some.inj e] at h3
  simp at h3
theorem fateF_says (R : Ru) (r0 : List Nat) : ∀ (f : Nat) (seen : List (List Nat)) (r : List Nat), seen.length + f = 203 → seen.length ≤ 201 → (∀ i, i < seen.length → seen[i]? = itO R i r0) → (∀ i j, i < j → j < seen.length → itO R i r0 ≠ itO R j r0) → itO R seen.length r0 = some r → FateSays R r0 (fateF R f seen r)
  | 0, _, _, h, h', _, _, _ => absurd h (by omega)
  | f + 1, seen, r, hf, h201, hs, hd, hr => by
    rw [fateF_1]
    by_cases hc : seen.length ≤ 200 ∧ r.length ≤ 120
    · rw [if_pos hc]
      cases hq : stepO R r with
      | none => exact ⟨hc.1, hc.2, hr, hq⟩
      | some q =>
        have hnext : itO R (seen.length + 1) r0 = some q := by rw [itO_succ, hr]; exact hq
        have new : idxR r seen = none → FateSays R r0 (fateF R f (seen ++ [r]) q) := fun hi => by
          refine fateF_says R r0 f (seen ++ [r]) q (by simp; omega) (by simp; omega) (fun i h => ?_) (fun i j hij hj => ?_) (by rw [List.length_append]; exact hnext)
          · rw [List.length_append] at h
            have h : i < seen.length + 1 := h
            by_cases e : i = seen.length
            · subst e; simp [hr]
            · rw [List.getElem?_append_left (by omega)]; exact hs i (by omega)
          · rw [List.length_append] at hj
            have hj : j < seen.length + 1 := hj
            by_cases e : j = seen.length
            · subst e
              rw [hr]
              intro z
              have := hs i hij
              rw [z] at this
              exact (idxR_none r seen).mp hi (List.mem_of_getElem? this)
            · exact hd i j hij (by omega)
        cases hi : idxR r seen with
        | some j =>
          have h1 := idxR_get hi
          have hj := (List.getElem?_eq_some_iff.mp h1).1
          rw [hs j hj] at h1
          have e : j + (seen.length - j) = seen.length := by omega
          refine ⟨by omega, by omega, r, h1, by rw [e]; exact hr, hc.2, ⟨q, hq⟩, fun i hi' hne z => ?_⟩
          rw [e] at hi'
          rcases Nat.lt_or_gt_of_ne hne with h | h
          · exact hd i j h hj (by rw [z, h1])
          · exact hd j i h hi' (by rw [z, h1])
        | none =>
          have new := new hi
          cases hp : partO R r with
          | none => exact new
          | some pm =>
            obtain ⟨p, m⟩ := pm
            show FateSays R r0 (if 1 < m then Fate.grows seen.length p m else fateF R f (seen ++ [r]) q)
            by_cases hm : 1 < m
            · rw [if_pos hm]; exact ⟨hc.1, hm, r, hr, hc.2, hp⟩
            · rw [if_neg hm]; exact new
    · rw [if_neg hc]
      refine ⟨by omega, r, hr, rfl, ?_⟩
      omega
theorem fateO_says (R : Ru) (r : List Nat) : FateSays R r (fateO R r) := fateF_says R r 203 [] r rfl (Nat.zero_le _) (fun i h => absurd h (by simp)) (fun i j _ h => absurd h (by simp)) rfl
/-- the part of a row -/
theorem partO_some {R : Ru} {r p : List Nat} {m : Nat} (h : partO R r = some (p, m)) : p ≠ [] ∧ (∃ i, i < r.length ∧ p = r.take (1 + i)) ∧ (timesO p r).isSome = true ∧ shareO R p = some m := by
  unfold partO firstV at h
  cases e : (List.range r.length).find? (isPt R r) with
  | none => rw [e] at h; cases h
  | some i =>
    rw [e] at h
    have h1 := List.find?_some e
    have h2 := List.mem_range.mp (List.mem_of_find?_eq_some e)
    have h := Option.some.inj h
    have hp : r.take (1 + i) = p := congrArg Prod.fst h
    have hm : (shareO R (r.take (1 + i))).getD 0 = m := congrArg Prod.snd h
    unfold isPt at h1
    rw [Bool.and_eq_true, hp] at h1
    rw [hp] at hm
    refine ⟨?_, ⟨i, h2, hp.symm⟩, h1.1, ?_⟩
    · intro z
      rw [z] at hp
      have := congrArg List.length hp
      rw [List.length_take] at this
      have : min (1 + i) r.length = 0 := this
      omega
    · obtain ⟨v, hv⟩ := Option.isSome_iff_exists.mp h1.2
      rw [hv] at hm ⊢
      exact congrArg some hm
/-! ### the longest row, the first of several -/
def bstF : List (List Nat) → Nat → List Nat × Nat → List Nat × Nat
  | [], _, b => b
  | r :: l, i, b => bstF l (i + 1) (if b.1.length < r.length then (r, i) else b)
def bst : List (List Nat) → List Nat × Nat
  | [] => ([], 0)
  | r :: l => bstF l 1 (r, 0)
/-- what the longest row is -/
theorem bstF_spec : ∀ (l pre : List (List Nat)) (b : List Nat × Nat), pre[b.2]? = some b.1 → (∀ r ∈ pre, r.length ≤ b.1.length) → (∀ i r, pre[i]? = some r → r.length = b.1.length → b.2 ≤ i) →
    (pre ++ l)[(bstF l pre.length b).2]? = some (bstF l pre.length b).1 ∧ (∀ r ∈ pre ++ l, r.length ≤ (bstF l pre.length b).1.length) ∧ ∀ i r, (pre ++ l)[i]? = some r → r.length = (bstF l pre.length b).1.length → (bstF l pre.length b).2 ≤ i
  | [], pre, b, h1, h2, h3 => by rw [List.append_nil]; exact ⟨h1, h2, h3⟩
  | r :: l, pre, b, h1, h2, h3 => by
    have key : ∀ c : List Nat × Nat, (pre ++ [r])[c.2]? = some c.1 → (∀ x ∈ pre ++ [r], x.length ≤ c.1.length) → (∀ i x, (pre ++ [r])[i]? = some x → x.length = c.1.length → c.2 ≤ i) → _ := fun c a1 a2 a3 => bstF_spec l (pre ++ [r]) c a1 a2 a3
    rw [List.length_append, List.append_assoc] at key
    unfold bstF
    have hb : b.2 < pre.length := (List.getElem?_eq_some_iff.mp h1).1
    by_cases h : b.1.length < r.length
    · rw [if_pos h]
      refine key (r, pre.length) (by simp) (fun x hx => ?_) (fun i x hi hx => ?_)
      · rcases List.mem_append.mp hx with hx | hx
        · exact Nat.le_of_lt (Nat.lt_of_le_of_lt (h2 x hx) h)
        · rw [List.mem_singleton.mp hx]; exact Nat.le_refl _
      · apply Nat.le_of_not_lt
        intro z
        have z : i < pre.length := z
        rw [List.getElem?_append_left z] at hi
        have := h2 x (List.mem_of_getElem? hi)
        have hx : x.length = r.length := hx
        omega
    · rw [if_neg h]
      refine key b (by rw [List.getElem?_append_left hb]; exact h1) (fun x hx => ?_) (fun i x hi hx => ?_)
      · rcases List.mem_append.mp hx with hx | hx
        · exact h2 x hx
        · rw [List.mem_singleton.mp hx]; omega
      · by_cases z : i < pre.length
        · rw [List.getElem?_append_left z] at hi
          exact h3 i x hi hx
        · omega
theorem bst_spec {l : List (List Nat)} (h : l ≠ []) : l[(bst l).2]? = some (bst l).1 ∧ (∀ r ∈ l, r.length ≤ (bst l).1.length) ∧ ∀ i r, l[i]? = some r → r.length = (bst l).1.length → (bst l).2 ≤ i := by
  cases l with
  | nil => exact absurd rfl h
  | cons r l =>
    exact bstF_spec l [r] (r, 0) rfl (fun x hx => by rw [List.mem_singleton.mp hx]; exact Nat.le_refl _) (fun i x _ _ => Nat.zero_le _)
end PX
/-! Plain mathematics, part 12: loops, read off the goal. -/
namespace PX
open PySem PySem.Spec PyProof.Rows L2
section
variable {α β γ : Type} {g : D → Rho → Option Rho} {b k : Rho → Out}
/-- a loop that goes on to its end; st: the slots, by what is carried and by what is forgotten -/
theorem forL_st (enc : α → D) (st : β → γ → Rho) (f : β → α → β) (P : Nat → β → Prop) : ∀ (l : List α) (s : β) (j : γ), P l.length s →
    (∀ a ∈ l, ∀ n s j, P (n + 1) s → ∃ j', (∃ ρ1, g (enc a) (st s j) = some ρ1 ∧ b ρ1 = .nx (st (f s a) j')) ∧ P n (f s a)) → ∃ j', P 0 (l.foldl f s) ∧ forL g b (l.map enc) (st s j) = .nx (st (l.foldl f s) j')
  | [], s, j, h0, _ => ⟨j, h0, rfl⟩
  | a :: l, s, j, h0, hb => by
    obtain ⟨j1, ⟨ρ1, h1, h2⟩, h3⟩ := hb a List.mem_cons_self l.length s j h0
    obtain ⟨j', h4, h5⟩ := forL_st enc st f P l (f s a) j1 h3 fun a ha => hb a (List.mem_cons_of_mem _ ha)
    refine ⟨j', h4, ?_⟩
    rw [List.map_cons, forL_consG g b _ _ _ ρ1 h1, h2]
    exact h5
theorem for_res (enc : α → D) (st : β → γ → Rho) (f : β → α → β) (P : Nat → β → Prop) (l : List α) (s : β) (j : γ) {X : Res D} (h0 : P l.length s)
    (hb : ∀ a ∈ l, ∀ n s j, P (n + 1) s → ∃ j', (∃ ρ1, g (enc a) (st s j) = some ρ1 ∧ b ρ1 = .nx (st (f s a) j')) ∧ P n (f s a)) (hk : ∀ j', P 0 (l.foldl f s) → (k (st (l.foldl f s) j')).res = X) : ((forL g b (l.map enc) (st s j)).thn k).res = X := by
  obtain ⟨j', h1, h2⟩ := forL_st enc st f P l s j h0 hb
  rw [h2]
  exact hk j' h1
theorem for_out (enc : α → D) (st : β → γ → Rho) (f : β → α → β) (P : Nat → β → Prop) (l : List α) (s : β) (j : γ) {X : Out} (h0 : P l.length s)
    (hb : ∀ a ∈ l, ∀ n s j, P (n + 1) s → ∃ j', (∃ ρ1, g (enc a) (st s j) = some ρ1 ∧ b ρ1 = .nx (st (f s a) j')) ∧ P n (f s a)) (hk : ∀ j', P 0 (l.foldl f s) → k (st (l.foldl f s) j') = X) : (forL g b (l.map enc) (st s j)).thn k = X := by
  obtain ⟨j', h1, h2⟩ := forL_st enc st f P l s j h0 hb
  rw [h2]
  exact hk j' h1
/-- a loop that may leave by a return: the value of the first item that does -/
def runF (f : β → α → Sum β D) : List α → β → Sum β D
  | [], s => .inl s
  | a :: l, s => match f s a with
    | .inl s' => runF f l s'
    | .inr d => .inr d
theorem forL_rt (enc : α → D) (st : β → γ → Rho) (f : β → α → Sum β D) (P : Nat → β → Prop) : ∀ (l : List α) (s : β) (j : γ), P l.length s →
    (∀ a ∈ l, ∀ n s j, P (n + 1) s → ∃ ρ1, g (enc a) (st s j) = some ρ1 ∧ match f s a with
      | .inl s' => P n s' ∧ ∃ j', b ρ1 = .nx (st s' j')
      | .inr d => b ρ1 = .rt d) →
    match runF f l s with
      | .inl s' => P 0 s' ∧ ∃ j', forL g b (l.map enc) (st s j) = .nx (st s' j')
      | .inr d => forL g b (l.map enc) (st s j) = .rt d
  | [], s, j, h0, _ => ⟨h0, j, rfl⟩
  | a :: l, s, j, h0, hb => by
    obtain ⟨ρ1, h1, h2⟩ := hb a List.mem_cons_self l.length s j h0
    rw [List.map_cons, forL_consG g b _ _ _ ρ1 h1]
    unfold runF
    cases e : f s a with
    | inl s' =>
      rw [e] at h2
      obtain ⟨h3, j', h4⟩ := h2
      rw [h4]
      exact forL_rt enc st f P l s' j' h3 fun a ha => hb a (List.mem_cons_of_mem _ ha)
    | inr d =>
      rw [e] at h2
      have h2 : b ρ1 = .rt d := h2
      rw [h2]
      rfl
theorem for_rt_res (enc : α → D) (st : β → γ → Rho) (f : β → α → Sum β D) (P : Nat → β → Prop) (l : List α) (s : β) (j : γ) {X : Res D} (h0 : P l.length s)
    (hb : ∀ a ∈ l, ∀ n s j, P (n + 1) s → ∃ ρ1, g (enc a) (st s j) = some ρ1 ∧ match f s a with
      | .inl s' => P n s' ∧ ∃ j', b ρ1 = .nx (st s' j')
      | .inr d => b ρ1 = .rt d)
    (hk : match runF f l s with
      | .inl s' => ∀ j', P 0 s' → (k (st s' j')).res = X
      | .inr d => .ok d = X) : ((forL g b (l.map enc) (st s j)).thn k).res = X := by
  have h := forL_rt enc st f P l s j h0 hb
  cases e : runF f l s with
  | inl s' =>
    rw [e] at h hk
    obtain ⟨h1, j', h2⟩ := h
    rw [h2]
    exact hk j' h1
  | inr d =>
    rw [e] at h hk
    have h : forL g b (l.map enc) (st s j) = .rt d := h
    rw [h]
    exact hk
theorem for_rt_out (enc : α → D) (st : β → γ → Rho) (f : β → α → Sum β D) (P : Nat → β → Prop) (l : List α) (s : β) (j : γ) {X : Out} (h0 : P l.length s)
    (hb : ∀ a ∈ l, ∀ n s j, P (n + 1) s → ∃ ρ1, g (enc a) (st s j) = some ρ1 ∧ match f s a with
      | .inl s' => P n s' ∧ ∃ j', b ρ1 = .nx (st s' j')
      | .inr d => b ρ1 = .rt d)
    (hk : match runF f l s with
      | .inl s' => ∀ j', P 0 s' → k (st s' j') = X
      | .inr d => .rt d = X) : (forL g b (l.map enc) (st s j)).thn k = X := by
  have h := forL_rt enc st f P l s j h0 hb
  cases e : runF f l s with
  | inl s' =>
    rw [e] at h hk
    obtain ⟨h1, j', h2⟩ := h
    rw [h2]
    exact hk j' h1
  | inr d =>
    rw [e] at h hk
    have h : forL g b (l.map enc) (st s j) = .rt d := h
    rw [h]
    exact hk
end
theorem gR2_r (m n : Nat) (h : m ≤ 1000000) (h' : n ≤ 1000000) : gR2 (.int (m : Int)) (.int (n : Int)) = some ((List.range' m (n - m)).map fun (i : Nat) => .int (i : Int)) := by
  rw [gR2_nat m n (big_lt h) (big_lt h'), List.range'_eq_map_range, List.map_map]
  rfl
theorem gR1_r (n : Nat) (h : n ≤ 1000000) : gR1 (.int (n : Int)) = some ((List.range' 0 n).map fun (i : Nat) => .int (i : Int)) := by
  rw [gR1_nat n (big_lt h), ← List.range_eq_range']
theorem round_tx : (Str.ofString "round") = tx [114, 111, 117, 110, 100] := by decide +kernel
theorem grows_tx : (Str.ofString "grows") = tx [103, 114, 111, 119, 115] := by decide +kernel
theorem far_tx : (Str.ofString "far") = tx [102, 97, 114] := by decide +kernel
theorem dIn_tup {d : D} {es : List D} (h : inOk d es = true) : dIn false d (.tuple es) = some (.bool (es.any fun z => PyData.eqv z d)) := by
  have e : dIn false d (.tuple es) = if inOk d es = true then some (.bool (es.any fun z => PyData.eqv z d)) else none := by cases d <;> rfl
  rw [e, if_pos h]
theorem dInN_tup {d : D} {es : List D} (h : inOk d es = true) : dIn true d (.tuple es) = some (.bool (!es.any fun z => PyData.eqv z d)) := by
  have e : dIn true d (.tuple es) = if inOk d es = true then some (.bool (!es.any fun z => PyData.eqv z d)) else none := by cases d <;> rfl
  rw [e, if_pos h]
@[simp] theorem dIn_s2 (s a b : Str) : dIn false (.str s) (.tuple [.str a, .str b]) = some (.bool (a == s || b == s)) := by
  rw [dIn_tup rfl]; simp [PyData.eqv]
@[simp] theorem dInN_i2 (s a b : Int) : dIn true (.int s) (.tuple [.int a, .int b]) = some (.bool (!(a == s || b == s))) := by
  rw [dInN_tup rfl]; simp [PyData.eqv]
end PX
/-! Plain mathematics, part 13: fates, told by courses. -/
namespace PX
open PySem PySem.Spec PyProof.Rows L2
/-- ahead of so many cuts nothing has become of a row -/
structure Past (R : Ru) (r0 : List Nat) (n : Nat) : Prop where
  here : ∀ i, i < n → ∃ y, itO R i r0 = some y ∧ (∃ z, stepO R y = some z) ∧ y.length ≤ 120 ∧ ∀ p m, partO R y = some (p, m) → ¬ 1 < m
  apart : ∀ i j, i < j → j < n → itO R i r0 ≠ itO R j r0
theorem Past.mono {R : Ru} {r0 : List Nat} {m n : Nat} (h : Past R r0 n) (e : m ≤ n) : Past R r0 m := ⟨fun i hi => h.here i (by omega), fun i j hi hj => h.apart i j hi (by omega)⟩
/-- what a fate says, wholly -/
def FateIs (R : Ru) (r0 : List Nat) : Fate → Prop
  | .ends n e => n ≤ 200 ∧ Past R r0 n ∧ e.length ≤ 120 ∧ itO R n r0 = some e ∧ stepO R e = none
  | .round a b => 1 ≤ b ∧ a + b ≤ 200 ∧ Past R r0 (a + b) ∧ ∃ x, itO R a r0 = some x ∧ itO R (a + b) r0 = some x
  | .grows n p m => n ≤ 200 ∧ Past R r0 n ∧ 1 < m ∧ ∃ x, itO R n r0 = some x ∧ (∀ i, i < n → itO R i r0 ≠ some x) ∧ (∃ z, stepO R x = some z) ∧ x.length ≤ 120 ∧ partO R x = some (p, m)
  | .far n l => n ≤ 201 ∧ Past R r0 n ∧ ∃ x, itO R n r0 = some x ∧ x.length = l ∧ (n = 201 ∨ 120 < l)
theorem fateF_is (R : Ru) (r0 : List Nat) : ∀ (f : Nat) (seen : List (List Nat)) (r : List Nat), seen.length + f = 203 → seen.length ≤ 201 → (∀ i, i < seen.length → seen[i]? = itO R i r0) → Past R r0 seen.length → itO R seen.length r0 = some r → FateIs R r0 (fateF R f seen r)
  | 0, _, _, h, h', _, _, _ => absurd h (by omega)
  | f + 1, seen, r, hf, h201, hs, hp, hr => by
    rw [fateF_1]
    by_cases hc : seen.length ≤ 200 ∧ r.length ≤ 120
    · rw [if_pos hc]
      cases hq : stepO R r with
      | none => exact ⟨hc.1, hp, hc.2, hr, hq⟩
      | some q =>
        have hnext : itO R (seen.length + 1) r0 = some q := by rw [itO_succ, hr]; exact hq
        cases hi : idxR r seen with
        | some j =>
          have h1 := idxR_get hi
          have hj := (List.getElem?_eq_some_iff.mp h1).1
          rw [hs j hj] at h1
          have e : j + (seen.length - j) = seen.length := by omega
          exact ⟨by omega, by omega, by rw [e]; exact hp, r, h1, by rw [e]; exact hr⟩
        | none =>
          have hni : ∀ i, i < seen.length → itO R i r0 ≠ some r := fun i hi' z => by
            have := hs i hi'
            rw [z] at this
            exact (idxR_none r seen).mp hi (List.mem_of_getElem? this)
          have new : (∀ p m, partO R r = some (p, m) → ¬ 1 < m) → FateIs R r0 (fateF R f (seen ++ [r]) q) := fun hpt => by
            refine fateF_is R r0 f (seen ++ [r]) q (by simp; omega) (by simp; omega) (fun i h => ?_) ?_ (by rw [List.length_append]; exact hnext)
            · rw [List.length_append] at h
              have h : i < seen.length + 1 := h
              by_cases e : i = seen.length
              · subst e; simp [hr]
              · rw [List.getElem?_append_left (by omega)]; exact hs i (by omega)
            · rw [List.length_append]
              refine ⟨fun i h => ?_, fun i j hij hj => ?_⟩
              · have h : i < seen.length + 1 := h
                by_cases e : i = seen.length
                · subst e; exact ⟨r, hr, ⟨q, hq⟩, hc.2, hpt⟩
                · exact hp.here i (by omega)
              · have hj : j < seen.length + 1 := hj
                by_cases e : j = seen.length
                · subst e; rw [hr]; exact hni i hij
                · exact hp.apart i j hij (by omega)
          cases hpo : partO R r with
          | none => exact new fun p m e => by rw [hpo] at e; cases e
          | some pm =>
            obtain ⟨p, m⟩ := pm
            show FateIs R r0 (if 1 < m then Fate.grows seen.length p m else fateF R f (seen ++ [r]) q)
            by_cases hm : 1 < m
            · rw [if_pos hm]; exact ⟨hc.1, hp, hm, r, hr, hni, ⟨q, hq⟩, hc.2, hpo⟩
            · rw [if_neg hm]
              exact new fun p' m' e => by rw [hpo] at e; cases e; exact hm
    · rw [if_neg hc]
      exact ⟨h201, hp, r, hr, rfl, by omega⟩
theorem fateO_is (R : Ru) (r : List Nat) : FateIs R r (fateO R r) := fateF_is R r 203 [] r rfl (Nat.zero_le _) (fun i h => absurd h (by simp)) ⟨fun i h => absurd h (by simp), fun i j _ h => absurd h (by simp)⟩ rfl
/-- where a fate is told, and how -/
def Stop (R : Ru) (r : List Nat) (n : Nat) (x : List Nat) : Fate → Prop
  | .ends a e => a = n ∧ e = x ∧ n ≤ 200 ∧ x.length ≤ 120 ∧ stepO R x = none
  | .round a b => a + b = n ∧ n ≤ 200 ∧ 1 ≤ b ∧ x.length ≤ 120 ∧ (∃ z, stepO R x = some z) ∧ itO R a r = some x
  | .grows a p m => a = n ∧ n ≤ 200 ∧ x.length ≤ 120 ∧ (∃ z, stepO R x = some z) ∧ (∀ i, i < n → itO R i r ≠ some x) ∧ partO R x = some (p, m)
  | .far a l => a = n ∧ x.length = l ∧ (n = 201 ∨ 120 < l)
theorem fate_stop {R : Ru} {r : List Nat} {h : Fate} (hh : FateIs R r h) : ∃ n x, n ≤ 201 ∧ Past R r n ∧ itO R n r = some x ∧ (∀ m, n < m → m ≤ 201 → ¬ Past R r m) ∧ Stop R r n x h := by
  cases h with
  | ends n e =>
    obtain ⟨h1, h2, h3, h4, h5⟩ := hh
    refine ⟨n, e, by omega, h2, h4, fun m hm _ hp => ?_, rfl, rfl, h1, h3, h5⟩
    obtain ⟨y, hy, ⟨z, hz⟩, _⟩ := hp.here n hm
    rw [h4] at hy; cases hy; rw [h5] at hz; cases hz
  | round a b =>
    obtain ⟨h1, h2, h3, x, h4, h5⟩ := hh
    obtain ⟨y, hy, hz, hl, _⟩ := h3.here a (by omega)
    rw [h4] at hy; cases hy
    exact ⟨a + b, x, by omega, h3, h5, fun m hm _ hp => hp.apart a (a + b) (by omega) hm (by rw [h4, h5]), rfl, h2, h1, hl, hz, h4⟩
  | grows n p m =>
    obtain ⟨h1, h2, h3, x, h4, h5, h6, h7, h8⟩ := hh
    refine ⟨n, x, by omega, h2, h4, fun k hk _ hp => ?_, rfl, h1, h7, h6, h5, h8⟩
    obtain ⟨y, hy, _, _, hm⟩ := hp.here n hk
    rw [h4] at hy; cases hy
    exact hm p m h8 h3
  | far n l =>
    obtain ⟨h1, h2, x, h4, h5, h6⟩ := hh
    refine ⟨n, x, h1, h2, h4, fun k hk hk' hp => ?_, rfl, h5, h6⟩
    obtain ⟨y, hy, _, hl, _⟩ := hp.here n hk
    rw [h4] at hy; cases hy
    omega
/-- no two fates are so -/
theorem fateIs_one {R : Ru} {r : List Nat} {f g : Fate} (hf : FateIs R r f) (hg : FateIs R r g) : f = g := by
  obtain ⟨n, x, a1, a2, a3, a4, a5⟩ := fate_stop hf
  obtain ⟨n', x', b1, b2, b3, b4, b5⟩ := fate_stop hg
  have e : n = n' := by
    rcases Nat.lt_trichotomy n n' with h | h | h
    · exact absurd b2 (a4 _ h b1)
    · exact h
    · exact absurd a2 (b4 _ h a1)
  subst e
  rw [a3] at b3; cases b3
  cases f with
  | ends n1 e1 =>
    obtain ⟨rfl, rfl, c1, c2, c3⟩ := a5
    cases g with
    | ends n2 e2 => obtain ⟨rfl, rfl, _⟩ := b5; rfl
    | round n2 e2 => obtain ⟨_, _, _, _, ⟨z, hz⟩, _⟩ := b5; rw [c3] at hz; cases hz
    | grows n2 p m => obtain ⟨_, _, _, ⟨z, hz⟩, _⟩ := b5; rw [c3] at hz; cases hz
    | far n2 l => obtain ⟨_, h, h'⟩ := b5; omega
  | round n1 e1 =>
    obtain ⟨c0, c1, c2, c3, ⟨z, hz⟩, c4⟩ := a5
    cases g with
    | ends n2 e2 => obtain ⟨_, _, _, _, h⟩ := b5; rw [h] at hz; cases hz
    | round n2 e2 =>
      obtain ⟨d0, _, d1, _, _, d2⟩ := b5
      have e : n1 = n2 := by
        rcases Nat.lt_trichotomy n1 n2 with h | h | h
        · exact absurd (by rw [c4, d2]) (a2.apart n1 n2 h (by omega))
        · exact h
        · exact absurd (by rw [c4, d2]) (a2.apart n2 n1 h (by omega))
      subst e
      have e : e1 = e2 := by omega
      rw [e]
    | grows n2 p m => obtain ⟨_, _, _, _, h, _⟩ := b5; exact absurd c4 (h n1 (by omega))
    | far n2 l => obtain ⟨_, h, h'⟩ := b5; omega
  | grows n1 p m =>
    obtain ⟨rfl, c1, c2, ⟨z, hz⟩, c3, c4⟩ := a5
    cases g with
    | ends n2 e2 => obtain ⟨_, _, _, _, h⟩ := b5; rw [h] at hz; cases hz
    | round n2 e2 => obtain ⟨d0, _, d1, _, _, d2⟩ := b5; exact absurd d2 (c3 n2 (by omega))
    | grows n2 p m => obtain ⟨rfl, _, _, _, _, h⟩ := b5; rw [c4] at h; cases h; rfl
    | far n2 l => obtain ⟨_, h, h'⟩ := b5; omega
  | far n1 l1 =>
    obtain ⟨rfl, c1, c2⟩ := a5
    cases g with
    | ends n2 e2 => obtain ⟨_, _, h, h', _⟩ := b5; omega
    | round n2 e2 => obtain ⟨_, h, _, h', _⟩ := b5; omega
    | grows n2 p m => obtain ⟨_, h, h', _⟩ := b5; omega
    | far n2 l => obtain ⟨rfl, h, h'⟩ := b5; rw [← c1, h]
theorem fateO_of {R : Ru} {r : List Nat} {f : Fate} (h : FateIs R r f) : fateO R r = f := fateIs_one (fateO_is R r) h
end PX
/-! Plain mathematics, part 15: words put together, words so many times. -/
namespace PX
open PySem PySem.Spec PyProof.Rows L2
theorem evr_app {k : Nat} (hk : 1 ≤ k) : ∀ (n : Nat) (p q : List Nat), p.length = n * k → evr k (p ++ q) = evr k p ++ evr k q
  | 0, p, q, h => by
    have : p = [] := List.length_eq_zero_iff.mp (by omega)
    subst this; rfl
  | n + 1, p, q, h => by
    rw [Nat.succ_mul] at h
    cases p with
    | nil => simp at h; omega
    | cons c t =>
      rw [List.cons_append, evr_cons hk c (t ++ q), evr_cons hk c t, ← List.cons_append, List.drop_append_of_le_length (by omega), evr_app hk n ((c :: t).drop k) q (by rw [List.length_drop]; omega)]
      rfl
theorem told_app {R : Ru} (ok : okR R) {p q : List Nat} (h : p.length % R.cut = 0) : told R (p ++ q) = told R p ++ told R q := by
  unfold told
  rw [evr_app ok.c1 (p.length / R.cut) p q (by have := Nat.div_add_mod p.length R.cut; rw [h, Nat.mul_comm] at this; omega), List.flatMap_append]
theorem whole_app {R : Ru} (ok : okR R) {p q : List Nat} (h : p.length % R.cut = 0) : whole R (p ++ q) = (whole R p && whole R q) := by
  unfold whole
  have e : (p ++ q).length % R.cut = q.length % R.cut := by rw [List.length_append, Nat.add_mod, h, Nat.zero_add, Nat.mod_mod]
  rw [evr_app ok.c1 (p.length / R.cut) p q (by have := Nat.div_add_mod p.length R.cut; rw [h, Nat.mul_comm] at this; omega), List.all_append, e, h]
  cases decide (q.length % R.cut = 0) <;> simp
theorem whole_mod {R : Ru} {p : List Nat} (h : whole R p = true) : p.length % R.cut = 0 := by
  unfold whole at h
  rw [Bool.and_eq_true] at h
  exact of_decide_eq_true h.1
/-- so many times -/
def rp (n : Nat) (p : List Nat) : List Nat := (List.replicate n p).flatten
theorem rp_0 (p : List Nat) : rp 0 p = [] := rfl
theorem rp_s (n : Nat) (p : List Nat) : rp (n + 1) p = p ++ rp n p := by unfold rp; rw [List.replicate_succ, List.flatten_cons]
theorem rp_1 (p : List Nat) : rp 1 p = p := by rw [rp_s, rp_0, List.append_nil]
theorem rp_add (p : List Nat) (b : Nat) : ∀ a, rp (a + b) p = rp a p ++ rp b p
  | 0 => by rw [Nat.zero_add]; rfl
  | a + 1 => by rw [show a + 1 + b = (a + b) + 1 by omega, rp_s, rp_add p b a, rp_s, List.append_assoc]
theorem rp_rp (b : Nat) (p : List Nat) : ∀ a, rp a (rp b p) = rp (a * b) p
  | 0 => by rw [Nat.zero_mul]; rfl
  | a + 1 => by rw [rp_s, rp_rp b p a, Nat.succ_mul, Nat.add_comm (a * b) b, rp_add]
theorem rp_len (p : List Nat) : ∀ n, (rp n p).length = n * p.length
  | 0 => by rw [Nat.zero_mul]; rfl
  | n + 1 => by rw [rp_s, List.length_append, rp_len p n, Nat.succ_mul, Nat.add_comm]
theorem rp_ok {m : Nat} {p : List Nat} (h : okL m p) (n : Nat) : okL m (rp n p) := fun c hc => by
  unfold rp at hc
  obtain ⟨l, hl, hc⟩ := List.mem_flatten.mp hc
  rw [List.eq_of_mem_replicate hl] at hc
  exact h c hc
theorem rp_ne {p : List Nat} (h : p ≠ []) {n : Nat} (hn : 1 ≤ n) : rp n p ≠ [] := fun e => by
  have := rp_len p n
  have hp := List.length_pos_iff.mpr h
  rw [e] at this
  have h2 : 1 * 1 ≤ n * p.length := Nat.mul_le_mul hn hp
  simp at this
  omega
theorem told_rp {R : Ru} (ok : okR R) {p : List Nat} (h : p.length % R.cut = 0) : ∀ n, told R (rp n p) = rp n (told R p)
  | 0 => rfl
  | n + 1 => by rw [rp_s, told_app ok h, told_rp ok h n, rp_s]
theorem whole_rp {R : Ru} (ok : okR R) {p : List Nat} (h : whole R p = true) : ∀ n, whole R (rp n p) = true
  | 0 => by unfold whole; simp [rp_0, evr_nil]
  | n + 1 => by rw [rp_s, whole_app ok (whole_mod h), h, whole_rp ok h n]; rfl
theorem timesO_iff {p w : List Nat} {m : Nat} (hp : p ≠ []) : timesO p w = some m ↔ w = rp m p := by
  have hl := List.length_pos_iff.mpr hp
  unfold timesO
  constructor
  · intro h
    split at h
    next hh => cases h; exact hh.2.symm
    · cases h
  · intro h
    have e : w.length = m * p.length := by rw [h, rp_len]
    have e1 : w.length % p.length = 0 := by rw [e, Nat.mul_mod_left]
    have e2 : w.length / p.length = m := by rw [e, Nat.mul_div_cancel _ hl]
    rw [e2, if_pos ⟨e1, h.symm⟩]
theorem shareO_iff {R : Ru} {p : List Nat} {m : Nat} : shareO R p = some m ↔ p ≠ [] ∧ whole R p = true ∧ told R p = rp m p := by
  unfold shareO
  by_cases hp : p = []
  · simp [hp]
  · cases hw : whole R p with
    | false => simp [hp]
    | true => simp [hp, timesO_iff hp]
theorem share_rp {R : Ru} (ok : okR R) {p : List Nat} {m n : Nat} (h : shareO R p = some m) (hn : 1 ≤ n) : shareO R (rp n p) = some m := by
  obtain ⟨h1, h2, h3⟩ := shareO_iff.mp h
  refine shareO_iff.mpr ⟨rp_ne h1 hn, whole_rp ok h2 n, ?_⟩
  rw [told_rp ok (whole_mod h2), h3, rp_rp, rp_rp, Nat.mul_comm]
/-- all of a word of whole cuts cut away -/
theorem it_whole {R : Ru} (ok : okR R) {w : List Nat} (h : whole R w = true) : itO R (w.length / R.cut) w = some (told R w) := by
  have hm := whole_mod h
  unfold whole at h
  rw [Bool.and_eq_true] at h
  have := it_told ok (w.length / R.cut) w [] (by have := Nat.div_add_mod w.length R.cut; rw [hm, Nat.mul_comm] at this; omega) h.2
  rwa [List.append_nil, List.nil_append] at this
theorem step_whole {R : Ru} (ok : okR R) {w : List Nat} (h : whole R w = true) (hw : w ≠ []) : ∃ z, stepO R w = some z := by
  have h1 := it_whole ok h
  have hl := List.length_pos_iff.mpr hw
  have hm := whole_mod h
  have hq : R.cut ≤ w.length := Nat.le_of_dvd hl (Nat.dvd_of_mod_eq_zero hm)
  have h2 : 1 ≤ w.length / R.cut := Nat.div_pos hq ok.c1
  obtain ⟨k, hk⟩ : ∃ k, w.length / R.cut = k + 1 := ⟨w.length / R.cut - 1, by omega⟩
  rw [hk] at h1
  cases e : stepO R w with
  | some z => exact ⟨z, rfl⟩
  | none =>
    have h1 : (stepO R w).bind (itO R k) = _ := h1
    rw [e] at h1; cases h1
theorem find_some {α : Type} {p : α → Bool} {l : List α} {a : α} (h : a ∈ l) (hp : p a = true) : ∃ b, l.find? p = some b ∧ p b = true ∧ b ∈ l := by
  cases e : l.find? p with
  | none => exact absurd hp (by rw [List.find?_eq_none] at e; exact e a h)
  | some b => exact ⟨b, rfl, List.find?_some e, List.mem_of_find?_eq_some e⟩
/-- a row of a word that grows has a part -/
theorem part_rp {R : Ru} (ok : okR R) {p : List Nat} {m n : Nat} (h : shareO R p = some m) (hn : 1 ≤ n) : ∃ p', partO R (rp n p) = some (p', m) := by
  obtain ⟨h1, h2, h3⟩ := shareO_iff.mp h
  have hl := List.length_pos_iff.mpr h1
  have hr := share_rp ok h hn
  have hlen : (rp n p).length = n * p.length := rp_len p n
  have hle : p.length ≤ (rp n p).length := by rw [hlen]; have := Nat.mul_le_mul_right p.length hn; omega
  have ht : (rp n p).take (1 + (p.length - 1)) = p := by
    obtain ⟨k, rfl⟩ : ∃ k, n = k + 1 := ⟨n - 1, by omega⟩
    rw [rp_s, show 1 + (p.length - 1) = p.length by omega, List.take_left]
  have hi : isPt R (rp n p) (p.length - 1) = true := by
    unfold isPt
    rw [ht, h, (timesO_iff h1).mpr rfl]; rfl
  obtain ⟨b, b1, b2, b3⟩ := find_some (p := isPt R (rp n p)) (l := List.range (rp n p).length) (a := p.length - 1) (List.mem_range.mpr (by omega)) hi
  unfold partO firstV
  rw [b1]
  refine ⟨(rp n p).take (1 + b), ?_⟩
  unfold isPt at b2
  rw [Bool.and_eq_true] at b2
  obtain ⟨t1, t2⟩ := b2
  cases es : shareO R ((rp n p).take (1 + b)) with
  | none => rw [es] at t2; cases t2
  | some m' =>
    obtain ⟨g1, g2, g3⟩ := shareO_iff.mp es
    cases et : timesO ((rp n p).take (1 + b)) (rp n p) with
    | none => rw [et] at t1; cases t1
    | some k =>
      have hk := (timesO_iff g1).mp et
      have hk1 : 1 ≤ k := by
        cases k with
        | zero => exact absurd hk (by rw [rp_0]; exact rp_ne h1 hn)
        | succ k => omega
      have := share_rp ok es hk1
      rw [← hk, hr] at this
      cases this
      show some (_, (shareO R ((rp n p).take (1 + b))).getD 0) = _
      rw [es]; rfl
theorem fate_rp {R : Ru} (ok : okR R) {p : List Nat} {m n : Nat} (h : shareO R p = some m) (hn : 1 ≤ n) (hm : 1 < m) (hl : n * p.length ≤ 120) : ∃ p', fateO R (rp n p) = .grows 0 p' m := by
  obtain ⟨p', hp⟩ := part_rp ok h hn
  obtain ⟨h1, h2, h3⟩ := shareO_iff.mp (share_rp ok h hn)
  obtain ⟨z, hz⟩ := step_whole ok h2 h1
  refine ⟨p', ?_⟩
  show fateF R (202 + 1) [] (rp n p) = _
  rw [fateF_1, if_pos ⟨Nat.zero_le _, by rw [rp_len]; exact hl⟩, hz]
  have e : idxR (rp n p) [] = none := rfl
  simp only [e, hp, if_pos hm]
  rfl
/-- what comes round -/
theorem round_on {R : Ru} {r x : List Nat} {a b : Nat} (h1 : itO R a r = some x) (h2 : itO R (a + b) r = some x) : ∀ k, itO R (a + k * b) r = some x
  | 0 => by rw [Nat.zero_mul]; exact h1
  | k + 1 => by
    have := round_on h1 h2 k
    rw [Nat.succ_mul, ← Nat.add_assoc, itO_add, this]
    rw [itO_add, h1] at h2
    exact h2
theorem crs_end {R : Ru} {r x : List Nat} {n N : Nat} (h : itO R n r = some x) (hx : stepO R x = none) (hn : n ≤ N) : (crs R N r).getLast? = some x := by
  by_cases e : n = N
  · subst e; exact (crs_last h).2
  · have h2 : itO R (n + 1) r = none := by rw [itO_succ, h]; exact hx
    have hlen : (crs R N r).length = n + 1 := by
      have a1 := crs_get R N n r hn
      have a2 := crs_get R N (n + 1) r (by omega)
      rw [h] at a1
      rw [h2] at a2
      have b1 := (List.getElem?_eq_some_iff.mp a1).1
      have b2 := List.getElem?_eq_none_iff.mp a2
      omega
    rw [List.getLast?_eq_getElem?, hlen]
    have := crs_get R N n r hn
    rw [h] at this
    exact this
end PX
/-! Plain mathematics, part 16: letters exchanged for one another. -/
namespace PX
open PySem PySem.Spec PyProof.Rows L2
/-- S are the rules R, by other letters -/
structure Ren (R S : Ru) (f : Nat → Nat) : Prop where
  ok : okR R
  os : okR S
  cut : S.cut = R.cut
  len : S.ws.length = R.ws.length
  to : ∀ c, 97 ≤ c ∧ c < 97 + R.ws.length → 97 ≤ f c ∧ f c < 97 + R.ws.length
  inj : ∀ c d, 97 ≤ c ∧ c < 97 + R.ws.length → 97 ≤ d ∧ d < 97 + R.ws.length → f c = f d → c = d
  word : ∀ c, 97 ≤ c ∧ c < 97 + R.ws.length → wordO S (f c) = (wordO R c).map (List.map f)
theorem map_app {n : Nat} {a b : List Nat} : okL n (a ++ b) → okL n a ∧ okL n b := fun h => okL_app.mp h
theorem evrM (f : Nat → Nat) {k : Nat} (hk : 1 ≤ k) : ∀ l : List Nat, evr k (l.map f) = (evr k l).map f := fun l => by
  apply List.ext_getElem?
  intro i
  unfold evr
  rw [evF_get hk _ _ _ (Nat.le_refl _), List.getElem?_map, List.getElem?_map, evF_get hk _ _ _ (Nat.le_refl _)]
theorem evrIn {k : Nat} (hk : 1 ≤ k) {l : List Nat} {c : Nat} (h : c ∈ evr k l) : c ∈ l := by
  obtain ⟨i, hi⟩ := List.mem_iff_getElem?.mp h
  unfold evr at hi
  rw [evF_get hk _ _ _ (Nat.le_refl _)] at hi
  exact List.mem_of_getElem? hi
section
variable {R S : Ru} {f : Nat → Nat}
theorem Ren.okL (h : Ren R S f) {l : List Nat} (hl : PX.okL R.ws.length l) : PX.okL R.ws.length (l.map f) := fun c hc => by
  obtain ⟨d, hd, rfl⟩ := List.mem_map.mp hc
  exact h.to d (hl d hd)
theorem Ren.okW (h : Ren R S f) {l : List Nat} {B : Nat} (hl : PX.okW R B l) : PX.okW S B (l.map f) := ⟨by rw [h.len]; exact h.okL hl.1, by rw [List.length_map]; exact hl.2⟩
theorem Ren.eq (h : Ren R S f) : ∀ {a b : List Nat}, PX.okL R.ws.length a → PX.okL R.ws.length b → (a.map f = b.map f ↔ a = b)
  | [], [], _, _ => by simp
  | [], d :: b, _, _ => by simp
  | c :: a, [], _, _ => by simp
  | c :: a, d :: b, ha, hb => by
    have ih := Ren.eq h (a := a) (b := b) (fun x hx => ha x (List.mem_cons_of_mem _ hx)) (fun x hx => hb x (List.mem_cons_of_mem _ hx))
    rw [List.map_cons, List.map_cons, List.cons.injEq, List.cons.injEq, ih]
    constructor
    · intro ⟨e1, e2⟩; exact ⟨h.inj c d (ha c List.mem_cons_self) (hb d List.mem_cons_self) e1, e2⟩
    · intro ⟨e1, e2⟩; exact ⟨by rw [e1], e2⟩
theorem Ren.step (h : Ren R S f) {r : List Nat} (hr : PX.okL R.ws.length r) : stepO S (r.map f) = (stepO R r).map (List.map f) := by
  unfold stepO
  rw [List.length_map, h.cut]
  by_cases hl : r.length < R.cut
  · rw [if_pos hl, if_pos hl]; rfl
  · rw [if_neg hl, if_neg hl]
    cases r with
    | nil => rfl
    | cons c t =>
      show (wordO S (f c)).map _ = ((wordO R c).map _).map _
      rw [h.word c (hr c List.mem_cons_self)]
      cases wordO R c with
      | none => rfl
      | some w =>
        show some (((c :: t).map f).drop R.cut ++ w.map f) = some (((c :: t).drop R.cut ++ w).map f)
        rw [List.map_append, List.map_drop]
theorem Ren.it (h : Ren R S f) : ∀ (n : Nat) {r : List Nat}, PX.okL R.ws.length r → itO S n (r.map f) = (itO R n r).map (List.map f)
  | 0, r, _ => rfl
  | n + 1, r, hr => by
    show (stepO S (r.map f)).bind (itO S n) = ((stepO R r).bind (itO R n)).map _
    rw [h.step hr]
    cases hq : stepO R r with
    | none => rfl
    | some q => exact Ren.it h n (stepO_ok h.ok hr hq)
theorem Ren.crs (h : Ren R S f) : ∀ (n : Nat) {r : List Nat}, PX.okL R.ws.length r → PX.crs S n (r.map f) = (PX.crs R n r).map (List.map f)
  | 0, r, _ => rfl
  | n + 1, r, hr => by
    unfold PX.crs
    rw [h.step hr]
    cases hq : stepO R r with
    | none => rfl
    | some q =>
      show r.map f :: PX.crs S n (q.map f) = r.map f :: (PX.crs R n q).map _
      rw [Ren.crs h n (stepO_ok h.ok hr hq)]
theorem rp_map (f : Nat → Nat) (p : List Nat) : ∀ n, rp n (p.map f) = (rp n p).map f
  | 0 => rfl
  | n + 1 => by rw [rp_s, rp_s, rp_map f p n, List.map_append]
theorem Ren.times (h : Ren R S f) {p w : List Nat} (hp : PX.okL R.ws.length p) (hw : PX.okL R.ws.length w) : timesO (p.map f) (w.map f) = timesO p w := by
  unfold timesO
  rw [List.length_map, List.length_map]
  have e : (List.replicate (w.length / p.length) (p.map f)).flatten = ((List.replicate (w.length / p.length) p).flatten).map f := rp_map f p _
  rw [e]
  by_cases hh : w.length % p.length = 0 ∧ (List.replicate (w.length / p.length) p).flatten = w
  · rw [if_pos hh, if_pos ⟨hh.1, by rw [hh.2]⟩]
  · rw [if_neg hh, if_neg fun z => hh ⟨z.1, (h.eq (rp_ok hp _) hw).mp z.2⟩]
theorem Ren.whole (h : Ren R S f) {p : List Nat} (hp : PX.okL R.ws.length p) : PX.whole S (p.map f) = PX.whole R p := by
  unfold PX.whole
  rw [List.length_map, h.cut, evrM f h.ok.c1, List.all_map]
  congr 1
  have : ∀ l : List Nat, PX.okL R.ws.length l → l.all ((fun c => (wordO S c).isSome) ∘ f) = l.all fun c => (wordO R c).isSome := by
    intro l
    induction l with
    | nil => intro _; rfl
    | cons c t ih =>
      intro hl
      rw [List.all_cons, List.all_cons, ih fun x hx => hl x (List.mem_cons_of_mem _ hx)]
      congr 1
      show (wordO S (f c)).isSome = _
      rw [h.word c (hl c List.mem_cons_self)]
      cases wordO R c <;> rfl
  exact this _ fun c hc => hp c (evrIn h.ok.c1 hc)
theorem Ren.told (h : Ren R S f) {p : List Nat} (hp : PX.okL R.ws.length p) : PX.told S (p.map f) = (PX.told R p).map f := by
  unfold PX.told
  rw [h.cut, evrM f h.ok.c1]
  have : ∀ l : List Nat, PX.okL R.ws.length l → (l.map f).flatMap (fun c => (wordO S c).getD []) = (l.flatMap fun c => (wordO R c).getD []).map f := by
    intro l
    induction l with
    | nil => intro _; rfl
    | cons c t ih =>
      intro hl
      rw [List.map_cons, List.flatMap_cons, List.flatMap_cons, ih fun x hx => hl x (List.mem_cons_of_mem _ hx), List.map_append]
      congr 1
      rw [h.word c (hl c List.mem_cons_self)]
      cases wordO R c <;> rfl
  exact this _ fun c hc => hp c (evrIn h.ok.c1 hc)
theorem Ren.share (h : Ren R S f) {p : List Nat} (hp : PX.okL R.ws.length p) : shareO S (p.map f) = shareO R p := by
  unfold shareO
  rw [h.whole hp, h.told hp, h.times hp (told_ok h.ok p).1]
  by_cases hh : p = [] ∨ PX.whole R p = false
  · rw [if_pos hh, if_pos (by rcases hh with rfl | hh; exact .inl rfl; exact .inr hh)]
  · rw [if_neg hh, if_neg]
    intro z
    rcases z with z | z
    · exact hh (.inl (List.map_eq_nil_iff.mp z))
    · exact hh (.inr z)
theorem okTake {n : Nat} {l : List Nat} (h : PX.okL n l) (k : Nat) : PX.okL n (l.take k) := fun c hc => h c (List.mem_of_mem_take hc)
theorem Ren.part (h : Ren R S f) {r : List Nat} (hr : PX.okL R.ws.length r) : partO S (r.map f) = (partO R r).map fun p => (p.1.map f, p.2) := by
  unfold partO firstV
  rw [List.length_map]
  have e : (List.range r.length).find? (isPt S (r.map f)) = (List.range r.length).find? (isPt R r) := find_congr fun i _ => by
    unfold isPt
    rw [← List.map_take, h.times (okTake hr _) hr, h.share (okTake hr _)]
  rw [e]
  cases (List.range r.length).find? (isPt R r) with
  | none => rfl
  | some i =>
    show some ((r.map f).take (1 + i), (shareO S ((r.map f).take (1 + i))).getD 0) = some ((r.take (1 + i)).map f, (shareO R (r.take (1 + i))).getD 0)
    rw [← List.map_take, h.share (okTake hr _)]
theorem Ren.root (h : Ren R S f) {r : List Nat} (hr : PX.okL R.ws.length r) : rootO (r.map f) = ((rootO r).1.map f, (rootO r).2) := by
  unfold rootO firstV
  rw [List.length_map]
  have e : (List.range r.length).find? (isRt (r.map f)) = (List.range r.length).find? (isRt r) := find_congr fun i _ => by
    unfold isRt
    rw [List.length_map, ← List.map_take]
    have e : (List.replicate (r.length / (1 + i)) ((r.take (1 + i)).map f)).flatten = ((List.replicate (r.length / (1 + i)) (r.take (1 + i))).flatten).map f := rp_map f _ _
    rw [e]
    congr 1
    exact decide_eq_decide.mpr (h.eq (rp_ok (okTake hr _) _) hr)
  rw [e]
  cases (List.range r.length).find? (isRt r) with
  | none => rfl
  | some i =>
    show ((r.map f).take (1 + i), (r.map f).length / (1 + i)) = ((r.take (1 + i)).map f, r.length / (1 + i))
    rw [← List.map_take, List.length_map]
/-- a fate, by the other letters -/
def fatM (f : Nat → Nat) : Fate → Fate
  | .ends n e => .ends n (e.map f)
  | .round a b => .round a b
  | .grows n p m => .grows n (p.map f) m
  | .far n l => .far n l
theorem Ren.itok (h : Ren R S f) {r x : List Nat} (hr : PX.okL R.ws.length r) {n : Nat} (e : itO R n r = some x) : PX.okL R.ws.length x := (itO_ok h.ok n r.length r x ⟨hr, Nat.le_refl _⟩ e).1
theorem Ren.past (h : Ren R S f) {r : List Nat} (hr : PX.okL R.ws.length r) {n : Nat} (hp : Past R r n) : Past S (r.map f) n := by
  refine ⟨fun i hi => ?_, fun i j hij hj e => ?_⟩
  · obtain ⟨y, h1, ⟨z, h2⟩, h3, h4⟩ := hp.here i hi
    have oy := h.itok hr h1
    refine ⟨y.map f, by rw [h.it i hr, h1]; rfl, ⟨z.map f, by rw [h.step oy, h2]; rfl⟩, by rw [List.length_map]; exact h3, fun p m e => ?_⟩
    rw [h.part oy] at e
    cases hq : partO R y with
    | none => rw [hq] at e; cases e
    | some pm =>
      rw [hq] at e
      cases e
      exact h4 _ _ hq
  · obtain ⟨y, h1, _⟩ := hp.here i (by omega)
    obtain ⟨z, h2, _⟩ := hp.here j hj
    rw [h.it i hr, h.it j hr, h1, h2] at e
    have e : y.map f = z.map f := Option.some.inj e
    rw [h.eq (h.itok hr h1) (h.itok hr h2)] at e
    exact hp.apart i j hij hj (by rw [h1, h2, e])
theorem Ren.fate (h : Ren R S f) {r : List Nat} (hr : PX.okL R.ws.length r) : fateO S (r.map f) = fatM f (fateO R r) := by
  apply fateO_of
  have hf := fateO_is R r
  cases e : fateO R r with
  | ends n x =>
    rw [e] at hf
    obtain ⟨h1, h2, h3, h4, h5⟩ := hf
    exact ⟨h1, h.past hr h2, by rw [List.length_map]; exact h3, by rw [h.it n hr, h4]; rfl, by rw [h.step (h.itok hr h4), h5]; rfl⟩
  | round a b =>
    rw [e] at hf
    obtain ⟨h1, h2, h3, x, h4, h5⟩ := hf
    exact ⟨h1, h2, h.past hr h3, x.map f, by rw [h.it a hr, h4]; rfl, by rw [h.it _ hr, h5]; rfl⟩
  | grows n p m =>
    rw [e] at hf
    obtain ⟨h1, h2, h3, x, h4, h5, ⟨z, h6⟩, h7, h8⟩ := hf
    have ox := h.itok hr h4
    refine ⟨h1, h.past hr h2, h3, x.map f, by rw [h.it n hr, h4]; rfl, fun i hi z => ?_, ⟨z.map f, by rw [h.step ox, h6]; rfl⟩, by rw [List.length_map]; exact h7, by rw [h.part ox, h8]; rfl⟩
    obtain ⟨y, g1, _⟩ := h2.here i hi
    rw [h.it i hr, g1] at z
    have z : y.map f = x.map f := Option.some.inj z
    rw [h.eq (h.itok hr g1) ox] at z
    exact h5 i hi (by rw [g1, z])
  | far n l =>
    rw [e] at hf
    obtain ⟨h1, h2, x, h4, h5, h6⟩ := hf
    exact ⟨h1, h.past hr h2, x.map f, by rw [h.it n hr, h4]; rfl, by rw [List.length_map]; exact h5, h6⟩
/-! ### all rows, by the other letters -/
theorem perm_fm {α β : Type} {g k : α → List β} : ∀ {l : List α}, (∀ a ∈ l, (g a).Perm (k a)) → (l.flatMap g).Perm (l.flatMap k)
  | [], _ => .nil
  | a :: l, h => by
    rw [List.flatMap_cons, List.flatMap_cons]
    exact (h a List.mem_cons_self).append (perm_fm fun b hb => h b (List.mem_cons_of_mem _ hb))
theorem letN_okN {n : Nat} (hn : n ≤ 3) : PX.okL n (letN n) ∧ (letN n).Nodup ∧ ∀ c, 97 ≤ c ∧ c < 97 + n → c ∈ letN n := by
  have : n = 0 ∨ n = 1 ∨ n = 2 ∨ n = 3 := by omega
  unfold letN lets PX.okL
  rcases this with rfl | rfl | rfl | rfl
  · exact ⟨by decide, by decide, fun c h => by omega⟩
  · refine ⟨by decide, by decide, fun c h => ?_⟩
    have : c = 97 := by omega
    subst this; decide
  · refine ⟨by decide, by decide, fun c h => ?_⟩
    have : c = 97 ∨ c = 98 := by omega
    rcases this with rfl | rfl <;> decide
  · refine ⟨by decide, by decide, fun c h => ?_⟩
    have : c = 97 ∨ c = 98 ∨ c = 99 := by omega
    rcases this with rfl | rfl | rfl <;> decide
theorem nodup_map {f : Nat → Nat} : ∀ {l : List Nat}, (∀ c ∈ l, ∀ d ∈ l, f c = f d → c = d) → l.Nodup → (l.map f).Nodup
  | [], _, _ => .nil
  | c :: l, h, hn => by
    rw [List.map_cons, List.nodup_cons]
    rw [List.nodup_cons] at hn
    refine ⟨fun hc => ?_, nodup_map (fun a ha b hb => h a (List.mem_cons_of_mem _ ha) b (List.mem_cons_of_mem _ hb)) hn.2⟩
    obtain ⟨d, hd, e⟩ := List.mem_map.mp hc
    have := h d (List.mem_cons_of_mem _ hd) c List.mem_cons_self e
    subst this
    exact hn.1 hd
theorem nodup_sub : ∀ {a b : List Nat}, a.Nodup → (∀ x ∈ a, x ∈ b) → b.length ≤ a.length → a.Perm b
  | [], b, _, _, h => by rw [List.length_eq_zero_iff.mp (Nat.le_zero.mp h)]
  | c :: a, b, hn, hs, hl => by
    rw [List.nodup_cons] at hn
    have hc := hs c List.mem_cons_self
    have p := List.perm_cons_erase hc
    have : a.Perm (b.erase c) := nodup_sub hn.2 (fun x hx => by
      have hne : x ≠ c := fun e => hn.1 (e ▸ hx)
      exact (List.mem_erase_of_ne hne).mpr (hs x (List.mem_cons_of_mem _ hx))) (by rw [List.length_erase_of_mem hc]; simp at hl; omega)
    exact (this.cons c).trans p.symm
theorem Ren.letP (h : Ren R S f) : ((letN R.ws.length).map f).Perm (letN R.ws.length) := by
  obtain ⟨o1, o2, o3⟩ := letN_okN h.ok.n3
  refine nodup_sub ?_ (fun x hx => ?_) (by rw [List.length_map]; exact Nat.le_refl _)
  · exact nodup_map (fun c hc d hd e => h.inj c d (o1 c hc) (o1 d hd) e) o2
  · obtain ⟨c, hc, rfl⟩ := List.mem_map.mp hx
    exact o3 _ (h.to c (o1 c hc))
theorem Ren.tlsP (h : Ren R S f) : ∀ k, ((tls R.ws.length k).map (List.map f)).Perm (tls R.ws.length k)
  | 0 => List.Perm.refl _
  | k + 1 => by
    have e : (tls R.ws.length (k + 1)).map (List.map f) = (tls R.ws.length k).flatMap fun t => ((letN R.ws.length).map f).map fun c => t.map f ++ [c] := by
      show ((tls R.ws.length k).flatMap fun t => (letN R.ws.length).map fun c => t ++ [c]).map (List.map f) = _
      rw [List.map_flatMap]
      congr 1
      funext t
      rw [List.map_map, List.map_map]
      congr 1
      funext c
      simp
    rw [e]
    have p1 : ((tls R.ws.length k).flatMap fun t => ((letN R.ws.length).map f).map fun c => t.map f ++ [c]).Perm ((tls R.ws.length k).flatMap fun t => (letN R.ws.length).map fun c => t.map f ++ [c]) := perm_fm fun t _ => h.letP.map _
    have p2 : ((tls R.ws.length k).flatMap fun t => (letN R.ws.length).map fun c => t.map f ++ [c]) = ((tls R.ws.length k).map (List.map f)).flatMap fun t => (letN R.ws.length).map fun c => t ++ [c] := by
      rw [List.flatMap_map]
    rw [p2] at p1
    exact p1.trans ((Ren.tlsP h k).flatMap_right _)
end
end PX
namespace PR
open PySem PySem.Spec PyProof.Rows L2 PX
theorem e_is_within (d : D) (lo hi : Int) : m_is_within [d, .int lo, .int hi] = .ok (.bool (within d lo hi)) := by
  cases d <;> simp [m_is_within, fnM_eq, startR, mVar, qInt, qBool, within]
  split <;> rename_i h <;> simp [h]
theorem e_is_word (n : Nat) (d : D) (most : Nat) (hn : n ≤ 3) (hd : ∀ s, d = .str s → s.length ≤ sizeLine) (hm : most ≤ sizeLine) : m_is_word [.int n, d, .int most] = .ok (.bool (isWord n d most)) := by
  cases d with
  | str s =>
    have hl := hd s rfl
    rw [tx_of s] at hl ⊢
    generalize s.cps.toList = l at hl ⊢
    rw [tx_len] at hl
    rw [isWord_s]
    simp [m_is_word, fnM_eq, startR, mVar, qStr, dLen_s l hl, signs_tx]
    by_cases h : most < l.length
    · rw [if_pos h]
      simp; omega
    · rw [if_neg h, lcL_en (fun c => sD [c]) (fun c => !decide (c ∈ lets.take n)) (fun c => sD [c]) l [] ?_ ?_ (by simpa using hl)]
      · simp only [obind, List.nil_append, res_rt, flt_empty]
        rw [decide_eq_true (by omega : l.length ≤ most), Bool.true_and]
        congr 2
        refine all_congr fun c _ => ?_
        rw [Bool.not_not, Bool.eq_iff_iff, decide_eq_true_iff, mem_lets n c hn]
        simp
      · intro c hc
        simp [wipeR, mVar, abc_tx, dCut_s [97, 98, 99] none (some (n : Int)) (by decide), cutL_hi]
      · intro c hc _
        simp [wipeR, mVar]
  | _ => simp [m_is_word, fnM_eq, startR, mVar, qStr, isWord]
theorem e_is_rules (d : D) (hd : ∀ t ws w s, d = .tuple [t, .tuple ws] → w ∈ ws → w = .str s → s.length ≤ sizeLine) : m_is_rules [d] = .ok (.bool (isRules d)) := by
  cases d with
  | tuple l =>
    by_cases h1 : l.length = 2
    · match l, h1 with
      | [t, u], _ =>
        have e1 := e_is_within t 1 3
        cases u with
        | tuple ws =>
          have hd := fun w s => hd t ws w s rfl
          have ei : isRules (.tuple [t, .tuple ws]) = (within t 1 3 && (decide (1 ≤ ws.length) && decide (ws.length ≤ 3)) && ws.all (isWd ws.length)) := rfl
          rw [ei]
          by_cases h2 : within t 1 3 = true
          · by_cases h3 : 1 ≤ ws.length
            · by_cases h4 : ws.length ≤ 3
              · have h3' : (1 : Int) ≤ ws.length := by omega
                have h4' : (ws.length : Int) ≤ 3 := by omega
                simp only [h2, h3, h4, decide_true, Bool.true_and]
                simp [m_is_rules, fnM_eq, startR, mVar, qTup, e1, h2, h3', h4', wipeR]
                have key := lcL_en (fun c => c) (i := 1) (ρ := [some (Sl.val (.tuple [t, .tuple ws])), none]) (c := mAndT (mTst (mBin dIsN (mVar 1) (mC PyData.none))) (mNotT (mTru (mCall m_is_word (mCons (mUn dLen (mBin dIx (mVar 0) (mC (PyData.int 1)))) (mCons (mVar 1) (mCons (mC (PyData.int 4)) mNil))))))) (e := mVar 1) (fun w => !(isWd ws.length w)) (fun c => c) ws [] (fun w hw => ?_) (fun w hw _ => ?_) (by simp; exact Nat.le_trans h4 (by decide))
                · rw [List.map_id'] at key
                  rw [key]
                  simp only [obind, List.nil_append, res_rt, flt_empty, Bool.not_not]
                · have e2 := e_is_word ws.length w 4 h4 (fun s => hd w s hw) (by decide)
                  have e2 : m_is_word [.int ws.length, w, .int 4] = .ok (.bool (isWord ws.length w 4)) := e2
                  cases w <;> simp [mVar, e2, isWd]
                · simp [mVar]
              · have h3' : (1 : Int) ≤ ws.length := by omega
                have h4' : ¬ (ws.length : Int) ≤ 3 := by omega
                simp [m_is_rules, fnM_eq, startR, mVar, qTup, e1, h2, h3', h4', h4]
            · have h3' : ¬ (1 : Int) ≤ ws.length := by omega
              simp [m_is_rules, fnM_eq, startR, mVar, qTup, e1, h2, h3', h3]
          · have h2 : within t 1 3 = false := by simpa using h2
            simp [m_is_rules, fnM_eq, startR, mVar, qTup, e1, h2]
        | _ => simp [m_is_rules, fnM_eq, startR, mVar, qTup, e1, isRules]
    · have : isRules (.tuple l) = false := by
        unfold isRules
        split
        · rename_i e; cases e; exact absurd rfl h1
        · rfl
      have h2 : ((l.length : Int) == 2) = false := by simp; omega
      have h2' : ¬ ((l.length : Int) = 2) := by omega
      simp [m_is_rules, fnM_eq, startR, mVar, qTup, this, h2']
  | _ => simp [m_is_rules, fnM_eq, startR, mVar, qTup, isRules]
theorem e_look (d : D) (hd : ∀ t ws w s, d = .tuple [t, .tuple ws] → w ∈ ws → w = .str s → s.length ≤ sizeLine) : m_look [d] = if isRules d = true then .ok .none else .er .rules := by
  simp [m_look, fnM_eq, startR, mVar, e_is_rules d hd]
  cases isRules d <;> rfl
theorem e_look_ok {R : Ru} (ok : okR R) : m_look [ruD R] = .ok .none := by rw [e_look _ (ru_small ok), isRules_ok ok]; rfl
theorem e_is_row {R : Ru} (ok : okR R) (d : D) (hd : ∀ s, d = .str s → s.length ≤ sizeLine) : m_is_row [ruD R, d] = .ok (.bool (isWord R.ws.length d 24)) := by
  have e := e_is_word R.ws.length d 24 ok.n3 hd (by decide)
  have e : m_is_word [.int R.ws.length, d, .int 24] = .ok (.bool (isWord R.ws.length d 24)) := e
  simp [m_is_row, fnM_eq, startR, mVar, ru_ix1, e]
theorem e_look_row {R : Ru} (ok : okR R) (d : D) (hd : ∀ s, d = .str s → s.length ≤ sizeLine) : m_look_row [ruD R, d] = if isWord R.ws.length d 24 = true then .ok .none else .er .row := by
  simp [m_look_row, fnM_eq, startR, mVar, e_look_ok ok, e_is_row ok d hd]
  cases isWord R.ws.length d 24 <;> rfl
theorem e_look_row_ok {R : Ru} (ok : okR R) {r : List Nat} (h : okW R 24 r) : m_look_row [ruD R, sD r] = .ok .none := by
  rw [e_look_row ok (sD r) (fun s hs => by rw [← PyData.str.inj hs, tx_len]; exact Nat.le_trans h.2 (by decide)), isWord_ok h.1 h.2]; rfl
theorem e_word_of {R : Ru} (ok : okR R) {c : Nat} (h : 97 ≤ c ∧ c < 97 + R.ws.length) : m_word_of [ruD R, sD [c]] = .ok (oD (wordO R c)) := by
  simp [m_word_of, fnM_eq, startR, mVar, let_index ok.n3 h, ws_at h]
theorem e_has_ended {R : Ru} (ok : okR R) {r : List Nat} (h : okL R.ws.length r) (hl : r.length ≤ sizeLine) : m_has_ended [ruD R, sD r] = .ok (.bool (stepO R r).isNone) := by
  unfold stepO
  have c1 := ok.c1
  by_cases h1 : r.length < R.cut
  · have h1' : (r.length : Int) < R.cut := by omega
    simp [m_has_ended, fnM_eq, startR, mVar, dLen_s r hl, h1, h1']
  · have h1' : ¬ (r.length : Int) < R.cut := by omega
    cases r with
    | nil => exact absurd (show ([] : List Nat).length < R.cut from ok.c1) h1
    | cons c t =>
      have e := e_word_of ok (okL_cons.mp h).1
      simp only [List.length_cons, Int.natCast_add, Int.cast_ofNat_Int] at h1 h1'
      simp [m_has_ended, fnM_eq, startR, mVar, dLen_s (c :: t) hl, h1, h1', dIx_s (c :: t) 0 hl, e]
theorem e_next_of {R : Ru} (ok : okR R) {r q : List Nat} (h : okL R.ws.length r) (hl : r.length ≤ 1000000) (hq : stepO R r = some q) : m_next_of [ruD R, sD r] = .ok (sD q) := by
  obtain ⟨h1, c, t, w, rfl, h2, rfl⟩ := stepO_some hq
  have e := e_word_of ok (okL_cons.mp h).1
  rw [h2] at e
  have e : m_word_of [ruD R, sD [c]] = .ok (sD w) := e
  have hs : (c :: t).length ≤ sizeLine := Nat.le_trans hl (by decide)
  have h3 : ((c :: t).drop R.cut).length + w.length ≤ sizeLine := by
    have := (wordO_ok ok h2).2
    rw [List.length_drop]
    exact Nat.le_trans (show _ ≤ 1000004 by omega) (by decide)
  simp [m_next_of, fnM_eq, startR, mVar, dCut_s (c :: t) _ _ hs, cutL_lo, dIx_s (c :: t) 0 hs, e, dAdd_str h3]
theorem e_is_whole {R : Ru} (ok : okR R) {w : List Nat} (h : okL R.ws.length w) (hl : w.length ≤ 100000) : m_is_whole [ruD R, sD w] = .ok (.bool (whole R w)) := by
  have hs := size_le (show w.length ≤ 1000000 by omega)
  have c1 := ok.c1
  have hm := dMod_n w.length R.cut c1
  have hst := dStep_s c1 w hs
  unfold whole
  by_cases h0 : w.length % R.cut = 0
  · have hlc := lcL_en (i := 2) (fun c : Nat => sD [c]) (c := mTst (mBin dIs (mCall m_word_of (mCons (mVar 0) (mCons (mVar 2) (mNil)))) (mC .none))) (e := mVar 2) (ρ := [some (.val (ruD R)), some (.val (sD w)), none]) (fun c => (wordO R c).isNone) (fun c => sD [c]) (evr R.cut w) [] (fun c hc => by
      have e := e_word_of ok (h c (evr_mem c1 hc))
      simp [mVar, e]) (fun c _ _ => by simp [mVar]) (by simpa using Nat.le_trans (evr_le R.cut c1 w) hs)
    rw [h0] at hm
    have hm : dMod (.int (w.length : Int)) (.int (R.cut : Int)) = some (.int 0) := hm
    simp [m_is_whole, fnM_eq, startR, mVar, dLen_s w hs, hm, h0, hst, signs_tx, wipeR, -dDiv_p, -dMod_p]
    rw [hlc]
    simp only [obind, List.nil_append, res_rt, flt_empty]
    congr 2
    refine all_congr fun c _ => ?_
    cases wordO R c <;> rfl
  · generalize w.length % R.cut = m at *
    have hp : 0 < m := by omega
    simp [m_is_whole, fnM_eq, startR, mVar, dLen_s w hs, hm, h0, hp, -dDiv_p, -dMod_p]
theorem e_told_of {R : Ru} (ok : okR R) {w : List Nat} (h : okL R.ws.length w) (hl : w.length ≤ 100000) (hw : whole R w = true) : m_told_of [ruD R, sD w] = .ok (sD (told R w)) := by
  have hs := size_le (show w.length ≤ 1000000 by omega)
  have c1 := ok.c1
  have hst := dStep_s c1 w hs
  have hall := List.all_eq_true.mp (Bool.and_eq_true_iff.mp hw).2
  have hlc := lcL_enM (i := 2) (fun c : Nat => sD [c]) (e := mCall m_word_of (mCons (mVar 0) (mCons (mVar 2) (mNil)))) (ρ := [some (.val (ruD R)), some (.val (sD w)), none]) (fun c => sD ((wordO R c).getD [])) (evr R.cut w) [] (fun c hc => by
    have e := e_word_of ok (h c (evr_mem c1 hc))
    have hsome := hall c hc
    cases q : wordO R c with
    | none => rw [q] at hsome; cases hsome
    | some v =>
      rw [q] at e
      have e : m_word_of [ruD R, sD [c]] = .ok (sD v) := e
      simp [mVar, e]) (by simpa using Nat.le_trans (evr_le R.cut c1 w) hs)
  have hj := gJoin0 ((evr R.cut w).map fun c => (wordO R c).getD []) (by
    have := (told_ok ok w).2
    rw [← List.flatMap_def]
    show (told R w).length ≤ _
    omega)
  rw [← List.flatMap_def, List.map_map] at hj
  simp [m_told_of, fnM_eq, startR, mVar, hst, signs_tx, wipeR]
  rw [hlc]
  simp only [List.nil_append, Res.bind_ok, empty_tx]
  show (obind (Res.of (gJoin (tx []) (List.map (sD ∘ fun c => (wordO R c).getD []) (evr R.cut w)))) _ _).res = _
  rw [hj]
  rfl
theorem e_times_of {p w : List Nat} (hp : 1 ≤ p.length) (hpl : p.length ≤ 1000) (hl : w.length ≤ 100000) : m_times_of [sD p, sD w] = .ok (nD (timesO p w)) := by
  have hs := size_le (show w.length ≤ 1000000 by omega)
  have hps := size_le (show p.length ≤ 1000000 by omega)
  have hm := dMod_n w.length p.length hp
  have hd := dDiv_n w.length p.length hp (by omega)
  have hq : w.length / p.length ≤ w.length := Nat.div_le_self _ _
  have hq2 : p.length * (w.length / p.length) ≤ w.length := Nat.mul_div_le _ _
  have hmul := dMul_s p (w.length / p.length) (by omega) (by omega)
  unfold timesO
  generalize w.length / p.length = q at *
  generalize w.length % p.length = m at *
  by_cases h0 : m = 0
  · subst h0
    have hm : dMod (.int (w.length : Int)) (.int (p.length : Int)) = some (.int 0) := hm
    by_cases h1 : (List.replicate q p).flatten = w
    · simp [m_times_of, fnM_eq, startR, mVar, dLen_s w hs, dLen_s p hps, hm, hd, hmul, h1, nD, -dDiv_p, -dMod_p]
    · simp [m_times_of, fnM_eq, startR, mVar, dLen_s w hs, dLen_s p hps, hm, hd, hmul, h1, nD, -dDiv_p, -dMod_p]
  · have hp0 : 0 < m := by omega
    simp [m_times_of, fnM_eq, startR, mVar, dLen_s w hs, dLen_s p hps, hm, h0, hp0, nD, -dDiv_p, -dMod_p]
theorem e_share {R : Ru} (ok : okR R) {w : List Nat} (h : okL R.ws.length w) (hl : w.length ≤ 1000) : m_share [ruD R, sD w] = .ok (nD (shareO R w)) := by
  have e := e_is_whole ok h (by omega)
  unfold shareO
  cases w with
  | nil => simp [m_share, fnM_eq, startR, mVar, empty_tx, nD]
  | cons c t =>
    cases hw : whole R (c :: t) with
    | false =>
      rw [hw] at e
      simp [m_share, fnM_eq, startR, mVar, empty_tx, e, nD]
    | true =>
      rw [hw] at e
      have e2 := e_told_of ok h (by omega) hw
      have e3 := e_times_of (p := c :: t) (w := told R (c :: t)) (by simp) hl (by have := (told_ok ok (c :: t)).2; omega)
      simp [m_share, fnM_eq, startR, mVar, empty_tx, e, e2, e3]
end PR
namespace PR
open PySem PySem.Spec PyProof.Rows L2 PX
theorem e_part_of {R : Ru} (ok : okR R) {r : List Nat} (h : okL R.ws.length r) (hl : r.length ≤ 1000) : m_part_of [ruD R, sD r] = .ok (ptD (partO R r)) := by
  have hs := size_le (show r.length ≤ 1000000 by omega)
  have hg := gR2_nat 1 (r.length + 1) (big_lt (by omega)) (big_lt (by omega))
  rw [Nat.add_sub_cancel] at hg
  have hg : gR2 (.int 1) (.int ((r.length : Int) + 1)) = _ := hg
  have hc1 : (fun (i : Nat) => PyData.int ((1 + i : Nat) : Int)) = fun (i : Nat) => PyData.int (1 + (i : Int)) := by funext i; rw [Int.natCast_add]; rfl
  rw [hc1] at hg
  have key : ∀ (l : List Nat), (∀ i ∈ l, i < r.length) → ∀ (s2 s3 : Option Sl), ((forL (gSet 2) (mIfS (mTst (mBin dIsN (mCall m_times_of (mCons (mCut dCut (mVar 1) (mNo) (mPart (mVar 2))) (mCons (mVar 1) (mNil)))) (mC .none))) (mSeq (mSet 3 (mCall m_share (mCons (mVar 0) (mCons (mCut dCut (mVar 1) (mNo) (mPart (mVar 2))) (mNil))))) <|
    mIfS (mTst (mBin dIsN (mVar 3) (mC .none))) (mRet (mTup (mCons (mCut dCut (mVar 1) (mNo) (mPart (mVar 2))) (mCons (mVar 3) (mNil))))) (mNext)) (mNext)) (l.map fun (i : Nat) => PyData.int (1 + (i : Int))) [some (.val (ruD R)), some (.val (sD r)), s2, s3]).thn (mRet (mC .none))).res = .ok (ptD (firstV (isPt R r) (fun i => some (r.take (1 + i), (shareO R (r.take (1 + i))).getD 0)) none l)) := by
    intro l
    induction l with
    | nil => intro _ s2 s3; rfl
    | cons i l ih =>
      intro hm s2 s3
      have hi := hm i List.mem_cons_self
      have ih := ih fun j hj => hm j (List.mem_cons_of_mem _ hj)
      have hc := dCut_s r none (some ((1 + i : Nat) : Int)) hs
      rw [cutL_hi] at hc
      have hc : dCut (sD r) none (some (1 + (i : Int))) = some (sD (r.take (1 + i))) := by rw [← hc, Int.natCast_add]; rfl
      have htl : (r.take (1 + i)).length = 1 + i := by rw [List.length_take]; omega
      have e1 := e_times_of (p := r.take (1 + i)) (w := r) (by omega) (by omega) (by omega)
      have e2 := e_share ok (okL_take (k := 1 + i) h) (by omega)
      have hf : firstV (isPt R r) (fun i => some (r.take (1 + i), (shareO R (r.take (1 + i))).getD 0)) none (i :: l) = if isPt R r i = true then some (r.take (1 + i), (shareO R (r.take (1 + i))).getD 0) else firstV (isPt R r) (fun i => some (r.take (1 + i), (shareO R (r.take (1 + i))).getD 0)) none l := by
        unfold firstV
        rw [List.find?_cons]
        cases isPt R r i <;> rfl
      rw [hf, List.map_cons, forL_cons]
      unfold isPt
      cases h1 : timesO (r.take (1 + i)) r with
      | none =>
        rw [h1] at e1
        simp [mVar, hc, e1]
        exact ih _ _
      | some q =>
        rw [h1] at e1
        cases h2 : shareO R (r.take (1 + i)) with
        | none =>
          rw [h2] at e2
          simp [mVar, hc, e1, e2]
          exact ih _ _
        | some m =>
          rw [h2] at e2
          simp [mVar, hc, e1, e2, nD, ptD, pnD]
  have k1 := key (List.range r.length) (fun i hi => List.mem_range.mp hi) none none
  simp [m_part_of, fnM_eq, startR, mVar, dLen_s r hs, hg]
  exact k1
theorem l_fate {R : Ru} (ok : okR R) : ∀ (f : Nat) (seen : List (List Nat)) (r : List Nat) (s4 : Option Sl), okL R.ws.length r → r.length ≤ 1000 → seen.length + f = 203 → 1 ≤ f →
    ((mWhile (mAndT (mTst (mBin dLe (mVar 3) (mC (.int 200)))) (mTst (mBin dLe (mUn dLen (mVar 1)) (mC (.int 120))))) (mSeq (mIfS (mTru (mCall m_has_ended (mCons (mVar 0) (mCons (mVar 1) (mNil))))) (mRet (mTup (mCons (mC (.str "ends")) (mCons (mVar 3) (mCons (mVar 1) (mNil)))))) (mNext)) <|
    mSeq (mIfS (mDIn 2 (mVar 1)) (mRet (mTup (mCons (mC (.str "round")) (mCons (mDGet 2 (mVar 1)) (mCons (mBin dSub (mVar 3) (mDGet 2 (mVar 1))) (mNil)))))) (mNext)) <|
    mSeq (mSet 4 (mCall m_part_of (mCons (mVar 0) (mCons (mVar 1) (mNil))))) <|
    mSeq (mIfS (mAndT (mTst (mBin dIsN (mVar 4) (mC .none))) (mTst (mBin dGt (mBin dIx (mVar 4) (mC (.int 1))) (mC (.int 1))))) (mRet (mTup (mCons (mC (.str "grows")) (mCons (mVar 3) (mCons (mBin dIx (mVar 4) (mC (.int 0))) (mCons (mBin dIx (mVar 4) (mC (.int 1))) (mNil))))))) (mNext)) <|
    mSeq (mDPut 2 (mVar 1) (mVar 3)) <|
    mSeq (mSet 1 (mCall m_next_of (mCons (mVar 0) (mCons (mVar 1) (mNil))))) <|
    mAug dAddI 3 (mC (.int 1))) f [some (.val (ruD R)), some (.val (sD r)), some (.dct (dctF 0 seen)), some (.val (.int (seen.length : Int))), s4]).thn (mRet (mTup (mCons (mC (.str "far")) (mCons (mVar 3) (mCons (mUn dLen (mVar 1)) (mNil))))))).res = .ok (fatD (fateF R f seen r))
  | 0, _, _, _, _, _, _, h => absurd h (by omega)
  | f + 1, seen, r, s4, h, hl, hf, _ => by
    have hs := size_le (show r.length ≤ 1000000 by omega)
    have e := e_has_ended ok h hs
    rw [while_1]
    unfold fateF
    by_cases h1 : seen.length ≤ 200
    · by_cases h2 : r.length ≤ 120
      · rw [if_pos ⟨h1, h2⟩]
        have h1' : (seen.length : Int) ≤ 200 := by omega
        have h2' : (r.length : Int) ≤ 120 := by omega
        cases hq : stepO R r with
        | none =>
          rw [hq] at e
          simp [mVar, dLen_s r hs, h1', h2', e, fatD]
        | some q =>
          rw [hq] at e
          have hv := valD_dct r seen 0
          cases hi : idxR r seen with
          | some j =>
            rw [hi] at hv
            have hv : valD (dctF 0 seen) (tx r) = some (.int ((0 + j : Nat) : Int)) := hv
            rw [Nat.zero_add] at hv
            have hj : j < seen.length := (List.getElem?_eq_some_iff.mp (idxR_get hi)).1
            have hsub : (seen.length : Int) - (j : Int) = ((seen.length - j : Nat) : Int) := by omega
            simp [mVar, mDct, dLen_s r hs, h1', h2', e, hv, fatD, hsub]
          | none =>
            rw [hi] at hv
            have hv : valD (dctF 0 seen) (tx r) = none := hv
            have hp := e_part_of ok h hl
            have hput := putD_dct hi
            have hdl : (dctF 0 seen).length < sizeLine := by rw [dctF_len]; exact size_lt (by omega)
            have hn := e_next_of ok h (by omega) hq
            have hql := stepO_len ok hq
            have ih := l_fate ok f (seen ++ [r]) q
            have hsl : ((seen ++ [r]).length : Int) = (seen.length : Int) + 1 := by simp
            cases hpo : partO R r with
            | none =>
              rw [hpo] at hp
              have hp : m_part_of [ruD R, sD r] = .ok .none := hp
              have ih := ih (some (.val .none)) (stepO_ok ok h hq) (by omega) (by simp; omega) (by omega)
              rw [hsl] at ih
              simp [mVar, mDct, dLen_s r hs, h1', h2', e, hv, hp, hdl, hput, hn, mAug]
              exact ih
            | some pm =>
              obtain ⟨p, m⟩ := pm
              rw [hpo] at hp
              have hp : m_part_of [ruD R, sD r] = .ok (.tuple [sD p, .int (m : Int)]) := hp
              by_cases hm : 1 < m
              · have hm' : (1 : Int) < (m : Int) := by omega
                simp [mVar, mDct, dLen_s r hs, h1', h2', e, hv, hp, hm, hm', fatD]
              · have hm' : ¬ (1 : Int) < (m : Int) := by omega
                have ih := ih (some (.val (.tuple [sD p, .int (m : Int)]))) (stepO_ok ok h hq) (by omega) (by simp; omega) (by omega)
                rw [hsl] at ih
                simp [mVar, mDct, dLen_s r hs, h1', h2', e, hv, hp, hm, hm', hdl, hput, hn, mAug]
                exact ih
      · rw [if_neg (fun z => h2 z.2)]
        have h1' : (seen.length : Int) ≤ 200 := by omega
        have h2' : ¬ (r.length : Int) ≤ 120 := by omega
        simp [mVar, dLen_s r hs, h1', h2', fatD]
    · rw [if_neg (fun z => h1 z.1)]
      have h1' : ¬ (seen.length : Int) ≤ 200 := by omega
      simp [mVar, dLen_s r hs, h1', fatD]
theorem e_fate_of {R : Ru} (ok : okR R) {r : List Nat} (h : okL R.ws.length r) (hl : r.length ≤ 1000) : m_fate_of [ruD R, sD r] = .ok (fatD (fateO R r)) := by
  have key := l_fate ok 203 [] r none h hl rfl (by omega)
  simp [m_fate_of, fnM_eq, startR, mVar]
  exact key
theorem e_fate {R : Ru} (ok : okR R) {r : List Nat} (h : okW R 24 r) : m_fate [ruD R, sD r] = .ok (fatD (fateO R r)) := by
  simp [m_fate, fnM_eq, startR, mVar, e_look_row_ok ok h, e_fate_of ok h.1 (by have := h.2; omega)]
end PR
namespace PR
open PySem PySem.Spec PyProof.Rows L2 PX
theorem e_law_seed (a k : Int) : m__law_seed [.int a, .int k] = .ok (.int (sd a k)) := by
  simp [m__law_seed, fnM_eq, startR, mVar, sd]
theorem e_law_cell {d : D} {ns : List Int} (h : IsS d ns) {k : Int} (hk : 0 ≤ k) : m__law_cell [d, .int k] = .ok (.int (cl ns k)) := by
  by_cases h1 : k < ns.length
  · obtain ⟨x, hx, _⟩ := at_mem hk h1
    simp [m__law_cell, fnM_eq, startR, mVar, h.len, h.ix, h1, hx, cl]
  · simp [m__law_cell, fnM_eq, startR, mVar, h.len, h1, cl]
theorem e_law_pick (a : Int) (n : Nat) (h : 1 ≤ n) : m__law_pick [.int a, .int n] = .ok (.int (a / 97 % n)) := by
  have h' : 0 < n := h
  simp [m__law_pick, fnM_eq, startR, mVar, h']
theorem e_law_letters (a : Int) (n m : Nat) (h : 1 ≤ n) (h3 : n ≤ 3) (hm : m ≤ 100000) : m__law_letters [.int a, .int n, .int m] = .ok (sD (ltrs a n m)) := by
  have hg := gR1_nat m (big_lt (by omega))
  simp [m__law_letters, fnM_eq, startR, mVar, hg]
  rw [lcL_enM (fun (k : Nat) => .int (k : Int)) (fun (k : Nat) => sD [97 + (sd a k / 97 % n).toNat]) (List.range m) [] ?_ (by simpa using size_le (by omega))]
  · simp only [obind, List.nil_append, Res.bind_ok, empty_tx]
    have := gJoin1 (ltrs a n m) (by rw [ltrs_len]; omega)
    unfold ltrs at this
    rw [List.map_map] at this
    unfold ltrs
    rw [show List.map (fun (k : Nat) => sD [97 + (sd a (k : Int) / 97 % (n : Int)).toNat]) (List.range m) = List.map ((fun c => sD [c]) ∘ fun (k : Nat) => 97 + (sd a (k : Int) / 97 % (n : Int)).toNat) (List.range m) from rfl, this]
    rfl
  · intro k hk
    have h1 : 0 ≤ sd a k / 97 % n := Int.emod_nonneg _ (by omega)
    have h2 : sd a k / 97 % n < n := Int.emod_lt_of_pos _ (by omega)
    have e := e_law_seed a k
    have e2 := e_law_pick (sd a k) n h
    simp [wipeR, mVar, e, e2, abc_tx, dIx_s [97, 98, 99] _ (by decide)]
    rw [atI_nn _ _ h1]
    have : (sd a k / 97 % n).toNat = 0 ∨ (sd a k / 97 % n).toNat = 1 ∨ (sd a k / 97 % n).toNat = 2 := by omega
    rcases this with e | e | e <;> rw [e] <;> rfl
theorem l_law_rules (z : D) (n : Nat) (h : 1 ≤ n) (h3 : n ≤ 3) {d : D} {ns : List Int} (hd : IsS d ns) {p : Int} (hp : 0 ≤ p) : ∀ (l : List Nat) (os : List (Option (List Nat))) (s5 s6 s7 : Option Sl), (∀ w, some w ∈ os → okL n w ∧ w.length ≤ 4) → os.length + l.length ≤ 1000 →
    ∃ (os' : List (Option (List Nat))) (t5 t6 t7 : Option Sl), forL (gSet 5) (mSeq (mSet 6 (mCall m__law_seed (mCons (mBin dAdd (mCall m__law_cell (mCons (mVar 0) (mCons (mBin dAdd (mVar 1) (mC (.int 1))) (mNil)))) (mBin dMul (mC (.int 41)) (mVar 5))) (mCons (mVar 5) (mNil))))) <|
    mSeq (mSet 7 (mCall m__law_letters (mCons (mCall m__law_seed (mCons (mVar 6) (mCons (mC (.int 2)) (mNil)))) (mCons (mVar 3) (mCons (mBin dMod (mBin dDiv (mVar 6) (mC (.int 7))) (mC (.int 5))) (mNil)))))) <|
    mAppend 4 (mIf (mTst (mBin dEq (mBin dMod (mBin dDiv (mVar 6) (mC (.int 11))) (mC (.int 9))) (mC (.int 0)))) (mC .none) (mVar 7))) (l.map fun (k : Nat) => .int (k : Int)) [some (.val d), some (.val (.int p)), some (.val z), some (.val (.int n)), some (.own (os.map oD)), s5, s6, s7] = .nx [some (.val d), some (.val (.int p)), some (.val z), some (.val (.int n)), some (.own (os'.map oD)), t5, t6, t7] ∧ os'.length = os.length + l.length ∧ ∀ w, some w ∈ os' → okL n w ∧ w.length ≤ 4
  | [], os, s5, s6, s7, hos, _ => ⟨os, s5, s6, s7, rfl, rfl, hos⟩
  | k :: l, os, s5, s6, s7, hos, hl => by
    rw [List.length_cons] at hl
    obtain ⟨a, ha⟩ : ∃ a, cl ns (p + 1) + 41 * (k : Int) = a := ⟨_, rfl⟩
    obtain ⟨m, hm, hm2⟩ : ∃ m : Nat, sd a k / 7 % 5 = (m : Int) ∧ m ≤ 4 := ⟨(sd a k / 7 % 5).toNat, by omega, by omega⟩
    obtain ⟨o, ho⟩ : ∃ o, o = if sd a k / 11 % 9 = 0 then none else some (ltrs (sd (sd a k) 2) n m) := ⟨_, rfl⟩
    have e1 := e_law_cell hd (k := p + 1) (by omega)
    have e2 := e_law_seed a k
    have e3 := e_law_seed (sd a k) 2
    have e4 := e_law_letters (sd (sd a k) 2) n m h h3 (by omega)
    have hs : os.length < sizeLine := size_lt (by omega)
    obtain ⟨os', t5, t6, t7, h1, h2, h4⟩ := l_law_rules z n h h3 hd hp l (os ++ [o]) (some (.val (.int k))) (some (.val (.int (sd a k)))) (some (.val (sD (ltrs (sd (sd a k) 2) n m)))) (fun w hw => by
        rcases List.mem_append.mp hw with hw | hw
        · exact hos w hw
        · have hw := List.mem_singleton.mp hw
          rw [ho] at hw
          split at hw
          · cases hw
          · cases hw
            exact ⟨ltrs_ok _ _ _ h, by rw [ltrs_len]; exact hm2⟩) (by simp; omega)
    refine ⟨os', t5, t6, t7, ?_, by simp at h2 ⊢; omega, h4⟩
    rw [← h1, List.map_cons, forL_cons]
    by_cases hc : sd a k / 11 % 9 = 0
    · rw [if_pos hc] at ho
      simp [mVar, mAppend, e1, ha, e2, e3, hm, e4, hc, hs, ho, oD]
    · rw [if_neg hc] at ho
      simp [mVar, mAppend, e1, ha, e2, e3, hm, e4, hc, hs, ho, oD]
theorem e_law_rules {d : D} {ns : List Int} (hd : IsS d ns) {p : Int} (hp : 0 ≤ p) : ∃ R, okR R ∧ m__law_rules [d, .int p] = .ok (ruD R) := by
  have e1 := e_law_cell hd hp
  have e2 := e_law_seed (cl ns p) 0
  generalize cl ns p = a at e1 e2
  generalize hb : sd a 0 = b at e2
  obtain ⟨n, hn, h1, h3⟩ : ∃ n : Nat, atI [PyData.int (1 + b / 5 % 3), .int 2, .int 2] (b / 7 % 3) = some (.int n) ∧ 1 ≤ n ∧ n ≤ 3 := by
    obtain ⟨x, hx, hm⟩ := at_mem (l := [PyData.int (1 + b / 5 % 3), .int 2, .int 2]) (i := b / 7 % 3) (by omega) (by show b / 7 % 3 < (3 : Nat); omega)
    rw [hx]
    rcases List.mem_cons.mp hm with rfl | hm
    · exact ⟨(1 + b / 5 % 3).toNat, by rw [Int.toNat_of_nonneg (by omega)], by omega, by omega⟩
    · rcases List.mem_cons.mp hm with rfl | hm
      · exact ⟨2, rfl, by omega, by omega⟩
      · rw [List.mem_singleton.mp hm]
        exact ⟨2, rfl, by omega, by omega⟩
  have hg := gR1_nat n (big_lt (by omega))
  obtain ⟨os, t5, t6, t7, k1, k2, k3⟩ := l_law_rules (.int b) n h1 h3 hd hp (List.range n) [] none none none (fun w hw => nomatch hw) (by simp; omega)
  rw [List.length_range, List.length_nil, Nat.zero_add] at k2
  obtain ⟨c, hc, hc1, hc3⟩ : ∃ c : Nat, 1 + b / 11 % 3 = (c : Int) ∧ 1 ≤ c ∧ c ≤ 3 := ⟨(1 + b / 11 % 3).toNat, by omega, by omega, by omega⟩
  refine ⟨⟨c, os⟩, ⟨hc1, hc3, by show 1 ≤ os.length; omega, by show os.length ≤ 3; omega, by show ∀ w, some w ∈ os → okL os.length w ∧ _; rw [k2]; exact k3⟩, ?_⟩
  rw [List.map_nil] at k1
  simp [m__law_rules, fnM_eq, startR, mVar, mOwn, e1, e2, hn, hg]
  rw [k1]
  simp [hc, ruD]
end PR
namespace PR
open PySem PySem.Spec PyProof.Rows L2 PX
end PR
namespace PR
open PySem PySem.Spec PyProof.Rows L2 PX
end PR
namespace PR
open PySem PySem.Spec PyProof.Rows L2 PX
theorem within_ok {i lo hi : Int} (h : lo ≤ i) (h' : i ≤ hi) : within (.int i) lo hi = true := by
  show (decide (lo ≤ i) && decide (i ≤ hi)) = true
  rw [Bool.and_eq_true]; exact ⟨decide_eq_true h, decide_eq_true h'⟩
end PR
namespace PR
open PySem PySem.Spec PyProof.Rows L2 PX
theorem word_pt (l : List Nat) (h : l.all (fun c => decide (c < 55296)) = true) : pt l := fun c hc => of_decide_eq_true (List.all_eq_true.mp h c hc)
theorem pl_fat {R : Ru} (ok : okR R) {r : List Nat} (h : okW R 24 r) : pl 1 (fatD (fateO R r)) := by
  have hs := fateO_says R r
  have three : ∀ (w : List Nat) (n : Nat) (d : D), pt w → pl 0 d → pl 1 (.tuple [sD w, .int (n : Int), d]) := fun w n d hw hd => pl_tup fun q hq => by
    simp only [List.mem_cons, List.not_mem_nil, or_false] at hq
    rcases hq with rfl | rfl | rfl
    · exact pl_s hw
    · exact pl_int _ _
    · exact hd
  cases e : fateO R r with
  | ends n x =>
    rw [e] at hs
    have hx := itO_ok ok n 24 r x h hs.2.2.1
    show pl 1 (.tuple [.str (Str.ofString "ends"), _, _])
    rw [ends_tx]
    exact three _ _ _ (word_pt _ rfl) (pl_row hx.1 ok.n3)
  | round a b =>
    show pl 1 (.tuple [.str (Str.ofString "round"), _, _])
    rw [round_tx]
    exact three _ _ _ (word_pt _ rfl) (pl_int _ _)
  | grows n p m =>
    rw [e] at hs
    obtain ⟨_, _, x, h1, h2, h3⟩ := hs
    have hx := itO_ok ok n 24 r x h h1
    obtain ⟨_, ⟨i, _, hp⟩, _⟩ := partO_some h3
    show pl 1 (.tuple [.str (Str.ofString "grows"), .int (n : Int), sD p, .int (m : Int)])
    rw [grows_tx]
    refine pl_tup fun q hq => ?_
    simp only [List.mem_cons, List.not_mem_nil, or_false] at hq
    rcases hq with rfl | rfl | rfl | rfl
    · exact pl_s (word_pt _ rfl)
    · exact pl_int _ _
    · rw [hp]; exact pl_row (okL_take hx.1) ok.n3
    · exact pl_int _ _
  | far n l =>
    show pl 1 (.tuple [.str (Str.ofString "far"), _, _])
    rw [far_tx]
    exact three _ _ _ (word_pt _ rfl) (pl_int _ _)
end PR
namespace PR
open PySem PySem.Spec PyProof.Rows L2 PX
@[simp] theorem mCL_ap {g : List D → Option D} {m : Rho → Res (List D)} {ρ : Rho} : mCL g m ρ = (m ρ).bind fun xs => .of (g xs) := rfl
end PR
namespace PR
open PySem PySem.Spec PyProof.Rows L2 PX
@[simp] theorem mListOf_ap {m : Rho → Res D} {ρ : Rho} : mListOf m ρ = (m ρ).bind fun x => .of (dListOf x) := rfl
@[simp] theorem dListOf_t (l : List D) : dListOf (.tuple l) = some l := rfl
@[simp] theorem dListOf_l (l : List D) : dListOf (.list l) = some l := rfl
theorem e_law_in (d : D) (lo hi : Int) : m__law_in [d, .int lo, .int hi] = .ok (.bool (within d lo hi)) := e_is_within d lo hi
end PR
namespace PR
open PySem PySem.Spec PyProof.Rows L2 PX
theorem dAdd_tup {a b : List D} (h : a.length + b.length ≤ sizeLine) : dAdd (.tuple a) (.tuple b) = some (.tuple (a ++ b)) := by
  show (if a.length + b.length ≤ sizeLine then some (PyData.tuple (a ++ b)) else none) = _
  rw [if_pos h]
end PR
namespace PR
open PySem PySem.Spec PyProof.Rows L2 PX
/-- all rows of up to so many letters -/
def wdsTo (n : Nat) : Nat → List (List Nat)
  | 0 => [[]]
  | k + 1 => wdsTo n k ++ tls n (k + 1)
theorem wdsTo_ok {n : Nat} (hn : n ≤ 3) : ∀ k, ∀ w ∈ wdsTo n k, okL n w ∧ w.length ≤ k
  | 0, w, h => by rw [List.mem_singleton.mp h]; exact ⟨okL_nil n, Nat.le_refl _⟩
  | k + 1, w, h => by
    rcases List.mem_append.mp h with h | h
    · obtain ⟨a, b⟩ := wdsTo_ok hn k w h; exact ⟨a, by omega⟩
    · obtain ⟨a, b⟩ := tls_ok hn (k + 1) w h; exact ⟨a, by omega⟩
theorem sD_ne (a b : List Nat) : dNe (sD a) (sD b) = some (.bool (decide (a ≠ b))) := by
  show some (PyData.bool (!(tx a == tx b))) = _
  congr 2
  by_cases h : a = b
  · subst h; simp
  · have h2 : tx a ≠ tx b := fun z => h (tx_inj z)
    rw [beq_eq_false_iff_ne.mpr h2]; simp [h]
end PR
namespace PR
open PySem PySem.Spec PyProof.Rows L2 PX
/-! ### courses and rules held against one another -/
theorem pl_ru {R : Ru} (ok : okR R) : pl 2 (ruD R) := pl_tup fun d hd => by
  simp only [List.mem_cons, List.not_mem_nil, or_false] at hd
  rcases hd with rfl | rfl
  · exact pl_int _ _
  · refine pl_tup fun q hq => ?_
    obtain ⟨o, ho, rfl⟩ := List.mem_map.mp hq
    cases o with
    | none => exact ⟨rfl, Nat.zero_le _⟩
    | some w => exact pl_row (ok.w w ho).1 ok.n3
end PR
namespace PR
open PySem PySem.Spec PyProof.Rows L2 PX
/-- how many rows end, come round, grow, go far -/
structure Four where
  a : Nat
  b : Nat
  c : Nat
  d : Nat
def Four.add (q : Four) : Fate → Four
  | .ends _ _ => { q with a := q.a + 1 }
  | .round _ _ => { q with b := q.b + 1 }
  | .grows _ _ _ => { q with c := q.c + 1 }
  | .far _ _ => { q with d := q.d + 1 }
def Four.kvs (q : Four) : List (Str × D) := [(tx [101, 110, 100, 115], .int (q.a : Int)), (tx [114, 111, 117, 110, 100], .int (q.b : Int)), (tx [103, 114, 111, 119, 115], .int (q.c : Int)), (tx [102, 97, 114], .int (q.d : Int))]
def Four.D (q : Four) : D := .tuple [.int (q.a : Int), .int (q.b : Int), .int (q.c : Int), .int (q.d : Int)]
def srtO (R : Ru) (k : Nat) : Four := (wdsTo R.ws.length k).foldl (fun q w => q.add (fateO R w)) ⟨0, 0, 0, 0⟩
end PR
namespace PR
open PySem PySem.Spec PyProof.Rows L2 PX
theorem Ren.wdsP {R S : Ru} {f : Nat → Nat} (h : PX.Ren R S f) : ∀ k, ((wdsTo R.ws.length k).map (List.map f)).Perm (wdsTo R.ws.length k)
  | 0 => List.Perm.refl _
  | k + 1 => by
    show ((wdsTo R.ws.length k ++ tls R.ws.length (k + 1)).map _).Perm (wdsTo R.ws.length k ++ tls R.ws.length (k + 1))
    rw [List.map_append]
    exact (Ren.wdsP h k).append (h.tlsP (k + 1))
theorem four_comm (q : Four) (f g : Fate) : (q.add f).add g = (q.add g).add f := by
  cases f <;> cases g <;> rfl
theorem four_add (f : Nat → Nat) (q : Four) (g : Fate) : q.add (fatM f g) = q.add g := by cases g <;> rfl
theorem Ren.srt {R S : Ru} {f : Nat → Nat} (h : PX.Ren R S f) (k : Nat) : srtO S k = srtO R k := by
  unfold srtO
  rw [h.len, ← (Ren.wdsP h k).foldl_eq' (fun x _ y _ z => four_comm z _ _), List.foldl_map]
  have : ∀ (l : List (List Nat)), (∀ w ∈ l, okL R.ws.length w) → ∀ q : Four, l.foldl (fun q w => q.add (fateO S (w.map f))) q = l.foldl (fun q w => q.add (fateO R w)) q := by
    intro l
    induction l with
    | nil => intro _ _; rfl
    | cons w t ih =>
      intro hl q
      rw [List.foldl_cons, List.foldl_cons, h.fate (hl w List.mem_cons_self), four_add, ih fun x hx => hl x (List.mem_cons_of_mem _ hx)]
  exact this _ (fun w hw => (wdsTo_ok h.ok.n3 k w hw).1) _
theorem Ren.parts {R S : Ru} {f : Nat → Nat} (h : PX.Ren R S f) (k : Nat) : (partsO S k).length = (partsO R k).length := by
  unfold partsO
  rw [h.len, ← List.countP_eq_length_filter, ← List.countP_eq_length_filter, ← (h.tlsP k).countP_eq, List.countP_map]
  refine List.countP_congr fun t ht => ?_
  show (shareO S (t.map f)).isSome = true ↔ _
  rw [h.share (tls_ok h.ok.n3 k t ht).1]
theorem Ren.pre1 {R S : Ru} {f : Nat → Nat} (h : PX.Ren R S f) {r : List Nat} (hr : okL R.ws.length r) {c : Nat} (hc : 97 ≤ c ∧ c < 97 + R.ws.length) : (PX.pre1 S (r.map f) (f c)).Perm ((PX.pre1 R r c).map (List.map f)) := by
  unfold PX.pre1
  rw [h.word c hc]
  cases hw : wordO R c with
  | none => exact List.Perm.refl _
  | some w =>
    have ow := (wordO_ok h.ok hw).1
    show (if (r.map f).drop ((r.map f).length - (w.map f).length) = w.map f then _ else []).Perm ((if r.drop (r.length - w.length) = w then _ else []).map _)
    rw [List.length_map, List.length_map, ← List.map_drop]
    have od : okL R.ws.length (r.drop (r.length - w.length)) := fun x hx => hr x (List.mem_of_mem_drop hx)
    by_cases e : r.drop (r.length - w.length) = w
    · rw [if_pos e, if_pos (by rw [e]), h.len, h.cut, ← List.map_take]
      refine ((h.tlsP (R.cut - 1)).symm.map _).trans ?_
      rw [List.map_map, List.map_map]
      refine List.Perm.of_eq (List.map_congr_left fun t _ => ?_)
      simp
    · rw [if_neg e, if_neg (fun z => e ((h.eq od ow).mp z))]
      exact List.Perm.refl _
theorem Ren.pre {R S : Ru} {f : Nat → Nat} (h : PX.Ren R S f) {r : List Nat} (hr : okL R.ws.length r) : (PX.pre S (r.map f)).Perm ((PX.pre R r).map (List.map f)) := by
  unfold PX.pre
  rw [h.len]
  refine ((h.letP.symm).flatMap_right _).trans ?_
  rw [List.flatMap_map, List.map_flatMap]
  exact perm_fm fun c hc => Ren.pre1 h hr ((letN_okN h.ok.n3).1 c hc)
end PR
namespace PR
open PySem PySem.Spec PyProof.Rows L2 PX
/-- an order of the letters -/
structure Ord (n : Nat) (o : List Nat) : Prop where
  len : o.length = n
  lt : ∀ x ∈ o, x < n
  nd : o.Nodup
def oF (o : List Nat) (c : Nat) : Nat := 97 + o.getD (c - 97) 0
theorem turned {n t : Nat} (h1 : 1 ≤ n) (h3 : n ≤ 3) (ht : t < n) : Ord n ((List.range n).map fun k => (k + t) % n) := by
  have : (n = 1 ∧ t = 0) ∨ (n = 2 ∧ t = 0) ∨ (n = 2 ∧ t = 1) ∨ (n = 3 ∧ t = 0) ∨ (n = 3 ∧ t = 1) ∨ (n = 3 ∧ t = 2) := by omega
  rcases this with ⟨rfl, rfl⟩ | ⟨rfl, rfl⟩ | ⟨rfl, rfl⟩ | ⟨rfl, rfl⟩ | ⟨rfl, rfl⟩ | ⟨rfl, rfl⟩ <;> exact ⟨by decide, by decide, by decide⟩
theorem Ord.rev {n : Nat} {o : List Nat} (h : Ord n o) : Ord n o.reverse := ⟨by rw [List.length_reverse]; exact h.len, fun x hx => h.lt x (List.mem_reverse.mp hx), ((List.reverse_perm o).nodup_iff).mpr h.nd⟩
theorem Ord.get {n : Nat} {o : List Nat} (h : Ord n o) {k : Nat} (hk : k < n) : o[k]? = some (o.getD k 0) ∧ o.getD k 0 < n := by
  have hk' : k < o.length := by rw [h.len]; exact hk
  have e : o[k]? = some o[k] := List.getElem?_eq_getElem hk'
  have g : o.getD k 0 = o[k] := by rw [List.getD_eq_getElem?_getD, e]; rfl
  rw [g]
  exact ⟨e, h.lt _ (List.getElem_mem hk')⟩
theorem Ord.inj {n : Nat} {o : List Nat} (h : Ord n o) {a b : Nat} (ha : a < n) (hb : b < n) (e : o.getD a 0 = o.getD b 0) : a = b := by
  have h1 := (h.get ha).1
  have h2 := (h.get hb).1
  rw [e] at h1
  exact (List.getElem?_inj (by rw [h.len]; exact ha) h.nd).mp (by rw [h1, h2])
theorem Ord.all {n : Nat} {o : List Nat} (h : Ord n o) {j : Nat} (hj : j < n) : ∃ k, k < n ∧ o.getD k 0 = j := by
  have p : o.Perm (List.range n) := nodup_sub h.nd (fun x hx => List.mem_range.mpr (h.lt x hx)) (by rw [List.length_range, h.len]; exact Nat.le_refl _)
  obtain ⟨k, hk, e⟩ := List.mem_iff_getElem.mp (p.symm.subset (List.mem_range.mpr hj))
  refine ⟨k, by rw [← h.len]; exact hk, ?_⟩
  rw [List.getD_eq_getElem?_getD, List.getElem?_eq_getElem hk, e]; rfl
theorem Ord.to {n : Nat} {o : List Nat} (h : Ord n o) {c : Nat} (hc : 97 ≤ c ∧ c < 97 + n) : 97 ≤ oF o c ∧ oF o c < 97 + n := by
  have := (h.get (k := c - 97) (by omega)).2
  unfold oF
  omega
theorem word_of_k {R : Ru} (ok : okR R) {k : Nat} (hk : k < R.ws.length) {w : List Nat} (hv : R.ws.getD k none = some w) : okL R.ws.length w ∧ w.length ≤ 4 := by
  rw [List.getD_eq_getElem?_getD, List.getElem?_eq_getElem hk] at hv
  have hv : R.ws[k] = some w := hv
  exact ok.w w (by rw [← hv]; exact List.getElem_mem hk)
/-! ### names looked at -/
def one (c : Nat) : List Nat := [c]
end PR
namespace PR
open PySem PySem.Spec PyProof.Rows L2 PX
theorem n123 {n : Nat} (h1 : 1 ≤ n) (h3 : n ≤ 3) : n = 1 ∨ n = 2 ∨ n = 3 := by omega
/-! ### rules as texts -/
def dig (c : Nat) : List Nat := [48 + c]
def wdT (o : Option (List Nat)) : List Nat := match o with
  | none => [45]
  | some w => w
def shI (S : Ru) (k : Nat) : List Nat := [97 + k] ++ [58] ++ wdT (S.ws.getD k none)
def shO (S : Ru) : List Nat := dig S.cut ++ ((List.range S.ws.length).flatMap fun k => [32] ++ shI S k)
theorem dStrI_small {i : Int} (h : i.natAbs ≤ 1000000) : dStrI (.int i) = some (.str (Str.ofString (toString i))) := if_pos h
theorem dig_tx {c : Nat} (h1 : 1 ≤ c) (h3 : c ≤ 3) : dStrI (.int (c : Int)) = some (sD (dig c)) := by
  rw [dStrI_small (by omega)]
  refine congrArg some (congrArg PyData.str ?_)
  rcases n123 h1 h3 with rfl | rfl | rfl <;> decide +kernel
theorem zip_abc {S : Ru} (os : okR S) : zipD ([97, 98, 99].map fun c => sD [c]) (S.ws.map oD) = (List.range S.ws.length).map fun k => .tuple [sD [97 + k], oD (S.ws.getD k none)] := by
  apply List.ext_getElem?
  intro k
  have n3 := os.n3
  unfold zipD
  rw [List.getElem?_zipWith, List.getElem?_map, List.getElem?_map, List.getElem?_map]
  by_cases hk : k < S.ws.length
  · rw [List.getElem?_eq_getElem (l := List.range _) (by rw [List.length_range]; exact hk), List.getElem_range, List.getElem?_eq_getElem (l := S.ws) hk]
    have g : S.ws.getD k none = S.ws[k] := by rw [List.getD_eq_getElem?_getD, List.getElem?_eq_getElem hk]; rfl
    have : k = 0 ∨ k = 1 ∨ k = 2 := by omega
    show _ = some (PyData.tuple [sD [97 + k], oD (S.ws.getD k none)])
    rw [g]
    rcases this with rfl | rfl | rfl <;> rfl
  · rw [List.getElem?_eq_none (l := S.ws) (by omega), List.getElem?_eq_none (l := List.range _) (by rw [List.length_range]; omega)]
    cases [97, 98, 99][k]? <;> rfl
theorem wdT_ok {S : Ru} (os : okR S) {k : Nat} (hk : k < S.ws.length) : (wdT (S.ws.getD k none)).length ≤ 4 := by
  cases hv : S.ws.getD k none with
  | none => show 1 ≤ 4; omega
  | some w => exact (word_of_k os hk hv).2
theorem colon_tx : Str.ofString ":" = tx [58] := by decide +kernel
theorem dash_tx : Str.ofString "-" = tx [45] := by decide +kernel
theorem sp_tx : Str.ofString " " = tx [32] := by decide +kernel
theorem jn_sp (x : List Nat) : ∀ l : List (List Nat), jn [32] (x :: l) = x ++ l.flatMap fun y => [32] ++ y
  | [] => by show x = x ++ []; rw [List.append_nil]
  | y :: l => by
    show x ++ ([32] ++ jn [32] (y :: l)) = _
    rw [jn_sp y l, List.flatMap_cons, List.append_assoc]
theorem e_shown {S : Ru} (os : okR S) : m_shown [ruD S] = .ok (sD (shO S)) := by
  have e1 := e_look_ok os
  have n3 := os.n3
  have hc : dIx (ruD S) (.int 0) = some (.int (S.cut : Int)) := rfl
  have hd := dig_tx os.c1 os.c3
  have hz := zip_abc os
  have hi1 : dItems (.str (Str.ofString "abc")) = some ([97, 98, 99].map fun c => sD [c]) := rfl
  have hi2 : dItems (.tuple (S.ws.map oD)) = some (S.ws.map oD) := rfl
  have z0 : (1 : Nat) ≤ sizeLine := size_le (by omega)
  simp only [List.map_cons, List.map_nil] at hz hi1
  simp [m_shown, fnM_eq, startR, mVar, e1, hc, hd, mZip, hi1, hi2, hz, z0, -List.getD_eq_getElem?_getD]
  refine for_res (fun (k : Nat) => (.tuple [sD [97 + k], oD (S.ws.getD k none)] : D)) (fun (ls : List (List Nat)) (j : Option Sl × Option Sl) => [some (.val (ruD S)), some (.own (ls.map sD)), j.1, j.2]) (fun ls k => ls ++ [shI S k]) (fun m ls => ls.length + m ≤ 100) (List.range S.ws.length) [dig S.cut] (none, none) (by simp; omega) ?_ ?_
  · rintro k hk m ls ⟨j2, j3⟩ hl
    have hk := List.mem_range.mp hk
    have hw := wdT_ok os hk
    have a1 : dAdd (sD [97 + k]) (sD [58]) = some (sD [97 + k, 58]) := dAdd_str (size_le (by simp))
    have hsz : ls.length < sizeLine := size_lt (by omega)
    have hcol : PyData.str (Str.ofString ":") = sD [58] := congrArg PyData.str colon_tx
    refine ⟨(some (.val (sD [97 + k])), some (.val (oD (S.ws.getD k none)))), ⟨_, rfl, ?_⟩, by simp; omega⟩
    have hI : shI S k = [97 + k, 58] ++ wdT (S.ws.getD k none) := rfl
    rw [hI]
    cases hv : S.ws.getD k none with
    | none =>
      have a2 : dAdd (sD [97 + k, 58]) (sD [45]) = some (sD ([97 + k, 58] ++ [45])) := dAdd_str (size_le (by simp))
      have hdash : PyData.str (Str.ofString "-") = sD [45] := congrArg PyData.str dash_tx
      simp only [oD, wdT]
      simp [mVar, hcol, hdash, a1, mAppend, hsz]
    | some w =>
      rw [hv] at hw
      have hw : w.length ≤ 4 := hw
      have a2 : dAdd (sD [97 + k, 58]) (sD w) = some (sD ([97 + k, 58] ++ w)) := dAdd_str (size_le (by simp; omega))
      simp only [oD, wdT]
      simp [mVar, hcol, a1, mAppend, hsz]
      simp at a2
      simp [a2, hsz]
  · rintro ⟨j2, j3⟩ _
    rw [foldl_app]
    have hle : ∀ l : List Nat, (∀ k ∈ l, k < S.ws.length) → (l.flatMap fun k => shI S k).length ≤ 6 * l.length := by
      intro l
      induction l with
      | nil => intro _; exact Nat.le_refl _
      | cons k t ih =>
        intro h
        have := ih fun x hx => h x (List.mem_cons_of_mem _ hx)
        have hw := wdT_ok os (h k List.mem_cons_self)
        rw [List.flatMap_cons, List.length_append, List.length_cons]
        have : (shI S k).length = 2 + (wdT (S.ws.getD k none)).length := by unfold shI; simp only [List.length_append, List.length_cons, List.length_nil]
        omega
    have hle := hle (List.range S.ws.length) fun k hk => List.mem_range.mp hk
    have e : ((List.range S.ws.length).flatMap fun k => [shI S k]) = (List.range S.ws.length).map (shI S) := by
      generalize List.range S.ws.length = l
      induction l with
      | nil => rfl
      | cons a t ih => rw [List.flatMap_cons, List.map_cons, ih]; rfl
    rw [e]
    have hj := gJoinS [32] ([dig S.cut] ++ (List.range S.ws.length).map (shI S)) (by
      rw [List.flatten_append, List.length_append, List.length_append, ← List.flatMap_def, List.length_map, List.length_range]
      rw [List.length_range] at hle
      have hle : ((List.range S.ws.length).flatMap (shI S)).length ≤ 6 * S.ws.length := hle
      have q1 : ([dig S.cut] : List (List Nat)).flatten.length = 1 := rfl
      have q2 : ([dig S.cut] : List (List Nat)).length = 1 := rfl
      have q3 : ([32] : List Nat).length = 1 := rfl
      rw [q1, q2, q3]
      omega)
    have ej : jn [32] ([dig S.cut] ++ (List.range S.ws.length).map (shI S)) = shO S := by
      show jn [32] (dig S.cut :: (List.range S.ws.length).map (shI S)) = _
      rw [jn_sp, List.flatMap_map]; rfl
    rw [ej] at hj
    have hsp : dStr (.str (Str.ofString " ")) = some (tx [32]) := by rw [sp_tx]; rfl
    generalize ([dig S.cut] ++ (List.range S.ws.length).map (shI S)).map sD = L at *
    simp [mVar, mOwn, hsp, hj]
/-! ### by all names -/
end PR
namespace PR
open PySem PySem.Spec PyProof.Rows L2 PX
end PR
namespace PR
open PySem PySem.Spec PyProof.Rows L2 PX
end PR
namespace PR
open PySem PySem.Spec PyProof.Rows L2 PX
end PR
namespace PR
open PySem PySem.Spec PyProof.Rows L2 PX
/-! ### numbers -/
end PR
namespace PR
open PySem PySem.Spec PyProof.Rows L2 PX
end PR
namespace PR
open PySem PySem.Spec PyProof.Rows L2 PX
theorem sD_eqd (a b : List Nat) : dEq (sD a) (sD b) = some (.bool (decide (a = b))) := by
  show some (PyData.bool (tx a == tx b)) = _
  congr 2
  by_cases h : a = b
  · subst h; simp
  · simp [h]
/-! ### how often, how long -/
end PR
namespace K08
open PySem PySem.Spec PyProof.Rows L2 PX PR
theorem seq1 (ρ' : Rho) {sa sb : Rho → Out} {ρ : Rho} {v : Res D} (h : sa ρ = .nx ρ') (hk : (sb ρ').res = v) : (mSeq sa sb ρ).res = v := by
  rw [mSeq_ap, h]; exact hk
/-! ### a text stripped of signs is empty just if it has no others -/
theorem tw_lt {p : Nat → Bool} : ∀ {l : List Nat} {c : Nat}, c ∈ l → p c = false → (l.takeWhile p).length < l.length
  | a :: l, c, h, hp => by
    rw [List.takeWhile_cons]
    by_cases ha : p a = true
    · rw [if_pos ha]
      rcases List.mem_cons.mp h with rfl | h
      · rw [hp] at ha; cases ha
      · have := tw_lt h hp
        rw [List.length_cons, List.length_cons]; omega
    · rw [if_neg ha]; exact Nat.succ_pos _
theorem tw_all {p : Nat → Bool} : ∀ {l : List Nat}, (∀ c ∈ l, p c = true) → l.takeWhile p = l
  | [], _ => rfl
  | a :: l, h => by
    rw [List.takeWhile_cons, if_pos (h a List.mem_cons_self), tw_all fun c hc => h c (List.mem_cons_of_mem _ hc)]
theorem tw_at {p : Nat → Bool} : ∀ {l : List Nat}, (l.takeWhile p).length < l.length → ∃ c, c ∈ l.drop (l.takeWhile p).length ∧ p c = false
  | [], h => nomatch h
  | a :: l, h => by
    rw [List.takeWhile_cons] at h ⊢
    by_cases ha : p a = true
    · rw [if_pos ha] at h ⊢
      obtain ⟨c, h1, h2⟩ := tw_at (p := p) (l := l) (by rw [List.length_cons, List.length_cons] at h; omega)
      exact ⟨c, by rw [List.length_cons, List.drop_succ_cons]; exact h1, h2⟩
    · rw [if_neg ha] at h ⊢
      exact ⟨a, by simp, by simpa using ha⟩
theorem strip_iff (w L : List Nat) : (Txt.stripChars (tx w) (tx L) == tx []) = w.all fun c => decide (c ∈ L) := by
  have hp : ∀ c, (tx L).cps.contains c = decide (c ∈ L) := fun c => by
    rw [Bool.eq_iff_iff, decide_eq_true_iff, Array.contains_iff_mem]
    show c ∈ L.toArray ↔ _
    rw [List.mem_toArray]
  have hlen : ∀ a b, (PySem.Builtin.Str.strSub (tx w) a b).length = min b w.length - a := fun a b => by
    show ((tx w).cps.extract a b).size = _
    rw [Array.size_extract]
    rfl
  unfold Txt.stripChars
  rw [PyProof.Rows.stripBy_eq]
  have hw : (tx w).cps.toList = w := tx_cps w
  have hl : (tx w).length = w.length := tx_len w
  unfold stripLo stripHi
  simp only [if_true, hw, hl]
  have hfun : (tx L).cps.contains = fun c => decide (c ∈ L) := funext hp
  rw [hfun]
  generalize hq : (fun c => decide (c ∈ L)) = p at *
  by_cases hall : w.all p = true
  · rw [hall]
    have := tw_all (List.all_eq_true.mp hall)
    rw [this, List.drop_length]
    have : (PySem.Builtin.Str.strSub (tx w) w.length (w.length - (([] : List Nat).reverse.takeWhile p).length)).length = 0 := by
      rw [hlen]; simp
    rw [beq_iff_eq]
    generalize PySem.Builtin.Str.strSub (tx w) w.length (w.length - (([] : List Nat).reverse.takeWhile p).length) = z at *
    rw [tx_of z]
    have hz : z.cps.toList = [] := List.eq_nil_of_length_eq_zero this
    rw [hz]
  · have hf : w.all p = false := by simpa using hall
    rw [hf, beq_eq_false_iff_ne]
    intro e
    have e := congrArg Str.length e
    rw [hlen, tx_len] at e
    obtain ⟨c, hc, hpc⟩ : ∃ c ∈ w, p c = false := by
      have := List.all_eq_false.mp hf
      obtain ⟨c, h1, h2⟩ := this
      exact ⟨c, h1, by simpa using h2⟩
    have h1 := tw_lt hc hpc
    obtain ⟨c', h2, h3⟩ := tw_at h1
    have h4 := tw_lt (List.mem_reverse.mpr h2) h3
    rw [List.length_reverse, List.length_drop] at h4
    simp at e
    omega
theorem word_B (n : Nat) (hn : n ≤ 3) (l : List Nat) : isWd n (sD l) = (decide (l.length ≤ 4) && l.all fun c => decide (c ∈ letN n)) := by
  show isWord n (sD l) 4 = _
  rw [isWord_s]
  congr 1
  refine all_congr fun c _ => ?_
  rw [Bool.eq_iff_iff, decide_eq_true_iff, Bool.and_eq_true, decide_eq_true_iff, decide_eq_true_iff]
  exact (mem_lets n c hn).symm
theorem e_are_body (c : D) (ws : List D) (h3 : ws.length ≤ 3) (w : D) (hw : ∀ s, w = .str s → s.length ≤ 1000) (s : Option Sl) :
    (mSeq (mIfS (mAndT (mTst (mBin dIsN (mVar 1) (mC .none))) (mNotT (mTru (mUn (dIsi "str") (mVar 1))))) (mRet (mC (.bool false))) (mNext)) <|
    mIfS (mAndT (mTst (mBin dIsN (mVar 1) (mC .none))) (mOrT (mTst (mBin dGt (mUn dLen (mVar 1)) (mC (.int 4)))) (mTst (mBin dNe (mSM gStrip (mVar 1) (mCons (mCut dCut (mC (.str "abc")) (mNo) (mPart (mUn dLen (mBin dIx (mVar 0) (mC (.int 1)))))) (mNil))) (mC (.str "")))))) (mRet (mC (.bool false))) (mNext)) [some (.val (.tuple [c, .tuple ws])), some (.val w)] = if (!isWd ws.length w) = true then .rt (.bool false) else .nx [some (.val (.tuple [c, .tuple ws])), some (.val w)] := by
  have hcut : dCut (.str (Str.ofString "abc")) none (some (ws.length : Int)) = some (sD (letN ws.length)) := dCut_abc _
  cases w with
  | none => simp [mVar, isWd]
  | str z =>
    have hz := hw z rfl
    rw [tx_of z] at hz ⊢
    generalize z.cps.toList = l at *
    rw [tx_len] at hz
    have hd := dLen_s l (size_le (by omega))
    have hs : dStr (sD l) = some (tx l) := rfl
    have hg : gStrip (tx l) [sD (letN ws.length)] = some (.str (Txt.stripChars (tx l) (tx (letN ws.length)))) := by
      show (if (tx l).length ≤ sizeLine then _ else _) = _
      rw [if_pos (by rw [tx_len]; exact size_le (by omega))]
    have hne : dNe (.str (Txt.stripChars (tx l) (tx (letN ws.length)))) (.str (tx [])) = some (.bool (!(l.all fun c => decide (c ∈ letN ws.length)))) := by
      show some (PyData.bool (!(Txt.stripChars (tx l) (tx (letN ws.length)) == tx []))) = _
      rw [strip_iff]
    rw [word_B _ h3]
    generalize Txt.stripChars (tx l) (tx (letN ws.length)) = Z at *
    cases hb : (l.all fun c => decide (c ∈ letN ws.length)) <;> rw [hb] at hne <;> by_cases h4 : l.length ≤ 4
    · have h4' : ¬ (4 : Int) < (l.length : Int) := by omega
      simp [mVar, qStr, hd, h4, h4', hcut, mSM, hs, hg, empty_tx, hne]
    · have h4' : (4 : Int) < (l.length : Int) := by omega
      simp [mVar, qStr, hd, h4, h4', hcut, mSM, hs, hg, empty_tx, hne]
    · have h4' : ¬ (4 : Int) < (l.length : Int) := by omega
      simp [mVar, qStr, hd, h4, h4', hcut, mSM, hs, hg, empty_tx, hne]
    · have h4' : (4 : Int) < (l.length : Int) := by omega
      simp [mVar, qStr, hd, h4, h4', hcut, mSM, hs, hg, empty_tx, hne]
  | bool b => simp [mVar, qStr, isWd, isWord]
  | int i => simp [mVar, qStr, isWd, isWord]
  | list l => simp [mVar, qStr, isWd, isWord]
  | tuple l => simp [mVar, qStr, isWd, isWord]
  | dict l => simp [mVar, qStr, isWd, isWord]
theorem e_are (c : D) (ws : List D) (hw : ∀ w ∈ ws, ∀ s, w = .str s → s.length ≤ 1000) : m__law_are_rules [.tuple [c, .tuple ws]] = .ok (.bool (isRules (.tuple [c, .tuple ws]))) := by
  have e1 := e_law_in c 1 3
  have ei : isRules (.tuple [c, .tuple ws]) = (within c 1 3 && (decide (1 ≤ ws.length) && decide (ws.length ≤ 3)) && ws.all (isWd ws.length)) := rfl
  rw [ei]
  unfold m__law_are_rules
  rw [fnM_eq]
  by_cases h2 : within c 1 3 = true
  · rw [h2] at e1
    by_cases h1 : 1 ≤ ws.length
    · by_cases h3 : ws.length ≤ 3
      · have h1' : (1 : Int) ≤ ws.length := by omega
        have h3' : (ws.length : Int) ≤ 3 := by omega
        refine seq1 [some (.val (.tuple [c, .tuple ws])), none] (by simp [startR, mVar, qTup, e1]) ?_
        refine seq1 [some (.val (.tuple [c, .tuple ws])), none] (by simp [mVar, qTup, h1', h3']) ?_
        have hit : dItems (.tuple ws) = some ws := rfl
        have hix : dIx (.tuple [c, .tuple ws]) (.int 1) = some (.tuple ws) := rfl
        rw [mSeq_ap, mFor_ap]
        have hi : mIter (mBin dIx (mVar 0) (mC (.int 1))) [some (.val (.tuple [c, .tuple ws])), none] = .ok ws := by simp [mVar, hit]
        rw [hi]
        have key := forL_find (fun d : D => d) (i := 1) (b := mSeq (mIfS (mAndT (mTst (mBin dIsN (mVar 1) (mC .none))) (mNotT (mTru (mUn (dIsi "str") (mVar 1))))) (mRet (mC (.bool false))) (mNext)) <|
          mIfS (mAndT (mTst (mBin dIsN (mVar 1) (mC .none))) (mOrT (mTst (mBin dGt (mUn dLen (mVar 1)) (mC (.int 4)))) (mTst (mBin dNe (mSM gStrip (mVar 1) (mCons (mCut dCut (mC (.str "abc")) (mNo) (mPart (mUn dLen (mBin dIx (mVar 0) (mC (.int 1)))))) (mNil))) (mC (.str "")))))) (mRet (mC (.bool false))) (mNext)) (fun w => !isWd ws.length w) (fun _ => .bool false) (mRet (mC (.bool true))) (.rt (.bool true)) ws [some (.val (.tuple [c, .tuple ws])), none] (fun w hm s => e_are_body c ws h3 w (hw w hm) s) (fun s => rfl) rfl
        rw [List.map_id'] at key
        show (Out.thn (forL _ _ ws _) _).res = _
        rw [key]
        have hf : ws.all (isWd ws.length) = (ws.find? fun w => !isWd ws.length w).isNone := by
          rw [Bool.eq_iff_iff, List.all_eq_true, Option.isNone_iff_eq_none, List.find?_eq_none]
          simp
        rw [hf, decide_eq_true h1, decide_eq_true h3, h2]
        cases ws.find? fun w => !isWd ws.length w <;> rfl
      · have h3' : ¬ (ws.length : Int) ≤ 3 := by omega
        have h1' : (1 : Int) ≤ ws.length := by omega
        rw [decide_eq_false h3]
        simp [startR, mVar, qTup, e1, h3', h1']
    · have h1' : ¬ (1 : Int) ≤ ws.length := by omega
      rw [decide_eq_false h1]
      simp [startR, mVar, qTup, e1, h1']
  · have h2 : within c 1 3 = false := by simpa using h2
    rw [h2] at e1 ⊢
    simp [startR, mVar, qTup, e1]
theorem split_sp {ls : List (List Nat)} (hne : ls ≠ []) (h : ∀ l ∈ ls, 32 ∉ l) : Txt.split (tx (jn [32] ls)) (tx [32]) = ls.map tx := by
  rw [← joinG]
  refine TL.split_join (s := 32) (S := []) rfl (by decide +kernel) (fun e => hne (List.map_eq_nil_iff.mp e)) fun p hp => ?_
  obtain ⟨l, hl, rfl⟩ := List.mem_map.mp hp
  show 32 ∉ (tx l).cps.toList
  rw [tx_cps]
  exact h l hl
theorem e_split_sp {ls : List (List Nat)} (hne : ls ≠ []) (h : ∀ l ∈ ls, 32 ∉ l) (hl : (jn [32] ls).length ≤ 900000) {m : Rho → Res D} {ρ : Rho} (hm : m ρ = .ok (sD (jn [32] ls))) : mSplit m (mCons (mC (.str (Str.ofString " "))) mNil) ρ = .ok (ls.map sD) := by
  have hst : dStr (sD (jn [32] ls)) = some (tx (jn [32] ls)) := rfl
  unfold mSplit
  rw [hm]
  show ((Res.of (dStr (sD (jn [32] ls)))).bind fun a => ((mCons (mC (.str (Str.ofString " "))) mNil) ρ).bind fun l => _) = _
  rw [hst, sp_tx]
  simp only [Res.of, Res.bind_ok, mCons_ap, mC_ap, mNil_ap]
  have z : ((tx [32]).length == 0) = false := rfl
  rw [if_pos ⟨z, by rw [tx_len]; exact size_le (by omega)⟩, split_sp hne h, List.map_map]
  rfl
/-! ### any text of rules read -/
theorem spl_ex : ∀ S : List Nat, ∃ ps, ps ≠ [] ∧ (∀ p ∈ ps, 32 ∉ p) ∧ jn [32] ps = S ∧ ∀ p ∈ ps, p.length ≤ S.length ∧ ∀ c ∈ p, c ∈ S
  | [] => ⟨[[]], by simp, by simp, rfl, by simp⟩
  | a :: S => by
    obtain ⟨ps, h1, h2, h3, h4⟩ := spl_ex S
    cases ps with
    | nil => exact absurd rfl h1
    | cons p r =>
      by_cases ha : a = 32
      · refine ⟨[] :: p :: r, by simp, fun q hq => ?_, by rw [ha, ← h3]; rfl, fun q hq => ?_⟩
        · rcases List.mem_cons.mp hq with rfl | hq
          · simp
          · exact h2 q hq
        · rcases List.mem_cons.mp hq with rfl | hq
          · exact ⟨Nat.zero_le _, fun c hc => nomatch hc⟩
          · obtain ⟨k1, k2⟩ := h4 q hq
            exact ⟨by rw [List.length_cons]; omega, fun c hc => List.mem_cons_of_mem _ (k2 c hc)⟩
      · refine ⟨(a :: p) :: r, by simp, fun q hq => ?_, ?_, fun q hq => ?_⟩
        · rcases List.mem_cons.mp hq with rfl | hq
          · intro hm
            rcases List.mem_cons.mp hm with e | hm
            · exact ha e.symm
            · exact h2 p List.mem_cons_self hm
          · exact h2 q (List.mem_cons_of_mem _ hq)
        · rw [← h3]
          cases r <;> rfl
        · rcases List.mem_cons.mp hq with rfl | hq
          · obtain ⟨k1, k2⟩ := h4 p List.mem_cons_self
            refine ⟨by rw [List.length_cons, List.length_cons]; omega, fun c hc => ?_⟩
            rcases List.mem_cons.mp hc with rfl | hc
            · exact List.mem_cons_self
            · exact List.mem_cons_of_mem _ (k2 c hc)
          · obtain ⟨k1, k2⟩ := h4 q (List.mem_cons_of_mem _ hq)
            exact ⟨by rw [List.length_cons]; omega, fun c hc => List.mem_cons_of_mem _ (k2 c hc)⟩
def wv (p : List Nat) : Option (List Nat) := if p.drop 2 = [45] then none else some (p.drop 2)
def okp (k : Nat) (p : List Nat) : Bool := decide (p.take 2 = [97 + k, 58])
theorem colon : Str.ofString ":" = tx [58] := by decide +kernel
theorem dash : Str.ofString "-" = tx [45] := by decide +kernel
theorem cut2 (p : List Nat) (h : p.length ≤ 1000) : dCut (sD p) none (some 2) = some (sD (p.take 2)) ∧ dCut (sD p) (some 2) none = some (sD (p.drop 2)) := by
  constructor
  · rw [dCut_s _ _ _ (size_le (by omega))]
    have := cutL_hi p 2
    rw [show ((2 : Nat) : Int) = 2 from rfl] at this
    rw [this]
  · rw [dCut_s _ _ _ (size_le (by omega))]
    have := cutL_lo p 2
    rw [show ((2 : Nat) : Int) = 2 from rfl] at this
    rw [this]
theorem e_word_readX (k : Nat) (p : List Nat) (h : p.length ≤ 1000) : m_word_read [sD [97 + k], sD p] = if okp k p = true then .ok (oD (wv p)) else .er .text := by
  obtain ⟨c1, c2⟩ := cut2 p h
  have hcol : PyData.str (Str.ofString ":") = sD [58] := congrArg PyData.str colon
  have hdash : PyData.str (Str.ofString "-") = sD [45] := congrArg PyData.str dash
  have a1 : dAdd (sD [97 + k]) (sD [58]) = some (sD [97 + k, 58]) := dAdd_str (a := [97 + k]) (b := [58]) (size_le (by simp))
  have n1 := sD_ne (p.take 2) [97 + k, 58]
  have q1 := sD_eqd (p.drop 2) [45]
  unfold okp wv
  generalize sD (p.take 2) = T2 at *
  generalize hD2 : sD (p.drop 2) = D2 at *
  generalize sD p = T at *
  generalize sD [97 + k] = T3 at *
  generalize sD [97 + k, 58] = T4 at *
  by_cases hk : p.take 2 = [97 + k, 58]
  · have n1 : dNe T2 T4 = some (.bool false) := by rw [n1]; simp [hk]
    rw [decide_eq_true hk, if_pos rfl]
    by_cases hd : p.drop 2 = [45]
    · rw [decide_eq_true hd] at q1
      simp [m_word_read, fnM_eq, startR, mVar, c1, c2, hcol, hdash, a1, n1, q1, oD, hd]
    · rw [decide_eq_false hd] at q1
      simp [m_word_read, fnM_eq, startR, mVar, c1, c2, hcol, hdash, a1, n1, q1, oD, hd, hD2]
  · have n1 : dNe T2 T4 = some (.bool true) := by rw [n1]; simp [hk]
    rw [decide_eq_false hk, if_neg Bool.false_ne_true]
    simp [m_word_read, fnM_eq, startR, mVar, c1, c2, hcol, hdash, a1, n1]
theorem lcLX_rd2 {α : Type} (e1 e2 : α → D) {i j : Nat} {e : Rho → Res D} {ρ : Rho} (p : α → Bool) (f : α → D) (c : EC) : ∀ (l : List α) (acc : List D), (∀ a ∈ l, e ((ρ.set i (some (.val (e1 a)))).set j (some (.val (e2 a)))) = if p a = true then .ok (f a) else .er c) → acc.length + l.length ≤ sizeLine →
    lcLX (gSet2 i j) mYes e ρ (l.map fun a => .tuple [e1 a, e2 a]) acc = if l.all p = true then .ok (acc ++ l.map f) else .er c
  | [], acc, _, _ => by simp [lcLX]
  | a :: l, acc, he, hl => by
    rw [List.length_cons] at hl
    have ih := lcLX_rd2 e1 e2 p f c l (acc ++ [f a]) (fun b hb => he b (List.mem_cons_of_mem _ hb)) (by rw [List.length_append]; simp; omega)
    rw [List.map_cons]
    unfold lcLX
    show (noer (mYes _)).bind _ = _
    simp only [gSet2, mYes, noer, Res.bind_ok, if_true]
    rw [he a List.mem_cons_self, List.all_cons]
    cases hp : p a with
    | false => simp
    | true =>
      have hz : acc.length < sizeLine := by omega
      simp only [if_true, Res.bind_ok, if_pos hz, Bool.true_and]
      rw [ih, List.append_assoc]
      rfl
theorem zip_rest (rest : List (List Nat)) (h : rest.length ≤ 3) : zipD ([97, 98, 99].map fun c => sD [c]) (rest.map sD) = (List.range rest.length).map fun k => .tuple [sD [97 + k], sD (rest.getD k [])] := by
  match rest, h with
  | [], _ => rfl
  | [a], _ => rfl
  | [a, b], _ => rfl
  | [a, b, c], _ => rfl
  | _ :: _ :: _ :: _ :: _, h => simp at h
def preB (rest : List (List Nat)) : Bool := (List.range rest.length).all fun k => okp k (rest.getD k [])
def digB (p : List Nat) : Bool := decide (p = [49]) || (decide (p = [50]) || decide (p = [51]))
def ruT (p0 : List Nat) (rest : List (List Nat)) : Ru := ⟨p0.headD 0 - 48, rest.map wv⟩
def rdT (p0 : List Nat) (rest : List (List Nat)) : Option Ru := if digB p0 && (decide (rest.length ≤ 3) && (preB rest && isRules (ruD (ruT p0 rest)))) then some (ruT p0 rest) else none
theorem ws_map (rest : List (List Nat)) : (List.range rest.length).map (fun k => oD (wv (rest.getD k []))) = (rest.map wv).map oD := by
  apply List.ext_getElem?
  intro k
  rw [List.getElem?_map, List.getElem?_map, List.getElem?_map]
  by_cases hk : k < rest.length
  · rw [List.getElem?_eq_getElem (l := List.range _) (by rw [List.length_range]; exact hk), List.getElem_range, List.getElem?_eq_getElem hk]
    show some (oD (wv (rest.getD k []))) = some (oD (wv rest[k]))
    rw [List.getD_eq_getElem?_getD, List.getElem?_eq_getElem hk]; rfl
  · rw [List.getElem?_eq_none (l := List.range _) (by rw [List.length_range]; omega), List.getElem?_eq_none (by omega)]; rfl
theorem dig_in (p0 : List Nat) : dIn true (sD p0) (.tuple [.str (Str.ofString "1"), .str (Str.ofString "2"), .str (Str.ofString "3")]) = some (.bool (!digB p0)) := by
  have t1 : Str.ofString "1" = tx [49] := by decide +kernel
  have t2 : Str.ofString "2" = tx [50] := by decide +kernel
  have t3 : Str.ofString "3" = tx [51] := by decide +kernel
  rw [dInN_tup rfl, t1, t2, t3]
  have e : ∀ a b : List Nat, PyData.eqv (.str (tx a)) (sD b) = decide (b = a) := fun a b => by
    rw [show PyData.eqv (.str (tx a)) (sD b) = (tx a == tx b) from by simp only [PyData.eqv]]
    rw [Bool.eq_iff_iff, beq_iff_eq, decide_eq_true_iff]
    exact ⟨fun h => (tx_inj h).symm, fun h => by rw [h]⟩
  simp only [List.any_cons, List.any_nil, e, Bool.or_false]
  rfl
theorem dig_int {p0 : List Nat} (h : digB p0 = true) : dIntS (sD p0) = some (.int (((p0.headD 0 - 48 : Nat) : Nat) : Int)) := by
  unfold digB at h
  simp only [Bool.or_eq_true, decide_eq_true_iff] at h
  have key : ∀ (l : List Nat) (n : Nat), PySem.intText? (tx l) = some (n : Int) → l.length ≤ 640 → dIntS (sD l) = some (.int (n : Int)) := fun l n h hl => by
    show (if (tx l).length ≤ 640 then (PySem.intText? (tx l)).map PyData.int else none) = _
    rw [if_pos (by rw [tx_len]; exact hl), h]; rfl
  rcases h with rfl | rfl | rfl
  · exact key [49] 1 (by decide +kernel) (by decide)
  · exact key [50] 2 (by decide +kernel) (by decide)
  · exact key [51] 3 (by decide +kernel) (by decide)
theorem small_T {p0 : List Nat} {rest : List (List Nat)} (hl : ∀ p ∈ rest, p.length ≤ 1000) : ∀ w ∈ (rest.map wv).map oD, ∀ s, w = .str s → s.length ≤ 1000 := fun w hw s e => by
  obtain ⟨o, ho, rfl⟩ := List.mem_map.mp hw
  obtain ⟨p, hp, rfl⟩ := List.mem_map.mp ho
  unfold wv at e
  split at e
  · cases e
  · have e : PyData.str (tx (p.drop 2)) = .str s := e
    cases e
    rw [tx_len, List.length_drop]
    have := hl p hp
    omega
theorem e_readT {p0 : List Nat} {rest : List (List Nat)} (h32 : ∀ p ∈ p0 :: rest, 32 ∉ p) (hl : ∀ p ∈ p0 :: rest, p.length ≤ 1000) (hlen : (jn [32] (p0 :: rest)).length ≤ 1000) (hn : rest.length ≤ 1000) : m_read [sD (jn [32] (p0 :: rest))] = match rdT p0 rest with
    | some T => .ok (ruD T)
    | none => .er .text := by
  have hq : qStr (sD (jn [32] (p0 :: rest))) = true := rfl
  have hsp := @e_split_sp (p0 :: rest) (by simp) h32 (by omega) (mVar 0) [some (.val (sD (jn [32] (p0 :: rest)))), none, none, none, none] (by simp [mVar])
  have hin := dig_in p0
  have hix : dIx (.list ((p0 :: rest).map sD)) (.int 0) = some (sD p0) := by rw [dIx_lst, PX.atI_0]; rfl
  have hdl : dLen (.list ((p0 :: rest).map sD)) = some (.int ((rest.length + 1 : Nat) : Int)) := by
    show some (PyData.int ((((p0 :: rest).map sD).length : Nat) : Int)) = _
    rw [List.length_map]; rfl
  have hrl := e_is_rules (ruD (ruT p0 rest)) (fun t ws w s e hw hs => by
    have e : (.tuple [.int ((ruT p0 rest).cut : Int), .tuple ((rest.map wv).map oD)] : D) = .tuple [t, .tuple ws] := e
    cases e
    have := small_T (p0 := p0) (fun p hp => hl p (List.mem_cons_of_mem _ hp)) w hw s hs
    exact size_le (by omega))
  have hcut : dCut (.list ((p0 :: rest).map sD)) (some 1) none = some (.list (rest.map sD)) := by
    rw [dCut_list]
    have := cutL_lo ((p0 :: rest).map sD) 1
    exact congrArg (fun l => some (PyData.list l)) this
  generalize hT : sD (jn [32] (p0 :: rest)) = X at *
  generalize hA : (p0 :: rest).map sD = A at *
  unfold m_read
  rw [fnM_eq]
  refine seq1 [some (.val X), none, none, none, none] (by simp [startR, mVar, hq]) ?_
  refine seq1 [some (.val X), some (.val (.list A)), none, none, none] ?_ ?_
  · rw [mSet_ap, mList_ap, hsp]
    rfl
  unfold rdT
  cases hd : digB p0 with
  | false =>
    rw [hd] at hin
    simp only [dIx_lst, PX.atI_0] at hix
    simp [mVar, hix, hin]
  | true =>
    rw [hd] at hin
    have hint := dig_int hd
    by_cases h3 : rest.length ≤ 3
    · have h4 : ¬ (4 : Int) < ((rest.length + 1 : Nat) : Int) := by omega
      rw [decide_eq_true h3]
      have hit1 : dItems (.str (Str.ofString "abc")) = some ([97, 98, 99].map fun c => sD [c]) := rfl
      have hit2 : dItems (.list (rest.map sD)) = some (rest.map sD) := rfl
      have hz := zip_rest rest h3
      have hlc := lcLX_rd2 (i := 3) (j := 4) (fun k => sD [97 + k]) (fun k => sD (rest.getD k [])) (e := mCall m_word_read (mCons (mVar 3) (mCons (mVar 4) (mNil)))) (ρ := [some (.val X), some (.val (.list A)), none, none, none]) (fun k => okp k (rest.getD k [])) (fun k => oD (wv (rest.getD k []))) .text (List.range rest.length) [] (fun k hk => by
        have hk := List.mem_range.mp hk
        have e := e_word_readX k (rest.getD k []) (by
          rw [List.getD_eq_getElem?_getD, List.getElem?_eq_getElem hk]
          exact hl _ (List.mem_cons_of_mem _ (List.getElem_mem hk)))
        by_cases hb : okp k (rest.getD k []) = true
        · rw [if_pos hb] at e ⊢; simp [mVar, e, -List.getD_eq_getElem?_getD]
        · rw [if_neg hb] at e ⊢; simp [mVar, e, -List.getD_eq_getElem?_getD]) (size_le (by simp; omega))
      rw [List.nil_append, ws_map] at hlc
      have hru : (.tuple [.int (((p0.headD 0 - 48 : Nat) : Nat) : Int), .tuple ((rest.map wv).map oD)] : D) = ruD (ruT p0 rest) := rfl
      have hix' := hix
      simp only [dIx_lst, PX.atI_0] at hix'
      have hLl : (A.length : Int) = ((rest.length + 1 : Nat) : Int) := by rw [← hA]; simp
      have hpb : (List.range rest.length).all (fun k => okp k (rest.getD k [])) = preB rest := rfl
      rw [hpb] at hlc
      refine seq1 [some (.val X), some (.val (.list A)), none, none, none] ?_ ?_
      · have : ¬ (4 : Int) < (A.length : Int) := by rw [hLl]; exact h4
        simp [mVar, hix', hin, this]
      have hzip : mZip (mC (.str (Str.ofString "abc"))) (mCut dCut (mVar 1) (mPart (mC (.int 1))) mNo) [some (.val X), some (.val (.list A)), none, none, none] = .ok ((List.range rest.length).map fun k => .tuple [sD [97 + k], sD (rest.getD k [])]) := by
        rw [← hz]
        simp only [dCut_list] at hcut
        simp [mZip, mVar, hit1, hcut, hit2]
      have hfst : mUn dIntS (mBin dIx (mVar 1) (mC (.int 0))) [some (.val X), some (.val (.list A)), none, none, none] = .ok (.int (((p0.headD 0 - 48 : Nat) : Nat) : Int)) := by simp [mVar, hix', hint]
      cases hp : preB rest with
      | false =>
        rw [hp, if_neg Bool.false_ne_true] at hlc
        have hcomp : mTupL (mLcX (mZip (mC (.str (Str.ofString "abc"))) (mCut dCut (mVar 1) (mPart (mC (.int 1))) mNo)) [3, 4] (gSet2 3 4) mYes (mCall m_word_read (mCons (mVar 3) (mCons (mVar 4) mNil)))) [some (.val X), some (.val (.list A)), none, none, none] = .er .text := by
          rw [mTupL_ap, mLcX_ap, hzip]
          show (lcLX _ _ _ [some (.val X), some (.val (.list A)), none, none, none] _ []).bind _ = _
          rw [hlc]; rfl
        rw [mSeq_ap, mSet_ap, mTup_ap, mCons_ap, hfst, Res.bind_ok, mCons_ap, hcomp]
        rfl
      | true =>
        rw [hp, if_pos rfl] at hlc
        have hcomp : mTupL (mLcX (mZip (mC (.str (Str.ofString "abc"))) (mCut dCut (mVar 1) (mPart (mC (.int 1))) mNo)) [3, 4] (gSet2 3 4) mYes (mCall m_word_read (mCons (mVar 3) (mCons (mVar 4) mNil)))) [some (.val X), some (.val (.list A)), none, none, none] = .ok (.tuple ((rest.map wv).map oD)) := by
          rw [mTupL_ap, mLcX_ap, hzip]
          show (lcLX _ _ _ [some (.val X), some (.val (.list A)), none, none, none] _ []).bind _ = _
          rw [hlc]; rfl
        refine seq1 [some (.val X), some (.val (.list A)), some (.val (ruD (ruT p0 rest))), none, none] ?_ ?_
        · rw [mSet_ap, mTup_ap, mCons_ap, hfst, Res.bind_ok, mCons_ap, hcomp, mNil_ap]
          simp only [Res.bind_ok]
          rw [if_pos (size_le (by simp))]
          rfl
        rw [Bool.true_and, Bool.true_and, Bool.true_and]
        cases hr : isRules (ruD (ruT p0 rest)) with
        | true => rw [hr] at hrl; simp [mVar, hrl]
        | false => rw [hr] at hrl; simp [mVar, hrl]
    · have h4 : (4 : Int) < ((rest.length + 1 : Nat) : Int) := by omega
      rw [decide_eq_false h3]
      have hLl : (A.length : Int) = ((rest.length + 1 : Nat) : Int) := by rw [← hA]; simp
      have : (4 : Int) < (A.length : Int) := by rw [hLl]; exact h4
      simp only [dIx_lst, PX.atI_0] at hix
      simp [mVar, hix, hin, this]
theorem runF_words (rest : List (List Nat)) : ∀ (l : List Nat) (acc : List D), runF (fun (acc : List D) k => if okp k (rest.getD k []) = true then .inl (acc ++ [oD (wv (rest.getD k []))]) else .inr .none) l acc = if l.all (fun k => okp k (rest.getD k [])) = true then .inl (acc ++ l.map fun k => oD (wv (rest.getD k []))) else .inr .none
  | [], acc => by simp [runF]
  | k :: l, acc => by
    unfold runF
    rw [List.all_cons]
    cases hk : okp k (rest.getD k []) with
    | false => rfl
    | true =>
      rw [if_pos rfl, Bool.true_and]
      show runF _ l (acc ++ [oD (wv (rest.getD k []))]) = _
      rw [runF_words rest l, List.append_assoc]
      rfl
theorem e_here {p0 : List Nat} {rest : List (List Nat)} (h32 : ∀ p ∈ p0 :: rest, 32 ∉ p) (hl : ∀ p ∈ p0 :: rest, p.length ≤ 1000) (hlen : (jn [32] (p0 :: rest)).length ≤ 1000) : m__law_read_here [sD (jn [32] (p0 :: rest))] = .ok (match rdT p0 rest with
    | some T => ruD T
    | none => .none) := by
  have hsp := @e_split_sp (p0 :: rest) (by simp) h32 (by omega) (mVar 0) [some (.val (sD (jn [32] (p0 :: rest)))), none, none, none, none, none] (by simp [mVar])
  have hin := dig_in p0
  have hix : dIx (.list ((p0 :: rest).map sD)) (.int 0) = some (sD p0) := by rw [dIx_lst, PX.atI_0]; rfl
  have hrl := e_are (.int ((ruT p0 rest).cut : Int)) ((rest.map wv).map oD) (small_T (p0 := p0) fun p hp => hl p (List.mem_cons_of_mem _ hp))
  have hcut : dCut (.list ((p0 :: rest).map sD)) (some 1) none = some (.list (rest.map sD)) := by
    rw [dCut_list]
    have := cutL_lo ((p0 :: rest).map sD) 1
    exact congrArg (fun l => some (PyData.list l)) this
  have hLl : (((p0 :: rest).map sD).length : Int) = ((rest.length + 1 : Nat) : Int) := by simp
  generalize hT : sD (jn [32] (p0 :: rest)) = X at *
  generalize hA : (p0 :: rest).map sD = A at *
  unfold m__law_read_here
  rw [fnM_eq]
  refine seq1 [some (.val X), some (.val (.list A)), none, none, none, none] ?_ ?_
  · show mSet 1 _ [some (.val X), none, none, none, none, none] = _
    rw [mSet_ap, mList_ap, hsp]
    rfl
  unfold rdT
  have hix' := hix
  simp only [dIx_lst, PX.atI_0] at hix'
  cases hd : digB p0 with
  | false =>
    rw [hd] at hin
    simp [mVar, hix', hin]
  | true =>
    rw [hd] at hin
    have hint := dig_int hd
    by_cases h3 : rest.length ≤ 3
    · have h4 : ¬ (4 : Int) < ((rest.length + 1 : Nat) : Int) := by omega
      rw [decide_eq_true h3]
      have hit1 : dItems (.str (Str.ofString "abc")) = some ([97, 98, 99].map fun c => sD [c]) := rfl
      have hit2 : dItems (.list (rest.map sD)) = some (rest.map sD) := rfl
      have hz := zip_rest rest h3
      refine seq1 [some (.val X), some (.val (.list A)), none, none, none, none] ?_ ?_
      · have : ¬ (4 : Int) < (A.length : Int) := by rw [hLl]; exact h4
        simp [mVar, hix', hin, this]
      refine seq1 [some (.val X), some (.val (.list A)), some (.own []), none, none, none] (by simp) ?_
      have hzip : mZip (mC (.str (Str.ofString "abc"))) (mCut dCut (mVar 1) (mPart (mC (.int 1))) mNo) [some (.val X), some (.val (.list A)), some (.own []), none, none, none] = .ok ((List.range rest.length).map fun k => .tuple [sD [97 + k], sD (rest.getD k [])]) := by
        rw [← hz]
        simp only [dCut_list] at hcut
        simp [mZip, mVar, hit1, hcut, hit2]
      rw [mSeq_ap, mFor_ap, hzip]
      refine for_rt_res (fun k => .tuple [sD [97 + k], sD (rest.getD k [])]) (fun (acc : List D) (j : Option Sl × Option Sl) => [some (.val X), some (.val (.list A)), some (.own acc), j.1, j.2, none]) (fun (acc : List D) k => if okp k (rest.getD k []) = true then .inl (acc ++ [oD (wv (rest.getD k []))]) else .inr .none) (fun n acc => acc.length + n ≤ 3) (List.range rest.length) [] (none, none) (by simp; omega) ?_ ?_
      · rintro k hk n acc ⟨j3, j4⟩ hP
        have hk := List.mem_range.mp hk
        refine ⟨_, rfl, ?_⟩
        have hpl : (rest.getD k []).length ≤ 1000 := by
          rw [List.getD_eq_getElem?_getD, List.getElem?_eq_getElem hk]
          exact hl _ (List.mem_cons_of_mem _ (List.getElem_mem hk))
        obtain ⟨c1, c2⟩ := cut2 (rest.getD k []) hpl
        generalize rest.getD k [] = p at *
        have hcol : PyData.str (Str.ofString ":") = sD [58] := congrArg PyData.str colon
        have hdash : PyData.str (Str.ofString "-") = sD [45] := congrArg PyData.str dash
        have a1 : dAdd (sD [97 + k]) (sD [58]) = some (sD [97 + k, 58]) := dAdd_str (a := [97 + k]) (b := [58]) (size_le (by simp))
        have n1 := sD_ne (p.take 2) [97 + k, 58]
        have q1 := sD_eqd (p.drop 2) [45]
        have hsz : acc.length < sizeLine := size_lt (by omega)
        unfold okp wv
        generalize sD (p.take 2) = T2 at *
        generalize hD2 : sD (p.drop 2) = D2 at *
        generalize sD p = T at *
        generalize sD [97 + k] = T3 at *
        generalize sD [97 + k, 58] = T4 at *
        by_cases hk2 : p.take 2 = [97 + k, 58]
        · have n1 : dNe T2 T4 = some (.bool false) := by rw [n1]; simp [hk2]
          rw [decide_eq_true hk2, if_pos rfl]
          refine ⟨by show (acc ++ [_]).length + n ≤ 3; rw [List.length_append]; simp; omega, (some (.val T3), some (.val T)), ?_⟩
          by_cases hd : p.drop 2 = [45]
          · rw [decide_eq_true hd] at q1
            simp [mVar, c1, c2, hcol, hdash, a1, n1, q1, oD, hd, mAppend, hsz]
          · rw [decide_eq_false hd] at q1
            simp [mVar, c1, c2, hcol, hdash, a1, n1, q1, oD, hd, hD2, mAppend, hsz]
        · have n1 : dNe T2 T4 = some (.bool true) := by rw [n1]; simp [hk2]
          rw [decide_eq_false hk2, if_neg Bool.false_ne_true]
          simp [mVar, c1, c2, hcol, hdash, a1, n1]
      · rw [runF_words, show (List.range rest.length).all (fun k => okp k (rest.getD k [])) = preB rest from rfl, List.nil_append, ws_map]
        cases hp : preB rest with
        | false => rfl
        | true =>
          rw [if_pos rfl]
          rintro ⟨j3, j4⟩ _
          have hfst : ∀ ρ : Rho, ρ[1]? = some (some (.val (.list A))) → mUn dIntS (mBin dIx (mVar 1) (mC (.int 0))) ρ = .ok (.int (((p0.headD 0 - 48 : Nat) : Nat) : Int)) := fun ρ hρ => by simp [mVar, hρ, hix', hint]
          refine seq1 [some (.val X), some (.val (.list A)), some (.own ((rest.map wv).map oD)), j3, j4, some (.val (ruD (ruT p0 rest)))] ?_ ?_
          · have hown : mTupL (mOwn 2) [some (.val X), some (.val (.list A)), some (.own ((rest.map wv).map oD)), j3, j4, none] = .ok (.tuple ((rest.map wv).map oD)) := rfl
            rw [mSet_ap, mTup_ap, mCons_ap, hfst _ rfl, Res.bind_ok, mCons_ap, hown, mNil_ap]
            simp only [Res.bind_ok]
            rw [if_pos (size_le (by simp))]
            rfl
          have hru : (.tuple [.int ((ruT p0 rest).cut : Int), .tuple ((rest.map wv).map oD)] : D) = ruD (ruT p0 rest) := rfl
          rw [hru] at hrl
          rw [Bool.true_and, Bool.true_and, Bool.true_and]
          cases hr : isRules (ruD (ruT p0 rest)) with
          | true => rw [hr] at hrl; simp [mVar, hrl]
          | false => rw [hr] at hrl; simp [mVar, hrl]
    · have h4 : (4 : Int) < ((rest.length + 1 : Nat) : Int) := by omega
      rw [decide_eq_false h3]
      have : (4 : Int) < (A.length : Int) := by rw [hLl]; exact h4
      simp [mVar, hix', hin, this]
theorem e_read_er (d : D) (h : m_read [d] = .er .text) : m__law_read [d] = .ok .none := by
  simp [m__law_read, fnM_eq, startR, mVar, h]
  rw [tr_er us _ .text _ (mSet 1 (mC .none)) (by decide) rfl]
  simp [mVar, noerO]
theorem e_read_ok (d v : D) (h : m_read [d] = .ok v) : m__law_read [d] = .ok v := by
  simp [m__law_read, fnM_eq, startR, mVar, h]
theorem rd_pl {S : List Nat} (hc : ∀ c ∈ S, c < 128) {p0 : List Nat} {rest : List (List Nat)} (hs : ∀ p ∈ p0 :: rest, ∀ c ∈ p, c ∈ S) : pl 2 (match rdT p0 rest with
    | some T => ruD T
    | none => .none) := by
  unfold rdT
  split
  · rename_i T e
    split at e
    · cases e
      refine pl_tup fun d hd => ?_
      simp only [List.mem_cons, List.not_mem_nil, or_false] at hd
      rcases hd with rfl | rfl
      · exact pl_int _ _
      · refine pl_tup fun d hd => ?_
        obtain ⟨o, ho, rfl⟩ := List.mem_map.mp hd
        obtain ⟨p, hp, rfl⟩ := List.mem_map.mp ho
        unfold wv
        split
        · exact pl_none _
        · refine pl_s fun c hcm => ?_
          have := hc c (hs p (List.mem_cons_of_mem _ hp) c (List.mem_of_mem_drop hcm))
          omega
    · cases e
  · exact pl_none _
/-- both read the same of any text -/
theorem read_same (S : List Nat) (hl : S.length ≤ 100) (hc : ∀ c ∈ S, c < 128) : ∃ v, m__law_read [sD S] = .ok v ∧ m__law_read_here [sD S] = .ok v ∧ dNe v v = some (.bool false) := by
  obtain ⟨ps, h1, h2, h3, h4⟩ := spl_ex S
  cases ps with
  | nil => exact absurd rfl h1
  | cons p0 rest =>
    subst h3
    have hl' : ∀ p ∈ p0 :: rest, p.length ≤ 1000 := fun p hp => by have := (h4 p hp).1; omega
    have hn : rest.length ≤ 1000 := by
      have : ∀ l : List (List Nat), l.length ≤ (jn [32] l).length + 1 := fun l => by
        induction l with
        | nil => exact Nat.zero_le _
        | cons a t ih =>
          cases t with
          | nil => simp
          | cons b r =>
            show (b :: r).length + 1 ≤ (a ++ ([32] ++ jn [32] (b :: r))).length + 1
            rw [List.length_append, List.length_append]
            simp at ih ⊢
            omega
      have := this (p0 :: rest)
      rw [List.length_cons] at this
      omega
    have er := e_readT h2 hl' (by omega) hn
    have eh := e_here h2 hl' (by omega)
    have hp := rd_pl hc (p0 := p0) (rest := rest) fun p hp => (h4 p hp).2
    refine ⟨_, ?_, eh, dNe_self hp (by decide)⟩
    cases hr : rdT p0 rest with
    | none => rw [hr] at er; exact e_read_er _ er
    | some T => rw [hr] at er; exact e_read_ok _ _ er
theorem bad_texts {k : Nat} (hk : k < 6) (X : D) (hX : [PyData.none, .int 7, .str (Str.ofString ""), .str (Str.ofString "1"), .str (Str.ofString "1 "), .str (Str.ofString "a:")][k]? = some X) : m__law_read [X] = .ok .none := by
  have t1 : Str.ofString "1" = tx [49] := by decide +kernel
  have t2 : Str.ofString "1 " = tx [49, 32] := by decide +kernel
  have t3 : Str.ofString "a:" = tx [97, 58] := by decide +kernel
  have bad : ∀ (p0 : List Nat) (rest : List (List Nat)), (∀ p ∈ p0 :: rest, 32 ∉ p) → (∀ p ∈ p0 :: rest, p.length ≤ 1000) → (jn [32] (p0 :: rest)).length ≤ 1000 → rest.length ≤ 1000 → rdT p0 rest = none → m__law_read [sD (jn [32] (p0 :: rest))] = .ok .none := fun p0 rest h1 h2 h3 h4 h5 => by
    have := e_readT h1 h2 h3 h4
    rw [h5] at this
    exact e_read_er _ this
  have q1 : qStr PyData.none = false := rfl
  have q2 : qStr (.int 7) = false := rfl
  rcases (by omega : k = 0 ∨ k = 1 ∨ k = 2 ∨ k = 3 ∨ k = 4 ∨ k = 5) with rfl | rfl | rfl | rfl | rfl | rfl
  · cases hX
    exact e_read_er _ (by simp [m_read, fnM_eq, startR, mVar, q1])
  · cases hX
    exact e_read_er _ (by simp [m_read, fnM_eq, startR, mVar, q2])
  · cases hX
    rw [empty_tx]
    exact bad [] [] (by decide) (by decide) (by decide) (by decide) (by decide +kernel)
  · cases hX
    rw [t1]
    exact bad [49] [] (by decide) (by decide) (by decide) (by decide) (by decide +kernel)
  · cases hX
    rw [t2]
    exact bad [49] [[]] (by decide) (by decide) (by decide) (by decide) (by decide +kernel)
  · cases hX
    rw [t3]
    exact bad [97, 58] [] (by decide) (by decide) (by decide) (by decide) (by decide +kernel)
/-! ### refused, in so many ways -/
theorem asked_er (c : EC) (hc : c = .row ∨ c = .rules) {U row t : D} (h : m_look_row [U, row] = .er c) {k : Nat} (hk : k < 12) : m__law_asked [.int (k : Int), U, row, t] = .er c := by
  have f0 : m_next_row [U, row] = .er c := by simp [m_next_row, fnM_eq, startR, mVar, h]
  have f1 : m_after [U, row, t] = .er c := by simp [m_after, fnM_eq, startR, mVar, h]
  have f2 : m_image [U, row] = .er c := by simp [m_image, fnM_eq, startR, mVar, h]
  have f3 : m_leading [U, row, t] = .er c := by simp [m_leading, fnM_eq, startR, mVar, h]
  have f4 : m_course [U, row, t] = .er c := by simp [m_course, fnM_eq, startR, mVar, h]
  have f5 : m_before [U, row] = .er c := by simp [m_before, fnM_eq, startR, mVar, h]
  have f6 : m_root [U, row] = .er c := by simp [m_root, fnM_eq, startR, mVar, h]
  have f7 : m_grows_by [U, row] = .er c := by simp [m_grows_by, fnM_eq, startR, mVar, h]
  have f8 : m_fate [U, row] = .er c := by simp [m_fate, fnM_eq, startR, mVar, h]
  have f9 : m_is_fate [U, row, t] = .er c := by simp [m_is_fate, fnM_eq, startR, mVar, h]
  have f10 : m_longest [U, row] = .er c := by simp [m_longest, fnM_eq, startR, mVar, h]
  have f11 : m_meet [U, row, t] = .er c := by simp [m_meet, fnM_eq, startR, mVar, h]
  rcases (by omega : k = 0 ∨ k = 1 ∨ k = 2 ∨ k = 3 ∨ k = 4 ∨ k = 5 ∨ k = 6 ∨ k = 7 ∨ k = 8 ∨ k = 9 ∨ k = 10 ∨ k = 11) with rfl | rfl | rfl | rfl | rfl | rfl | rfl | rfl | rfl | rfl | rfl | rfl <;>
    simp [m__law_asked, fnM_eq, startR, mVar, f0, f1, f2, f3, f4, f5, f6, f7, f8, f9, f10, f11]
theorem asked_look {U row t : D} (h : m_look [U] = .er .rules) {k : Nat} (hk : k < 14) : m__law_asked [.int (k : Int), U, row, t] = .er .rules := by
  have hr : m_look_row [U, row] = .er .rules := by simp [m_look_row, fnM_eq, startR, mVar, h]
  by_cases h12 : k < 12
  · exact asked_er .rules (.inr rfl) hr h12
  · have g1 : m_all_parts [U, t] = .er .rules := by simp [m_all_parts, fnM_eq, startR, mVar, h]
    have g2 : m_sorted_out [U, t] = .er .rules := by simp [m_sorted_out, fnM_eq, startR, mVar, h]
    rcases (by omega : k = 12 ∨ k = 13) with rfl | rfl <;> simp [m__law_asked, fnM_eq, startR, mVar, g1, g2]
def ruleW : D := .str (Str.ofString "rules")
def rowW : D := .str (Str.ofString "row")
theorem told_rules {U row t : D} (h : m_look [U] = .er .rules) {k : Nat} (hk : k < 14) : m__law_told [.int (k : Int), U, row, t] = .ok ruleW := by
  have e := asked_look (row := row) (t := t) h hk
  simp [m__law_told, fnM_eq, startR, mVar, e]
  rw [tr_er us _ .rules _ (mSet 4 (mC (.str "rules"))) (by decide) rfl]
  simp [mVar, noerO]
  rfl
theorem told_row {U row t : D} (h : m_look_row [U, row] = .er .row) {k : Nat} (hk : k < 12) : m__law_told [.int (k : Int), U, row, t] = .ok rowW := by
  have e := asked_er .row (.inl rfl) (t := t) h hk
  simp [m__law_told, fnM_eq, startR, mVar, e]
  rw [tr_er us _ .row _ (mSet 4 (mC (.str "row"))) (by decide) rfl]
  simp [mVar, noerO]
  rfl
/-! ### what isRules says -/
theorem isRules_ru {d : D} (h : isRules d = true) : ∃ S, okR S ∧ d = ruD S := by
  unfold isRules at h
  split at h
  · rename_i c ws
    rw [Bool.and_eq_true, Bool.and_eq_true, Bool.and_eq_true, decide_eq_true_iff, decide_eq_true_iff] at h
    obtain ⟨⟨h1, h2, h3⟩, h4⟩ := h
    obtain ⟨i, rfl, i1, i3⟩ : ∃ i : Int, c = .int i ∧ 1 ≤ i ∧ i ≤ 3 := by
      unfold within at h1
      split at h1
      · rename_i i
        rw [Bool.and_eq_true, decide_eq_true_iff, decide_eq_true_iff] at h1
        exact ⟨i, rfl, h1.1, h1.2⟩
      · cases h1
    have toO : ∀ w ∈ ws, ∃ o : Option (List Nat), oD o = w ∧ ∀ l, o = some l → okL ws.length l ∧ l.length ≤ 4 := fun w hw => by
      have hb := List.all_eq_true.mp h4 w hw
      unfold isWd at hb
      split at hb
      · exact ⟨none, rfl, fun l e => nomatch e⟩
      · unfold isWord at hb
        split at hb
        · rename_i z _
          rw [Bool.and_eq_true, decide_eq_true_iff] at hb
          refine ⟨some z.cps.toList, congrArg PyData.str (tx_of z).symm, fun l e => ?_⟩
          cases e
          refine ⟨fun c hc => ?_, ?_⟩
          · have := List.all_eq_true.mp hb.2 c hc
            rw [Bool.and_eq_true, decide_eq_true_iff, decide_eq_true_iff] at this
            exact this
          · have := hb.1
            rw [tx_of z, tx_len] at this
            exact this
        · cases hb
    have all : ∀ l : List D, (∀ w ∈ l, w ∈ ws) → ∃ os : List (Option (List Nat)), os.map oD = l ∧ ∀ o ∈ os, ∀ x, o = some x → okL ws.length x ∧ x.length ≤ 4 := fun l => by
      induction l with
      | nil => exact fun _ => ⟨[], rfl, fun o ho => nomatch ho⟩
      | cons w t ih =>
        intro hl
        obtain ⟨os, e1, e2⟩ := ih fun x hx => hl x (List.mem_cons_of_mem _ hx)
        obtain ⟨o, e3, e4⟩ := toO w (hl w List.mem_cons_self)
        exact ⟨o :: os, by rw [List.map_cons, e3, e1], fun x hx => by
          rcases List.mem_cons.mp hx with rfl | hx
          · exact e4
          · exact e2 x hx⟩
    obtain ⟨os, e1, e2⟩ := all ws fun w hw => hw
    have hl : os.length = ws.length := by rw [← e1, List.length_map]
    refine ⟨⟨i.toNat, os⟩, ⟨?_, ?_, ?_, ?_, fun w hw => ?_⟩, ?_⟩
    · show 1 ≤ i.toNat; omega
    · show i.toNat ≤ 3; omega
    · show 1 ≤ os.length; omega
    · show os.length ≤ 3; omega
    · show okL os.length w ∧ w.length ≤ 4
      rw [hl]; exact e2 _ hw _ rfl
    · show (.tuple [.int i, .tuple ws] : D) = .tuple [.int (i.toNat : Int), .tuple (os.map oD)]
      rw [e1, Int.toNat_of_nonneg (by omega)]
  · cases h
/-- told(8, bad, "", None) -/
theorem told_fate {S : Ru} (os : okR S) : ∃ F, m__law_told [.int 8, ruD S, .str (Str.ofString ""), .none] = .ok F ∧ dEq F ruleW = some (.bool false) := by
  have e := e_fate os (r := []) ⟨okL_nil _, Nat.zero_le _⟩
  rw [empty_tx]
  have e : m_fate [ruD S, .str (tx [])] = .ok (fatD (fateO S [])) := e
  refine ⟨fatD (fateO S []), ?_, ?_⟩
  · generalize fatD (fateO S []) = F at *
    simp [m__law_told, m__law_asked, fnM_eq, startR, mVar, e]
  · have hp := pl_fat os (r := []) ⟨okL_nil _, Nat.zero_le _⟩
    have hr : pl 1 ruleW := pl_word _ (by decide +kernel)
    rw [dEq_pl hp hr (by decide)]
    cases fateO S [] <;> simp [fatD, ruleW, PyData.eqv]
theorem look_bad {d : D} (hd : ∀ t ws w s, d = .tuple [t, .tuple ws] → w ∈ ws → w = .str s → s.length ≤ sizeLine) (h : isRules d = false) : m_look [d] = .er .rules := by
  rw [e_look d hd, h]; rfl
theorem shO_jn (S : Ru) : shO S = jn [32] (dig S.cut :: (List.range S.ws.length).map (shI S)) := by
  rw [jn_sp, List.flatMap_map]; rfl
theorem shI_ok {S : Ru} (os : okR S) {k : Nat} (hk : k < S.ws.length) : (shI S k).length ≤ 6 ∧ 32 ∉ shI S k := by
  have n3 := os.n3
  have hI : shI S k = (97 + k) :: 58 :: wdT (S.ws.getD k none) := rfl
  have hw := wdT_ok os hk
  rw [hI]
  refine ⟨by simp only [List.length_cons]; omega, fun hm => ?_⟩
  rcases List.mem_cons.mp hm with e | hm
  · omega
  · rcases List.mem_cons.mp hm with e | hm
    · omega
    · cases hv : S.ws.getD k none with
      | none => rw [hv] at hm; have := List.mem_singleton.mp hm; omega
      | some w => rw [hv] at hm; have := (word_of_k os hk hv).1 32 hm; omega
theorem text_for {S : Ru} (os : okR S) (x0 x2 : Option Sl) : ∃ j : Option Sl × Option Sl, mFor (mZip (mC (.str "abc")) (mBin dIx (mVar 1) (mC (.int 1)))) (gSet2 4 5) (mSet 3 (mBin dAdd (mBin dAdd (mBin dAdd (mBin dAdd (mVar 3) (mC (.str " "))) (mVar 4)) (mC (.str ":"))) (mIf (mTst (mBin dIs (mVar 5) (mC .none))) (mC (.str "-")) (mVar 5))))
      [x0, some (.val (ruD S)), x2, some (.val (sD (dig S.cut))), none, none, none, none, none, none, none, none, none, none, none, none, none, none] =
    .nx [x0, some (.val (ruD S)), x2, some (.val (sD (shO S))), j.1, j.2, none, none, none, none, none, none, none, none, none, none, none, none] := by
  have n3 := os.n3
  have hz := zip_abc os
  have hi1 : dItems (.str (Str.ofString "abc")) = some ([97, 98, 99].map fun c => sD [c]) := rfl
  have hi2 : dItems (.tuple (S.ws.map oD)) = some (S.ws.map oD) := rfl
  have hws : dIx (ruD S) (.int 1) = some (.tuple (S.ws.map oD)) := rfl
  have hzip : mZip (mC (.str (Str.ofString "abc"))) (mBin dIx (mVar 1) (mC (.int 1))) [x0, some (.val (ruD S)), x2, some (.val (sD (dig S.cut))), none, none, none, none, none, none, none, none, none, none, none, none, none, none] = .ok ((List.range S.ws.length).map fun k => .tuple [sD [97 + k], oD (S.ws.getD k none)]) := by
    rw [← hz]
    simp [mZip, mVar, hi1, hws, hi2]
  have key := forL_st (g := gSet2 4 5) (b := mSet 3 (mBin dAdd (mBin dAdd (mBin dAdd (mBin dAdd (mVar 3) (mC (.str (Str.ofString " ")))) (mVar 4)) (mC (.str (Str.ofString ":")))) (mIf (mTst (mBin dIs (mVar 5) (mC .none))) (mC (.str (Str.ofString "-"))) (mVar 5)))) (fun (k : Nat) => (.tuple [sD [97 + k], oD (S.ws.getD k none)] : D)) (fun (t : List Nat) (j : Option Sl × Option Sl) => [x0, some (.val (ruD S)), x2, some (.val (sD t)), j.1, j.2, none, none, none, none, none, none, none, none, none, none, none, none]) (fun t k => t ++ ([32] ++ shI S k)) (fun m t => t.length + 7 * m ≤ 100) (List.range S.ws.length) (dig S.cut) (none, none) (by simp [dig]; omega) ?_
  · obtain ⟨j', h1, h2⟩ := key
    refine ⟨j', ?_⟩
    rw [mFor_ap, hzip]
    show forL _ _ _ _ = _
    rw [h2, foldl_app]
    rfl
  · rintro k hk m t ⟨j2, j3⟩ hl
    have hk := List.mem_range.mp hk
    have hw := wdT_ok os hk
    have hsp : PyData.str (Str.ofString " ") = sD [32] := congrArg PyData.str sp_tx
    have hcol : PyData.str (Str.ofString ":") = sD [58] := congrArg PyData.str colon_tx
    have hI : [32] ++ shI S k = [32] ++ ([97 + k] ++ ([58] ++ wdT (S.ws.getD k none))) := by unfold shI; simp
    have a1 : dAdd (sD t) (sD [32]) = some (sD (t ++ [32])) := dAdd_str (size_le (by simp; omega))
    have a2 : dAdd (sD (t ++ [32])) (sD [97 + k]) = some (sD (t ++ [32] ++ [97 + k])) := dAdd_str (size_le (by simp; omega))
    have a3 : dAdd (sD (t ++ [32] ++ [97 + k])) (sD [58]) = some (sD (t ++ [32] ++ [97 + k] ++ [58])) := dAdd_str (size_le (by simp; omega))
    have hlen : (t ++ ([32] ++ shI S k)).length + 7 * m ≤ 100 := by
      rw [hI]
      simp only [List.length_append, List.length_cons, List.length_nil]
      omega
    refine ⟨(some (.val (sD [97 + k])), some (.val (oD (S.ws.getD k none)))), ⟨_, rfl, ?_⟩, hlen⟩
    rw [hI]
    cases hv : S.ws.getD k none with
    | none =>
      have a4 : dAdd (sD (t ++ [32] ++ [97 + k] ++ [58])) (sD [45]) = some (sD (t ++ [32] ++ [97 + k] ++ [58] ++ [45])) := dAdd_str (size_le (by simp; omega))
      have hdash : PyData.str (Str.ofString "-") = sD [45] := congrArg PyData.str dash_tx
      have e : t ++ ([32] ++ ([97 + k] ++ ([58] ++ [45]))) = t ++ [32] ++ [97 + k] ++ [58] ++ [45] := by simp
      simp only [oD, wdT]
      rw [e]
      generalize t ++ [32] ++ [97 + k] ++ [58] ++ [45] = t4 at *
      generalize t ++ [32] ++ [97 + k] ++ [58] = t3 at *
      generalize t ++ [32] ++ [97 + k] = t2 at *
      generalize t ++ [32] = t1 at *
      simp [mVar, hsp, hcol, hdash, a1, a2, a3, a4]
    | some w =>
      rw [hv] at hw
      have hw : w.length ≤ 4 := hw
      have a4 : dAdd (sD (t ++ [32] ++ [97 + k] ++ [58])) (sD w) = some (sD (t ++ [32] ++ [97 + k] ++ [58] ++ w)) := dAdd_str (size_le (by simp; omega))
      have e : t ++ ([32] ++ ([97 + k] ++ ([58] ++ w))) = t ++ [32] ++ [97 + k] ++ [58] ++ w := by simp
      simp only [oD, wdT]
      rw [e]
      generalize t ++ [32] ++ [97 + k] ++ [58] ++ w = t4 at *
      generalize t ++ [32] ++ [97 + k] ++ [58] = t3 at *
      generalize t ++ [32] ++ [97 + k] = t2 at *
      generalize t ++ [32] = t1 at *
      simp [mVar, hsp, hcol, a1, a2, a3, a4]
theorem rd_own {S : Ru} (os : okR S) : rdT (dig S.cut) ((List.range S.ws.length).map (shI S)) = some S := by
  have n3 := os.n3
  have c1 := os.c1
  have c3 := os.c3
  have hd : digB (dig S.cut) = true := by
    unfold digB dig
    rcases (by omega : S.cut = 1 ∨ S.cut = 2 ∨ S.cut = 3) with e | e | e <;> rw [e] <;> rfl
  have hw : ∀ k, k < S.ws.length → okp k (shI S k) = true ∧ wv (shI S k) = S.ws.getD k none := fun k hk => by
    have hI : shI S k = (97 + k) :: 58 :: wdT (S.ws.getD k none) := rfl
    refine ⟨by rw [hI]; simp [okp], ?_⟩
    rw [hI]
    unfold wv
    show (if wdT (S.ws.getD k none) = [45] then none else some (wdT (S.ws.getD k none))) = _
    cases hv : S.ws.getD k none with
    | none => rfl
    | some w =>
      have hw := (word_of_k os hk hv).1
      have hne : w ≠ [45] := fun e => by have := hw 45 (by rw [e]; exact List.mem_singleton.mpr rfl); omega
      show (if w = [45] then none else some w) = _
      rw [if_neg hne]
  have hl : ((List.range S.ws.length).map (shI S)).length = S.ws.length := by simp
  have hg : ∀ k, k < S.ws.length → ((List.range S.ws.length).map (shI S)).getD k [] = shI S k := fun k hk => by
    rw [List.getD_eq_getElem?_getD, List.getElem?_map, List.getElem?_eq_getElem (by rw [List.length_range]; exact hk), List.getElem_range]; rfl
  have hp : preB ((List.range S.ws.length).map (shI S)) = true := by
    unfold preB
    rw [hl, List.all_eq_true]
    intro k hk
    have hk := List.mem_range.mp hk
    rw [hg k hk]; exact (hw k hk).1
  have hT : ruT (dig S.cut) ((List.range S.ws.length).map (shI S)) = S := by
    have e1 : (dig S.cut).headD 0 - 48 = S.cut := by show 48 + S.cut - 48 = _; omega
    have e2 : ((List.range S.ws.length).map (shI S)).map wv = S.ws := by
      apply List.ext_getElem?
      intro k
      rw [List.map_map, List.getElem?_map]
      by_cases hk : k < S.ws.length
      · rw [List.getElem?_eq_getElem (l := List.range _) (by rw [List.length_range]; exact hk), List.getElem_range, List.getElem?_eq_getElem hk]
        show some (wv (shI S k)) = _
        rw [(hw k hk).2, List.getD_eq_getElem?_getD, List.getElem?_eq_getElem hk]; rfl
      · rw [List.getElem?_eq_none (l := List.range _) (by rw [List.length_range]; omega), List.getElem?_eq_none (by omega)]; rfl
    show (⟨(dig S.cut).headD 0 - 48, ((List.range S.ws.length).map (shI S)).map wv⟩ : Ru) = S
    rw [e1, e2]
  unfold rdT
  rw [hd, hp, hT, isRules_ok os, hl, decide_eq_true n3]
  rfl
theorem sh_len {S : Ru} (os : okR S) : (shO S).length ≤ 30 ∧ ∀ c ∈ shO S, c < 128 := by
  have n3 := os.n3
  have c3 := os.c3
  have hI : ∀ k, k < S.ws.length → (shI S k).length ≤ 6 ∧ ∀ c ∈ shI S k, c < 128 := fun k hk => by
    refine ⟨(shI_ok os hk).1, fun c hc => ?_⟩
    have hI : shI S k = (97 + k) :: 58 :: wdT (S.ws.getD k none) := rfl
    rw [hI] at hc
    simp only [List.mem_cons] at hc
    rcases hc with rfl | rfl | hc
    · omega
    · omega
    · cases hv : S.ws.getD k none with
      | none => rw [hv] at hc; have := List.mem_singleton.mp hc; omega
      | some w => rw [hv] at hc; have := (word_of_k os hk hv).1 c hc; omega
  have hle := len_flatMap_le (f := fun k => [32] ++ shI S k) (k := 7) (l := List.range S.ws.length) fun k hk => by
    have := (hI k (List.mem_range.mp hk)).1
    simp; omega
  rw [List.length_range] at hle
  constructor
  · unfold shO
    rw [List.length_append]
    show 1 + _ ≤ _
    omega
  · intro c hc
    unfold shO at hc
    rcases List.mem_append.mp hc with hc | hc
    · have := List.mem_singleton.mp hc; omega
    · obtain ⟨k, hk, hc⟩ := List.mem_flatMap.mp hc
      rcases List.mem_append.mp hc with hc | hc
      · have := List.mem_singleton.mp hc; omega
      · exact (hI k (List.mem_range.mp hk)).2 c hc
theorem e_read_own {S : Ru} (os : okR S) : m_read [sD (shO S)] = .ok (ruD S) := by
  have n3 := os.n3
  have hsl := (sh_len os).1
  have h32 : ∀ p ∈ dig S.cut :: (List.range S.ws.length).map (shI S), 32 ∉ p ∧ p.length ≤ 1000 := fun p hp => by
    rcases List.mem_cons.mp hp with rfl | hp
    · refine ⟨fun hm => ?_, by show 1 ≤ 1000; decide⟩
      have := List.mem_singleton.mp hm; omega
    · obtain ⟨k, hk, rfl⟩ := List.mem_map.mp hp
      have := shI_ok os (List.mem_range.mp hk)
      exact ⟨this.2, by omega⟩
  have := e_readT (p0 := dig S.cut) (rest := (List.range S.ws.length).map (shI S)) (fun p hp => (h32 p hp).1) (fun p hp => (h32 p hp).2) (by rw [← shO_jn]; omega) (by simp; omega)
  rw [rd_own os, ← shO_jn] at this
  exact this
/-! ### things that are rules, or not -/
def small (d : D) : Prop := ∀ s, d = .str s → s.length ≤ 1000
structure Known (d : D) : Prop where
  are : m__law_are_rules [d] = .ok (.bool (isRules d))
  is : m_is_rules [d] = .ok (.bool (isRules d))
  bad : isRules d = false → m_look [d] = .er .rules
theorem known_tup {c : D} {ws : List D} (hw : ∀ w ∈ ws, small w) : Known (.tuple [c, .tuple ws]) := by
  have hd : ∀ t (vs : List D) w s, (.tuple [c, .tuple ws] : D) = .tuple [t, .tuple vs] → w ∈ vs → w = .str s → s.length ≤ sizeLine := fun t vs w s e hw' hs => by
    cases e
    have := hw w hw' s hs
    exact size_le (by omega)
  exact ⟨e_are c ws fun w hm s e => hw w hm s e, e_is_rules _ hd, look_bad hd⟩
theorem known_no {c : Int} (h1 : 1 ≤ c) (h3 : c ≤ 3) {x : D} (hx : ∀ ws, x ≠ .tuple ws) : Known (.tuple [.int c, x]) := by
  have hd : ∀ t (vs : List D) w s, (.tuple [.int c, x] : D) = .tuple [t, .tuple vs] → w ∈ vs → w = .str s → s.length ≤ sizeLine := fun t vs w s e _ _ => by
    cases e
    exact absurd rfl (hx vs)
  have hr : isRules (.tuple [.int c, x]) = false := by
    cases x with
    | tuple ws => exact absurd rfl (hx ws)
    | _ => rfl
  have hq : qTup x = false := by
    cases x with
    | tuple ws => exact absurd rfl (hx ws)
    | _ => rfl
  have e1 := e_law_in (.int c) 1 3
  rw [within_ok h1 h3] at e1
  refine ⟨?_, e_is_rules _ hd, look_bad hd⟩
  rw [hr]
  simp [m__law_are_rules, fnM_eq, startR, mVar, qTup, e1]
  try exact hq
theorem known_list (l : List D) : Known (.list l) := by
  have hd : ∀ t (vs : List D) w s, (.list l : D) = .tuple [t, .tuple vs] → w ∈ vs → w = .str s → s.length ≤ sizeLine := fun t vs w s e _ _ => by cases e
  refine ⟨?_, e_is_rules _ hd, look_bad hd⟩
  show _ = Res.ok (PyData.bool false)
  simp [m__law_are_rules, fnM_eq, startR, mVar, qTup]
def odds : List D := [PyData.none, .bool true, .int 0, .int 1, .int 3, .int 4, .int (-1), .str (Str.ofString ""), .str (Str.ofString "a"), .str (Str.ofString "b"), .str (Str.ofString "c"), .str (Str.ofString "d"), .str (Str.ofString "aaaa"), .str (Str.ofString "aaaaa"), .tuple [], .tuple [.str (Str.ofString "a")]]
theorem odd_small {O : D} (h : O ∈ odds) : small O := fun s e => by
  subst e
  simp only [odds, List.mem_cons, List.not_mem_nil, or_false, reduceCtorEq, false_or, PyData.str.injEq] at h
  rcases h with rfl | rfl | rfl | rfl | rfl | rfl | rfl <;> decide +kernel
theorem odd_tup {O : D} (h : O ∈ odds) : (∃ ws, O = .tuple ws ∧ ∀ w ∈ ws, small w) ∨ ∀ ws, O ≠ .tuple ws := by
  simp only [odds, List.mem_cons, List.not_mem_nil, or_false] at h
  rcases h with rfl | rfl | rfl | rfl | rfl | rfl | rfl | rfl | rfl | rfl | rfl | rfl | rfl | rfl | rfl | rfl
  iterate 14 (· exact .inr fun ws e => by cases e)
  · exact .inl ⟨[], rfl, fun w hw => nomatch hw⟩
  · refine .inl ⟨_, rfl, fun w hw s e => ?_⟩
    rw [List.mem_singleton] at hw
    subst hw
    cases e
    decide +kernel
def bads (R : Ru) (O : D) (a : Nat) : List D := [.tuple [O, .tuple (R.ws.map oD)], .tuple [.int (R.cut : Int), O], .tuple [.int (R.cut : Int), .tuple ((R.ws.map oD).take a ++ [O] ++ (R.ws.map oD).drop (a + 1))], .tuple [.int (R.cut : Int), .tuple (R.ws.map oD ++ [O])], .list [.int (R.cut : Int), .tuple (R.ws.map oD)], .tuple [.int (R.cut : Int), .list (R.ws.map oD)], .tuple [.int (R.cut : Int), .tuple [.str (Str.ofString ""), .str (Str.ofString ""), .str (Str.ofString ""), .str (Str.ofString "")]]]
theorem bad_known {R : Ru} (ok : okR R) {O : D} (h : O ∈ odds) (a : Nat) {b : D} (hb : b ∈ bads R O a) : Known b := by
  have c1 := ok.c1
  have c3 := ok.c3
  have hO := odd_small h
  have hW : ∀ w ∈ R.ws.map oD, small w := fun w hw s e => by
    obtain ⟨o, ho, rfl⟩ := List.mem_map.mp hw
    cases o with
    | none => cases e
    | some l =>
      have := (ok.w l ho).2
      have e : PyData.str (tx l) = .str s := e
      cases e
      rw [tx_len]; omega
  simp only [bads, List.mem_cons, List.not_mem_nil, or_false] at hb
  rcases hb with rfl | rfl | rfl | rfl | rfl | rfl | rfl
  · exact known_tup hW
  · rcases odd_tup h with ⟨ws, rfl, hws⟩ | hn
    · exact known_tup hws
    · exact known_no (by omega) (by omega) hn
  · refine known_tup fun w hw => ?_
    rcases List.mem_append.mp hw with hw | hw
    · rcases List.mem_append.mp hw with hw | hw
      · exact hW w (List.mem_of_mem_take hw)
      · rw [List.mem_singleton.mp hw]; exact hO
    · exact hW w (List.mem_of_mem_drop hw)
  · refine known_tup fun w hw => ?_
    rcases List.mem_append.mp hw with hw | hw
    · exact hW w hw
    · rw [List.mem_singleton.mp hw]; exact hO
  · exact known_list _
  · exact known_no (by omega) (by omega) fun ws e => nomatch e
  · refine known_tup fun w hw s e => ?_
    simp only [List.mem_cons, List.not_mem_nil, or_false, or_self] at hw
    subst hw
    cases e
    decide +kernel
theorem told_bad {b : D} (hk : Known b) : ∃ V, m__law_told [.int 8, b, .str (Str.ofString ""), .none] = .ok V ∧ dEq V (.str (Str.ofString "rules")) = some (.bool (!isRules b)) := by
  cases hr : isRules b with
  | true =>
    obtain ⟨S, os, rfl⟩ := isRules_ru hr
    obtain ⟨F, h1, h2⟩ := told_fate os
    exact ⟨F, h1, h2⟩
  | false =>
    exact ⟨ruleW, told_rules (hk.bad hr) (k := 8) (by decide), by rfl⟩
theorem rows_bad {R : Ru} (ok : okR R) {d : D} (hd : small d) (hw : isWord R.ws.length d 24 = false) : m_look_row [ruD R, d] = .er .row := by
  rw [e_look_row ok d fun s e => size_le (by have := hd s e; omega), hw]; rfl
def rowsX (n : Nat) : List D := [PyData.none, .str (Str.ofString "A"), sD ([97, 98, 99, 100].drop n), sD (List.replicate 25 97), .list [.str (Str.ofString "a")], .int 7]
theorem rowsX_bad {R : Ru} (ok : okR R) {d : D} (h : d ∈ rowsX R.ws.length) : m_look_row [ruD R, d] = .er .row := by
  have n1 := ok.n1
  have n3 := ok.n3
  simp only [rowsX, List.mem_cons, List.not_mem_nil, or_false] at h
  rcases h with rfl | rfl | rfl | rfl | rfl | rfl
  · exact rows_bad ok (fun s e => by cases e) rfl
  · refine rows_bad ok (fun s e => by cases e; decide +kernel) ?_
    rw [show Str.ofString "A" = tx [65] by decide +kernel, show (.str (tx [65]) : D) = sD [65] from rfl, isWord_s]
    simp
  · refine rows_bad ok (fun s e => ?_) ?_
    · have e : PyData.str (tx ([97, 98, 99, 100].drop R.ws.length)) = .str s := e
      cases e
      rw [tx_len, List.length_drop]
      simp
      omega
    · rw [isWord_s]
      have : (100 : Nat) ∈ [97, 98, 99, 100].drop R.ws.length := by
        rcases (by omega : R.ws.length = 1 ∨ R.ws.length = 2 ∨ R.ws.length = 3) with e | e | e <;> rw [e] <;> decide
      have hf : (([97, 98, 99, 100].drop R.ws.length).all fun c => decide (97 ≤ c) && decide (c < 97 + R.ws.length)) = false := by
        rw [Bool.eq_false_iff]
        intro z
        have := List.all_eq_true.mp z 100 this
        simp at this
        omega
      rw [hf, Bool.and_false]
  · refine rows_bad ok (fun s e => ?_) ?_
    · have e : PyData.str (tx (List.replicate 25 97)) = .str s := e
      cases e
      rw [tx_len, List.length_replicate]; decide
    · rw [isWord_s, List.length_replicate]; rfl
  · exact rows_bad ok (fun s e => by cases e) rfl
  · exact rows_bad ok (fun s e => by cases e) rfl
def signs : List Nat := [48, 49, 50, 51, 32, 97, 98, 99, 100, 58, 45]
theorem signs_ : Str.ofString "0123 abcd:-" = tx signs := by decide +kernel
theorem law_true : ∀ ns : List Int, ns.length ≤ 63 → m_law [scr ns] = .ok (.bool true) := by
  intro ns hn
  have hd := isS_scr ns
  obtain ⟨R, ok, e1⟩ := e_law_rules hd (p := 0) (by omega)
  have n1 := ok.n1
  have n3 := ok.n3
  have e2 := e_law_cell hd (k := 2) (by omega)
  have e3 := e_law_cell hd (k := 3) (by omega)
  have e4 := e_law_cell hd (k := 4) (by omega)
  have e5 := e_law_cell hd (k := 5) (by omega)
  have e6 := e_law_cell hd (k := 6) (by omega)
  have e7 := e_law_cell hd (k := 7) (by omega)
  have e8 := e_law_cell hd (k := 8) (by omega)
  have e9 := e_law_cell hd (k := 9) (by omega)
  generalize scr ns = d at *
  generalize cl ns 2 = c2 at *
  generalize cl ns 3 = c3 at *
  generalize cl ns 4 = c4 at *
  generalize cl ns 5 = c5 at *
  generalize cl ns 6 = c6 at *
  generalize cl ns 7 = c7 at *
  generalize cl ns 8 = c8 at *
  generalize cl ns 9 = c9 at *
  obtain ⟨O, hO, mO⟩ := at_mem (l := odds) (i := c2 % 16) (by omega) (by show c2 % 16 < ((16 : Nat) : Int); omega)
  obtain ⟨a, ha, an⟩ : ∃ a : Nat, c3 % (R.ws.length : Int) = (a : Int) ∧ a < R.ws.length := ⟨(c3 % (R.ws.length : Int)).toNat, by
    have := Int.emod_nonneg c3 (show (R.ws.length : Int) ≠ 0 by omega); omega, by
    have := Int.emod_nonneg c3 (show (R.ws.length : Int) ≠ 0 by omega)
    have := Int.emod_lt_of_pos c3 (show (0 : Int) < (R.ws.length : Int) by omega); omega⟩
  obtain ⟨b, hb, mb⟩ := at_mem (l := bads R O a) (i := c4 % 7) (by omega) (by show c4 % 7 < ((7 : Nat) : Int); omega)
  have hk := bad_known ok mO a mb
  obtain ⟨V, hV, qV⟩ := told_bad hk
  have hws : dIx (ruD R) (.int 1) = some (.tuple (R.ws.map oD)) := rfl
  have hd0 : dIx (ruD R) (.int 0) = some (.int (R.cut : Int)) := rfl
  have hlw : (R.ws.map oD).length = R.ws.length := List.length_map _
  have hdig := dig_tx ok.c1 ok.c3
  obtain ⟨j, hfor⟩ := text_for ok (some (.val d)) (some (.val (.int (R.ws.length : Int))))
  have hir := e_is_rules (ruD R) (ru_small ok)
  rw [isRules_ok ok] at hir
  have hsh := e_shown ok
  have hro := e_read_own ok
  have nR := dNe_self (pl_ru ok) (by decide)
  have nT : dNe (sD (shO R)) (sD (shO R)) = some (.bool false) := by rw [sD_ne]; simp
  have is0 : dIsN (.bool true) (.bool true) = some (.bool false) := rfl
  have hng : dNeg (.int 1) = some (.int (-1)) := rfl
  obtain ⟨tl, tc⟩ := sh_len ok
  have hn0 : (0 : Int) < (R.ws.length : Int) := by omega
  obtain ⟨P, hP, pl⟩ : ∃ P : Nat, c5 * 48271 % 9949 % (((shO R).length : Int) + 1) = (P : Int) ∧ P ≤ (shO R).length := ⟨(c5 * 48271 % 9949 % (((shO R).length : Int) + 1)).toNat, by
    have := Int.emod_nonneg (c5 * 48271 % 9949) (show ((shO R).length : Int) + 1 ≠ 0 by omega); omega, by
    have := Int.emod_nonneg (c5 * 48271 % 9949) (show ((shO R).length : Int) + 1 ≠ 0 by omega)
    have := Int.emod_lt_of_pos (c5 * 48271 % 9949) (show (0 : Int) < ((shO R).length : Int) + 1 by omega); omega⟩
  obtain ⟨sg, hsg, msg⟩ := at_mem (l := signs) (i := c6 % 11) (by omega) (by show c6 % 11 < ((11 : Nat) : Int); omega)
  have sg128 : sg < 128 := by
    simp only [signs, List.mem_cons, List.not_mem_nil, or_false] at msg
    omega
  have hsx : dIx (.str (Str.ofString "0123 abcd:-")) (.int (c6 % 11)) = some (sD [sg]) := by
    rw [signs_]
    have := dIx_s signs (c6 % 11) (size_le (by decide))
    rw [hsg] at this
    exact this
  obtain ⟨Y, hY, mY⟩ := at_mem (l := rowsX R.ws.length) (i := c9 % 6) (by omega) (by show c9 % 6 < ((6 : Nat) : Int); omega)
  have hrow := rowsX_bad ok mY
  have hmod : dMod (.int c3) (.int (R.ws.length : Int)) = some (.int (a : Int)) := by rw [dMod_p _ hn0, ha]
  have hcl1 : cutL (R.ws.map oD) none (some (a : Int)) = (R.ws.map oD).take a := cutL_hi _ _
  have hcl2 : cutL (R.ws.map oD) (some ((a : Int) + 1)) none = (R.ws.map oD).drop (a + 1) := cutL_lo (R.ws.map oD) (a + 1)
  have ad1 : dAdd (.tuple ((R.ws.map oD).take a)) (.tuple [O]) = some (.tuple ((R.ws.map oD).take a ++ [O])) := dAdd_tup (size_le (by rw [List.length_take]; simp; omega))
  have ad2 : dAdd (.tuple ((R.ws.map oD).take a ++ [O])) (.tuple ((R.ws.map oD).drop (a + 1))) = some (.tuple ((R.ws.map oD).take a ++ [O] ++ (R.ws.map oD).drop (a + 1))) := dAdd_tup (size_le (by rw [List.length_append, List.length_take, List.length_drop]; simp; omega))
  have ad3 : dAdd (.tuple (R.ws.map oD)) (.tuple [O]) = some (.tuple (R.ws.map oD ++ [O])) := dAdd_tup (size_le (by rw [List.length_map]; simp; omega))
  have lo1 : dListOf (ruD R) = some [.int (R.cut : Int), .tuple (R.ws.map oD)] := rfl
  have lo2 : dListOf (.tuple (R.ws.map oD)) = some (R.ws.map oD) := rfl
  have mt : dMulT (.tuple [.str (Str.ofString "")]) (.int 4) = some (.tuple [.str (Str.ofString ""), .str (Str.ofString ""), .str (Str.ofString ""), .str (Str.ofString "")]) := rfl
  obtain ⟨BS, hBS⟩ : ∃ l, l = bads R O a := ⟨_, rfl⟩
  have hbl : dAdd (.list [.tuple [O, .tuple (R.ws.map oD)], .tuple [.int (R.cut : Int), O], .tuple [.int (R.cut : Int), .tuple ((R.ws.map oD).take a ++ [O] ++ (R.ws.map oD).drop (a + 1))]]) (.list [.tuple [.int (R.cut : Int), .tuple (R.ws.map oD ++ [O])], .list [.int (R.cut : Int), .tuple (R.ws.map oD)], .tuple [.int (R.cut : Int), .list (R.ws.map oD)], .tuple [.int (R.cut : Int), .tuple [.str (Str.ofString ""), .str (Str.ofString ""), .str (Str.ofString ""), .str (Str.ofString "")]]]) = some (.list BS) := by
    rw [hBS]
    exact dAdd_list (size_le (by simp))
  rw [← hBS] at hb
  generalize (R.ws.map oD).take a ++ [O] ++ (R.ws.map oD).drop (a + 1) = WX at *
  generalize (R.ws.map oD).take a ++ [O] = WA at *
  generalize (R.ws.map oD).take a = WT at *
  generalize (R.ws.map oD).drop (a + 1) = WD at *
  generalize R.ws.map oD ++ [O] = WE at *
  generalize R.ws.map oD = W at *
  unfold m_law
  rw [fnM_eq]
  refine seq1 [some (.val d), some (.val (ruD R)), none, none, none, none, none, none, none, none, none, none, none, none, none, none, none, none] (by simp [startR, mVar, e1]) ?_
  refine seq1 [some (.val d), some (.val (ruD R)), some (.val (.int (R.ws.length : Int))), none, none, none, none, none, none, none, none, none, none, none, none, none, none, none] (by simp [mVar, hws, hlw]) ?_
  refine seq1 [some (.val d), some (.val (ruD R)), some (.val (.int (R.ws.length : Int))), some (.val (sD (dig R.cut))), none, none, none, none, none, none, none, none, none, none, none, none, none, none] (by simp [mVar, hd0, hdig]) ?_
  refine seq1 _ hfor ?_
  obtain ⟨j4, j5⟩ := j
  refine seq1 [some (.val d), some (.val (ruD R)), some (.val (.int (R.ws.length : Int))), some (.val (sD (shO R))), j4, j5, none, none, none, none, none, none, none, none, none, none, none, none] (by simp [mVar, hir, is0, hsh, nT, hro, nR]) ?_
  refine seq1 [some (.val d), some (.val (ruD R)), some (.val (.int (R.ws.length : Int))), some (.val (sD (shO R))), j4, j5, some (.val (.list odds)), none, none, none, none, none, none, none, none, none, none, none] (by simp [mVar, hng]; rfl) ?_
  refine seq1 [some (.val d), some (.val (ruD R)), some (.val (.int (R.ws.length : Int))), some (.val (sD (shO R))), j4, j5, some (.val (.list odds)), some (.val O), none, none, none, none, none, none, none, none, none, none] (by simp [mVar, e2, hO]) ?_
  refine seq1 [some (.val d), some (.val (ruD R)), some (.val (.int (R.ws.length : Int))), some (.val (sD (shO R))), j4, j5, some (.val (.list odds)), some (.val O), some (.val (.int (a : Int))), none, none, none, none, none, none, none, none, none] (by simp [mVar, e3, hmod]) ?_
  generalize PyData.list odds = OD at *
  refine seq1 [some (.val d), some (.val (ruD R)), some (.val (.int (R.ws.length : Int))), some (.val (sD (shO R))), j4, j5, some (.val OD), some (.val O), some (.val (.int (a : Int))), some (.val (.list [.tuple [O, .tuple W], .tuple [.int (R.cut : Int), O], .tuple [.int (R.cut : Int), .tuple WX]])), none, none, none, none, none, none, none, none] (by simp [mVar, hws, hd0, hcl1, hcl2, ad1, ad2]) ?_
  refine seq1 [some (.val d), some (.val (ruD R)), some (.val (.int (R.ws.length : Int))), some (.val (sD (shO R))), j4, j5, some (.val OD), some (.val O), some (.val (.int (a : Int))), some (.val (.list BS)), none, none, none, none, none, none, none, none] (by simp [mVar, hws, hd0, ad3, lo1, lo2, mt, hbl]) ?_
  refine seq1 [some (.val d), some (.val (ruD R)), some (.val (.int (R.ws.length : Int))), some (.val (sD (shO R))), j4, j5, some (.val OD), some (.val O), some (.val (.int (a : Int))), some (.val (.list BS)), some (.val b), none, none, none, none, none, none, none] (by simp [mVar, e4, hb]) ?_
  have hare := hk.are
  have hkis := hk.is
  have hkbad := hk.bad
  generalize isRules b = g at *
  refine seq1 [some (.val d), some (.val (ruD R)), some (.val (.int (R.ws.length : Int))), some (.val (sD (shO R))), j4, j5, some (.val OD), some (.val O), some (.val (.int (a : Int))), some (.val (.list BS)), some (.val b), some (.val (.bool g)), none, none, none, none, none, none] (by simp [mVar, hare]) ?_
  have has : m__law_as [.bool g, .bool g] = .ok (.bool true) := by cases g <;> simp [m__law_as, fnM_eq, startR, mVar, qBool]
  have qgg : dEq (.bool (!g)) (.bool g) = some (.bool false) := by cases g <;> rfl
  refine seq1 [some (.val d), some (.val (ruD R)), some (.val (.int (R.ws.length : Int))), some (.val (sD (shO R))), j4, j5, some (.val OD), some (.val O), some (.val (.int (a : Int))), some (.val (.list BS)), some (.val b), some (.val (.bool g)), none, none, none, none, none, none] (by simp [mVar, hkis, has, hV, qV, qgg]) ?_
  have hlt := dLen_s (shO R) (size_le (by omega))
  have hmix : m__law_mix [.int c5, .int 9949, .int (((shO R).length : Int) + 1)] = .ok (.int (P : Int)) := by
    have h0 : (0 : Int) < ((shO R).length : Int) + 1 := by omega
    simp [m__law_mix, fnM_eq, startR, mVar, h0, hP]
  have hBL : PyData.list BS = PyData.list BS := rfl
  generalize PyData.list BS = BL at *
  refine seq1 [some (.val d), some (.val (ruD R)), some (.val (.int (R.ws.length : Int))), some (.val (sD (shO R))), j4, j5, some (.val OD), some (.val O), some (.val (.int (a : Int))), some (.val BL), some (.val b), some (.val (.bool g)), some (.val (.int (P : Int))), none, none, none, none, none] (by simp [mVar, e5, hlt, hmix]) ?_
  refine seq1 [some (.val d), some (.val (ruD R)), some (.val (.int (R.ws.length : Int))), some (.val (sD (shO R))), j4, j5, some (.val OD), some (.val O), some (.val (.int (a : Int))), some (.val BL), some (.val b), some (.val (.bool g)), some (.val (.int (P : Int))), some (.val (sD [sg])), none, none, none, none] (by simp [mVar, e6, hsx]) ?_
  obtain ⟨w, hw, w3⟩ : ∃ w : Nat, c7 % 3 = (w : Int) ∧ w < 3 := ⟨(c7 % 3).toNat, by omega, by omega⟩
  refine seq1 [some (.val d), some (.val (ruD R)), some (.val (.int (R.ws.length : Int))), some (.val (sD (shO R))), j4, j5, some (.val OD), some (.val O), some (.val (.int (a : Int))), some (.val BL), some (.val b), some (.val (.bool g)), some (.val (.int (P : Int))), some (.val (sD [sg])), some (.val (.int (w : Int))), none, none, none] (by simp [mVar, e7, hw]) ?_
  have hcT : ∀ n : Nat, dCut (sD (shO R)) none (some (n : Int)) = some (sD ((shO R).take n)) := fun n => by
    rw [dCut_s _ _ _ (size_le (by omega)), cutL_hi]
  have hcD : ∀ n : Nat, dCut (sD (shO R)) (some (n : Int)) none = some (sD ((shO R).drop n)) := fun n => by
    rw [dCut_s _ _ _ (size_le (by omega)), cutL_lo]
  obtain ⟨S, hS, sl, sc⟩ : ∃ S : List Nat, (mSet 15 (mBin dAdd (mBin dAdd (mCut dCut (mVar 3) (mNo) (mPart (mVar 12))) (mBin dIx (mList (mLst (mCons (mVar 13) (mCons (mC (.str "")) (mCons (mVar 13) (mNil)))))) (mVar 14))) (mCut dCut (mVar 3) (mPart (mBin dAdd (mVar 12) (mBin dIx (mList (mLst (mCons (mC (.int 0)) (mCons (mC (.int 1)) (mCons (mC (.int 1)) (mNil)))))) (mVar 14)))) (mNo)))) [some (.val d), some (.val (ruD R)), some (.val (.int (R.ws.length : Int))), some (.val (sD (shO R))), j4, j5, some (.val OD), some (.val O), some (.val (.int (a : Int))), some (.val BL), some (.val b), some (.val (.bool g)), some (.val (.int (P : Int))), some (.val (sD [sg])), some (.val (.int (w : Int))), none, none, none] = .nx [some (.val d), some (.val (ruD R)), some (.val (.int (R.ws.length : Int))), some (.val (sD (shO R))), j4, j5, some (.val OD), some (.val O), some (.val (.int (a : Int))), some (.val BL), some (.val b), some (.val (.bool g)), some (.val (.int (P : Int))), some (.val (sD [sg])), some (.val (.int (w : Int))), some (.val (sD S)), none, none] ∧ S.length ≤ 100 ∧ ∀ c ∈ S, c < 128 := by
    have mem : ∀ (x : List Nat) (n m : Nat), (∀ c ∈ x, c < 128) → ∀ c ∈ (shO R).take n ++ x ++ (shO R).drop m, c < 128 := fun x n m hx c hc => by
      rcases List.mem_append.mp hc with hc | hc
      · rcases List.mem_append.mp hc with hc | hc
        · exact tc c (List.mem_of_mem_take hc)
        · exact hx c hc
      · exact tc c (List.mem_of_mem_drop hc)
    have c0 := hcT P
    have d0 := hcD P
    have d1 : dCut (sD (shO R)) (some ((P : Int) + 1)) none = some (sD ((shO R).drop (P + 1))) := hcD (P + 1)
    have x1 : dAdd (sD ((shO R).take P)) (sD [sg]) = some (sD ((shO R).take P ++ [sg])) := dAdd_str (size_le (by rw [List.length_take]; simp; omega))
    have x2 : dAdd (sD ((shO R).take P)) (.str (tx [])) = some (sD ((shO R).take P ++ [])) := dAdd_str (a := (shO R).take P) (b := []) (size_le (by rw [List.length_take]; simp; omega))
    have y : ∀ (x : List Nat) (m : Nat), x.length ≤ 1 → dAdd (sD ((shO R).take P ++ x)) (sD ((shO R).drop m)) = some (sD ((shO R).take P ++ x ++ (shO R).drop m)) := fun x m hx => dAdd_str (size_le (by rw [List.length_append, List.length_take, List.length_drop]; omega))
    have y1 := y [sg] P (by simp)
    have y2 := y [] (P + 1) (by simp)
    have y3 := y [sg] (P + 1) (by simp)
    have len : ∀ (x : List Nat) (m : Nat), x.length ≤ 1 → ((shO R).take P ++ x ++ (shO R).drop m).length ≤ 100 := fun x m hx => by rw [List.length_append, List.length_append, List.length_take, List.length_drop]; omega
    have l1 := len [sg] P (by simp)
    have l2 := len [] (P + 1) (by simp)
    have l3 := len [sg] (P + 1) (by simp)
    have m1 := mem [sg] P P (by simpa using sg128)
    have m2 := mem [] P (P + 1) (by simp)
    have m3 := mem [sg] P (P + 1) (by simpa using sg128)
    rcases (by omega : w = 0 ∨ w = 1 ∨ w = 2) with rfl | rfl | rfl
    · refine ⟨_, ?_, l1, m1⟩
      generalize sD ((shO R).take P ++ [sg] ++ (shO R).drop P) = R1 at *
      generalize sD ((shO R).take P ++ [sg]) = R2 at *
      generalize sD ((shO R).take P) = R3 at *
      generalize sD ((shO R).drop P) = R4 at *
      generalize sD (shO R) = TT at *
      simp [mVar, c0, d0, x1, y1]
    · refine ⟨_, ?_, l2, m2⟩
      generalize sD ((shO R).take P ++ [] ++ (shO R).drop (P + 1)) = R1 at *
      generalize sD ((shO R).take P ++ []) = R2 at *
      generalize sD ((shO R).take P) = R3 at *
      generalize sD ((shO R).drop (P + 1)) = R4 at *
      generalize sD (shO R) = TT at *
      simp [mVar, c0, d1, x2, y2, empty_tx]
    · refine ⟨_, ?_, l3, m3⟩
      generalize sD ((shO R).take P ++ [sg] ++ (shO R).drop (P + 1)) = R1 at *
      generalize sD ((shO R).take P ++ [sg]) = R2 at *
      generalize sD ((shO R).take P) = R3 at *
      generalize sD ((shO R).drop (P + 1)) = R4 at *
      generalize sD (shO R) = TT at *
      simp [mVar, c0, d1, x1, y3]
  refine seq1 _ hS ?_
  obtain ⟨v, v1, v2, v3⟩ := read_same S sl sc
  generalize sD S = X15 at *
  refine seq1 [some (.val d), some (.val (ruD R)), some (.val (.int (R.ws.length : Int))), some (.val (sD (shO R))), j4, j5, some (.val OD), some (.val O), some (.val (.int (a : Int))), some (.val BL), some (.val b), some (.val (.bool g)), some (.val (.int (P : Int))), some (.val (sD [sg])), some (.val (.int (w : Int))), some (.val X15), none, none] (by simp [mVar, v1, v2, v3]) ?_
  obtain ⟨q8, hq8, q86⟩ : ∃ q : Nat, c8 % 6 = (q : Int) ∧ q < 6 := ⟨(c8 % 6).toNat, by omega, by omega⟩
  obtain ⟨X, hX, _⟩ := at_mem (l := [PyData.none, .int 7, .str (Str.ofString ""), .str (Str.ofString "1"), .str (Str.ofString "1 "), .str (Str.ofString "a:")]) (i := c8 % 6) (by omega) (by show c8 % 6 < ((6 : Nat) : Int); omega)
  have hbt := bad_texts q86 X (by rw [hq8, PX.atI_nat] at hX; exact hX)
  refine seq1 [some (.val d), some (.val (ruD R)), some (.val (.int (R.ws.length : Int))), some (.val (sD (shO R))), j4, j5, some (.val OD), some (.val O), some (.val (.int (a : Int))), some (.val BL), some (.val b), some (.val (.bool g)), some (.val (.int (P : Int))), some (.val (sD [sg])), some (.val (.int (w : Int))), some (.val X15), none, none] (by simp [mVar, e8, hX, hbt]) ?_
  have hcd : dCut (.str (Str.ofString "abcd")) (some (R.ws.length : Int)) none = some (sD ([97, 98, 99, 100].drop R.ws.length)) := by
    have := dCut_s [97, 98, 99, 100] (some (R.ws.length : Int)) none (size_le (by decide))
    rw [cutL_lo] at this
    rw [show Str.ofString "abcd" = tx [97, 98, 99, 100] by decide +kernel]
    exact this
  have htr : dTru (sD ([97, 98, 99, 100].drop R.ws.length)) = some true := by
    rcases (by omega : R.ws.length = 1 ∨ R.ws.length = 2 ∨ R.ws.length = 3) with e | e | e <;> rw [e] <;> rfl
  have m25 : dMul (.str (Str.ofString "a")) (.int 25) = some (sD (List.replicate 25 97)) := by
    rw [show Str.ofString "a" = tx [97] by decide +kernel]
    have := dMul_s [97] 25 (by omega) (by simp)
    exact this
  have hY' : dIx (.list (rowsX R.ws.length)) (.int (c9 % 6)) = some Y := by rw [dIx_lst]; exact hY
  have hlist : (.list [PyData.none, .str (Str.ofString "A"), sD ([97, 98, 99, 100].drop R.ws.length), sD (List.replicate 25 97), .list [.str (Str.ofString "a")], .int 7] : D) = .list (rowsX R.ws.length) := rfl
  have h16 : mSet 16 (mBin dIx (mList (mLst (mCons (mC .none) (mCons (mC (.str "A")) (mCons (mOr (mCut dCut (mC (.str "abcd")) (mPart (mVar 2)) (mNo)) (mC (.str "x"))) (mCons (mBin dMul (mC (.str "a")) (mC (.int 25))) (mCons (mList (mLst (mCons (mC (.str "a")) (mNil)))) (mCons (mC (.int 7)) (mNil))))))))) (mBin dMod (mCall m__law_cell (mCons (mVar 0) (mCons (mC (.int 9)) (mNil)))) (mC (.int 6)))) [some (.val d), some (.val (ruD R)), some (.val (.int (R.ws.length : Int))), some (.val (sD (shO R))), j4, j5, some (.val OD), some (.val O), some (.val (.int (a : Int))), some (.val BL), some (.val b), some (.val (.bool g)), some (.val (.int (P : Int))), some (.val (sD [sg])), some (.val (.int (w : Int))), some (.val X15), none, none] = .nx [some (.val d), some (.val (ruD R)), some (.val (.int (R.ws.length : Int))), some (.val (sD (shO R))), j4, j5, some (.val OD), some (.val O), some (.val (.int (a : Int))), some (.val BL), some (.val b), some (.val (.bool g)), some (.val (.int (P : Int))), some (.val (sD [sg])), some (.val (.int (w : Int))), some (.val X15), some (.val Y), none] := by
    generalize sD ([97, 98, 99, 100].drop R.ws.length) = Q1 at *
    generalize sD (List.replicate 25 97) = Q2 at *
    generalize hRX : PyData.list (rowsX R.ws.length) = RX at *
    have hY2 : dIx (.list [PyData.none, .str (Str.ofString "A"), Q1, Q2, .list [.str (Str.ofString "a")], .int 7]) (.int (c9 % 6)) = some Y := by rw [hlist]; exact hY'
    simp only [dIx_lst] at hY2
    simp [mVar, hcd, htr, m25, e9, hY2]
  refine seq1 _ h16 ?_
  have told1 : ∀ k : Nat, k < 12 → m__law_told [.int (k : Int), ruD R, Y, .int 0] = .ok rowW := fun k hk => told_row hrow hk
  have lc1 := lcL_enM (i := 17) (fun (k : Nat) => PyData.int (k : Int)) (e := mCall m__law_told (mCons (mVar 17) (mCons (mVar 1) (mCons (mVar 16) (mCons (mC (.int 0)) (mNil)))))) (ρ := [some (.val d), some (.val (ruD R)), some (.val (.int (R.ws.length : Int))), some (.val (sD (shO R))), j4, j5, some (.val OD), some (.val O), some (.val (.int (a : Int))), some (.val BL), some (.val b), some (.val (.bool g)), some (.val (.int (P : Int))), some (.val (sD [sg])), some (.val (.int (w : Int))), some (.val X15), some (.val Y), none]) (fun _ => rowW) (List.range' 0 12) [] (fun k hk => by
    have := told1 k (by have := List.mem_range'_1.mp hk; omega)
    simp [mVar, this]) (size_le (by simp))
  have lc2 : g = false → lcL (gSet 17) mYes (mCall m__law_told (mCons (mVar 17) (mCons (mVar 10) (mCons (mVar 16) (mCons (mC (.int 0)) (mNil)))))) [some (.val d), some (.val (ruD R)), some (.val (.int (R.ws.length : Int))), some (.val (sD (shO R))), j4, j5, some (.val OD), some (.val O), some (.val (.int (a : Int))), some (.val BL), some (.val b), some (.val (.bool g)), some (.val (.int (P : Int))), some (.val (sD [sg])), some (.val (.int (w : Int))), some (.val X15), some (.val Y), none] ((List.range' 0 14).map fun (k : Nat) => PyData.int (k : Int)) [] = .ok ([] ++ (List.range' 0 14).map fun _ => ruleW) := fun hg => lcL_enM (i := 17) (fun (k : Nat) => PyData.int (k : Int)) (e := mCall m__law_told (mCons (mVar 17) (mCons (mVar 10) (mCons (mVar 16) (mCons (mC (.int 0)) (mNil)))))) (fun _ => ruleW) (List.range' 0 14) [] (fun k hk => by
    have := told_rules (hkbad hg) (row := Y) (t := .int 0) (k := k) (by have := List.mem_range'_1.mp hk; omega)
    simp [mVar, this]) (size_le (by simp))
  have g12 : gR1 (.int 12) = some ((List.range' 0 12).map fun (k : Nat) => PyData.int (k : Int)) := gR1_r 12 (by omega)
  have g14 : gR1 (.int 14) = some ((List.range' 0 14).map fun (k : Nat) => PyData.int (k : Int)) := gR1_r 14 (by omega)
  obtain ⟨L12, hL12⟩ : ∃ l, l = (List.range' 0 12).map fun (k : Nat) => PyData.int (k : Int) := ⟨_, rfl⟩
  obtain ⟨L14, hL14⟩ : ∃ l, l = (List.range' 0 14).map fun (k : Nat) => PyData.int (k : Int) := ⟨_, rfl⟩
  obtain ⟨M12, hM12⟩ : ∃ l : List D, l = (List.range' 0 12).map fun _ => rowW := ⟨_, rfl⟩
  obtain ⟨M14, hM14⟩ : ∃ l : List D, l = (List.range' 0 14).map fun _ => ruleW := ⟨_, rfl⟩
  rw [← hL12] at lc1 g12
  rw [← hL14] at lc2 g14
  rw [List.nil_append, ← hM12] at lc1
  rw [List.nil_append, ← hM14] at lc2
  have rep : ∀ (x : D) (n : Nat), (List.replicate n [x]).flatten = (List.range' 0 n).map fun _ => x := fun x n => by
    rw [← List.range_eq_range', List.flatten_replicate_singleton]
    exact (List.map_const' ..).symm ▸ by rw [List.length_range]
  have r12 : ∀ ρ : Rho, mRep (mLst (mCons (mC (.str (Str.ofString "row"))) mNil)) (mC (.int 12)) ρ = .ok M12 := fun ρ => by
    rw [hM12, ← rep]
    rfl
  have r14 : ∀ ρ : Rho, mRep (mLst (mCons (mC (.str (Str.ofString "rules"))) mNil)) (mC (.int 14)) ρ = .ok M14 := fun ρ => by
    rw [hM14, ← rep]
    rfl
  have n12 : dNe (.list M12) (.list M12) = some (.bool false) := dNe_self (n := 1) (pl_list fun x hx => by
    rw [hM12] at hx
    obtain ⟨_, _, rfl⟩ := List.mem_map.mp hx
    exact pl_word _ (by decide +kernel)) (by decide)
  have n14 : dEq (.list M14) (.list M14) = some (.bool true) := dEq_self (n := 1) (pl_list fun x hx => by
    rw [hM14] at hx
    obtain ⟨_, _, rfl⟩ := List.mem_map.mp hx
    exact pl_word _ (by decide +kernel)) (by decide)
  refine seq1 [some (.val d), some (.val (ruD R)), some (.val (.int (R.ws.length : Int))), some (.val (sD (shO R))), j4, j5, some (.val OD), some (.val O), some (.val (.int (a : Int))), some (.val BL), some (.val b), some (.val (.bool g)), some (.val (.int (P : Int))), some (.val (sD [sg])), some (.val (.int (w : Int))), some (.val X15), some (.val Y), none] ?_ ?_
  · simp [mVar, g12, wipeR, r12]
    rw [lc1]
    simp [n12]
  · cases g with
    | true => simp [mVar]
    | false =>
      have lc2 := lc2 rfl
      simp [mVar, g14, wipeR, r14]
      rw [lc2]
      simp [n14]
end K08
namespace K08
open PySem PySem.Spec PyProof.Rows L2 PX PR
/-- the classes' addresses -/
def caK (K : PySem.W.Frag) : EC → Addr
  | .cut => He.ga K "CutError"
  | .rules => He.ga K "BadRules"
  | .row => He.ga K "BadRow"
  | .count => He.ga K "BadCount"
  | .word => He.ga K "BadWord"
  | .ended => He.ga K "Ended"
  | .many => He.ga K "TooMany"
  | .text => He.ga K "BadText"
  | _ => 0
theorem gf {K : PySem.W.Frag} {h : Heap} {mg : Str → Option Value} (X : K.In h) (G : h.Ns mainGlobals mg) (c : He.SaysD fa fn K) : GF K mg (caK K) where
  b_bool := He.free_ok X G (c.fact 51 (f := .free "bool") rfl)
  b_enumerate := He.free_ok X G (c.fact 52 (f := .free "enumerate") rfl)
  b_int := He.free_ok X G (c.fact 53 (f := .free "int") rfl)
  b_isinstance := He.free_ok X G (c.fact 54 (f := .free "isinstance") rfl)
  b_len := He.free_ok X G (c.fact 55 (f := .free "len") rfl)
  b_list := He.free_ok X G (c.fact 56 (f := .free "list") rfl)
  b_range := He.free_ok X G (c.fact 57 (f := .free "range") rfl)
  b_sorted := He.free_ok X G (c.fact 58 (f := .free "sorted") rfl)
  b_str := He.free_ok X G (c.fact 59 (f := .free "str") rfl)
  b_tuple := He.free_ok X G (c.fact 60 (f := .free "tuple") rfl)
  b_zip := He.free_ok X G (c.fact 61 (f := .free "zip") rfl)
  c_LETTERS := He.str_ok X G (c.fact 62 (f := .str "LETTERS" "abc") rfl)
  c_MOST_CUT := He.int_ok X G (c.fact 63 (f := .int "MOST_CUT" 3) rfl)
  c_MOST_CUTS := He.int_ok X G (c.fact 64 (f := .int "MOST_CUTS" 200) rfl)
  c_MOST_LONG := He.int_ok X G (c.fact 65 (f := .int "MOST_LONG" 120) rfl)
  c_MOST_ROW := He.int_ok X G (c.fact 66 (f := .int "MOST_ROW" 24) rfl)
  c_MOST_WORD := He.int_ok X G (c.fact 67 (f := .int "MOST_WORD" 4) rfl)
  e_BadCount := let ⟨a, b, d, e⟩ := He.exc_ok (c.fact 68 (f := .exc "BadCount") rfl); ⟨He.glo_ok X G (c.fact 69 (f := .glo "BadCount") rfl), a, b, d, e⟩
  e_BadRow := let ⟨a, b, d, e⟩ := He.exc_ok (c.fact 70 (f := .exc "BadRow") rfl); ⟨He.glo_ok X G (c.fact 71 (f := .glo "BadRow") rfl), a, b, d, e⟩
  e_BadRules := let ⟨a, b, d, e⟩ := He.exc_ok (c.fact 72 (f := .exc "BadRules") rfl); ⟨He.glo_ok X G (c.fact 73 (f := .glo "BadRules") rfl), a, b, d, e⟩
  e_BadText := let ⟨a, b, d, e⟩ := He.exc_ok (c.fact 74 (f := .exc "BadText") rfl); ⟨He.glo_ok X G (c.fact 75 (f := .glo "BadText") rfl), a, b, d, e⟩
  e_BadWord := let ⟨a, b, d, e⟩ := He.exc_ok (c.fact 76 (f := .exc "BadWord") rfl); ⟨He.glo_ok X G (c.fact 77 (f := .glo "BadWord") rfl), a, b, d, e⟩
  e_Ended := let ⟨a, b, d, e⟩ := He.exc_ok (c.fact 78 (f := .exc "Ended") rfl); ⟨He.glo_ok X G (c.fact 79 (f := .glo "Ended") rfl), a, b, d, e⟩
  e_TooMany := let ⟨a, b, d, e⟩ := He.exc_ok (c.fact 80 (f := .exc "TooMany") rfl); ⟨He.glo_ok X G (c.fact 81 (f := .glo "TooMany") rfl), a, b, d, e⟩
  x_BadCount := fun e he => by
    simp only [us, List.mem_cons, List.not_mem_nil, or_false] at he
    rcases he with rfl | rfl | rfl | rfl | rfl | rfl | rfl | rfl
    · exact He.exm_ok (c.fact 82 (f := .exm "CutError" "BadCount" false) rfl)
    · exact He.exm_ok (c.fact 83 (f := .exm "BadRules" "BadCount" false) rfl)
    · exact He.exm_ok (c.fact 84 (f := .exm "BadRow" "BadCount" false) rfl)
    · exact He.exm_ok (c.fact 85 (f := .exm "BadCount" "BadCount" true) rfl)
    · exact He.exm_ok (c.fact 86 (f := .exm "BadWord" "BadCount" false) rfl)
    · exact He.exm_ok (c.fact 87 (f := .exm "Ended" "BadCount" false) rfl)
    · exact He.exm_ok (c.fact 88 (f := .exm "TooMany" "BadCount" false) rfl)
    · exact He.exm_ok (c.fact 89 (f := .exm "BadText" "BadCount" false) rfl)
  x_BadRow := fun e he => by
    simp only [us, List.mem_cons, List.not_mem_nil, or_false] at he
    rcases he with rfl | rfl | rfl | rfl | rfl | rfl | rfl | rfl
    · exact He.exm_ok (c.fact 90 (f := .exm "CutError" "BadRow" false) rfl)
    · exact He.exm_ok (c.fact 91 (f := .exm "BadRules" "BadRow" false) rfl)
    · exact He.exm_ok (c.fact 92 (f := .exm "BadRow" "BadRow" true) rfl)
    · exact He.exm_ok (c.fact 93 (f := .exm "BadCount" "BadRow" false) rfl)
    · exact He.exm_ok (c.fact 94 (f := .exm "BadWord" "BadRow" false) rfl)
    · exact He.exm_ok (c.fact 95 (f := .exm "Ended" "BadRow" false) rfl)
    · exact He.exm_ok (c.fact 96 (f := .exm "TooMany" "BadRow" false) rfl)
    · exact He.exm_ok (c.fact 97 (f := .exm "BadText" "BadRow" false) rfl)
  x_BadRules := fun e he => by
    simp only [us, List.mem_cons, List.not_mem_nil, or_false] at he
    rcases he with rfl | rfl | rfl | rfl | rfl | rfl | rfl | rfl
    · exact He.exm_ok (c.fact 98 (f := .exm "CutError" "BadRules" false) rfl)
    · exact He.exm_ok (c.fact 99 (f := .exm "BadRules" "BadRules" true) rfl)
    · exact He.exm_ok (c.fact 100 (f := .exm "BadRow" "BadRules" false) rfl)
    · exact He.exm_ok (c.fact 101 (f := .exm "BadCount" "BadRules" false) rfl)
    · exact He.exm_ok (c.fact 102 (f := .exm "BadWord" "BadRules" false) rfl)
    · exact He.exm_ok (c.fact 103 (f := .exm "Ended" "BadRules" false) rfl)
    · exact He.exm_ok (c.fact 104 (f := .exm "TooMany" "BadRules" false) rfl)
    · exact He.exm_ok (c.fact 105 (f := .exm "BadText" "BadRules" false) rfl)
  x_BadText := fun e he => by
    simp only [us, List.mem_cons, List.not_mem_nil, or_false] at he
    rcases he with rfl | rfl | rfl | rfl | rfl | rfl | rfl | rfl
    · exact He.exm_ok (c.fact 106 (f := .exm "CutError" "BadText" false) rfl)
    · exact He.exm_ok (c.fact 107 (f := .exm "BadRules" "BadText" false) rfl)
    · exact He.exm_ok (c.fact 108 (f := .exm "BadRow" "BadText" false) rfl)
    · exact He.exm_ok (c.fact 109 (f := .exm "BadCount" "BadText" false) rfl)
    · exact He.exm_ok (c.fact 110 (f := .exm "BadWord" "BadText" false) rfl)
    · exact He.exm_ok (c.fact 111 (f := .exm "Ended" "BadText" false) rfl)
    · exact He.exm_ok (c.fact 112 (f := .exm "TooMany" "BadText" false) rfl)
    · exact He.exm_ok (c.fact 113 (f := .exm "BadText" "BadText" true) rfl)
  x_BadWord := fun e he => by
    simp only [us, List.mem_cons, List.not_mem_nil, or_false] at he
    rcases he with rfl | rfl | rfl | rfl | rfl | rfl | rfl | rfl
    · exact He.exm_ok (c.fact 114 (f := .exm "CutError" "BadWord" false) rfl)
    · exact He.exm_ok (c.fact 115 (f := .exm "BadRules" "BadWord" false) rfl)
    · exact He.exm_ok (c.fact 116 (f := .exm "BadRow" "BadWord" false) rfl)
    · exact He.exm_ok (c.fact 117 (f := .exm "BadCount" "BadWord" false) rfl)
    · exact He.exm_ok (c.fact 118 (f := .exm "BadWord" "BadWord" true) rfl)
    · exact He.exm_ok (c.fact 119 (f := .exm "Ended" "BadWord" false) rfl)
    · exact He.exm_ok (c.fact 120 (f := .exm "TooMany" "BadWord" false) rfl)
    · exact He.exm_ok (c.fact 121 (f := .exm "BadText" "BadWord" false) rfl)
  x_Ended := fun e he => by
    simp only [us, List.mem_cons, List.not_mem_nil, or_false] at he
    rcases he with rfl | rfl | rfl | rfl | rfl | rfl | rfl | rfl
    · exact He.exm_ok (c.fact 122 (f := .exm "CutError" "Ended" false) rfl)
    · exact He.exm_ok (c.fact 123 (f := .exm "BadRules" "Ended" false) rfl)
    · exact He.exm_ok (c.fact 124 (f := .exm "BadRow" "Ended" false) rfl)
    · exact He.exm_ok (c.fact 125 (f := .exm "BadCount" "Ended" false) rfl)
    · exact He.exm_ok (c.fact 126 (f := .exm "BadWord" "Ended" false) rfl)
    · exact He.exm_ok (c.fact 127 (f := .exm "Ended" "Ended" true) rfl)
    · exact He.exm_ok (c.fact 128 (f := .exm "TooMany" "Ended" false) rfl)
    · exact He.exm_ok (c.fact 129 (f := .exm "BadText" "Ended" false) rfl)
  x_TooMany := fun e he => by
    simp only [us, List.mem_cons, List.not_mem_nil, or_false] at he
    rcases he with rfl | rfl | rfl | rfl | rfl | rfl | rfl | rfl
    · exact He.exm_ok (c.fact 130 (f := .exm "CutError" "TooMany" false) rfl)
    · exact He.exm_ok (c.fact 131 (f := .exm "BadRules" "TooMany" false) rfl)
    · exact He.exm_ok (c.fact 132 (f := .exm "BadRow" "TooMany" false) rfl)
    · exact He.exm_ok (c.fact 133 (f := .exm "BadCount" "TooMany" false) rfl)
    · exact He.exm_ok (c.fact 134 (f := .exm "BadWord" "TooMany" false) rfl)
    · exact He.exm_ok (c.fact 135 (f := .exm "Ended" "TooMany" false) rfl)
    · exact He.exm_ok (c.fact 136 (f := .exm "TooMany" "TooMany" true) rfl)
    · exact He.exm_ok (c.fact 137 (f := .exm "BadText" "TooMany" false) rfl)
theorem facts {P : Program} {w : World} {K : PySem.W.Frag} {h : Heap} {mg : Str → Option Value} {f : Addr} (X : K.In h) (G : h.Ns mainGlobals mg) (hfa : mg ("law" : Str) = some (.ref f)) (c : He.SaysD fa fn K) :
    ∃ fd : FuncData, (∀ (s : Shared) (v : Value), BindsTo s fd ⟨[v], []⟩ [("_law_script", v)]) ∧ ∀ base : Heap, K.In base → base.Ns mainGlobals mg → FnOk P w K mg base CX0 9 f fd ["_law_script"] (fun vs H Q _ => spM K (caK K) 1 m_law vs H Q fun _ _ _ => False) := by
  have T := gf X G c
  obtain ⟨fd__law_seed, F__law_seed⟩ := c.def_ 0 (d := d__law_seed) rfl
  obtain ⟨fd__law_cell, F__law_cell⟩ := c.def_ 1 (d := d__law_cell) rfl
  obtain ⟨fd__law_pick, F__law_pick⟩ := c.def_ 2 (d := d__law_pick) rfl
  obtain ⟨fd__law_letters, F__law_letters⟩ := c.def_ 3 (d := d__law_letters) rfl
  obtain ⟨fd__law_rules, F__law_rules⟩ := c.def_ 4 (d := d__law_rules) rfl
  obtain ⟨fd__law_in, F__law_in⟩ := c.def_ 5 (d := d__law_in) rfl
  obtain ⟨fd__law_are_rules, F__law_are_rules⟩ := c.def_ 6 (d := d__law_are_rules) rfl
  obtain ⟨fd__law_mix, F__law_mix⟩ := c.def_ 7 (d := d__law_mix) rfl
  obtain ⟨fd_is_within, F_is_within⟩ := c.def_ 8 (d := d_is_within) rfl
  obtain ⟨fd_is_word, F_is_word⟩ := c.def_ 9 (d := d_is_word) rfl
  obtain ⟨fd_is_rules, F_is_rules⟩ := c.def_ 10 (d := d_is_rules) rfl
  obtain ⟨fd_word_read, F_word_read⟩ := c.def_ 11 (d := d_word_read) rfl
  obtain ⟨fd_read, F_read⟩ := c.def_ 12 (d := d_read) rfl
  obtain ⟨fd__law_read, F__law_read⟩ := c.def_ 13 (d := d__law_read) rfl
  obtain ⟨fd__law_read_here, F__law_read_here⟩ := c.def_ 14 (d := d__law_read_here) rfl
  obtain ⟨fd_look, F_look⟩ := c.def_ 15 (d := d_look) rfl
  obtain ⟨fd_shown, F_shown⟩ := c.def_ 16 (d := d_shown) rfl
  obtain ⟨fd__law_as, F__law_as⟩ := c.def_ 17 (d := d__law_as) rfl
  obtain ⟨fd_is_row, F_is_row⟩ := c.def_ 18 (d := d_is_row) rfl
  obtain ⟨fd_look_row, F_look_row⟩ := c.def_ 19 (d := d_look_row) rfl
  obtain ⟨fd_word_of, F_word_of⟩ := c.def_ 20 (d := d_word_of) rfl
  obtain ⟨fd_has_ended, F_has_ended⟩ := c.def_ 21 (d := d_has_ended) rfl
  obtain ⟨fd_next_of, F_next_of⟩ := c.def_ 22 (d := d_next_of) rfl
  obtain ⟨fd_told_by, F_told_by⟩ := c.def_ 23 (d := d_told_by) rfl
  obtain ⟨fd_meet, F_meet⟩ := c.def_ 24 (d := d_meet) rfl
  obtain ⟨fd_times_of, F_times_of⟩ := c.def_ 25 (d := d_times_of) rfl
  obtain ⟨fd_told_of, F_told_of⟩ := c.def_ 26 (d := d_told_of) rfl
  obtain ⟨fd_is_whole, F_is_whole⟩ := c.def_ 27 (d := d_is_whole) rfl
  obtain ⟨fd_share, F_share⟩ := c.def_ 28 (d := d_share) rfl
  obtain ⟨fd_all_parts, F_all_parts⟩ := c.def_ 29 (d := d_all_parts) rfl
  obtain ⟨fd_words_to, F_words_to⟩ := c.def_ 30 (d := d_words_to) rfl
  obtain ⟨fd_part_of, F_part_of⟩ := c.def_ 31 (d := d_part_of) rfl
  obtain ⟨fd_fate_of, F_fate_of⟩ := c.def_ 32 (d := d_fate_of) rfl
  obtain ⟨fd_sorted_out, F_sorted_out⟩ := c.def_ 33 (d := d_sorted_out) rfl
  obtain ⟨fd_next_row, F_next_row⟩ := c.def_ 34 (d := d_next_row) rfl
  obtain ⟨fd_after, F_after⟩ := c.def_ 35 (d := d_after) rfl
  obtain ⟨fd_image, F_image⟩ := c.def_ 36 (d := d_image) rfl
  obtain ⟨fd_ahead_of, F_ahead_of⟩ := c.def_ 37 (d := d_ahead_of) rfl
  obtain ⟨fd_leading, F_leading⟩ := c.def_ 38 (d := d_leading) rfl
  obtain ⟨fd_course, F_course⟩ := c.def_ 39 (d := d_course) rfl
  obtain ⟨fd_before, F_before⟩ := c.def_ 40 (d := d_before) rfl
  obtain ⟨fd_root_of, F_root_of⟩ := c.def_ 41 (d := d_root_of) rfl
  obtain ⟨fd_root, F_root⟩ := c.def_ 42 (d := d_root) rfl
  obtain ⟨fd_grows_by, F_grows_by⟩ := c.def_ 43 (d := d_grows_by) rfl
  obtain ⟨fd_fate, F_fate⟩ := c.def_ 44 (d := d_fate) rfl
  obtain ⟨fd_behind, F_behind⟩ := c.def_ 45 (d := d_behind) rfl
  obtain ⟨fd_is_fate, F_is_fate⟩ := c.def_ 46 (d := d_is_fate) rfl
  obtain ⟨fd_longest, F_longest⟩ := c.def_ 47 (d := d_longest) rfl
  obtain ⟨fd__law_asked, F__law_asked⟩ := c.def_ 48 (d := d__law_asked) rfl
  obtain ⟨fd__law_told, F__law_told⟩ := c.def_ 49 (d := d__law_told) rfl
  obtain ⟨fd_law, F_law⟩ := c.def_ 50 (d := d_law) rfl
  have e := hfa.symm.trans (He.glo_ok X G (c.fact 50 (f := .glo "law") rfl))
  cases e
  have b := FunD.bindsA (ps := ["_law_script"]) F_law fun _ _ _ _ _ _ us hl => match us, hl with | [_], _ => rfl
  refine ⟨fd_law, fun s v => b s [v] rfl, fun base _ _ => ?_⟩
  have k__law_seed := ok__law_seed (P := P) (w := w) (base := base) T F__law_seed (He.glo_ok X G (c.fact 0 (f := .glo "_law_seed") rfl))
  have k__law_cell := ok__law_cell (P := P) (w := w) (base := base) T F__law_cell (He.glo_ok X G (c.fact 1 (f := .glo "_law_cell") rfl))
  have k__law_pick := ok__law_pick (P := P) (w := w) (base := base) T F__law_pick (He.glo_ok X G (c.fact 2 (f := .glo "_law_pick") rfl))
  have k__law_letters := ok__law_letters (P := P) (w := w) (base := base) T F__law_letters (He.glo_ok X G (c.fact 3 (f := .glo "_law_letters") rfl)) k__law_pick k__law_seed
  have k__law_rules := ok__law_rules (P := P) (w := w) (base := base) T F__law_rules (He.glo_ok X G (c.fact 4 (f := .glo "_law_rules") rfl)) k__law_seed k__law_cell k__law_letters
  have k__law_in := ok__law_in (P := P) (w := w) (base := base) T F__law_in (He.glo_ok X G (c.fact 5 (f := .glo "_law_in") rfl))
  have k__law_are_rules := ok__law_are_rules (P := P) (w := w) (base := base) T F__law_are_rules (He.glo_ok X G (c.fact 6 (f := .glo "_law_are_rules") rfl)) k__law_in
  have k__law_mix := ok__law_mix (P := P) (w := w) (base := base) T F__law_mix (He.glo_ok X G (c.fact 7 (f := .glo "_law_mix") rfl))
  have k_is_within := ok_is_within (P := P) (w := w) (base := base) T F_is_within (He.glo_ok X G (c.fact 8 (f := .glo "is_within") rfl))
  have k_is_word := ok_is_word (P := P) (w := w) (base := base) T F_is_word (He.glo_ok X G (c.fact 9 (f := .glo "is_word") rfl))
  have k_is_rules := ok_is_rules (P := P) (w := w) (base := base) T F_is_rules (He.glo_ok X G (c.fact 10 (f := .glo "is_rules") rfl)) k_is_within k_is_word
  have k_word_read := ok_word_read (P := P) (w := w) (base := base) T F_word_read (He.glo_ok X G (c.fact 11 (f := .glo "word_read") rfl))
  have k_read := ok_read (P := P) (w := w) (base := base) T F_read (He.glo_ok X G (c.fact 12 (f := .glo "read") rfl)) k_word_read k_is_rules
  have k__law_read := ok__law_read (P := P) (w := w) (base := base) T F__law_read (He.glo_ok X G (c.fact 13 (f := .glo "_law_read") rfl)) k_read
  have k__law_read_here := ok__law_read_here (P := P) (w := w) (base := base) T F__law_read_here (He.glo_ok X G (c.fact 14 (f := .glo "_law_read_here") rfl)) k__law_are_rules
  have k_look := ok_look (P := P) (w := w) (base := base) T F_look (He.glo_ok X G (c.fact 15 (f := .glo "look") rfl)) k_is_rules
  have k_shown := ok_shown (P := P) (w := w) (base := base) T F_shown (He.glo_ok X G (c.fact 16 (f := .glo "shown") rfl)) k_look
  have k__law_as := ok__law_as (P := P) (w := w) (base := base) T F__law_as (He.glo_ok X G (c.fact 17 (f := .glo "_law_as") rfl))
  have k_is_row := ok_is_row (P := P) (w := w) (base := base) T F_is_row (He.glo_ok X G (c.fact 18 (f := .glo "is_row") rfl)) k_is_word
  have k_look_row := ok_look_row (P := P) (w := w) (base := base) T F_look_row (He.glo_ok X G (c.fact 19 (f := .glo "look_row") rfl)) k_look k_is_row
  have k_word_of := ok_word_of (P := P) (w := w) (base := base) T F_word_of (He.glo_ok X G (c.fact 20 (f := .glo "word_of") rfl))
  have k_has_ended := ok_has_ended (P := P) (w := w) (base := base) T F_has_ended (He.glo_ok X G (c.fact 21 (f := .glo "has_ended") rfl)) k_word_of
  have k_next_of := ok_next_of (P := P) (w := w) (base := base) T F_next_of (He.glo_ok X G (c.fact 22 (f := .glo "next_of") rfl)) k_word_of
  have k_told_by := ok_told_by (P := P) (w := w) (base := base) T F_told_by (He.glo_ok X G (c.fact 23 (f := .glo "told_by") rfl)) k_next_of k_has_ended
  have k_meet := ok_meet (P := P) (w := w) (base := base) T F_meet (He.glo_ok X G (c.fact 24 (f := .glo "meet") rfl)) k_look_row k_told_by
  have k_times_of := ok_times_of (P := P) (w := w) (base := base) T F_times_of (He.glo_ok X G (c.fact 25 (f := .glo "times_of") rfl))
  have k_told_of := ok_told_of (P := P) (w := w) (base := base) T F_told_of (He.glo_ok X G (c.fact 26 (f := .glo "told_of") rfl)) k_word_of
  have k_is_whole := ok_is_whole (P := P) (w := w) (base := base) T F_is_whole (He.glo_ok X G (c.fact 27 (f := .glo "is_whole") rfl)) k_word_of
  have k_share := ok_share (P := P) (w := w) (base := base) T F_share (He.glo_ok X G (c.fact 28 (f := .glo "share") rfl)) k_is_whole k_times_of k_told_of
  have k_all_parts := ok_all_parts (P := P) (w := w) (base := base) T F_all_parts (He.glo_ok X G (c.fact 29 (f := .glo "all_parts") rfl)) k_look k_is_within k_share
  have k_words_to := ok_words_to (P := P) (w := w) (base := base) T F_words_to (He.glo_ok X G (c.fact 30 (f := .glo "words_to") rfl))
  have k_part_of := ok_part_of (P := P) (w := w) (base := base) T F_part_of (He.glo_ok X G (c.fact 31 (f := .glo "part_of") rfl)) k_times_of k_share
  have k_fate_of := ok_fate_of (P := P) (w := w) (base := base) T F_fate_of (He.glo_ok X G (c.fact 32 (f := .glo "fate_of") rfl)) k_has_ended k_part_of k_next_of
  have k_sorted_out := ok_sorted_out (P := P) (w := w) (base := base) T F_sorted_out (He.glo_ok X G (c.fact 33 (f := .glo "sorted_out") rfl)) k_look k_is_within k_words_to k_fate_of
  have k_next_row := ok_next_row (P := P) (w := w) (base := base) T F_next_row (He.glo_ok X G (c.fact 34 (f := .glo "next_row") rfl)) k_look_row k_has_ended k_next_of
  have k_after := ok_after (P := P) (w := w) (base := base) T F_after (He.glo_ok X G (c.fact 35 (f := .glo "after") rfl)) k_look_row k_is_within k_has_ended k_next_of
  have k_image := ok_image (P := P) (w := w) (base := base) T F_image (He.glo_ok X G (c.fact 36 (f := .glo "image") rfl)) k_look_row k_is_whole k_told_of
  have k_ahead_of := ok_ahead_of (P := P) (w := w) (base := base) T F_ahead_of (He.glo_ok X G (c.fact 37 (f := .glo "ahead_of") rfl)) k_word_of
  have k_leading := ok_leading (P := P) (w := w) (base := base) T F_leading (He.glo_ok X G (c.fact 38 (f := .glo "leading") rfl)) k_look_row k_is_within k_ahead_of
  have k_course := ok_course (P := P) (w := w) (base := base) T F_course (He.glo_ok X G (c.fact 39 (f := .glo "course") rfl)) k_look_row k_is_within k_next_of k_has_ended
  have k_before := ok_before (P := P) (w := w) (base := base) T F_before (He.glo_ok X G (c.fact 40 (f := .glo "before") rfl)) k_look_row k_ahead_of
  have k_root_of := ok_root_of (P := P) (w := w) (base := base) T F_root_of (He.glo_ok X G (c.fact 41 (f := .glo "root_of") rfl))
  have k_root := ok_root (P := P) (w := w) (base := base) T F_root (He.glo_ok X G (c.fact 42 (f := .glo "root") rfl)) k_look_row k_root_of
  have k_grows_by := ok_grows_by (P := P) (w := w) (base := base) T F_grows_by (He.glo_ok X G (c.fact 43 (f := .glo "grows_by") rfl)) k_look_row k_share
  have k_fate := ok_fate (P := P) (w := w) (base := base) T F_fate (He.glo_ok X G (c.fact 44 (f := .glo "fate") rfl)) k_look_row k_fate_of
  have k_behind := ok_behind (P := P) (w := w) (base := base) T F_behind (He.glo_ok X G (c.fact 45 (f := .glo "behind") rfl)) k_has_ended k_next_of
  have k_is_fate := ok_is_fate (P := P) (w := w) (base := base) T F_is_fate (He.glo_ok X G (c.fact 46 (f := .glo "is_fate") rfl)) k_look_row k_is_within k_behind k_has_ended k_times_of k_share
  have k_longest := ok_longest (P := P) (w := w) (base := base) T F_longest (He.glo_ok X G (c.fact 47 (f := .glo "longest") rfl)) k_look_row k_fate_of k_next_of
  have k__law_asked := ok__law_asked (P := P) (w := w) (base := base) T F__law_asked (He.glo_ok X G (c.fact 48 (f := .glo "_law_asked") rfl)) k_next_row k_after k_image k_leading k_course k_before k_root k_grows_by k_fate k_is_fate k_longest k_meet k_all_parts k_sorted_out
  have k__law_told := ok__law_told (P := P) (w := w) (base := base) T F__law_told (He.glo_ok X G (c.fact 49 (f := .glo "_law_told") rfl)) k__law_asked
  exact fn_to0 (ok_law T F_law hfa k__law_rules k_is_rules k_shown k_read k__law_cell k__law_are_rules k__law_as k__law_told k__law_mix k__law_read k__law_read_here)
end K08
open PySem PySem.W PySem.Calls PyProof.Rows
theorem PySem.Challenge.cw_frontcut_k08_rules_holds : PySem.Challenge.rw_frontcut_k08_rules.Holds := by
  w_on; o_law
  refine HandSHeadRun.head_any (r := OpenLaw.row PySem.Challenge.rw_frontcut_k08_rules) (q := view (OpenLaw.row PySem.Challenge.rw_frontcut_k08_rules).prog [70]) (H := K08.hk) (ob := K08.ob) (M := 20000) (loose := K08.loose) (d := HandSHeadRun.topDef (OpenLaw.row PySem.Challenge.rw_frontcut_k08_rules).prog 70) (kwd := []) K08.ob_eq
    (by kernel_rfl) (fun s => by kernel_rfl) K08.run (by kernel_rfl) (by kernel_rfl) (by kernel_rfl) (by rfl) (by first | assumption | decide +kernel) (by decide +kernel) ⟨rfl, rfl, rfl, rfl, rfl, by decide +kernel⟩ ?hw ?hc
  case hw => w_witness2
  case hc =>
    refine L2.walk_ofE (l := PySem.Challenge.rw_frontcut_k08_rules) (n := 63) (k := 9) (x := "_law_script") (CX := L2.CX0) rfl (by decide) (by kernel_rfl) ⟨rfl, by decide, by decide⟩ ?F (fun _ _ _ _ z => z)
    intro w mg fa h Y G hmg0
    obtain ⟨K, KX, c⟩ := Y
    have hmg : mg ("law" : PySem.Str) = some (.ref fa) := by
      have e : (HandSHeadRun.topDef (OpenLaw.row PySem.Challenge.rw_frontcut_k08_rules).prog 70).name = ("law" : PySem.Str) := by kernel_rfl
      rw [← e]
      exact hmg0
    obtain ⟨fd, hb, hF⟩ := K08.facts (P := (PySem.Challenge.rw_frontcut_k08_rules).prog) (w := w) KX G hmg c
    exact ⟨K, fd, (fun vs H Q _ => PX.spM K (K08.caK K) 1 K08.m_law vs H Q fun _ _ _ => False), KX, hb, fun H a ns hl _ hS => PX.law_sp (K08.law_true ns hl) hS, hF⟩
#print axioms PySem.Challenge.cw_frontcut_k08_rules_holds

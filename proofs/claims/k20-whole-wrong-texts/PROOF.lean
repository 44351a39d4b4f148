import PyProof.Rows.All
import Wide.All
import OpenK.AllK
import Wide.FinOn
import KE.KStateDown
import HandS.Head0
import HandS.Head1
import HandS.Head2
import HandS.HeadEnd
import HandS.HeadHook1
import HandS.HeadHook2
import HandS.HeadHook3
import HandS.HeadHook4
import HandS.HeadWalk
import HandS.ExcField
import HandS.Exc
import HandS.ForMost
import HandS.TupAny
import HandS.Deep
import HandS.IsInst
import HandS.Zip
import HandS.Walk
import HandS.Lambda
import HandS.Wide
import HandS.Style
import HandS.TupMul
import KE.SortData
import HandS.TupSets
import HandS.SetTxt0
import HandS.Defaults
import KE.SortKeyHeap
import HandS.SortKw
import HandS.CallLocal
import KE.KDictZip
import HandS.MapObj
import KE.GoesMore
import HandS.ListItems
import KE.KeyNested
import HandS.Text
import HandS.StrMore
import HandS.FStr
import KE.KxField
import KE.GoesEnum
import HandS.TryOnly
import HandS.ExcOwn
import HandS.ExcInit
import HandS.ClsMeth
import PyProof.StrLawsTight
import PyProof.Rows.StrSplitCount
import PySem.Challenge.RW_modegaps_k20_whole_wrong_texts
set_option Elab.async false
set_option linter.all false
set_option maxRecDepth 100000
set_option maxHeartbeats 0
namespace MG
open PySem PySem.Spec PyProof.Rows L2 He
abbrev Tb : Type := Str × List Dv
/-- the name of a def's lambda -/
def lamName (x : Str) : Str := (x ++ ".<locals>.") ++ "<lambda>"
def tbOf (tf : List Defn) (K : PySem.W.Frag) : List (Addr × Str) := tf.map fun p => ((cT K p).2, lamName p.1)
def exM (tb : List Tb) (tf : List Defn) (K : PySem.W.Frag) : Bool := (tb.all fun q => tupB K q.1 q.2) && decide ((tf.map fun p => (cT K p).2).Nodup)
abbrev hookM (n : Nat) (fa : List Fa) (tb : List Tb) (fn : List DefD) (tf : List Defn) : PySem.W.Hook := hookX n fa fn [] tf (exM tb tf)
abbrev SaysM (fa : List Fa) (tb : List Tb) (fn : List DefD) (tf : List Defn) (w : World) (h : Heap) (K : PySem.W.Frag) : Prop := SaysX fa fn [] tf (exM tb tf) w h K
end MG

set_option Elab.async false
set_option linter.all false
set_option maxRecDepth 100000
set_option maxHeartbeats 4000000
/-! MgExcF: the facts of exception classes, as tests of the written part. -/
namespace MG
open PySem PySem.Spec PyProof.Rows L2 He
/-! ### facts -/
def oexB (K : PySem.W.Frag) (C : Addr) : Bool := match K.lookup C with
  | some ⟨.type "type", _, .cls cd, sl⟩ => (match cd.mro, sl.toList with
    | .ref C' :: bm, [_, _, _, _, some (.builtin n), _] => C' == C && n == "ValueError.__new__" && !cd.hasDel && cd.hasDict && PySem.HandSPX.refsVE bm
    | _, _ => false)
  | _ => false
/-- the class named c, with its own __init__, the field f -/
def xcB (K : PySem.W.Frag) (c f : Str) : Bool :=
  let C := ga K c
  let fI := ma K C "__init__"
  oexB K C && (decide (PySem.W.findIn K (.ref C) "__setattr__" = some (some (.builtin "object.__setattr__"))) && (decide (PySem.W.subIn K (.ref C) (.type "BaseException") = some true) && (decide (PySem.W.typeIn K (.ref C) = some (.type "type")) && (PySem.W.keepIn K (.ref C) &&
    (decide (PySem.W.findIn K (.ref C) "__init__" = some (some (.ref fI))) && (decide (PySem.W.typeIn K (.ref fI) = some (.type "function")) && (xfB K C && (decide (PySem.W.findIn K (.ref C) f = some none) && decide (PySem.W.exmOne K (.ref C) (.ref C) = some true)))))))))
/-- the class named g: its __init__ read off it is ValueError's -/
def giB (K : PySem.W.Frag) (g : Str) : Bool :=
  let G := ga K g
  PySem.W.readsIn K G (.type "type") && (decide (PySem.W.specialIn K (.ref G) "__getattribute__" = some (some (.builtin "type.__getattribute__"))) &&
    (match PySem.W.findCls K (.ref G) (.type "type") "__init__" with
    | some (.val (.builtin n)) => n == "ValueError.__init__"
    | _ => false))
/-! ### the hook with the table of the interpreter's own statics (readsIn looks there) -/
def asE (g : Addr → Option Obj) (n : Nat) : List Addr := asD g n ++ [cStatics]
def obsE (n : Nat) (fa : List Fa) (fn : List DefD) (ts : List Tab) (tf : List Defn) (ex : PySem.W.Frag → Bool) (g : Addr → Option Obj) : AlX := (obsT fa fn ts (frT g (asE g n)), ex (frT g (asE g n)) && tabsB g tf (frT g (asE g n)))
theorem saysE_of {n : Nat} {fa : List Fa} {fn : List DefD} {ts : List Tab} {tf : List Defn} {ex : PySem.W.Frag → Bool} {w : World} {h : Heap} (e : obsE n fa fn ts tf ex h.get? = valX fn ts w) : SaysX fa fn ts tf ex w h (frT h.get? (asE h.get? n)) := by
  have e1 : obsT fa fn ts (frT h.get? (asE h.get? n)) = valT fn ts w := congrArg (fun z : AlX => z.1) e
  have e2 : (ex (frT h.get? (asE h.get? n)) && tabsB h.get? tf (frT h.get? (asE h.get? n))) = true := congrArg (fun z : AlX => z.2) e
  obtain ⟨h1, h2⟩ := ba e2
  have key : ∀ p ∈ tf, PySem.W.codeHdIn (frT h.get? (asE h.get? n)) (cT (frT h.get? (asE h.get? n)) p).1 (cT (frT h.get? (asE h.get? n)) p).2 = true ∧ ∃ o, h.get? (cT (frT h.get? (asE h.get? n)) p).2 = some o ∧ emptyTab o = true := fun p hp => by
    obtain ⟨h3, h4⟩ := ba (List.all_eq_true.mp h2 p hp)
    refine ⟨h3, ?_⟩
    cases q : h.get? (cT (frT h.get? (asE h.get? n)) p).2 with
    | none =>
      rw [q] at h4
      cases h4
    | some o =>
      rw [q] at h4
      exact ⟨o, rfl, h4⟩
  exact ⟨e1, h1, fun p hp => (key p hp).1, fun p hp => by
    obtain ⟨_, o, q, z⟩ := key p hp
    exact frT_none q z, fun p hp => by
    obtain ⟨_, o, q, z⟩ := key p hp
    rw [q, emptyTab_eq z]⟩
def hookE (n : Nat) (fa : List Fa) (fn : List DefD) (ts : List Tab) (tf : List Defn) (ex : PySem.W.Frag → Bool) : PySem.W.Hook where
  α := AlX
  obs := fun s => obsE n fa fn ts tf ex s.heap.get?
  val := fun w => valX fn ts w
  says := fun w h => ∃ K : PySem.W.Frag, K.In h ∧ SaysX fa fn ts tf ex w h K
  of := fun _ _ e => ⟨_, frT_in, saysE_of e⟩
  keeps := fun _ _ _ ⟨K, hK, c⟩ k => ⟨K, PySem.W.Frag.In.keeps hK k, ⟨c.t, c.more, c.hd, c.out, fun p hp => k _ _ (c.empty p hp)⟩⟩
theorem obsE_eq {n : Nat} {fa : List Fa} {fn : List DefD} {ts : List Tab} {tf : List Defn} {ex : PySem.W.Frag → Bool} {g : Addr → Option Obj} {s : Shared} (h : ∀ a, g a = s.heap.get? a) : obsE n fa fn ts tf ex g = (hookE n fa fn ts tf ex).obs s := by
  have e : g = s.heap.get? := funext h
  rw [e] <;> rfl
end MG

set_option Elab.async false
set_option linter.all false
set_option maxRecDepth 100000
set_option maxHeartbeats 0
namespace Lw
open PySem PySem.Spec PyProof.Rows L2 MG
def top (i : Nat) : Stmt := PySem.Challenge.pw_modegaps_k20_whole_wrong_texts.main.body.getD i (.Pass ⟨0, 0, 0, 0⟩)
abbrev s_law_draw : Stmt := top 28
abbrev s_law_of : Stmt := top 30
abbrev s_law_rights : Stmt := top 31
abbrev s_law_step_of : Stmt := top 33
abbrev s_law_script : Stmt := top 34
abbrev s_is_name : Stmt := top 9
abbrev s_is_path : Stmt := top 10
abbrev s_paths_of : Stmt := top 14
abbrev s_is_number : Stmt := top 8
abbrev s_is_rights : Stmt := top 11
abbrev s_is_group : Stmt := top 12
abbrev s_is_step : Stmt := top 13
abbrev s_is_script : Stmt := top 15
abbrev s_check_script : Stmt := top 16
abbrev s_rights_text : Stmt := top 19
abbrev s_item_text : Stmt := top 21
abbrev s_step_text : Stmt := top 22
abbrev s_script_text : Stmt := top 25
abbrev s_law_wide_menu : Stmt := top 32
abbrev s_law_bent : Stmt := top 42
abbrev s_rights_read : Stmt := top 20
abbrev s_path_read : Stmt := top 23
abbrev s_step_read : Stmt := top 24
abbrev s_read_script : Stmt := top 26
abbrev s_law_told : Stmt := top 41
abbrev s_law_few : Stmt := top 35
abbrev s_law_many : Stmt := top 36
abbrev s_law_path_so : Stmt := top 37
abbrev s_law_six_so : Stmt := top 38
abbrev s_law_line_so : Stmt := top 39
abbrev s_law_due : Stmt := top 40
abbrev s_law_like : Stmt := top 29
abbrev s_law : Stmt := top 43
end Lw
namespace Lw.Hd
open PySem PySem.Spec PyProof.Rows L2 MG
def dd_law_draw : He.DefD := ⟨("_law_draw", none), "_law_draw", "_law_draw", defArgs s_law_draw, defBody s_law_draw, defScope s_law_draw, [], []⟩
def dd_law_of : He.DefD := ⟨("_law_of", none), "_law_of", "_law_of", defArgs s_law_of, defBody s_law_of, defScope s_law_of, [], []⟩
def dd_law_rights : He.DefD := ⟨("_law_rights", none), "_law_rights", "_law_rights", defArgs s_law_rights, defBody s_law_rights, defScope s_law_rights, [], []⟩
def dd_law_step_of : He.DefD := ⟨("_law_step_of", none), "_law_step_of", "_law_step_of", defArgs s_law_step_of, defBody s_law_step_of, defScope s_law_step_of, [], []⟩
def dd_law_script : He.DefD := ⟨("_law_script", none), "_law_script", "_law_script", defArgs s_law_script, defBody s_law_script, defScope s_law_script, [], []⟩
def dd_is_name : He.DefD := ⟨("is_name", none), "is_name", "is_name", defArgs s_is_name, defBody s_is_name, defScope s_is_name, [], []⟩
def dd_is_path : He.DefD := ⟨("is_path", none), "is_path", "is_path", defArgs s_is_path, defBody s_is_path, defScope s_is_path, [], []⟩
def dd_paths_of : He.DefD := ⟨("paths_of", none), "paths_of", "paths_of", defArgs s_paths_of, defBody s_paths_of, defScope s_paths_of, [], []⟩
def dd_is_number : He.DefD := ⟨("is_number", none), "is_number", "is_number", defArgs s_is_number, defBody s_is_number, defScope s_is_number, [], []⟩
def dd_is_rights : He.DefD := ⟨("is_rights", none), "is_rights", "is_rights", defArgs s_is_rights, defBody s_is_rights, defScope s_is_rights, [], []⟩
def dd_is_group : He.DefD := ⟨("is_group", none), "is_group", "is_group", defArgs s_is_group, defBody s_is_group, defScope s_is_group, [], []⟩
def dd_is_step : He.DefD := ⟨("is_step", none), "is_step", "is_step", defArgs s_is_step, defBody s_is_step, defScope s_is_step, [], []⟩
def dd_is_script : He.DefD := ⟨("is_script", none), "is_script", "is_script", defArgs s_is_script, defBody s_is_script, defScope s_is_script, [], []⟩
def dd_check_script : He.DefD := ⟨("check_script", none), "check_script", "check_script", defArgs s_check_script, defBody s_check_script, defScope s_check_script, [], []⟩
def dd_rights_text : He.DefD := ⟨("rights_text", none), "rights_text", "rights_text", defArgs s_rights_text, defBody s_rights_text, defScope s_rights_text, [], []⟩
def dd_item_text : He.DefD := ⟨("item_text", none), "item_text", "item_text", defArgs s_item_text, defBody s_item_text, defScope s_item_text, [], []⟩
def dd_step_text : He.DefD := ⟨("step_text", none), "step_text", "step_text", defArgs s_step_text, defBody s_step_text, defScope s_step_text, [], []⟩
def dd_script_text : He.DefD := ⟨("script_text", none), "script_text", "script_text", defArgs s_script_text, defBody s_script_text, defScope s_script_text, [], []⟩
def dd_law_wide_menu : He.DefD := ⟨("_law_wide_menu", none), "_law_wide_menu", "_law_wide_menu", defArgs s_law_wide_menu, defBody s_law_wide_menu, defScope s_law_wide_menu, [], []⟩
def dd_law_bent : He.DefD := ⟨("_law_bent", none), "_law_bent", "_law_bent", defArgs s_law_bent, defBody s_law_bent, defScope s_law_bent, [], []⟩
def dd_rights_read : He.DefD := ⟨("rights_read", none), "rights_read", "rights_read", defArgs s_rights_read, defBody s_rights_read, defScope s_rights_read, [], []⟩
def dd_path_read : He.DefD := ⟨("path_read", none), "path_read", "path_read", defArgs s_path_read, defBody s_path_read, defScope s_path_read, [], []⟩
def dd_step_read : He.DefD := ⟨("step_read", none), "step_read", "step_read", defArgs s_step_read, defBody s_step_read, defScope s_step_read, [], []⟩
def dd_read_script : He.DefD := ⟨("read_script", none), "read_script", "read_script", defArgs s_read_script, defBody s_read_script, defScope s_read_script, [], []⟩
def dd_law_told : He.DefD := ⟨("_law_told", none), "_law_told", "_law_told", defArgs s_law_told, defBody s_law_told, defScope s_law_told, [], []⟩
def dd_law_few : He.DefD := ⟨("_law_few", none), "_law_few", "_law_few", defArgs s_law_few, defBody s_law_few, defScope s_law_few, [], []⟩
def dd_law_many : He.DefD := ⟨("_law_many", none), "_law_many", "_law_many", defArgs s_law_many, defBody s_law_many, defScope s_law_many, [], []⟩
def dd_law_path_so : He.DefD := ⟨("_law_path_so", none), "_law_path_so", "_law_path_so", defArgs s_law_path_so, defBody s_law_path_so, defScope s_law_path_so, [], []⟩
def dd_law_six_so : He.DefD := ⟨("_law_six_so", none), "_law_six_so", "_law_six_so", defArgs s_law_six_so, defBody s_law_six_so, defScope s_law_six_so, [], []⟩
def dd_law_line_so : He.DefD := ⟨("_law_line_so", none), "_law_line_so", "_law_line_so", defArgs s_law_line_so, defBody s_law_line_so, defScope s_law_line_so, [], []⟩
def dd_law_due : He.DefD := ⟨("_law_due", none), "_law_due", "_law_due", defArgs s_law_due, defBody s_law_due, defScope s_law_due, [], []⟩
def dd_law_like : He.DefD := ⟨("_law_like", none), "_law_like", "_law_like", defArgs s_law_like, defBody s_law_like, defScope s_law_like, [], []⟩
def dd_law : He.DefD := ⟨("law", none), "law", "law", defArgs s_law, defBody s_law, defScope s_law, [], []⟩
abbrev s_InvalidText_ini : Stmt := inClass (top 3) 0
def dd_InvalidText_ini : He.DefD := ⟨("InvalidText", some "__init__"), "__init__", "InvalidText.__init__", defArgs s_InvalidText_ini, defBody s_InvalidText_ini, defScope s_InvalidText_ini, [], []⟩
def fn : List He.DefD := [dd_law_draw, dd_law_of, dd_law_rights, dd_law_step_of, dd_law_script, dd_is_name, dd_is_path, dd_paths_of, dd_is_number, dd_is_rights, dd_is_group, dd_is_step, dd_is_script, dd_check_script, dd_rights_text, dd_item_text, dd_step_text, dd_script_text, dd_law_wide_menu, dd_law_bent, dd_rights_read, dd_path_read, dd_step_read, dd_read_script, dd_law_told, dd_law_few, dd_law_many, dd_law_path_so, dd_law_six_so, dd_law_line_so, dd_law_due, dd_law_like, dd_law, dd_InvalidText_ini]
def fa0 : List He.Fa := [.glo "_law_draw", .glo "_law_of", .glo "_law_rights", .glo "_law_step_of", .glo "_law_script", .glo "is_name", .glo "is_path", .glo "paths_of", .glo "is_number", .glo "is_rights", .glo "is_group", .glo "is_step", .glo "is_script", .glo "check_script", .glo "rights_text", .glo "item_text", .glo "step_text", .glo "script_text", .glo "_law_wide_menu", .glo "_law_bent", .glo "rights_read", .glo "path_read", .glo "step_read", .glo "read_script", .glo "_law_told", .glo "_law_few", .glo "_law_many", .glo "_law_path_so", .glo "_law_six_so", .glo "_law_line_so"]
def fa1 : List He.Fa := [.glo "_law_due", .glo "_law_like", .glo "law", .glo "InvalidText", .glo "GapError", .free "bool", .free "enumerate", .free "int", .free "isinstance", .free "len", .free "list", .free "range", .free "set", .free "sorted", .free "str", .free "sum", .free "tuple", .free "zip", .glo "GROUPS", .glo "ONE", .glo "TWO", .str "SIGNS" "rwxrwx"]
def fa : List He.Fa := fa0 ++ fa1
def tb : List Tb := [("GROUPS", [.str "own", .str "team"]), ("ONE", [.str "mask", .str "out"]), ("TWO", [.str "make", .str "folder", .str "write", .str "rights", .str "group", .str "move", .str "copy", .str "use"])]
def loose0 : List Str := ["GapError", "InvalidScript", "InvalidText", "GROUPS", "ONE", "TWO", "is_number", "is_name", "is_path", "is_rights", "is_group", "is_step", "paths_of", "is_script", "check_script", "SIGNS", "rights_text", "rights_read", "item_text", "step_text", "path_read", "step_read", "script_text", "read_script", "__name__", "_law_draw", "_law_like", "_law_of", "_law_rights", "_law_wide_menu"]
def loose1 : List Str := ["_law_step_of", "_law_script", "_law_few", "_law_many", "_law_path_so", "_law_six_so", "_law_line_so", "_law_due", "_law_told", "_law_bent"]
def loose : List Str := loose0 ++ loose1
abbrev R : PySem.W.OpenRow := PySem.W.OpenLaw.row PySem.Challenge.rw_modegaps_k20_whole_wrong_texts
def tf : List He.Defn := []
def exs (K : PySem.W.Frag) : Bool := xcB K "InvalidText" "line" && giB K "GapError"
abbrev hk : PySem.W.Hook := hookE 5 fa fn [] tf (fun K => exM tb tf K && exs K)
def ob (s : PySem.W.SharedT) : He.AlX := obsE 5 fa fn [] tf (fun K => exM tb tf K && exs K) (HandSHeadRun.getT s)
theorem ob_eq (s : PySem.W.SharedT) : ob s = hk.obs s.abs := obsE_eq (HandSHeadRun.getT_eq s)
theorem tri {α β γ δ : Type _} {o : Option α} {f : α → β} {g : α → γ} {h : α → δ} {x : β} {y : γ} {z : δ} (a : o.map f = some x) (b : o.map g = some y) (c : o.map h = some z) : o.map (fun s => (f s, g s, h s)) = some (x, y, z) := by
  cases o with
  | none => cases a
  | some s =>
    cases a
    cases b
    cases c
    rfl
section
open HandSHeadRun PySem.W PySem.Calls
theorem run1 (w : World) (os : OsState) : (endF (stepQ (denQ tabQ) R.prog w) 15000 R.prog w os).map (fun s => looksF R.prog (boot_heap w.params) s.abs) = some true := by kernel_rfl
theorem run2 (w : World) (os : OsState) : (endF (stepQ (denQ tabQ) R.prog w) 15000 R.prog w os).map (fun s => seenQ (PySem.W.view R.prog [43]) loose (importedModules R.prog.main.body) (fun s => xlAt (PySem.W.view R.prog [43]) [] s && recOk R.toRowW.records s) s.abs) = some (openGood (PySem.W.view R.prog [43]) loose) := by kernel_rfl
def vl (w : World) : He.AlX := He.valX fn [] w
theorem quad {α : Type _} {o : Option α} {f : α → He.AlX} {v : He.AlX} (a : o.map (fun s => (f s).1.1.1) = some v.1.1.1) (b : o.map (fun s => (f s).1.1.2) = some v.1.1.2) (c : o.map (fun s => (f s).1.2) = some v.1.2) (d : o.map (fun s => (f s).2) = some v.2) : o.map f = some v := by
  cases o with
  | none => cases a
  | some s =>
    obtain ⟨⟨⟨v1, v2⟩, v3⟩, v4⟩ := v
    have a := Option.some.inj a
    have b := Option.some.inj b
    have c := Option.some.inj c
    have d := Option.some.inj d
    exact congrArg some (Prod.ext (Prod.ext (Prod.ext a b) c) d)
theorem run3a (w : World) (os : OsState) : (endF (stepQ (denQ tabQ) R.prog w) 15000 R.prog w os).map (fun s => (ob s).1.1.1) = some true := by kernel_rfl
theorem run3b (w : World) (os : OsState) : (endF (stepQ (denQ tabQ) R.prog w) 15000 R.prog w os).map (fun s => (ob s).1.1.2) = some (fn.map He.DefD.val) := by kernel_rfl
theorem run3c (w : World) (os : OsState) : (endF (stepQ (denQ tabQ) R.prog w) 15000 R.prog w os).map (fun s => (ob s).1.2) = some [] := by kernel_rfl
theorem run3d (w : World) (os : OsState) : (endF (stepQ (denQ tabQ) R.prog w) 15000 R.prog w os).map (fun s => (ob s).2) = some true := by kernel_rfl
theorem run3 (w : World) (os : OsState) : (endF (stepQ (denQ tabQ) R.prog w) 15000 R.prog w os).map ob = some (hk.val w) := quad (v := vl w) (run3a w os) (run3b w os) (run3c w os) (run3d w os)
end
theorem run (w : World) : HandSHeadRun.RunEq R (PySem.W.view R.prog [43]) hk ob 15000 loose w := by
  intro os
  exact tri (run1 w os) (run2 w os) (run3 w os)

end Lw.Hd

set_option Elab.async false
set_option linter.all false
set_option maxRecDepth 100000
set_option maxHeartbeats 4000000
/-! MgBase: readings over plain data (PyData), above the hand layer: no heap in sight. -/
namespace MG
open PySem PySem.Spec PyProof.Rows L2

/-! ### data in a heap -/
/-- a text that Python can hold, of a bounded length -/
def sOk (x : Str) : Bool := PyData.strOk x && decide (x.length ≤ 16777216)
theorem sOk_ok {x : Str} (h : sOk x = true) : PyData.strOk x = true := (Bool.and_eq_true_iff.mp h).1
theorem sOk_len {x : Str} (h : sOk x = true) : x.length ≤ sizeLine := by
  rw [sizeLine_eq]; exact of_decide_eq_true (Bool.and_eq_true_iff.mp h).2
theorem sOk_of {x : Str} (h : PyData.strOk x = true) (l : x.length ≤ sizeLine) : sOk x = true := by
  unfold sOk; rw [h, Bool.true_and]; exact decide_eq_true (by rw [sizeLine_eq] at l; exact l)
mutual
/-- the value v stands for the datum d; its lists are never written again -/
inductive Rp (K : PySem.W.Frag) (F : Hp) : V → PyData → Prop
  | non : Rp K F .non .none
  | bl (b : Bool) : Rp K F (.bl b) (.bool b)
  | int (i : Int) : Rp K F (.int i) (.int i)
  | str {x : Str} : sOk x = true → Rp K F (.str x) (.str x)
  | lst {a : Addr} {xs : List V} {ds : List PyData} : F a = some (.lst xs) → xs.length ≤ sizeLine → RpAll K F xs ds → Rp K F (.ref a) (.list ds)
  | tup {a : Addr} {xs : List V} {ds : List PyData} : SqT K F a xs → xs.length ≤ sizeLine → RpAll K F xs ds → Rp K F (.ref a) (.tuple ds)
inductive RpAll (K : PySem.W.Frag) (F : Hp) : List V → List PyData → Prop
  | nil : RpAll K F [] []
  | cons {v : V} {vs : List V} {d : PyData} {ds : List PyData} : Rp K F v d → RpAll K F vs ds → RpAll K F (v :: vs) (d :: ds)
end

theorem same_sqT {K : PySem.W.Frag} {F F' : Hp} {a : Addr} {xs : List V} (e : Same F F') (h : SqT K F a xs) : SqT K F' a xs := by
  rcases h with (h | ⟨o, h⟩) | h
  · exact .inl (.inl (e _ _ h))
  · exact .inl (.inr ⟨o, e _ _ h⟩)
  · exact .inr h

mutual
theorem Rp.up {K : PySem.W.Frag} {F F' : Hp} (e : Same F F') : ∀ (d : PyData) (v : V), Rp K F v d → Rp K F' v d
  | .none, _, h => by cases h; exact .non
  | .bool _, _, h => by cases h; exact .bl _
  | .int _, _, h => by cases h; exact .int _
  | .str _, _, h => by cases h with | str h => exact .str h
  | .list ds, _, h => by
    cases h with
    | lst h1 hz h2 => exact .lst (e _ _ h1) hz (RpAll.up e ds _ h2)
  | .tuple ds, _, h => by
    cases h with
    | tup h1 hz h2 => exact .tup (same_sqT e h1) hz (RpAll.up e ds _ h2)
  | .dict _, _, h => by cases h
theorem RpAll.up {K : PySem.W.Frag} {F F' : Hp} (e : Same F F') : ∀ (ds : List PyData) (vs : List V), RpAll K F vs ds → RpAll K F' vs ds
  | [], _, h => by cases h; exact .nil
  | d :: ds, _, h => by
    cases h with
    | cons h1 h2 => exact .cons (Rp.up e d _ h1) (RpAll.up e ds _ h2)
end
mutual
/-- as the layer's own word has it -/
theorem Rp.dp {K : PySem.W.Frag} {F : Hp} : ∀ (d : PyData) (v : V), Rp K F v d → Dp K F v d
  | .none, _, h => by cases h; exact .non
  | .bool _, _, h => by cases h; exact .bl _
  | .int _, _, h => by cases h; exact .int _
  | .str _, _, h => by cases h; exact .str _
  | .list ds, _, h => by
    cases h with
    | lst h1 hz h2 => exact .lst (SqL.of h1) (RpAll.dp ds _ h2)
  | .tuple ds, _, h => by
    cases h with
    | tup h1 hz h2 => exact .tup h1 (RpAll.dp ds _ h2)
  | .dict _, _, h => by cases h
theorem RpAll.dp {K : PySem.W.Frag} {F : Hp} : ∀ (ds : List PyData) (vs : List V), RpAll K F vs ds → DpAll K F vs ds
  | [], _, h => by cases h; exact .nil
  | d :: ds, _, h => by
    cases h with
    | cons h1 h2 => exact .cons (Rp.dp d _ h1) (RpAll.dp ds _ h2)
end
section
variable {K : PySem.W.Frag} {F F' : Hp}
theorem RpAll.length : ∀ {vs : List V} {ds : List PyData}, RpAll K F vs ds → vs.length = ds.length
  | _, _, .nil => rfl
  | _, _, .cons _ t => congrArg (· + 1) t.length
theorem RpAll.get : ∀ {vs : List V} {ds : List PyData} {i : Nat} {v : V}, RpAll K F vs ds → vs[i]? = some v → ∃ d, ds[i]? = some d ∧ Rp K F v d
  | _, _, _, _, .nil, e => by simp at e
  | _, _, 0, _, .cons r _, e => by simp at e; subst e; exact ⟨_, rfl, r⟩
  | _, _, i + 1, v, .cons _ t, e => by
    obtain ⟨d, h1, h2⟩ := RpAll.get (i := i) (v := v) t (by simpa using e)
    exact ⟨d, by simpa using h1, h2⟩
theorem RpAll.getD : ∀ {vs : List V} {ds : List PyData} {i : Nat} {d : PyData}, RpAll K F vs ds → ds[i]? = some d → ∃ v, vs[i]? = some v ∧ Rp K F v d
  | _, _, _, _, .nil, e => by simp at e
  | _, _, 0, _, .cons r _, e => by simp at e; subst e; exact ⟨_, rfl, r⟩
  | _, _, i + 1, d, .cons _ t, e => by
    obtain ⟨v, h1, h2⟩ := RpAll.getD (i := i) (d := d) t (by simpa using e)
    exact ⟨v, by simpa using h1, h2⟩
theorem RpAll.append : ∀ {xs ys : List V} {ds es : List PyData}, RpAll K F xs ds → RpAll K F ys es → RpAll K F (xs ++ ys) (ds ++ es)
  | _, _, _, _, .nil, s => s
  | _, _, _, _, .cons r t, s => .cons r (RpAll.append t s)
theorem RpAll.take : ∀ {xs : List V} {ds : List PyData} (n : Nat), RpAll K F xs ds → RpAll K F (xs.take n) (ds.take n)
  | _, _, 0, _ => .nil
  | _, _, _ + 1, .nil => .nil
  | _, _, n + 1, .cons r t => .cons r (RpAll.take n t)
theorem RpAll.drop : ∀ {xs : List V} {ds : List PyData} (n : Nat), RpAll K F xs ds → RpAll K F (xs.drop n) (ds.drop n)
  | _, _, 0, r => r
  | _, _, _ + 1, .nil => .nil
  | _, _, n + 1, .cons _ t => RpAll.drop n t
theorem RpAll.set {v : V} {d : PyData} (r : Rp K F v d) : ∀ {xs : List V} {ds : List PyData} (i : Nat), RpAll K F xs ds → RpAll K F (xs.set i v) (ds.set i d)
  | _, _, _, .nil => .nil
  | _, _, 0, .cons _ t => .cons r t
  | _, _, i + 1, .cons q t => .cons q (RpAll.set r i t)
theorem RpAll.rev {xs : List V} {ds : List PyData} (h : RpAll K F xs ds) : RpAll K F xs.reverse ds.reverse := by
  induction xs generalizing ds with
  | nil => cases h; exact .nil
  | cons x xs ih =>
    cases h with
    | cons h1 h2 => rw [List.reverse_cons, List.reverse_cons]; exact (ih h2).append (.cons h1 .nil)
end

/-! ### frames as data -/
/-- a slot: nothing known; a datum; a list that the def itself still writes; the tape -/
inductive SV where
  | un
  | val (d : PyData)
  | own (ds : List PyData)
  | tp (o : Option (List Int))
  | fn (f : Addr)
  | dct (ds : List (PyData × PyData))
abbrev EV := List SV
/-- a def in a slot stays where another slot is set -/
theorem fn_set {ε : EV} {i j : Nat} {s : SV} {f : Addr} (hs : ∀ f, s ≠ .fn f) (h : (ε.set i s)[j]? = some (SV.fn f)) : i ≠ j ∧ ε[j]? = some (SV.fn f) := by
  by_cases n : i = j
  · subst n
    rcases Nat.lt_or_ge i ε.length with hi | hi
    · rw [List.getElem?_set_self hi] at h
      exact absurd (Option.some.inj h) (hs f)
    · rw [List.getElem?_eq_none (by rw [List.length_set]; exact hi)] at h; cases h
  · rw [List.getElem?_set_ne n] at h; exact ⟨n, h⟩

/-- the tape of a law: [the script's ints, a count, a cell] -/
def TapeOk (F H : Hp) : Option Addr → Prop
  | none => True
  | some a => F a = none ∧ ∃ (l : Addr) (ns : List Int) (p c : Int), H a = some (.lst [.ref l, .int p, .int c]) ∧ F l = some (.lst (ns.map V.int)) ∧ ns.length ≤ 1000
/-- the tables of code objects (defs with a lambda): where, the lambda's name -/
class Tbl where
  tb : List (Addr × Str)
variable [Tbl]
theorem tabs_lst {H : Hp} {a : Addr} {vs ws : List V} (t : LamX.Tabs Tbl.tb H) (h : H a = some (.lst vs)) : LamX.Tabs Tbl.tb (upd H a (.lst ws)) := fun p hp => by
  obtain ⟨ps, h1, h2, h3⟩ := t p hp
  refine ⟨ps, by rw [upd_ne fun z => by rw [z, h] at h1; cases h1]; exact h1, h2, fun pos cv hc => ?_⟩
  obtain ⟨c, e1, e2⟩ := h3 pos cv hc
  exact ⟨c, e1, by rw [upd_ne fun z => by rw [z, h] at e2; unfold LamX.CodeO at e2; cases e2]; exact e2⟩
theorem tabs_new {H : Hp} {a : Addr} {o : HO} (t : LamX.Tabs Tbl.tb H) (h : H a = none) : LamX.Tabs Tbl.tb (upd H a o) := t.ext fun b u q => by rw [upd_ne (ne_of_none q h)]; exact q
/-- F: what is never written again -/
structure Wd (T : Option Addr) (F H : Hp) : Prop where
  fz : Same F H
  tape : TapeOk F H T
  tabs : LamX.Tabs Tbl.tb H
  nt : ∀ a ps, F a ≠ some (.tbl ps)
/-- from (F, H) to (F', H'): what stood stands (but for the tape), new things are frozen or not -/
structure Ex (T : Option Addr) (F H F' H' : Hp) : Prop where
  hh : ∀ a o, H a = some o → T ≠ some a → (∀ ps, o ≠ .tbl ps) → H' a = some o
  dom : ∀ a, H a ≠ none → H' a ≠ none
  ff : Same F F'
  old : ∀ a, H a ≠ none → F' a = F a
  tl : ∀ (a l : Addr) (p c : Int), T = some a → H a = some (.lst [.ref l, .int p, .int c]) → ∃ p' c' : Int, H' a = some (.lst [.ref l, .int p', .int c'])
section
variable {T : Option Addr} {F H F1 H1 F2 H2 F' H' : Hp}
theorem Ex.hl (x : Ex T F H F' H') {a : Addr} {vs : List V} (h : H a = some (.lst vs)) (t : T ≠ some a) : H' a = some (.lst vs) := x.hh a _ h t fun _ z => (nomatch z)
theorem Ex.refl : Ex T F H F H := ⟨fun _ _ h _ _ => h, fun _ h => h, Same.refl _, fun _ _ => rfl, fun _ _ p c _ h => ⟨p, c, h⟩⟩
theorem Ex.trans (a : Ex T F H F1 H1) (b : Ex T F1 H1 F2 H2) : Ex T F H F2 H2 where
  hh := fun p o h t n => b.hh p o (a.hh p o h t n) t n
  dom := fun p h => b.dom p (a.dom p h)
  ff := a.ff.trans b.ff
  old := fun p h => (b.old p (a.dom p h)).trans (a.old p h)
  tl := fun q l p c e h => let ⟨p1, c1, h1⟩ := a.tl q l p c e h; b.tl q l p1 c1 e h1
theorem Wd.none_of (w : Wd T F H) {p : Addr} (h : H p = none) : F p = none := w.fz.free h
theorem tape_ne (w : Wd T F H) {p : Addr} (h : H p = none) : T ≠ some p := fun e => by
  subst e
  obtain ⟨_, l, ns, q, c, h1, _⟩ := w.tape
  rw [h] at h1; cases h1
/-- something new, frozen -/
theorem nt_upd {F : Hp} {p : Addr} {o : HO} (n : ∀ a ps, F a ≠ some (.tbl ps)) (ho : ∀ ps, o ≠ .tbl ps) : ∀ a ps, upd F p o a ≠ some (.tbl ps) := fun a ps z => by
  by_cases e : a = p
  · rw [e, upd_same] at z; exact ho ps (Option.some.inj z)
  · rw [upd_ne e] at z; exact n a ps z
theorem new_fz {p : Addr} {o : HO} (w : Wd T F H) (h : H p = none) (ho : ∀ ps, o ≠ .tbl ps := by intro _ z; cases z) : Wd T (upd F p o) (upd H p o) ∧ Ex T F H (upd F p o) (upd H p o) := by
  have hF := w.none_of h
  have e1 : ∀ a, H a ≠ none → a ≠ p := fun a ha z => ha (by rw [z]; exact h)
  refine ⟨⟨fun a u e => ?_, ?_, tabs_new w.tabs h, nt_upd w.nt ho⟩, ⟨fun a u e _ _ => ?_, fun a ha => ?_, fun a u e => ?_, fun a ha => ?_, fun a l p' c _ e => ⟨p', c, by rw [upd_ne (ne_of_none e h)]; exact e⟩⟩⟩
  · by_cases z : a = p
    · subst z; rw [upd_same] at e ⊢; exact e
    · rw [upd_ne z] at e ⊢; exact w.fz _ _ e
  · cases T with
    | none => trivial
    | some t =>
      obtain ⟨f, l, ns, q, c, h1, h2, h3⟩ := w.tape
      refine ⟨?_, l, ns, q, c, ?_, ?_, h3⟩
      · rw [upd_ne (ne_of_none h1 h)]; exact f
      · rw [upd_ne (ne_of_none h1 h)]; exact h1
      · rw [upd_ne (ne_of_none (w.fz _ _ h2) h)]; exact h2
  · rw [upd_ne (ne_of_none e h)]; exact e
  · rw [upd_ne (e1 a ha)]; exact ha
  · rw [upd_ne (ne_of_none e hF)]; exact e
  · rw [upd_ne (e1 a ha)]
/-- something new, not frozen -/
theorem new_raw {p : Addr} {o : HO} (w : Wd T F H) (h : H p = none) : Wd T F (upd H p o) ∧ Ex T F H F (upd H p o) := by
  have e1 : ∀ a, H a ≠ none → a ≠ p := fun a ha z => ha (by rw [z]; exact h)
  refine ⟨⟨fun a u e => ?_, ?_, tabs_new w.tabs h, w.nt⟩, ⟨fun a u e _ _ => ?_, fun a ha => ?_, Same.refl _, fun a ha => rfl, fun a l p' c _ e => ⟨p', c, by rw [upd_ne (ne_of_none e h)]; exact e⟩⟩⟩
  · rw [upd_ne (ne_of_none (w.fz _ _ e) h)]; exact w.fz _ _ e
  · cases T with
    | none => trivial
    | some t =>
      obtain ⟨f, l, ns, q, c, h1, h2, h3⟩ := w.tape
      refine ⟨f, l, ns, q, c, ?_, h2, h3⟩
      rw [upd_ne (ne_of_none h1 h)]; exact h1
  · rw [upd_ne (ne_of_none e h)]; exact e
  · rw [upd_ne (e1 a ha)]; exact ha
/-- a call that leaves all as it stood -/
theorem Ex.weak (x : Ex none F H F' H') : Ex T F H F' H' := ⟨fun a o h _ n => x.hh a o h (by simp) n, x.dom, x.ff, x.old, fun a l p c _ h => ⟨p, c, x.hl h (by simp)⟩⟩
theorem Wd.weak (w : Wd T F H) : Wd none F H := ⟨w.fz, trivial, w.tabs, w.nt⟩
theorem Wd.back (w : Wd T F H) (w' : Wd none F' H') (x : Ex none F H F' H') : Wd T F' H' := ⟨w'.fz, by
  cases T with
  | none => trivial
  | some t =>
    obtain ⟨f, l, ns, q, c, h1, h2, h3⟩ := w.tape
    exact ⟨by rw [x.old t (by rw [h1]; simp)]; exact f, l, ns, q, c, x.hl h1 (by simp), x.ff _ _ h2, h3⟩, w'.tabs, w'.nt⟩
end

/-! ### dicts -/
def keyD : Key → PyData
  | .inl i => .int i
  | .inr x => .str x
/-- what a dict of texts and ints holds -/
def KvR (K : PySem.W.Frag) (F : Hp) : List (Key × V) → List (PyData × PyData) → Prop := Paired fun p q => keyD p.1 = q.1 ∧ Rp K F p.2 q.2
/-- a dict that is written yet -/
def DctAt (K : PySem.W.Frag) (F H : Hp) (a : Addr) (ds : List (PyData × PyData)) : Prop := ∃ kvs, H a = some (.dK kvs) ∧ KvR K F kvs ds
section
variable {K : PySem.W.Frag} {T : Option Addr} {H0 F H F' H' H0' : Hp} {ε ε' : EV} {σ σ' : L2.St} {a b : Addr} {ds : List (PyData × PyData)}
theorem KvR.up (e : Same F F') {kvs : List (Key × V)} (h : KvR K F kvs ds) : KvR K F' kvs ds := Paired.mapP h fun _ _ q => ⟨q.1, Rp.up e _ _ q.2⟩
theorem DctAt.at (d : DctAt K F H a ds) : H a ≠ none := by
  obtain ⟨kvs, h, _⟩ := d
  rw [h]; simp
theorem DctAt.up (d : DctAt K F H a ds) (e : Same F F') (h : ∀ o, H a = some o → (∀ ps, o ≠ .tbl ps) → (∀ vs, o ≠ .lst vs) → H' a = some o) : DctAt K F' H' a ds := by
  obtain ⟨kvs, g, r⟩ := d
  exact ⟨kvs, h _ g (fun _ z => nomatch z) (fun _ z => nomatch z), r.up e⟩
theorem DctAt.ne (d : DctAt K F H a ds) {vs : List V} (h : H b = some (.lst vs)) : a ≠ b := fun e => by
  obtain ⟨kvs, g, _⟩ := d
  rw [e, h] at g; cases g
/-- the slots that hold dicts of one's own -/
structure DctS (K : PySem.W.Frag) (T : Option Addr) (H0 : Hp) (ε : EV) (σ : L2.St) (F H : Hp) : Prop where
  at_ : ∀ (i : Nat) (ds : List (PyData × PyData)), ε[i]? = some (SV.dct ds) → ∃ a, σ[i]? = some (some (V.ref a)) ∧ DctAt K F H a ds ∧ F a = none ∧ H0 a = none ∧ T ≠ some a
  sep : ∀ (i j : Nat) (a : Addr) (ds ds' : List (PyData × PyData)), i ≠ j → ε[i]? = some (SV.dct ds) → ε[j]? = some (SV.dct ds') → σ[i]? = some (some (V.ref a)) → σ[j]? ≠ some (some (V.ref a))
theorem DctS.mono {T' : Option Addr} (D : DctS K T H0 ε σ F H) (hε : ∀ (j : Nat) (ds : List (PyData × PyData)), ε'[j]? = some (SV.dct ds) → ε[j]? = some (SV.dct ds) ∧ σ'[j]? = σ[j]?)
    (hH : ∀ a ds, DctAt K F H a ds → F a = none → H0 a = none → T ≠ some a → DctAt K F' H' a ds ∧ F' a = none ∧ H0' a = none ∧ T' ≠ some a) : DctS K T' H0' ε' σ' F' H' where
  at_ := fun i ds h => by
    obtain ⟨g, e⟩ := hε i ds h
    obtain ⟨a, h1, h2, h3, h4, h5⟩ := D.at_ i ds g
    obtain ⟨k1, k2, k3, k4⟩ := hH a ds h2 h3 h4 h5
    exact ⟨a, e.trans h1, k1, k2, k3, k4⟩
  sep := fun i j a ds ds' n h1 h2 h3 => by
    obtain ⟨g1, e1⟩ := hε i ds h1
    obtain ⟨g2, e2⟩ := hε j ds' h2
    rw [e1] at h3
    rw [e2]
    exact D.sep i j a ds ds' n g1 g2 h3
theorem DctS.none (h : ∀ (i : Nat) (ds : List (PyData × PyData)), ε[i]? ≠ some (SV.dct ds)) : DctS K T H0 ε σ F H := ⟨fun i ds e => absurd e (h i ds), fun i j a ds ds' _ e => absurd e (h i ds)⟩
theorem dct_set {i j : Nat} {s : SV} (hs : ∀ ds, s ≠ .dct ds) (h : (ε.set i s)[j]? = some (SV.dct ds)) : i ≠ j ∧ ε[j]? = some (SV.dct ds) := by
  by_cases n : i = j
  · subst n
    rcases Nat.lt_or_ge i ε.length with hi | hi
    · rw [List.getElem?_set_self hi] at h
      exact absurd (Option.some.inj h) (hs ds)
    · rw [List.getElem?_eq_none (by rw [List.length_set]; exact hi)] at h; cases h
  · rw [List.getElem?_set_ne n] at h; exact ⟨n, h⟩
/-- a slot set, the heap as it was -/
theorem DctS.set (D : DctS K T H0 ε σ F H) (i : Nat) {s : SV} {o : Option V} (hs : ∀ ds, s ≠ .dct ds) : DctS K T H0 (ε.set i s) (σ.set i o) F H :=
  D.mono (fun j ds h => let ⟨n, g⟩ := dct_set hs h; ⟨g, List.getElem?_set_ne n⟩) fun _ _ h1 h2 h3 h4 => ⟨h1, h2, h3, h4⟩
/-- a slot seen otherwise, the frame as it was -/
theorem DctS.see (D : DctS K T H0 ε σ F H) (i : Nat) {s : SV} (hs : ∀ ds, s ≠ .dct ds) : DctS K T H0 (ε.set i s) σ F H :=
  D.mono (fun j ds h => ⟨(dct_set hs h).2, rfl⟩) fun _ _ h1 h2 h3 h4 => ⟨h1, h2, h3, h4⟩
/-- a list of one's own is written -/
theorem DctS.lst (D : DctS K T H0 ε σ F H) {b : Addr} {vs ws : List V} (h : H b = some (.lst vs)) : DctS K T H0 ε σ F (upd H b (.lst ws)) :=
  D.mono (fun _ _ h => ⟨h, rfl⟩) fun a ds d f h0 t => ⟨d.up (Same.refl _) fun o e _ _ => by rw [upd_ne (d.ne h)]; exact e, f, h0, t⟩
/-- a list of one's own is frozen -/
theorem DctS.frz (D : DctS K T H0 ε σ F H) {b : Addr} {vs ws : List V} (h : H b = some (.lst vs)) (hF : F b = Option.none) : DctS K T H0 ε σ (upd F b (.lst ws)) H :=
  D.mono (fun _ _ h => ⟨h, rfl⟩) fun a ds d f h0 t => ⟨d.up (fun b u q => by rw [upd_ne (ne_of_none q hF)]; exact q) fun o e _ _ => e, by rw [upd_ne (d.ne h)]; exact f, h0, t⟩
end

/-- the frame σ, seen as ε -/

structure Sat (K : PySem.W.Frag) (T : Option Addr) (H0 : Hp) (ε : EV) (σ : L2.St) (F H : Hp) : Prop where
  len : ε.length = σ.length
  val : ∀ (i : Nat) (d : PyData), ε[i]? = some (SV.val d) → ∃ v : V, σ[i]? = some (some v) ∧ Rp K F v d
  own : ∀ (i : Nat) (ds : List PyData), ε[i]? = some (SV.own ds) → ∃ (a : Addr) (vs : List V), σ[i]? = some (some (V.ref a)) ∧ H a = some (HO.lst vs) ∧ vs.length ≤ sizeLine ∧ RpAll K F vs ds ∧ F a = none ∧ H0 a = none ∧ T ≠ some a
  sep : ∀ (i j : Nat) (a : Addr) (ds ds' : List PyData), i ≠ j → ε[i]? = some (SV.own ds) → ε[j]? = some (SV.own ds') → σ[i]? = some (some (V.ref a)) → σ[j]? ≠ some (some (V.ref a))
  tape : ∀ (i : Nat) (o : Option (List Int)), ε[i]? = some (SV.tp o) → ∃ (a l : Addr) (p c : Int), T = some a ∧ σ[i]? = some (some (V.ref a)) ∧ H a = some (.lst [.ref l, .int p, .int c]) ∧ ∀ ns, o = some ns → F l = some (.lst (ns.map V.int))
  fns : ∀ (i : Nat) (f : Addr), ε[i]? = some (SV.fn f) → σ[i]? = some (some (V.ref f))
  dct : DctS K T H0 ε σ F H
section
variable {K : PySem.W.Frag} {T : Option Addr} {H0 F H F' H' : Hp} {ε : EV} {σ : L2.St}
theorem Sat.ex (S : Sat K T H0 ε σ F H) (x : Ex T F H F' H') : Sat K T H0 ε σ F' H' where
  len := S.len
  val := fun i d e => let ⟨v, h1, h2⟩ := S.val i d e; ⟨v, h1, Rp.up x.ff _ _ h2⟩
  own := fun i ds e => by
    obtain ⟨a, vs, h1, h2, hz, h3, h4, h5, h6⟩ := S.own i ds e
    exact ⟨a, vs, h1, x.hl h2 h6, hz, RpAll.up x.ff _ _ h3, by rw [x.old a (by rw [h2]; simp)]; exact h4, h5, h6⟩
  sep := S.sep
  tape := fun i o e => by
    obtain ⟨a, l, p, c, h1, h2, h3, h4⟩ := S.tape i o e
    obtain ⟨p', c', h5⟩ := x.tl a l p c h1 h3
    exact ⟨a, l, p', c', h1, h2, h5, fun ns q => x.ff _ _ (h4 ns q)⟩
  fns := S.fns
  dct := S.dct.mono (fun _ _ h => ⟨h, rfl⟩) fun a ds d f h t => ⟨d.up x.ff fun o e n _ => x.hh a o e t n, by rw [x.old a d.at]; exact f, h, t⟩
end

/-! ### readings -/
abbrev WE := EV → (PyData → Prop) → Prop
abbrev WB := EV → (Bool → Prop) → Prop
abbrev WA := EV → (List PyData → Prop) → Prop
section
variable (K : PySem.W.Frag) (T : Option Addr)
/-- an expression -/
def tD (w : WE) : TE := fun σ H Q => ∃ H0 ε F Φ, Sat K T H0 ε σ F H ∧ Wd T F H ∧ w ε Φ ∧ ∀ d v F' H', Φ d → Wd T F' H' → Ex T F H F' H' → Rp K F' v d → Q v H'
/-- an expression that gives a list of its own -/
def tN (w : WA) : TE := fun σ H Q => ∃ H0 ε F Φ, Sat K T H0 ε σ F H ∧ Wd T F H ∧ w ε Φ ∧ ∀ ds a vs F' H', Φ ds → Wd T F' H' → Ex T F H F' H' → H a = none → F' a = none → T ≠ some a → H' a = some (.lst vs) → vs.length ≤ sizeLine → RpAll K F' vs ds → Q (.ref a) H'
/-- a test -/
def tDB (w : WB) : TT := fun σ H Q => ∃ H0 ε F Φ, Sat K T H0 ε σ F H ∧ Wd T F H ∧ w ε Φ ∧ ∀ b F' H', Φ b → Wd T F' H' → Ex T F H F' H' → Q b H'
/-- arguments -/
def tDA (n : Nat) (w : WA) : TA := fun σ H Q => ∃ H0 ε F Φ, Sat K T H0 ε σ F H ∧ Wd T F H ∧ w ε Φ ∧ ∀ ds vs F' H', Φ ds → ds.length = n → Wd T F' H' → Ex T F H F' H' → RpAll K F' vs ds → Q vs H'
end
theorem pe_imp {X : Cx} {e : Expr} {t t' : TE} (h : PE X e t) (i : ∀ σ H Q, t' σ H Q → t σ H Q) : PE X e t' := ⟨fun pins s σ H Q I hw => h.run pins s σ H Q I (i σ H Q hw)⟩
theorem pt_imp {X : Cx} {e : Expr} {t t' : TT} (h : PT X e t) (i : ∀ σ H Q, t' σ H Q → t σ H Q) : PT X e t' := ⟨fun pins s σ H Q I hw => h.run pins s σ H Q I (i σ H Q hw)⟩
theorem pw_imp {X : Cx} {e : Expr} {t t' : TT} (h : PW X e t) (i : ∀ σ H Q, t' σ H Q → t σ H Q) : PW X e t' := ⟨fun whole pins s σ H Q I hw => h.run whole pins s σ H Q I (i σ H Q hw)⟩
theorem pa_imp {X : Cx} {es : List Expr} {t t' : TA} (h : PA X es t) (i : ∀ σ H Q, t' σ H Q → t σ H Q) : PA X es t' := ⟨fun pos pins s σ H Q I hw => h.run pos pins s σ H Q I (i σ H Q hw)⟩
end MG

set_option Elab.async false
set_option linter.all false
set_option maxRecDepth 100000
set_option maxHeartbeats 4000000
/-! MgExpr: expressions, read over plain data. -/
namespace MG
variable [Tbl]
open PySem PySem.Spec PyProof.Rows L2

/-! ### data's own facts -/
mutual
theorem Rp.lay {K : PySem.W.Frag} {F : Hp} : ∀ (d : PyData) (v : V), Rp K F v d → d.canLay0 = true
  | .none, _, _ => by simp [PyData.canLay0]
  | .bool _, _, _ => by simp [PyData.canLay0]
  | .int _, _, _ => by simp [PyData.canLay0]
  | .str x, _, h => by
    cases h with
    | str h => rw [PyData.canLay0]; exact sOk_ok h
  | .list ds, _, h => by
    cases h with
    | lst h1 hz h2 => rw [PyData.canLay0]; exact RpAll.lay ds _ h2
  | .tuple ds, _, h => by
    cases h with
    | tup h1 hz h2 => rw [PyData.canLay0]; exact RpAll.lay ds _ h2
  | .dict _, _, h => by cases h
theorem RpAll.lay {K : PySem.W.Frag} {F : Hp} : ∀ (ds : List PyData) (vs : List V), RpAll K F vs ds → PyData.canLayAll0 ds = true
  | [], _, _ => by simp [PyData.canLayAll0]
  | d :: ds, _, h => by
    cases h with
    | cons h1 h2 => rw [PyData.canLayAll0, Rp.lay d _ h1, RpAll.lay ds _ h2]; rfl
end
section
variable {X : Cx} {pins : List (Addr × Obj)} {σ : L2.St} {H F : Hp} {s : Shared} {T : Option Addr}
theorem Rp.reads (I : Inv X pins σ H s) (w : Same F H) {d : PyData} {v : V} {u : Value} (h : Rp X.K F v d) (r : RelV v u) : ∃ as, Reads s.heap u d as :=
  Dp.reads I d v u (Rp.dp _ _ (Rp.up w _ _ h)) r
end

/-! ### readings by cases on booleans -/
def wC (d : PyData) : WE := fun _ Φ => Φ d
def wV (i : Nat) : WE := fun ε Φ => match ε[i]? with
  | some (SV.val d) => Φ d
  | _ => False
def wBin (op : PyData → PyData → (PyData → Prop) → Prop) (wa wb : WE) : WE := fun ε Φ => wa ε fun x => wb ε fun y => op x y Φ
def wUn (op : PyData → (PyData → Prop) → Prop) (wa : WE) : WE := fun ε Φ => wa ε fun x => op x Φ
def wTest (w : WE) : WB := fun ε Φ => w ε fun d => match d with
  | .bool b => Φ b
  | _ => False
def wAnd (t u : WB) : WB := fun ε Φ => t ε fun b => match b with
  | true => u ε Φ
  | false => Φ false
def wOr (t u : WB) : WB := fun ε Φ => t ε fun b => match b with
  | true => Φ true
  | false => u ε Φ
def wNot (t : WB) : WB := fun ε Φ => t ε fun b => Φ (!b)
def wOfB (t : WB) : WE := fun ε Φ => t ε fun b => Φ (.bool b)
def wAndV (wa wb : WE) : WE := fun ε Φ => wa ε fun d => match d with
  | .bool true => wb ε Φ
  | .bool false => Φ (.bool false)
  | _ => False
def wOrV (wa wb : WE) : WE := fun ε Φ => wa ε fun d => match d with
  | .bool true => Φ (.bool true)
  | .bool false => wb ε Φ
  | _ => False
def wNotV (wa : WE) : WE := fun ε Φ => wa ε fun d => match d with
  | .bool b => Φ (.bool (!b))
  | _ => False
def wIf (t : WB) (wa wb : WE) : WE := fun ε Φ => t ε fun b => match b with
  | true => wa ε Φ
  | false => wb ε Φ
def wANil : WA := fun _ Φ => Φ []
def wACons (we : WE) (wr : WA) : WA := fun ε Φ => we ε fun d => wr ε fun ds => Φ (d :: ds)

section
variable {X : Cx} {K : PySem.W.Frag} {T : Option Addr} {a b c e : Expr} {pos : Pos} {wa wb wc we : WE} {t u : WB}

theorem md_v {x : Str} (i : Nat) (hN : X.N[i]? = some x := by rfl) (hv : Vis X.env.scope x := by first | exact Or.inl rfl | exact Or.inr (Or.inl rfl) | exact Or.inr (Or.inr rfl)) (hd : (x == ("__debug__" : Str)) = false := by decide)
    (hcd : (x == ("__classdict__" : Str)) = false := by decide) : PE X (.Name x pos) (tD K T (wV i)) := by
  refine pe_imp (pe_var hN hv hd hcd) fun σ H Q ⟨H0, ε, F, Φ, S, W, h, k⟩ => ?_
  unfold wV at h
  split at h
  · rename_i d e
    obtain ⟨v, h1, h2⟩ := S.val i d e
    exact ⟨v, h1, k d v F H h W Ex.refl h2⟩
  · exact h.elim
theorem md_int {i j} : PE X (.Constant (.int i) j pos) (tD K T (wC (.int i))) := pe_imp pe_int fun σ H Q ⟨H0, ε, F, Φ, S, W, h, k⟩ => k _ _ F H h W Ex.refl (.int i)
theorem md_bl {b : Bool} {j} : PE X (.Constant (.bool b) j pos) (tD K T (wC (.bool b))) := pe_imp pe_bl fun σ H Q ⟨H0, ε, F, Φ, S, W, h, k⟩ => k _ _ F H h W Ex.refl (.bl b)
theorem md_non {j} : PE X (.Constant .none j pos) (tD K T (wC .none)) := pe_imp pe_non fun σ H Q ⟨H0, ε, F, Φ, S, W, h, k⟩ => k _ _ F H h W Ex.refl .non
theorem md_str {x : Str} {j} (hx : sOk x = true := by decide +kernel) : PE X (.Constant (.str x) j pos) (tD K T (wC (.str x))) := pe_imp pe_str fun σ H Q ⟨H0, ε, F, Φ, S, W, h, k⟩ => k _ _ F H h W Ex.refl (.str hx)
/-- a constant of the module -/
theorem md_glob {x : Str} {v : V} {u : Value} {d : PyData} (hm : X.mg x = some u) (r : RelV v u) (hr : ∀ F, Rp K F v d) (hg : Gl X x := by rfl) (hd : (x == ("__debug__" : Str)) = false := by decide) : PE X (.Name x pos) (tD K T (wC d)) :=
  pe_imp (pe_glob hg hm r hd) fun σ H Q ⟨H0, ε, F, Φ, S, W, h, k⟩ => k _ _ F H h W Ex.refl (hr F)

/-! ### operators -/
/-- an operation on values does what op says of the data -/
def OpD (K : PySem.W.Frag) (T : Option Addr) (r : R2) (op : PyData → PyData → (PyData → Prop) → Prop) : Prop :=
  ∀ (d e : PyData) (x y : V) (F H : Hp) (Q : VK) (Φ : PyData → Prop), Wd T F H → Rp K F x d → Rp K F y e → op d e Φ → (∀ z v F' H', Φ z → Wd T F' H' → Ex T F H F' H' → Rp K F' v z → Q v H') → r x y H Q
def UnD (K : PySem.W.Frag) (T : Option Addr) (r : V → Hp → VK → Prop) (op : PyData → (PyData → Prop) → Prop) : Prop :=
  ∀ (d : PyData) (x : V) (F H : Hp) (Q : VK) (Φ : PyData → Prop), Wd T F H → Rp K F x d → op d Φ → (∀ z v F' H', Φ z → Wd T F' H' → Ex T F H F' H' → Rp K F' v z → Q v H') → r x H Q
theorem tD_bin {r : R2} {op : PyData → PyData → (PyData → Prop) → Prop} (h : OpD K T r op) : ∀ σ H Q, tD K T (wBin op wa wb) σ H Q → tOp r (tD K T wa) (tD K T wb) σ H Q := by
  rintro σ H Q ⟨H0, ε, F, Φ, S, W, hw, k⟩
  refine ⟨H0, ε, F, _, S, W, hw, fun d v F1 H1 hd W1 X1 D1 => ?_⟩
  refine ⟨H0, ε, F1, _, S.ex X1, W1, hd, fun e u F2 H2 he W2 X2 D2 => ?_⟩
  exact h d e v u F2 H2 Q Φ W2 (Rp.up X2.ff _ _ D1) D2 he fun z x F' H' hz W' X' D' => k z x F' H' hz W' ((X1.trans X2).trans X') D'
theorem tD_un {r : V → Hp → VK → Prop} {op : PyData → (PyData → Prop) → Prop} (h : UnD K T r op) : ∀ σ H Q, tD K T (wUn op wa) σ H Q → tUn r (tD K T wa) σ H Q := by
  rintro σ H Q ⟨H0, ε, F, Φ, S, W, hw, k⟩
  refine ⟨H0, ε, F, _, S, W, hw, fun d v F1 H1 hd W1 X1 D1 => ?_⟩
  exact h d v F1 H1 Q Φ W1 D1 hd fun z x F' H' hz W' X' D' => k z x F' H' hz W' (X1.trans X') D'
theorem OpD.or1 {r r' : R2} {op : PyData → PyData → (PyData → Prop) → Prop} (h : OpD K T r op) : OpD K T (fun x y H Q => r x y H Q ∨ r' x y H Q) op :=
  fun d e x y F H Q Φ W h1 h2 h3 k => .inl (h d e x y F H Q Φ W h1 h2 h3 k)
theorem md_bin {o : Operator} {r : R2} {op : PyData → PyData → (PyData → Prop) → Prop} (ho : OpR X (binaryOp o) r) (h : OpD K T r op) (ha : PE X a (tD K T wa)) (hb : PE X b (tD K T wb)) : PE X (.BinOp a o b pos) (tD K T (wBin op wa wb)) :=
  pe_imp (pe_op ho ha hb) (tD_bin h)
theorem md_cmp {o : CmpOp} {r : R2} {op : PyData → PyData → (PyData → Prop) → Prop} (ho : OpR X (compareOp o) r) (h : OpD K T r op) (ha : PE X a (tD K T wa)) (hb : PE X b (tD K T wb)) (hm : behindInMarks o b = false) : PE X (.Compare a [o] [b] pos) (tD K T (wBin op wa wb)) :=
  pe_imp (pe_cmpR ho ha hb hm) (tD_bin h)
theorem tDB_test {w : WE} : ∀ σ H Q, tDB K T (wTest w) σ H Q → (tD K T w) σ H fun x H' => ∃ k, x = V.bl k ∧ Q k H' := by
  rintro σ H Q ⟨H0, ε, F, Φ, S, W, hw, k⟩
  refine ⟨H0, ε, F, _, S, W, hw, fun d v F1 H1 hd W1 X1 D1 => ?_⟩
  split at hd
  · cases D1; exact ⟨_, rfl, k _ F1 H1 hd W1 X1⟩
  · exact hd.elim
theorem tOp_mono {r : R2} {ta tb : TE} {σ : L2.St} {H : Hp} {Q Q' : VK} (hr : ∀ x y H, r x y H Q → r x y H Q') (ma : ∀ σ H (Q Q' : VK), (∀ v H, Q v H → Q' v H) → ta σ H Q → ta σ H Q')
    (mb : ∀ σ H (Q Q' : VK), (∀ v H, Q v H → Q' v H) → tb σ H Q → tb σ H Q') (h : tOp r ta tb σ H Q) : tOp r ta tb σ H Q' :=
  ma σ H _ _ (fun x H1 h1 => mb σ H1 _ _ (fun y H2 h2 => hr x y H2 h2) h1) h
theorem mt_cmp {o : CmpOp} {r : R2} {op : PyData → PyData → (PyData → Prop) → Prop} (ho : OpR X (compareOp o) r) (h : OpD K T r op) (ha : PE X a (tD K T wa)) (hb : PE X b (tD K T wb)) (hm : behindInMarks o b = false) : PT X (.Compare a [o] [b] pos) (tDB K T (wTest (wBin op wa wb))) :=
  pt_imp (pt_cmpR ho ha hb hm) fun σ H Q q => tD_bin h σ H _ (tDB_test σ H Q q)
theorem mt_val (h : PE X e (tD K T we)) (he : ∀ whole, isTrue e X.env whole = (do let v ← whole; standAt e.pos; holding [v] (truthy v)) := by intro _; rfl) : PT X e (tDB K T (wTest we)) :=
  pt_imp (pt_val h he) fun σ H Q q => tDB_test σ H Q q
theorem mt_not (ha : PT X a (tDB K T t)) : PT X (.UnaryOp .Not a pos) (tDB K T (wNot t)) :=
  pt_imp (pt_not ha) fun σ H Q ⟨H0, ε, F, Φ, S, W, hw, k⟩ => ⟨H0, ε, F, _, S, W, hw, fun b F' H' hb W' X' => k _ F' H' hb W' X'⟩
theorem mw_and1 (ha : PT X a (tDB K T t)) : PW X (.BoolOp .And [a] pos) (tDB K T t) := pw_and1 ha
theorem mw_or1 (ha : PT X a (tDB K T t)) : PW X (.BoolOp .Or [a] pos) (tDB K T t) := pw_or1 ha
theorem mw_and {rest : List Expr} (ha : PT X a (tDB K T t)) (hb : PW X (.BoolOp .And (b :: rest) pos) (tDB K T u)) : PW X (.BoolOp .And (a :: b :: rest) pos) (tDB K T (wAnd t u)) :=
  pw_imp (pw_and ha hb) fun σ H Q ⟨H0, ε, F, Φ, S, W, hw, k⟩ => ⟨H0, ε, F, _, S, W, hw, fun b F1 H1 hb W1 X1 => by
    cases b with
    | true => exact ⟨H0, ε, F1, _, S.ex X1, W1, hb, fun b F2 H2 hb W2 X2 => k b F2 H2 hb W2 (X1.trans X2)⟩
    | false => exact k _ F1 H1 hb W1 X1⟩
theorem mw_or {rest : List Expr} (ha : PT X a (tDB K T t)) (hb : PW X (.BoolOp .Or (b :: rest) pos) (tDB K T u)) : PW X (.BoolOp .Or (a :: b :: rest) pos) (tDB K T (wOr t u)) :=
  pw_imp (pw_or ha hb) fun σ H Q ⟨H0, ε, F, Φ, S, W, hw, k⟩ => ⟨H0, ε, F, _, S, W, hw, fun b F1 H1 hb W1 X1 => by
    cases b with
    | true => exact k _ F1 H1 hb W1 X1
    | false => exact ⟨H0, ε, F1, _, S.ex X1, W1, hb, fun b F2 H2 hb W2 X2 => k b F2 H2 hb W2 (X1.trans X2)⟩⟩
/-- and, or, not as values -/
theorem md_one {op} (h : PE X a (tD K T wa)) : PE X (.BoolOp op [a] pos) (tD K T wa) := pe_one h
theorem md_and {rest : List Expr} (ha : PE X a (tD K T wa)) (hb : PE X (.BoolOp .And (b :: rest) pos) (tD K T wb)) : PE X (.BoolOp .And (a :: b :: rest) pos) (tD K T (wAndV wa wb)) :=
  pe_imp (pe_and ha hb) fun σ H Q ⟨H0, ε, F, Φ, S, W, hw, k⟩ => ⟨H0, ε, F, _, S, W, hw, fun d v F1 H1 hd W1 X1 D1 => by
    split at hd
    · cases D1
      exact ⟨true, rfl, by rw [if_pos rfl]; exact ⟨H0, ε, F1, _, S.ex X1, W1, hd, fun d v F2 H2 hd W2 X2 D2 => k d v F2 H2 hd W2 (X1.trans X2) D2⟩⟩
    · cases D1
      exact ⟨false, rfl, by rw [if_neg Bool.false_ne_true]; exact k _ _ F1 H1 hd W1 X1 (.bl false)⟩
    · exact hd.elim⟩
theorem md_or {rest : List Expr} (ha : PE X a (tD K T wa)) (hb : PE X (.BoolOp .Or (b :: rest) pos) (tD K T wb)) : PE X (.BoolOp .Or (a :: b :: rest) pos) (tD K T (wOrV wa wb)) :=
  pe_imp (pe_or ha hb) fun σ H Q ⟨H0, ε, F, Φ, S, W, hw, k⟩ => ⟨H0, ε, F, _, S, W, hw, fun d v F1 H1 hd W1 X1 D1 => by
    split at hd
    · cases D1
      exact ⟨true, rfl, by rw [if_pos rfl]; exact k _ _ F1 H1 hd W1 X1 (.bl true)⟩
    · cases D1
      exact ⟨false, rfl, by rw [if_neg Bool.false_ne_true]; exact ⟨H0, ε, F1, _, S.ex X1, W1, hd, fun d v F2 H2 hd W2 X2 D2 => k d v F2 H2 hd W2 (X1.trans X2) D2⟩⟩
    · exact hd.elim⟩
theorem md_not (ha : PE X a (tD K T wa)) : PE X (.UnaryOp .Not a pos) (tD K T (wNotV wa)) :=
  pe_imp (pe_not ha) fun σ H Q ⟨H0, ε, F, Φ, S, W, hw, k⟩ => ⟨H0, ε, F, _, S, W, hw, fun d v F1 H1 hd W1 X1 D1 => by
    split at hd
    · cases D1
      exact ⟨_, rfl, k _ _ F1 H1 hd W1 X1 (.bl _)⟩
    · exact hd.elim⟩
theorem md_if (hc : PT X c (tDB K T t)) (ha : PE X a (tD K T wa)) (hb : PE X b (tD K T wb)) : PE X (.IfExp c a b pos) (tD K T (wIf t wa wb)) :=
  pe_imp (pe_ifExp hc ha hb) fun σ H Q ⟨H0, ε, F, Φ, S, W, hw, k⟩ => ⟨H0, ε, F, _, S, W, hw, fun b F1 H1 hb W1 X1 => by
    cases b with
    | true => rw [if_pos rfl]; exact ⟨H0, ε, F1, _, S.ex X1, W1, hb, fun d v F2 H2 hd W2 X2 D2 => k d v F2 H2 hd W2 (X1.trans X2) D2⟩
    | false => rw [if_neg Bool.false_ne_true]; exact ⟨H0, ε, F1, _, S.ex X1, W1, hb, fun d v F2 H2 hd W2 X2 D2 => k d v F2 H2 hd W2 (X1.trans X2) D2⟩⟩
/-- arguments -/
theorem ma_nil : PA X [] (tDA K T 0 wANil) := pa_imp pa_nil fun σ H Q ⟨H0, ε, F, Φ, S, W, hw, k⟩ => k [] [] F H hw rfl W Ex.refl .nil
theorem ma_cons {n : Nat} {es : List Expr} {wr : WA} (ha : PE X e (tD K T we)) (hr : PA X es (tDA K T n wr)) (hs : starEach (e :: es) X.env = (false, eval e X.env) :: starEach es X.env := by rfl) : PA X (e :: es) (tDA K T (n + 1) (wACons we wr)) :=
  pa_imp (pa_cons ha hr hs) fun σ H Q ⟨H0, ε, F, Φ, S, W, hw, k⟩ => ⟨H0, ε, F, _, S, W, hw, fun d v F1 H1 hd W1 X1 D1 => ⟨H0, ε, F1, _, S.ex X1, W1, hd, fun ds vs F2 H2 hds hl W2 X2 D2 => k _ _ F2 H2 hds (congrArg (· + 1) hl) W2 (X1.trans X2) (.cons (Rp.up X2.ff _ _ D1) D2)⟩⟩
end
end MG

set_option Elab.async false
set_option linter.all false
set_option maxRecDepth 100000
set_option maxHeartbeats 4000000
/-! MgOps: operators, subscripts, slices, calls of built-ins, displays, over plain data. -/
namespace MG
variable [Tbl]
open PySem PySem.Spec PyProof.Rows L2

abbrev LIM : Nat := 16777216
theorem lim_line {n : Nat} (h : n ≤ LIM) : n ≤ sizeLine := by rw [sizeLine_eq]; exact h
theorem line_lim {n : Nat} (h : n ≤ sizeLine) : n ≤ LIM := by rw [sizeLine_eq] at h; exact h

/-! ### what the operators do -/
def opEq (d e : PyData) (Φ : PyData → Prop) : Prop := min d.depth e.depth ≤ 60 ∧ Φ (.bool (PyData.eqv d e))
def opNe (d e : PyData) (Φ : PyData → Prop) : Prop := min d.depth e.depth ≤ 60 ∧ Φ (.bool (!PyData.eqv d e))
def opCmpI (f : Int → Int → Bool) : PyData → PyData → (PyData → Prop) → Prop
  | .int a, .int b, Φ => Φ (.bool (f a b))
  | _, _, _ => False
abbrev opLt := opCmpI fun a b => decide (a < b)
abbrev opLe := opCmpI fun a b => decide (a ≤ b)
abbrev opGt := opCmpI fun a b => decide (b < a)
abbrev opGe := opCmpI fun a b => decide (b ≤ a)
def isNone : PyData → Bool
  | .none => true
  | _ => false
def opIsN (d e : PyData) (Φ : PyData → Prop) : Prop := match e with
  | .none => Φ (.bool (isNone d))
  | _ => False
def opNotN (d e : PyData) (Φ : PyData → Prop) : Prop := match e with
  | .none => Φ (.bool (!isNone d))
  | _ => False
def opIsB : PyData → PyData → (PyData → Prop) → Prop
  | .bool a, .bool b, Φ => Φ (.bool (decide (a = b)))
  | _, _, _ => False
def opNotB : PyData → PyData → (PyData → Prop) → Prop
  | .bool a, .bool b, Φ => Φ (.bool (!decide (a = b)))
  | _, _, _ => False
/-- x in y: a list, a tuple; a sign in a text -/
def inD (neg : Bool) (d e : PyData) (Φ : PyData → Prop) : Prop := match e with
  | .list ds => d.depth ≤ 60 ∧ Φ (.bool (neg ^^ (ds.any fun z => PyData.eqv z d)))
  | .tuple ds => d.depth ≤ 60 ∧ Φ (.bool (neg ^^ (ds.any fun z => PyData.eqv z d)))
  | .str z => match d with
    | .str ⟨⟨[c]⟩⟩ => Φ (.bool (neg ^^ decide (c ∈ z.cps.toList)))
    | _ => False
  | _ => False
def opAdd : PyData → PyData → (PyData → Prop) → Prop
  | .int a, .int b, Φ => Φ (.int (a + b))
  | .str a, .str b, Φ => a.length + b.length ≤ LIM ∧ Φ (.str (a ++ b))
  | .list a, .list b, Φ => a.length + b.length ≤ LIM ∧ Φ (.list (a ++ b))
  | .tuple a, .tuple b, Φ => a.length + b.length ≤ LIM ∧ Φ (.tuple (a ++ b))
  | _, _, _ => False
def opSub : PyData → PyData → (PyData → Prop) → Prop
  | .int a, .int b, Φ => Φ (.int (a - b))
  | _, _, _ => False
def opFdiv : PyData → PyData → (PyData → Prop) → Prop
  | .int a, .int b, Φ => (0 < b ∧ b < 340282366920938463463374607431768211456) ∧ Φ (.int (a / b))
  | _, _, _ => False
def opMod : PyData → PyData → (PyData → Prop) → Prop
  | .int a, .int b, Φ => 0 < b ∧ Φ (.int (a % b))
  | _, _, _ => False
def opMul : PyData → PyData → (PyData → Prop) → Prop
  | .int a, .int b, Φ => ((-(2 ^ 64) < a ∧ a < 2 ^ 64) ∨ (-(2 ^ 64) < b ∧ b < 2 ^ 64)) ∧ Φ (.int (a * b))
  | .list a, .int k, Φ => (0 ≤ k ∧ k ≤ 1000 ∧ a.length ≤ 1000) ∧ Φ (.list (List.replicate k.toNat a).flatten)
  | .tuple a, .int k, Φ => (a ≠ [] ∧ 2 ≤ k ∧ k ≤ 1000 ∧ a.length ≤ 1000) ∧ Φ (.tuple (List.replicate k.toNat a).flatten)
  | _, _, _ => False
def opIx : PyData → PyData → (PyData → Prop) → Prop
  | .list ds, .int i, Φ => match atI ds i with
    | some d => Φ d
    | none => False
  | .tuple ds, .int i, Φ => match atI ds i with
    | some d => Φ d
    | none => False
  | .str z, .int i, Φ => match atI z.cps.toList i with
    | some c => Φ (.str ⟨#[c]⟩)
    | none => False
  | _, _, _ => False

section
variable {X : Cx} {K : PySem.W.Frag} {T : Option Addr}
/-! ### equality -/
def rEqM (K : PySem.W.Frag) (neg : Bool) : R2 := fun x y H Q => ∃ d e, Dp K H x d ∧ Dp K H y e ∧ d.canLay0 = true ∧ e.canLay0 = true ∧ min d.depth e.depth ≤ 60 ∧ Q (.bl (neg ^^ PyData.eqv d e)) H
theorem op_eqM (hk : X.K = K) (hu : X.A.units + 64 < cLine) : OpR X (compareOp .Eq) (rEqM K false) := by
  intro pins s σ H x y v u Q I rx ry h
  subst hk
  obtain ⟨d, e, hd, he, l1, l2, m, q⟩ := h
  obtain ⟨as, r1⟩ := Dp.reads I d x v hd rx
  obtain ⟨bs, r2⟩ := Dp.reads I e y u he ry
  exact SeqAt.compareEq_reads r1 r2 l1 l2 (by omega) ⟨.bl _, H, I, rfl, by simpa using q⟩
theorem op_neM (hk : X.K = K) (hu : X.A.units + 64 < cLine) : OpR X (compareOp .NotEq) (rEqM K true) := by
  intro pins s σ H x y v u Q I rx ry h
  subst hk
  obtain ⟨d, e, hd, he, l1, l2, m, q⟩ := h
  obtain ⟨as, r1⟩ := Dp.reads I d x v hd rx
  obtain ⟨bs, r2⟩ := Dp.reads I e y u he ry
  exact SeqAt.compareNe_reads r1 r2 l1 l2 (by omega) ⟨.bl _, H, I, rfl, by simpa using q⟩
theorem od_eq : OpD K T (rEqM K false) opEq := fun d e x y F H Q Φ W h1 h2 h k =>
  ⟨d, e, Rp.dp _ _ (Rp.up W.fz _ _ h1), Rp.dp _ _ (Rp.up W.fz _ _ h2), Rp.lay _ _ h1, Rp.lay _ _ h2, h.1, k _ _ F H (by simpa using h.2) W Ex.refl (.bl _)⟩
theorem od_ne : OpD K T (rEqM K true) opNe := fun d e x y F H Q Φ W h1 h2 h k =>
  ⟨d, e, Rp.dp _ _ (Rp.up W.fz _ _ h1), Rp.dp _ _ (Rp.up W.fz _ _ h2), Rp.lay _ _ h1, Rp.lay _ _ h2, h.1, k _ _ F H (by simpa using h.2) W Ex.refl (.bl _)⟩
/-! ### in -/
def rInM (K : PySem.W.Frag) (neg : Bool) : R2 := fun x y H Q => (∃ d ds, Dp K H x d ∧ (Dp K H y (.list ds) ∨ Dp K H y (.tuple ds)) ∧ d.canLay0 = true ∧ PyData.canLayAll0 ds = true ∧ d.depth ≤ 60 ∧ Q (.bl (neg ^^ (ds.any fun z => PyData.eqv z d))) H) ∨
  ∃ (c : Nat) (z : Str), x = .str ⟨#[c]⟩ ∧ y = .str z ∧ Q (.bl (neg ^^ decide (c ∈ z.cps.toList))) H
theorem op_inM (hk : X.K = K) (hu : X.A.units + 64 < cLine) : OpR X (compareOp .In) (rInM K false) := by
  intro pins s σ H x y v u Q I rx ry h
  subst hk
  rcases h with ⟨d, ds, hd, he, l1, l2, m, q⟩ | ⟨c, z, e1, e2, q⟩
  · obtain ⟨as, r1⟩ := Dp.reads I d x v hd rx
    rcases he with he | he
    · obtain ⟨bs, r2⟩ := Dp.reads I _ y u he ry
      exact SeqAt.in_list_reads r2 r1 l2 l1 (by omega) ⟨.bl _, H, I, rfl, by simpa using q⟩
    · obtain ⟨bs, r2⟩ := Dp.reads I _ y u he ry
      exact SeqAt.in_tuple_reads r2 r1 l2 l1 (by omega) ⟨.bl _, H, I, rfl, by simpa using q⟩
  · exact op_in_sign pins s σ H x y v u Q I rx ry ⟨c, z, e1, e2, by simpa using q⟩
theorem op_notInM (hk : X.K = K) (hu : X.A.units + 64 < cLine) : OpR X (compareOp .NotIn) (rInM K true) := by
  intro pins s σ H x y v u Q I rx ry h
  subst hk
  rcases h with ⟨d, ds, hd, he, l1, l2, m, q⟩ | ⟨c, z, e1, e2, q⟩
  · obtain ⟨as, r1⟩ := Dp.reads I d x v hd rx
    rcases he with he | he
    · obtain ⟨bs, r2⟩ := Dp.reads I _ y u he ry
      exact SeqAt.notIn_list_reads r2 r1 l2 l1 (by omega) ⟨.bl _, H, I, rfl, by simpa using q⟩
    · obtain ⟨bs, r2⟩ := Dp.reads I _ y u he ry
      exact SeqAt.notIn_tuple_reads r2 r1 l2 l1 (by omega) ⟨.bl _, H, I, rfl, by simpa using q⟩
  · exact op_notIn_sign pins s σ H x y v u Q I rx ry ⟨c, z, e1, e2, by simpa using q⟩
theorem od_in {neg : Bool} : OpD K T (rInM K neg) (inD neg) := fun d e x y F H Q Φ W h1 h2 h k => by
  unfold inD at h
  split at h
  · rename_i ds
    have l := Rp.lay _ _ h2
    rw [PyData.canLay0] at l
    exact .inl ⟨d, ds, Rp.dp _ _ (Rp.up W.fz _ _ h1), .inl (Rp.dp _ _ (Rp.up W.fz _ _ h2)), Rp.lay _ _ h1, l, h.1, k _ _ F H h.2 W Ex.refl (.bl _)⟩
  · rename_i ds
    have l := Rp.lay _ _ h2
    rw [PyData.canLay0] at l
    exact .inl ⟨d, ds, Rp.dp _ _ (Rp.up W.fz _ _ h1), .inr (Rp.dp _ _ (Rp.up W.fz _ _ h2)), Rp.lay _ _ h1, l, h.1, k _ _ F H h.2 W Ex.refl (.bl _)⟩
  · rename_i z
    split at h
    · rename_i c
      cases h1
      cases h2
      exact .inr ⟨c, z, rfl, rfl, k _ _ F H h W Ex.refl (.bl _)⟩
    · exact h.elim
  · exact h.elim
/-! ### numbers -/
theorem od_cmpI {f : Int → Int → Bool} : OpD K T (rI0 fun i j => .bl (f i j)) (opCmpI f) := fun d e x y F H Q Φ W h1 h2 h k => by
  unfold opCmpI at h
  split at h
  · cases h1; cases h2; exact ⟨_, _, rfl, rfl, k _ _ F H h W Ex.refl (.bl _)⟩
  · exact h.elim
theorem od_sub : OpD K T (rI0 fun i j => .int (i - j)) opSub := fun d e x y F H Q Φ W h1 h2 h k => by
  unfold opSub at h
  split at h
  · cases h1; cases h2; exact ⟨_, _, rfl, rfl, k _ _ F H h W Ex.refl (.int _)⟩
  · exact h.elim
theorem od_fdiv : OpD K T (rI CDivW fun i j => .int (i / j)) opFdiv := fun d e x y F H Q Φ W h1 h2 h k => by
  unfold opFdiv at h
  split at h
  · cases h1; cases h2; exact ⟨_, _, rfl, rfl, wide_div h.1.1 (b := 128) (by omega) (by decide) (by decide), k _ _ F H h.2 W Ex.refl (.int _)⟩
  · exact h.elim
theorem od_mod : OpD K T (rI (fun _ j => 0 < j) fun i j => .int (i % j)) opMod := fun d e x y F H Q Φ W h1 h2 h k => by
  unfold opMod at h
  split at h
  · cases h1; cases h2; exact ⟨_, _, rfl, rfl, h.1, k _ _ F H h.2 W Ex.refl (.int _)⟩
  · exact h.elim
def opPow : PyData → PyData → (PyData → Prop) → Prop
  | .int a, .int b, Φ => (0 ≤ b ∧ b ≤ 1000 ∧ a.natAbs < 2 ^ 64) ∧ Φ (.int (a ^ b.toNat))
  | _, _, _ => False
theorem od_pow : OpD K T (rI CPow fun i j => .int (i ^ j.toNat)) opPow := fun d e x y F H Q Φ W h1 h2 h k => by
  unfold opPow at h
  split at h
  · cases h1; cases h2; exact ⟨_, _, rfl, rfl, ⟨h.1.1, by have := h.1.2.1; omega, h.1.2.2⟩, k _ _ F H h.2 W Ex.refl (.int _)⟩
  · exact h.elim
/-! ### None, True -/
theorem isNone_dec {F : Hp} {d : PyData} {x : V} (h : Rp K F x d) : decide (x = .non) = isNone d := by
  cases h <;> first | rfl | (apply decide_eq_false; intro q; cases q)
theorem od_isN : OpD K T (fun x y H Q => y = .non ∧ Q (.bl (decide (x = .non))) H) opIsN := fun d e x y F H Q Φ W h1 h2 h k => by
  unfold opIsN at h
  split at h
  · cases h2; exact ⟨rfl, by rw [isNone_dec h1]; exact k _ _ F H h W Ex.refl (.bl _)⟩
  · exact h.elim
theorem od_notN : OpD K T (fun x y H Q => y = .non ∧ Q (.bl (!decide (x = .non))) H) opNotN := fun d e x y F H Q Φ W h1 h2 h k => by
  unfold opNotN at h
  split at h
  · cases h2; exact ⟨rfl, by rw [isNone_dec h1]; exact k _ _ F H h W Ex.refl (.bl _)⟩
  · exact h.elim
theorem od_isB : OpD K T rIsB opIsB := fun d e x y F H Q Φ W h1 h2 h k => by
  unfold opIsB at h
  split at h
  · cases h1; cases h2; exact ⟨_, _, rfl, rfl, k _ _ F H h W Ex.refl (.bl _)⟩
  · exact h.elim
theorem od_notB : OpD K T rNotB opNotB := fun d e x y F H Q Φ W h1 h2 h k => by
  unfold opNotB at h
  split at h
  · cases h1; cases h2; exact ⟨_, _, rfl, rfl, k _ _ F H h W Ex.refl (.bl _)⟩
  · exact h.elim
/-! ### + -/
omit [Tbl] in
theorem strOk_app {a b : Str} (ha : PyData.strOk a = true) (hb : PyData.strOk b = true) : PyData.strOk (a ++ b) = true := by
  unfold PyData.strOk at ha hb ⊢
  show (a.cps ++ b.cps).all _ = true
  rw [Array.all_append, ha, hb]; rfl
omit [Tbl] in
theorem len_app (a b : Str) : (a ++ b).length = a.length + b.length := by
  show (a.cps ++ b.cps).size = _
  rw [Array.size_append]; rfl
abbrev rAddM (K : PySem.W.Frag) : R2 := fun x y H Q => (rI0 fun i j => .int (i + j)) x y H Q ∨ ((fun x y H Q => ∃ i j, x = .str i ∧ y = .str j ∧ i.length + j.length ≤ sizeLine ∧ Q (.str (i ++ j)) H : R2) x y H Q ∨ (rCat x y H Q ∨ rCatA K x y H Q))
theorem op_addM (hk : X.K = K) : OpR X (binaryOp .Add) (rAddM K) := by
  subst hk
  exact op_add.or (op_add_str.or (op_cat.or op_catA))
theorem od_add : OpD K T (rAddM K) opAdd := fun d e x y F H Q Φ W h1 h2 h k => by
  unfold opAdd at h
  split at h
  · cases h1; cases h2; exact .inl ⟨_, _, rfl, rfl, k _ _ F H h W Ex.refl (.int _)⟩
  · cases h1 with
    | str g1 =>
      cases h2 with
      | str g2 => exact .inr (.inl ⟨_, _, rfl, rfl, lim_line h.1, k _ _ F H h.2 W Ex.refl (.str (sOk_of (strOk_app (sOk_ok g1) (sOk_ok g2)) (by rw [len_app]; exact lim_line h.1)))⟩)
  · cases h1 with
    | lst e1 z1 a1 =>
      cases h2 with
      | lst e2 z2 a2 =>
        have hz : _ + _ ≤ sizeLine := lim_line h.1
        rw [← a1.length, ← a2.length] at hz
        refine .inr (.inr (.inl ⟨_, _, _, _, rfl, rfl, W.fz _ _ e1, W.fz _ _ e2, hz, fun p hp => ?_⟩))
        obtain ⟨W', X'⟩ := new_fz (o := .lst _) W hp
        exact k _ _ _ _ h.2 W' X' (.lst upd_same (by rw [List.length_append]; exact hz) ((RpAll.up X'.ff _ _ a1).append (RpAll.up X'.ff _ _ a2)))
  · cases h1 with
    | tup e1 z1 a1 =>
      cases h2 with
      | tup e2 z2 a2 =>
        have hz : _ + _ ≤ sizeLine := lim_line h.1
        rw [← a1.length, ← a2.length] at hz
        refine .inr (.inr (.inr ⟨_, _, _, _, rfl, rfl, same_sqT W.fz e1, same_sqT W.fz e2, hz, fun ex => ?_, fun _ ey => ?_, fun _ _ p hp => ?_⟩))
        · subst ex
          cases a1
          exact k _ _ F H h.2 W Ex.refl (.tup e2 z2 a2)
        · subst ey
          cases a2
          exact k _ _ F H h.2 W Ex.refl (by rw [List.append_nil]; exact .tup e1 z1 a1)
        · obtain ⟨W', X'⟩ := new_fz (o := .tup _) W hp
          exact k _ _ _ _ h.2 W' X' (.tup (SqT.of upd_same) (by rw [List.length_append]; exact hz) ((RpAll.up X'.ff _ _ a1).append (RpAll.up X'.ff _ _ a2)))
  · exact h.elim
/-! ### * -/
abbrev rMulM (K : PySem.W.Frag) : R2 := fun x y H Q => (rI CMul fun i j => .int (i * j)) x y H Q ∨ (rRep x y H Q ∨ rRepT K x y H Q)
theorem op_mulM (hk : X.K = K) : OpR X (binaryOp .Mult) (rMulM K) := by
  subst hk
  exact op_mul.or (op_rep.or op_repT)
theorem RpAll.rep {F : Hp} {xs : List V} {ds : List PyData} (h : RpAll K F xs ds) : ∀ k : Nat, RpAll K F (List.replicate k xs).flatten (List.replicate k ds).flatten
  | 0 => .nil
  | k + 1 => by rw [List.replicate_succ, List.replicate_succ, List.flatten_cons, List.flatten_cons]; exact h.append (RpAll.rep h k)
omit [Tbl] in
theorem rep_len {α : Type} (xs : List α) : ∀ k : Nat, (List.replicate k xs).flatten.length = k * xs.length
  | 0 => by simp
  | k + 1 => by rw [List.replicate_succ, List.flatten_cons, List.length_append, rep_len xs k, Nat.succ_mul, Nat.add_comm]
theorem od_mul : OpD K T (rMulM K) opMul := fun d e x y F H Q Φ W h1 h2 h k => by
  unfold opMul at h
  split at h
  · cases h1; cases h2; exact .inl ⟨_, _, rfl, rfl, h.1, k _ _ F H h.2 W Ex.refl (.int _)⟩
  · rename_i a n
    cases h1 with
    | @lst p xs _ e1 z1 a1 =>
      cases h2
      obtain ⟨⟨n0, n1, n2⟩, h⟩ := h
      have hl : xs.length ≤ 1000 := by rw [a1.length]; exact n2
      have hb : n.toNat * xs.length ≤ sizeLine := by
        rw [sizeLine_eq]
        exact Nat.le_trans (Nat.mul_le_mul (show n.toNat ≤ 1000 by omega) hl) (by decide)
      refine .inr (.inl ⟨_, _, _, rfl, rfl, W.fz _ _ e1, by omega, by omega, by rw [Nat.mul_comm]; exact hb, fun p hp => ?_⟩)
      obtain ⟨W', X'⟩ := new_fz (o := .lst _) W hp
      exact k _ _ _ _ h W' X' (.lst upd_same (by rw [rep_len]; exact hb) (RpAll.rep (RpAll.up X'.ff _ _ a1) _))
  · rename_i a n
    cases h1 with
    | @tup p xs _ e1 z1 a1 =>
      cases h2
      obtain ⟨⟨ne, n0, n1, n2⟩, h⟩ := h
      have hl : xs.length ≤ 1000 := by rw [a1.length]; exact n2
      have hb : n.toNat * xs.length ≤ sizeLine := by
        rw [sizeLine_eq]
        exact Nat.le_trans (Nat.mul_le_mul (show n.toNat ≤ 1000 by omega) hl) (by decide)
      refine .inr (.inr ⟨_, _, _, rfl, rfl, same_sqT W.fz e1, fun z => ?_, n0, n1, hl, fun p hp => ?_⟩)
      · subst z; cases a1; exact ne rfl
      · obtain ⟨W', X'⟩ := new_fz (o := .tup _) W hp
        exact k _ _ _ _ h W' X' (.tup (SqT.of upd_same) (by rw [rep_len]; exact hb) (RpAll.rep (RpAll.up X'.ff _ _ a1) _))
  · exact h.elim
/-! ### subscripts -/
theorem at_rp {F : Hp} {xs : List V} {ds : List PyData} {i : Int} {d : PyData} (h : RpAll K F xs ds) (e : atI ds i = some d) : ∃ v, atI xs i = some v ∧ Rp K F v d := by
  unfold atI at e ⊢
  rw [h.length]
  cases q : ixN ds.length i with
  | none => rw [q] at e; cases e
  | some j =>
    rw [q] at e
    obtain ⟨v, h1, h2⟩ := h.getD (i := j) e
    exact ⟨v, h1, h2⟩
theorem strOk_one {z : Str} {i : Int} {c : Nat} (h : sOk z = true) (e : atI z.cps.toList i = some c) : sOk ⟨#[c]⟩ = true := by
  have h1 := sOk_ok h
  unfold PyData.strOk at h1
  rw [Array.all_eq_true'] at h1
  obtain ⟨j, _, h3, _⟩ := atI_get e
  have hm : c ∈ z.cps := by rw [← Array.mem_toList_iff]; exact List.mem_of_getElem? h3
  refine sOk_of ?_ (by rw [sizeLine_eq]; show 1 ≤ 16777216; decide)
  unfold PyData.strOk
  rw [Array.all_eq_true']
  intro x hx
  have : x = c := by simpa using hx
  subst this
  exact h1 x hm
theorem od_ix : OpD K T (rIx K) opIx := fun d e x y F H Q Φ W h1 h2 h k => by
  unfold opIx at h
  split at h
  · split at h
    · rename_i q
      cases h2
      cases h1 with
      | lst e1 z1 a1 =>
        obtain ⟨v, g1, g2⟩ := at_rp a1 q
        exact .inl ⟨_, _, _, _, rfl, rfl, SqL.of (W.fz _ _ e1), g1, k _ _ F H h W Ex.refl g2⟩
    · exact h.elim
  · split at h
    · rename_i q
      cases h2
      cases h1 with
      | tup e1 z1 a1 =>
        obtain ⟨v, g1, g2⟩ := at_rp a1 q
        exact .inr (.inl ⟨_, _, _, _, rfl, rfl, same_sqT W.fz e1, g1, k _ _ F H h W Ex.refl g2⟩)
    · exact h.elim
  · split at h
    · rename_i q
      cases h2
      cases h1 with
      | str g => exact .inr (.inr ⟨_, _, _, rfl, rfl, sOk_len g, q, k _ _ F H h W Ex.refl (.str (strOk_one g q))⟩)
    · exact h.elim
  · exact h.elim
theorem md_ix {a b : Expr} {pos : Pos} {wa wb : WE} (hk : X.K = K) (ha : PE X a (tD K T wa)) (hb : PE X b (tD K T wb)) (hs : PlainIx b := by intro _ _; rfl) : PE X (.Subscript a b pos) (tD K T (wBin opIx wa wb)) := by
  subst hk
  exact pe_imp (pe_ix ix_seq ha hb hs) (tD_bin od_ix)
end
end MG

set_option Elab.async false
set_option linter.all false
set_option maxRecDepth 100000
set_option maxHeartbeats 4000000
/-! MgSeq: displays, calls of built-ins, slices, over plain data. -/
namespace MG
variable [Tbl]
open PySem PySem.Spec PyProof.Rows L2

/-! ### from a list of one's own to a datum -/
def wL (w : WA) : WE := fun ε Φ => w ε fun ds => Φ (.list ds)
def wCall (op : List PyData → (PyData → Prop) → Prop) (wa : WA) : WE := fun ε Φ => wa ε fun ds => op ds Φ
def wCallN (op : List PyData → (List PyData → Prop) → Prop) (wa : WA) : WA := fun ε Φ => wa ε fun ds => op ds Φ
def wTup (wa : WA) : WE := fun ε Φ => wa ε fun ds => ds.length ≤ LIM ∧ Φ (.tuple ds)
def wLst (wa : WA) : WA := fun ε Φ => wa ε fun ds => ds.length ≤ LIM ∧ Φ ds

section
variable {X : Cx} {K : PySem.W.Frag} {T : Option Addr} {pos : Pos}
/-- freezing -/
theorem freeze {F H F' H' : Hp} {a : Addr} {vs : List V} (W : Wd T F' H') (x : Ex T F H F' H') (ha : H a = none) (hF : F' a = none) (hT : T ≠ some a) (e : H' a = some (.lst vs)) :
    Wd T (upd F' a (.lst vs)) H' ∧ Ex T F H (upd F' a (.lst vs)) H' := by
  have hne : ∀ b, H b ≠ none → b ≠ a := fun b hb z => hb (by rw [z]; exact ha)
  refine ⟨⟨fun b u q => ?_, ?_, W.tabs, nt_upd W.nt fun _ z => nomatch z⟩, ⟨x.hh, x.dom, fun b u q => ?_, fun b hb => ?_, x.tl⟩⟩
  · by_cases z : b = a
    · subst z; rw [upd_same] at q; rw [e]; exact q
    · rw [upd_ne z] at q; exact W.fz _ _ q
  · cases T with
    | none => trivial
    | some t =>
      obtain ⟨f, l, ns, p, c, h1, h2, h3⟩ := W.tape
      have hta : t ≠ a := fun z => hT (by rw [z])
      refine ⟨by rw [upd_ne hta]; exact f, l, ns, p, c, h1, ?_, h3⟩
      rw [upd_ne (ne_of_none h2 hF)]; exact h2
  · have q' := x.ff _ _ q
    rw [upd_ne (ne_of_none q' hF)]; exact q'
  · rw [upd_ne (hne b hb)]; exact x.old b hb
theorem md_ofN {e : Expr} {w : WA} (h : PE X e (tN K T w)) : PE X e (tD K T (wL w)) :=
  pe_imp h fun σ H Q ⟨H0, ε, F, Φ, S, W, hw, k⟩ => ⟨H0, ε, F, _, S, W, hw, fun ds a vs F' H' hd W' X' ha hF hT e z r => by
    obtain ⟨W2, X2⟩ := freeze W' X' ha hF hT e
    have ff : Same F' (upd F' a (.lst vs)) := fun b u q => by rw [upd_ne (ne_of_none q hF)]; exact q
    exact k _ _ _ _ hd W2 X2 (.lst upd_same z (RpAll.up ff _ _ r))⟩
/-! ### displays -/
theorem md_tup {es : List Expr} {x1} {n : Nat} {wa : WA} (h : PA X es (tDA K T n wa)) : PE X (.Tuple es x1 pos) (tD K T (wTup wa)) :=
  pe_imp (pe_tup h) fun σ H Q ⟨H0, ε, F, Φ, S, W, hw, k⟩ => ⟨H0, ε, F, _, S, W, hw, fun ds vs F1 H1 hd _ W1 X1 D1 => by
    have hz : vs.length ≤ sizeLine := by rw [D1.length]; exact lim_line hd.1
    refine ⟨hz, fun p hp => ?_⟩
    obtain ⟨W2, X2⟩ := new_fz (o := .tup vs) W1 hp
    exact k _ _ _ _ hd.2 W2 (X1.trans X2) (.tup (SqT.of upd_same) hz (RpAll.up X2.ff _ _ D1))⟩
theorem mn_lst {es : List Expr} {n : Nat} {wa : WA} (h : PA X es (tDA K T n wa)) : PE X (.List es pos) (tN K T (wLst wa)) :=
  pe_imp (pe_lst h) fun σ H Q ⟨H0, ε, F, Φ, S, W, hw, k⟩ => ⟨H0, ε, F, _, S, W, hw, fun ds vs F1 H1 hd _ W1 X1 D1 => by
    have hz : vs.length ≤ sizeLine := by rw [D1.length]; exact lim_line hd.1
    refine ⟨hz, fun p hp => ?_⟩
    obtain ⟨W2, X2⟩ := new_raw (o := .lst vs) W1 hp
    exact k _ _ _ _ _ hd.2 W2 (X1.trans X2) ((by
      cases q : H p with
      | none => rfl
      | some o => exact absurd hp (X1.dom p (by rw [q]; simp)))) (W1.none_of hp) (tape_ne W1 hp) upd_same hz D1⟩
/-! ### built-ins by their names -/
def CaD (K : PySem.W.Frag) (T : Option Addr) (r : List V → Hp → VK → Prop) (op : List PyData → (PyData → Prop) → Prop) : Prop :=
  ∀ (ds : List PyData) (vs : List V) (F H : Hp) (Q : VK) (Φ : PyData → Prop), Wd T F H → RpAll K F vs ds → op ds Φ → (∀ z v F' H', Φ z → Wd T F' H' → Ex T F H F' H' → Rp K F' v z → Q v H') → r vs H Q
def CaN (K : PySem.W.Frag) (T : Option Addr) (r : List V → Hp → VK → Prop) (op : List PyData → (List PyData → Prop) → Prop) : Prop :=
  ∀ (ds : List PyData) (vs : List V) (F H : Hp) (Q : VK) (Φ : List PyData → Prop), Wd T F H → RpAll K F vs ds → op ds Φ →
    (∀ zs a us F' H', Φ zs → Wd T F' H' → Ex T F H F' H' → H a = none → F' a = none → T ≠ some a → H' a = some (.lst us) → us.length ≤ sizeLine → RpAll K F' us zs → Q (.ref a) H') → r vs H Q
theorem tD_call {n : Nat} {r : List V → Hp → VK → Prop} {op : List PyData → (PyData → Prop) → Prop} {wa : WA} (h : CaD K T r op) : ∀ σ H Q, tD K T (wCall op wa) σ H Q → tCB r (tDA K T n wa) σ H Q :=
  fun σ H Q ⟨H0, ε, F, Φ, S, W, hw, k⟩ => ⟨H0, ε, F, _, S, W, hw, fun ds vs F1 H1 hd _ W1 X1 D1 => h ds vs F1 H1 Q Φ W1 D1 hd fun z v F' H' hz W' X' D' => k z v F' H' hz W' (X1.trans X') D'⟩
theorem none_back {F H F1 H1 : Hp} (x : Ex T F H F1 H1) {a : Addr} (h : H1 a = none) : H a = none := by
  cases q : H a with
  | none => rfl
  | some o => exact absurd h (x.dom a (by rw [q]; simp))
theorem tN_call {n : Nat} {r : List V → Hp → VK → Prop} {op : List PyData → (List PyData → Prop) → Prop} {wa : WA} (h : CaN K T r op) : ∀ σ H Q, tN K T (wCallN op wa) σ H Q → tCB r (tDA K T n wa) σ H Q :=
  fun σ H Q ⟨H0, ε, F, Φ, S, W, hw, k⟩ => ⟨H0, ε, F, _, S, W, hw, fun ds vs F1 H1 hd _ W1 X1 D1 => h ds vs F1 H1 Q Φ W1 D1 hd fun z a us F' H' hz W' X' ha hF hT e z' D' => k z a us F' H' hz W' (X1.trans X') (none_back X1 ha) hF hT e z' D'⟩
section
variable {n : Nat} {x : Str} {p : Pos} {e : Expr} {es : List Expr} {wa : WA} {id Ty : String} {r : List V → Hp → VK → Prop}
theorem md_callB {op : List PyData → (PyData → Prop) → Prop} (hc : CallR X (.builtin id) r) (h : CaD K T r op) (hm : X.mg x = none) (hv : bootBuiltins x = some (.builtin id)) (ha : PA X (e :: es) (tDA K T n wa)) (hg : Gl X x := by rfl) (hn : x ≠ "__name__" := by decide) (hdb : (x == ("__debug__" : Str)) = false := by decide)
    (he : starEach (e :: es) X.env = (false, eval e X.env) :: starEach es X.env := by rfl) (hpl : (backTo pos (starEach es X.env)).any (·.1) = false := by rfl) : PE X (.Call (.Name x p) (e :: es) [] pos) (tD K T (wCall op wa)) :=
  pe_imp (pe_callB hc hg hm hv ha hn hdb he hpl) (tD_call h)
theorem md_callTy {op : List PyData → (PyData → Prop) → Prop} (hc : CallR X (.type Ty) r) (h : CaD K T r op) (hm : X.mg x = none) (hv : bootBuiltins x = some (.type Ty)) (ha : PA X (e :: es) (tDA K T n wa)) (hg : Gl X x := by rfl) (hn : x ≠ "__name__" := by decide) (hdb : (x == ("__debug__" : Str)) = false := by decide)
    (he : starEach (e :: es) X.env = (false, eval e X.env) :: starEach es X.env := by rfl) (hpl : (backTo pos (starEach es X.env)).any (·.1) = false := by rfl) : PE X (.Call (.Name x p) (e :: es) [] pos) (tD K T (wCall op wa)) :=
  pe_imp (pe_callTy hc hg hm hv ha hn hdb he hpl) (tD_call h)
theorem mn_callB {op : List PyData → (List PyData → Prop) → Prop} (hc : CallR X (.builtin id) r) (h : CaN K T r op) (hm : X.mg x = none) (hv : bootBuiltins x = some (.builtin id)) (ha : PA X (e :: es) (tDA K T n wa)) (hg : Gl X x := by rfl) (hn : x ≠ "__name__" := by decide) (hdb : (x == ("__debug__" : Str)) = false := by decide)
    (he : starEach (e :: es) X.env = (false, eval e X.env) :: starEach es X.env := by rfl) (hpl : (backTo pos (starEach es X.env)).any (·.1) = false := by rfl) : PE X (.Call (.Name x p) (e :: es) [] pos) (tN K T (wCallN op wa)) :=
  pe_imp (pe_callB hc hg hm hv ha hn hdb he hpl) (tN_call h)
theorem mn_callTy {op : List PyData → (List PyData → Prop) → Prop} (hc : CallR X (.type Ty) r) (h : CaN K T r op) (hm : X.mg x = none) (hv : bootBuiltins x = some (.type Ty)) (ha : PA X (e :: es) (tDA K T n wa)) (hg : Gl X x := by rfl) (hn : x ≠ "__name__" := by decide) (hdb : (x == ("__debug__" : Str)) = false := by decide)
    (he : starEach (e :: es) X.env = (false, eval e X.env) :: starEach es X.env := by rfl) (hpl : (backTo pos (starEach es X.env)).any (·.1) = false := by rfl) : PE X (.Call (.Name x p) (e :: es) [] pos) (tN K T (wCallN op wa)) :=
  pe_imp (pe_callTy hc hg hm hv ha hn hdb he hpl) (tN_call h)
end
/-! ### len -/
def opLen : List PyData → (PyData → Prop) → Prop
  | [.list ds], Φ => Φ (.int ds.length)
  | [.tuple ds], Φ => Φ (.int ds.length)
  | [.str z], Φ => Φ (.int z.length)
  | _, _ => False
abbrev rLenM (K : PySem.W.Frag) : List V → Hp → VK → Prop := fun xs H Q => (fun xs H Q => ∃ p ys, xs = [.ref p] ∧ (SqL K H p ys ∨ SqT K H p ys) ∧ Q (.int ys.length) H : List V → Hp → VK → Prop) xs H Q ∨ (fun xs H Q => ∃ z, xs = [.str z] ∧ z.length ≤ sizeLine ∧ Q (.int z.length) H : List V → Hp → VK → Prop) xs H Q
theorem call_lenM (hk : X.K = K) : CallR X (.builtin "len") (rLenM K) := by subst hk; exact call_len_seq.or call_len_str
theorem cd_len : CaD K T (rLenM K) opLen := fun ds vs F H Q Φ W D h k => by
  unfold opLen at h
  split at h
  · rename_i ds
    cases D with
    | cons d1 d2 =>
      cases d2
      cases d1 with
      | lst e z a => exact .inl ⟨_, _, rfl, .inl (SqL.of (W.fz _ _ e)), k _ _ F H (by rw [a.length]; exact h) W Ex.refl (.int _)⟩
  · rename_i ds
    cases D with
    | cons d1 d2 =>
      cases d2
      cases d1 with
      | tup e z a => exact .inl ⟨_, _, rfl, .inr (same_sqT W.fz e), k _ _ F H (by rw [a.length]; exact h) W Ex.refl (.int _)⟩
  · cases D with
    | cons d1 d2 =>
      cases d2
      cases d1 with
      | str g => exact .inr ⟨_, rfl, sOk_len g, k _ _ F H h W Ex.refl (.int _)⟩
  · exact h.elim
/-! ### list(x), tuple(x) -/
def opList : List PyData → (List PyData → Prop) → Prop
  | [.list ds], Φ => Φ ds
  | [.tuple ds], Φ => Φ ds
  | _, _ => False
theorem cn_list : CaN K T (fun xs H Q => ∃ p ys, xs = [.ref p] ∧ (SqL K H p ys ∨ SqT K H p ys) ∧ ∀ l, H l = none → Q (.ref l) (upd H l (.lst ys))) opList := fun ds vs F H Q Φ W D h k => by
  unfold opList at h
  split at h
  · cases D with
    | cons d1 d2 =>
      cases d2
      cases d1 with
      | lst e z a =>
        refine ⟨_, _, rfl, .inl (SqL.of (W.fz _ _ e)), fun l hl => ?_⟩
        obtain ⟨W2, X2⟩ := new_raw (o := .lst _) W hl
        exact k _ _ _ _ _ h W2 X2 hl (W.none_of hl) (tape_ne W hl) upd_same z a
  · cases D with
    | cons d1 d2 =>
      cases d2
      cases d1 with
      | tup e z a =>
        refine ⟨_, _, rfl, .inr (same_sqT W.fz e), fun l hl => ?_⟩
        obtain ⟨W2, X2⟩ := new_raw (o := .lst _) W hl
        exact k _ _ _ _ _ h W2 X2 hl (W.none_of hl) (tape_ne W hl) upd_same z a
  · exact h.elim
theorem call_listM (hk : X.K = K) : CallR X (.type "list") (fun xs H Q => ∃ p ys, xs = [.ref p] ∧ (SqL K H p ys ∨ SqT K H p ys) ∧ ∀ l, H l = none → Q (.ref l) (upd H l (.lst ys))) := by subst hk; exact call_list_of
def opTuple : List PyData → (PyData → Prop) → Prop
  | [.list ds], Φ => Φ (.tuple ds)
  | [.tuple ds], Φ => Φ (.tuple ds)
  | _, _ => False
theorem call_tupleM (hk : X.K = K) : CallR X (.type "tuple") (fun xs H Q => ∃ p ys, xs = [.ref p] ∧ ((SqL K H p ys ∧ ∀ l, H l = none → Q (.ref l) (upd H l (.tup ys))) ∨ (SqT K H p ys ∧ Q (.ref p) H))) := by subst hk; exact call_tuple_of
theorem cd_tuple : CaD K T (fun xs H Q => ∃ p ys, xs = [.ref p] ∧ ((SqL K H p ys ∧ ∀ l, H l = none → Q (.ref l) (upd H l (.tup ys))) ∨ (SqT K H p ys ∧ Q (.ref p) H))) opTuple := fun ds vs F H Q Φ W D h k => by
  unfold opTuple at h
  split at h
  · cases D with
    | cons d1 d2 =>
      cases d2
      cases d1 with
      | lst e z a =>
        refine ⟨_, _, rfl, .inl ⟨SqL.of (W.fz _ _ e), fun l hl => ?_⟩⟩
        obtain ⟨W2, X2⟩ := new_fz (o := .tup _) W hl
        exact k _ _ _ _ h W2 X2 (.tup (SqT.of upd_same) z (RpAll.up X2.ff _ _ a))
  · cases D with
    | cons d1 d2 =>
      cases d2
      cases d1 with
      | tup e z a => exact ⟨_, _, rfl, .inr ⟨same_sqT W.fz e, k _ _ F H h W Ex.refl (.tup e z a)⟩⟩
  · exact h.elim
/-! ### int(x), str(i), sum, bool -/
def opInt : List PyData → (PyData → Prop) → Prop
  | [.int i], Φ => Φ (.int i)
  | [.bool b], Φ => Φ (.int (if b then 1 else 0))
  | [.str z], Φ => match PySem.intText? z with
    | some n => z.length ≤ 640 ∧ Φ (.int n)
    | none => False
  | _, _ => False
def opBool : List PyData → (PyData → Prop) → Prop
  | [.bool b], Φ => Φ (.bool b)
  | _, _ => False
def opStr : List PyData → (PyData → Prop) → Prop
  | [.int i], Φ => i.natAbs.log2 < 1920 ∧ sOk (toString i) = true ∧ Φ (.str (toString i))
  | _, _ => False
def intsOf : List PyData → Option (List Int)
  | [] => some []
  | .int i :: r => (intsOf r).map (i :: ·)
  | _ :: _ => none
def opSum : List PyData → (PyData → Prop) → Prop
  | [.list ds], Φ => match intsOf ds with
    | some ns => Φ (.int ns.sum)
    | none => False
  | _, _ => False
theorem ints_vals {F : Hp} : ∀ {ds : List PyData} {vs : List V} {ns : List Int}, RpAll K F vs ds → intsOf ds = some ns → vs = ns.map V.int
  | [], _, _, h, e => by cases h; cases e; rfl
  | d :: r, _, ns, h, e => by
    cases h with
    | cons h1 h2 =>
      cases h1 with
      | int i =>
        rw [intsOf] at e
        obtain ⟨ms, e1, e2⟩ := Option.map_eq_some_iff.mp e
        subst e2
        rw [ints_vals h2 e1]; rfl
      | _ => cases e
end
end MG

set_option Elab.async false
set_option linter.all false
set_option maxRecDepth 100000
set_option maxHeartbeats 4000000
/-! MgMore: int, str, sum, isinstance, slices, sorted, calls of defs, over plain data. -/
namespace MG
variable [Tbl]
open PySem PySem.Spec PyProof.Rows L2
section
variable {X : Cx} {K : PySem.W.Frag} {T : Option Addr} {pos : Pos}
abbrev rIntM : List V → Hp → VK → Prop := fun xs H Q => (fun xs H Q => (∃ i, xs = [.int i] ∧ Q (.int i) H) ∨ ∃ k, xs = [.bl k] ∧ Q (.int (if k then 1 else 0)) H : List V → Hp → VK → Prop) xs H Q ∨ (fun xs H Q => ∃ a n, xs = [.str a] ∧ PySem.intText? a = some n ∧ a.length ≤ 640 ∧ Q (.int n) H : List V → Hp → VK → Prop) xs H Q
theorem call_intM : CallR X (.type "int") rIntM := call_int1.or call_int_str
theorem cd_int : CaD K T rIntM opInt := fun ds vs F H Q Φ W D h k => by
  unfold opInt at h
  split at h
  · cases D with
    | cons d1 d2 => cases d2; cases d1; exact .inl (.inl ⟨_, rfl, k _ _ F H h W Ex.refl (.int _)⟩)
  · cases D with
    | cons d1 d2 => cases d2; cases d1; exact .inl (.inr ⟨_, rfl, k _ _ F H h W Ex.refl (.int _)⟩)
  · split at h
    · rename_i e
      cases D with
      | cons d1 d2 => cases d2; cases d1; exact .inr ⟨_, _, rfl, e, h.1, k _ _ F H h.2 W Ex.refl (.int _)⟩
    · exact h.elim
  · exact h.elim
theorem cd_bool : CaD K T (fun xs H Q => (∃ i, xs = [.int i] ∧ Q (.bl (i != 0)) H) ∨ ∃ k, xs = [.bl k] ∧ Q (.bl k) H) opBool := fun ds vs F H Q Φ W D h k => by
  unfold opBool at h
  split at h
  · cases D with
    | cons d1 d2 => cases d2; cases d1; exact .inr ⟨_, rfl, k _ _ F H h W Ex.refl (.bl _)⟩
  · exact h.elim
theorem cd_str : CaD K T (fun xs H Q => ∃ i, xs = [.int i] ∧ i.natAbs.log2 < 1920 ∧ Q (.str (toString i)) H) opStr := fun ds vs F H Q Φ W D h k => by
  unfold opStr at h
  split at h
  · cases D with
    | cons d1 d2 => cases d2; cases d1; exact ⟨_, rfl, h.1, k _ _ F H h.2.2 W Ex.refl (.str h.2.1)⟩
  · exact h.elim
theorem call_sumM (hk : X.K = K) (hc : X.calm = true) : CallR X (.builtin "sum") (rSum K) := by subst hk; exact cr_sum hc
theorem cd_sum : CaD K T (rSum K) opSum := fun ds vs F H Q Φ W D h k => by
  unfold opSum at h
  split at h
  · split at h
    · rename_i e
      cases D with
      | cons d1 d2 =>
        cases d2
        cases d1 with
        | lst e1 z a => exact ⟨_, _, rfl, by rw [← ints_vals a e]; exact SqL.of (W.fz _ _ e1), k _ _ F H h W Ex.refl (.int _)⟩
    · exact h.elim
  · exact h.elim
/-! ### isinstance -/
inductive Ty where
  | int | bool | str | tuple | list
def Ty.s : Ty → String
  | .int => "int"
  | .bool => "bool"
  | .str => "str"
  | .tuple => "tuple"
  | .list => "list"
def isTy : Ty → PyData → Bool
  | .int, .int _ => true
  | .int, .bool _ => true
  | .bool, .bool _ => true
  | .str, .str _ => true
  | .tuple, .tuple _ => true
  | .list, .list _ => true
  | _, _ => false
def tyN : PyData → String
  | .none => "NoneType"
  | .bool _ => "bool"
  | .int _ => "int"
  | .str _ => "str"
  | .list _ => "list"
  | .tuple _ => "tuple"
  | .dict _ => "dict"
theorem kit_isTy (t : Ty) (d : PyData) : kitB (tyN d) t.s = some (isTy t d) := by
  cases t <;> cases d <;> simp only [tyN, Ty.s, isTy] <;> decide +kernel
theorem tyX_of {F H : Hp} {d : PyData} {x : V} (W : Same F H) (h : Rp K F x d) : TyX K H x (.type (tyN d)) := by
  cases h with
  | non => exact .base .non
  | bl b => exact .base (.bl b)
  | int i => exact .base (.int i)
  | str g => exact .base (.str _)
  | lst e z a => exact .base (.lst (W _ _ e))
  | tup e z a =>
    rcases e with (e | ⟨o, e⟩) | ⟨o, its, n, e, e2, _⟩
    · exact .base (.tup (W _ _ e))
    · exact .fTuple (W _ _ e)
    · exact .kTuple e e2
def opIsi (t : Ty) (d : PyData) (Φ : PyData → Prop) : Prop := Φ (.bool (isTy t d))
theorem call_isiM (hk : X.K = K) : CallR X (.builtin "isinstance") (rIsi K) := by subst hk; exact call_isi
theorem md_isi {x : Str} {e c : Expr} {p : Pos} {we : WE} (t : Ty) (hk : X.K = K) (hm : X.mg x = none) (hv : bootBuiltins x = some (.builtin "isinstance")) (he : PE X e (tD K T we)) (hc : PE X c (tC (.ty t.s))) (hg : Gl X x := by rfl) (hn : x ≠ "__name__" := by decide) (hdb : (x == ("__debug__" : Str)) = false := by decide)
    (hs : starEach [e, c] X.env = (false, eval e X.env) :: starEach [c] X.env := by rfl) (hs2 : starEach [c] X.env = (false, eval c X.env) :: starEach [] X.env := by rfl) (hpl : (backTo pos (starEach [c] X.env)).any (·.1) = false := by rfl) : PE X (.Call (.Name x p) [e, c] [] pos) (tD K T (wUn (opIsi t) we)) :=
  pe_imp (pe_callB (call_isiM hk) hg hm hv (pa_cons he (pa_cons hc pa_nil hs2) hs) hn hdb hs hpl) fun σ H Q ⟨H0, ε, F, Φ, S, W, hw, k⟩ => ⟨H0, ε, F, _, S, W, hw, fun d v F1 H1 hd W1 X1 D1 =>
    ⟨v, .ty t.s, .type (tyN d), .type t.s, isTy t d, rfl, .ty _, tyX_of W1.fz D1, kit_ty (kit_isTy t d), k _ _ F1 H1 hd W1 X1 (.bl _)⟩⟩
/-- isinstance(x, (A, B)) -/
theorem kitAny2 {t u : Ty} {d : PyData} : PySem.W.kitAny K (.type (tyN d)) [.type t.s, .type u.s] = some (isTy t d || isTy u d) := by
  cases h1 : isTy t d with
  | true => exact kitAny_cons (b := true) (by rw [kit_ty (kit_isTy t d), h1]) (fun z => nomatch z) fun _ => rfl
  | false =>
    refine kitAny_cons (b := false) (by rw [kit_ty (kit_isTy t d), h1]) (fun _ => ?_) (fun z => nomatch z)
    cases h2 : isTy u d with
    | true => exact kitAny_cons (b := true) (by rw [kit_ty (kit_isTy u d), h2]) (fun z => nomatch z) fun _ => rfl
    | false => exact kitAny_cons (b := false) (by rw [kit_ty (kit_isTy u d), h2]) (fun _ => kitAny_nil) (fun z => nomatch z)
def opIsi2 (t u : Ty) (d : PyData) (Φ : PyData → Prop) : Prop := Φ (.bool (isTy t d || isTy u d))
theorem call_isiTM (hk : X.K = K) : CallR X (.builtin "isinstance") (rIsiT K) := by subst hk; exact call_isiT
theorem md_isi2 {x : Str} {e c1 c2 : Expr} {p pt : Pos} {we : WE} {x1} (t u : Ty) (hk : X.K = K) (hm : X.mg x = none) (hv : bootBuiltins x = some (.builtin "isinstance")) (he : PE X e (tD K T we)) (hc : PE X c1 (tC (.ty t.s))) (hc2 : PE X c2 (tC (.ty u.s))) (hg : Gl X x := by rfl) (hn : x ≠ "__name__" := by decide) (hdb : (x == ("__debug__" : Str)) = false := by decide)
    (hs : starEach [e, .Tuple [c1, c2] x1 pt] X.env = (false, eval e X.env) :: starEach [.Tuple [c1, c2] x1 pt] X.env := by rfl) (hs2 : starEach [.Tuple [c1, c2] x1 pt] X.env = (false, eval (.Tuple [c1, c2] x1 pt) X.env) :: starEach [] X.env := by rfl) (hpl : (backTo pos (starEach [.Tuple [c1, c2] x1 pt] X.env)).any (·.1) = false := by rfl)
    (hs3 : starEach [c1, c2] X.env = (false, eval c1 X.env) :: starEach [c2] X.env := by rfl) (hs4 : starEach [c2] X.env = (false, eval c2 X.env) :: starEach [] X.env := by rfl) : PE X (.Call (.Name x p) [e, .Tuple [c1, c2] x1 pt] [] pos) (tD K T (wUn (opIsi2 t u) we)) :=
  pe_imp (pe_callB (call_isiTM hk) hg hm hv (pa_cons he (pa_cons (pe_tup (pa_cons hc (pa_cons hc2 pa_nil hs4) hs3)) pa_nil hs2) hs) hn hdb hs hpl) fun σ H Q ⟨H0, ε, F, Φ, S, W, hw, k⟩ => ⟨H0, ε, F, _, S, W, hw, fun d v F1 H1 hd W1 X1 D1 => by
    refine ⟨by rw [sizeLine_eq]; show 2 ≤ 16777216; decide, fun q hq => ?_⟩
    obtain ⟨W2, X2⟩ := new_raw (o := .tup [.ty t.s, .ty u.s]) W1 hq
    exact ⟨v, q, _, .type (tyN d), _, _, rfl, upd_same, .cons (.ty _) (.cons (.ty _) .nil), tyX_of W2.fz D1, kitAny2, k _ _ F1 _ hd W2 (X1.trans X2) (.bl _)⟩⟩
/-! ### slices -/
def cutP (xs : List PyData) (lo hi : Option Int) : List PyData := (xs.drop (HT.sIx xs.length 0 lo)).take (HT.sIx xs.length xs.length hi - HT.sIx xs.length 0 lo)
theorem cut_rp {F : Hp} {xs : List V} {ds : List PyData} (lo hi : Option Int) (h : RpAll K F xs ds) : RpAll K F (cutV xs lo hi) (cutP ds lo hi) := by
  unfold cutV cutP
  rw [h.length]
  exact (h.drop _).take _
theorem strOk_cut {z : Str} {lo hi : Option Int} (h : sOk z = true) : sOk (cutS z lo hi) = true := by
  refine sOk_of ?_ (Nat.le_trans (cutS_length z lo hi) (sOk_len h))
  have h1 := sOk_ok h
  unfold PyData.strOk at h1 ⊢
  rw [Array.all_eq_true'] at h1 ⊢
  intro x hx
  refine h1 x ?_
  unfold cutS at hx
  rw [← Array.mem_toList_iff] at hx ⊢
  exact List.mem_of_mem_drop (List.mem_of_mem_take hx)
def opSl (d : PyData) (lo hi : Option Int) (Φ : PyData → Prop) : Prop := match d with
  | .list ds => Φ (.list (cutP ds lo hi))
  | .tuple ds => Φ (.tuple (cutP ds lo hi))
  | .str z => Φ (.str (cutS z lo hi))
  | _ => False
abbrev WO := EV → (Option Int → Prop) → Prop
def wONo : WO := fun _ Φ => Φ none
def wOSo (w : WE) : WO := fun ε Φ => w ε fun d => match d with
  | .int i => Φ (some i)
  | _ => False
def wSl (we : WE) (wl wh : WO) : WE := fun ε Φ => we ε fun d => wl ε fun lo => wh ε fun hi => opSl d lo hi Φ
def tDO (K : PySem.W.Frag) (T : Option Addr) (w : WO) : TO := fun σ H Q => ∃ H0 ε F Φ, Sat K T H0 ε σ F H ∧ Wd T F H ∧ w ε Φ ∧ ∀ o F' H', Φ o → Wd T F' H' → Ex T F H F' H' → Q o H'
theorem mo_none : PO X none (tDO K T wONo) := ⟨fun pins s σ H Q I ⟨H0, ε, F, Φ, S, W, hw, k⟩ => po_none.run pins s σ H Q I (k _ F H hw W Ex.refl)⟩
theorem mo_some {e : Expr} {we : WE} (h : PE X e (tD K T we)) : PO X (some e) (tDO K T (wOSo we)) := ⟨fun pins s σ H Q I ⟨H0, ε, F, Φ, S, W, hw, k⟩ => (po_some h).run pins s σ H Q I ⟨H0, ε, F, _, S, W, hw, fun d v F1 H1 hd W1 X1 D1 => by
    split at hd
    · cases D1; exact ⟨_, rfl, k _ F1 H1 hd W1 X1⟩
    · exact hd.elim⟩⟩
abbrev rSlM (K : PySem.W.Frag) : V → Option Int → Option Int → Hp → VK → Prop := fun x lo hi H Q => rSlL K x lo hi H Q ∨ (rSlA K x lo hi H Q ∨ rSlS x lo hi H Q)
theorem sl_M (hk : X.K = K) : SlR X (rSlM K) := by subst hk; exact sl_list.or (sl_tupA.or sl_str)
theorem cutP_whole {ds : List PyData} {lo hi : Option Int} (h : HT.sIx ds.length 0 lo = 0 ∧ HT.sIx ds.length ds.length hi = ds.length) : cutP ds lo hi = ds := by
  unfold cutP
  rw [h.1, h.2, List.drop_zero, Nat.sub_zero, List.take_length]
theorem md_sl {e : Expr} {lo hi : Option Expr} {p2 : Pos} {we : WE} {wl wh : WO} (hk : X.K = K) (he : PE X e (tD K T we)) (hl : PO X lo (tDO K T wl)) (hh : PO X hi (tDO K T wh)) : PE X (.Subscript e (.Slice lo hi none p2) pos) (tD K T (wSl we wl wh)) :=
  pe_imp (pe_slice (sl_M hk) he hl hh) fun σ H Q ⟨H0, ε, F, Φ, S, W, hw, k⟩ => ⟨H0, ε, F, _, S, W, hw, fun d v F1 H1 hd W1 X1 D1 =>
    ⟨H0, ε, F1, _, S.ex X1, W1, hd, fun lo F2 H2 hl W2 X2 => ⟨H0, ε, F2, _, (S.ex X1).ex X2, W2, hl, fun hi F3 H3 hh W3 X3 => by
      have D3 := Rp.up (X2.trans X3).ff _ _ D1
      have X4 := X1.trans (X2.trans X3)
      unfold opSl at hh
      split at hh
      · cases D3 with
        | @lst p xs ds e z a =>
          refine .inl ⟨_, _, rfl, SqL.of (W3.fz _ _ e), fun p hp => ?_⟩
          obtain ⟨W5, X5⟩ := new_fz (o := .lst (cutV xs lo hi)) W3 hp
          exact k _ _ _ _ hh W5 (X4.trans X5) (.lst upd_same (Nat.le_trans (cutV_length _ _ _) z) (RpAll.up X5.ff _ _ (cut_rp lo hi a)))
      · cases D3 with
        | @tup p xs ds e z a =>
          refine .inr (.inl ⟨_, _, rfl, same_sqT W3.fz e, fun hw => ?_, fun _ p hp => ?_⟩)
          · refine k _ _ F3 H3 hh W3 X4 ?_
            rw [cutP_whole (by rw [← a.length]; exact hw)]
            exact .tup e z a
          · obtain ⟨W5, X5⟩ := new_fz (o := .tup (cutV xs lo hi)) W3 hp
            exact k _ _ _ _ hh W5 (X4.trans X5) (.tup (SqT.of upd_same) (Nat.le_trans (cutV_length _ _ _) z) (RpAll.up X5.ff _ _ (cut_rp lo hi a)))
      · cases D3 with
        | str g => exact .inr (.inr ⟨_, rfl, sOk_len g, k _ _ F3 H3 hh W3 X4 (.str (strOk_cut g))⟩)
      · exact hh.elim⟩⟩⟩
/-! ### calls of the text's own defs -/
/-- a def over plain data: its arguments' data, what is wanted of its answer -/
abbrev WF := List PyData → (PyData → Prop) → Prop
def spD (K : PySem.W.Frag) (n : Nat) (w : WF) : Sp := fun vs H Q _ => vs.length = n ∧ ∃ ds F Φ, Wd none F H ∧ RpAll K F vs ds ∧ w ds Φ ∧ ∀ d v F' H', Φ d → Wd none F' H' → Ex none F H F' H' → Rp K F' v d → Q v H'
def wFn (w : WF) (wa : WA) : WE := fun ε Φ => wa ε fun ds => w ds Φ
theorem md_call {k n : Nat} {f : Addr} {fd : FuncData} {ps : List Str} {w : WF} {x : Str} {p : Pos} {e : Expr} {es : List Expr} {wa : WA} (F : FnOk X.prog X.w X.K X.mg X.base CX0 k f fd ps (spD K n w)) (hr : Room k X.A) (hm : X.mg x = some (.ref f)) (hk : PySem.W.keepIn X.K (.ref f) = true) (hb : Binds X.K fd ps [])
    (ha : PA X (e :: es) (tDA K T n wa)) (hg : Gl X x := by rfl) (hdb : (x == ("__debug__" : Str)) = false := by decide) (he : starEach (e :: es) X.env = (false, eval e X.env) :: starEach es X.env := by rfl) (hpl : (backTo pos (starEach es X.env)).any (·.1) = false := by rfl) : PE X (.Call (.Name x p) (e :: es) [] pos) (tD K T (wFn w wa)) :=
  pe_imp (pe_call F hr hg hm hk hb .nil pass0 ha hdb he hpl) fun σ H Q ⟨H0, ε, F0, Φ, S, W, hw, k⟩ => ⟨H0, ε, F0, _, S, W, hw, fun ds vs F1 H1 hd hl W1 X1 D1 =>
    ⟨by rw [List.append_nil, D1.length]; exact hl, ds, F1, Φ, W1.weak, by rw [List.append_nil]; exact D1, hd, fun d v F' H' hΦ W' X' D' => k d v F' H' hΦ (W1.back W' X') (X1.trans X'.weak) D'⟩⟩
end
end MG

set_option Elab.async false
set_option linter.all false
set_option maxRecDepth 100000
set_option maxHeartbeats 4000000
/-! MgSetA: set(xs) for any kind of items: the frame around the adds. -/
namespace MG
open PySem PySem.Spec PyProof.Rows L2

def newSet (w : World) : Obj := { cls := .type "set", dict := none, data := .set #[] 0 (.fresh 0 0 (!w.params.followText "set-order")) }
abbrev Kept (h h' : Heap) : Prop := ∀ b o, h.get? b = some o → h'.get? b = some o
section
variable {P : Program} {w : World} {A : Around} {E : Value → Shared → Prop} {s : Shared}
/-- one item goes in: Inv i to Inv (i + 1) -/
def AddsOk (P : Program) (w : World) (n : Nat) (S : Addr) (h0 : Heap) (items : Array Value) (Iv : Nat → Heap → Prop) : Prop :=
  ∀ (i : Nat) (v : Value) (A : Around) (E : Value → Shared → Prop) (s : Shared) (Q : Bool → Shared → Prop), items[i]? = some v → A.units ≤ n → Kept h0 s.heap → Iv i s.heap →
    (∀ b h' tk, Heap.SameBut S s.heap h' → s.toks ≤ tk → Iv (i + 1) h' → Q b { s with heap := h', toks := tk }) → wpAny (model P w) A (setAdd S v) Q E s
/-- what the adds see is kept when the rest of the heap grows -/
def Steady (S : Addr) (h0 : Heap) (Iv : Nat → Heap → Prop) : Prop := ∀ (i : Nat) (h h' : Heap), (∀ o, h.get? S = some o → h'.get? S = some o) → Kept h0 h → Kept h0 h' → Iv i h → Iv i h'

theorem adds_run {I S : Addr} {fp wr : List Addr} {G : Array GenState → Array GenState → Prop} {n : Nat} {St : Nat → Shared → Prop} {R : Result → Shared → Prop} {items : Array Value} {h0 : Heap} {Iv : Nat → Heap → Prop}
    (W : WalksS P w A.in1 I fp wr G n (fun i v => items[i]? = some v) St) (out : S ∉ fp) (fresh : h0.get? S = none) (freshW : ∀ b ∈ wr, h0.get? b = none) (st : Steady S h0 Iv) (ok : AddsOk P w A.in1.units S h0 items Iv) :
    ∀ (k i : Nat) (s : Shared), i + k = n → St i s → Kept h0 s.heap → Iv i s.heap →
      (∀ s', Moved (S :: wr) G s s' → Iv n s'.heap → Kept h0 s'.heap → R (.ok (.ret .none)) s') → codeAny (model P w) A (.builtin "set.update.loop" ⟨[.ref S, .ref I], []⟩) R s
  | 0, i, s, e, hst, kp, iv, fin => by
    have ei : i = n := by omega
    subst ei
    refine codeAny_builtin PyProof.Rows.F.entry_set_update_loop ?_
    rw [Around.under_plainId PyProof.Rows.F.plain_set_update_loop _]
    show wpAny _ A.in1 (pyNext (.ref I) >>= _) _ _ s
    refine wpAny_bind (W.done s _ _ hst fun s1 mv => ?_)
    have kp1 : Kept h0 s1.heap := fun b o q => mv.heap b o (fun z => by rw [freshW b z] at q; cases q) (kp b o q)
    have iv1 := st i s.heap s1.heap (fun o q => mv.heap S o (fun z => out (W.sub _ z)) q) kp kp1 iv
    show wpAny _ A.in1 (ret Value.none) _ _ s1
    exact wpAny_pure (fin s1 (mv.mono fun b z => List.mem_cons_of_mem _ z) iv1 kp1)
  | k + 1, i, s, e, hst, kp, iv, fin => by
    refine codeAny_builtin PyProof.Rows.F.entry_set_update_loop ?_
    rw [Around.under_plainId PyProof.Rows.F.plain_set_update_loop _]
    show wpAny _ A.in1 (pyNext (.ref I) >>= _) _ _ s
    refine wpAny_bind (W.item i s _ _ (by omega) hst fun v s1 hv hst1 mv => ?_)
    have kp1 : Kept h0 s1.heap := fun b o q => mv.heap b o (fun z => by rw [freshW b z] at q; cases q) (kp b o q)
    have iv1 := st i s.heap s1.heap (fun o q => mv.heap S o (fun z => out (W.sub _ z)) q) kp kp1 iv
    have mv1 : Moved (S :: wr) G s s1 := mv.mono fun b z => List.mem_cons_of_mem _ z
    show wpAny _ A.in1 (holding [v] (setAdd S v) >>= _) _ _ s1
    refine wpAny_bind (wpAny_holding (ok i v _ _ s1 _ hv (Nat.le_refl _) kp1 iv1 fun b h2 tk sb tle iv2 => ?_))
    have kp2 : Kept h0 h2 := fun b o q => (sb.2 b (fun z => by rw [z, fresh] at q; cases q)).trans (kp1 b o q)
    refine wpAny_pure ⟨plainId_quiet PyProof.Rows.F.plain_set_update_loop _, adds_run W out fresh freshW st ok k (i + 1) _ (by omega) (W.frame _ s1 _ _ hst1 tle fun b hb o q => ?_) kp2 iv2 fun s3 mv3 iv3 kp3 => ?_⟩
    · exact (sb.2 b fun z => out (z ▸ hb)).trans q
    · exact fin s3 (Moved.trans W.gtrans (mv1.then_heap tle fun b o hb q => (sb.2 b fun z => hb (by rw [z]; exact List.mem_cons_self)).trans q) mv3) iv3 kp3

theorem none_above {h : Heap} {b : Addr} (hb : h.objs.size ≤ b) : h.get? b = none := by
  cases q : h.get? b with
  | none => rfl
  | some o => exact absurd (Heap.lt_size q) (Nat.not_lt.mpr hb)

/-- set(xs), xs a list: from the empty set, item by item -/
theorem set_of_list {l : Addr} {items : Array Value} {Q : Value → Shared → Prop} (Iv : Nat → Heap → Prop) (hh : A.handled = none) (hl : s.heap.IsList l items)
    (beg : ∀ h, h.get? s.heap.objs.size = some (newSet w) → Iv 0 h) (st : Steady s.heap.objs.size s.heap Iv) (ok : AddsOk P w (A.units + 4) s.heap.objs.size s.heap items Iv)
    (fin : ∀ h' tk, Iv items.size h' → Kept s.heap h' → Q (.ref s.heap.objs.size) { s with heap := h', toks := tk }) : wpAny (model P w) A (call (.type "set") [.ref l]) Q E s := by
  obtain ⟨c, tl, hmro⟩ := PySem.F.called_set.mro
  have hmade := PySem.F.called_set.made
  have hsub := PySem.F.called_set.sub
  have hnt := PySem.F.called_set.notType
  have hcc := PySem.F.called_set.canCreate
  have htc := PySem.F.typeCall_set_1 (.ref l)
  have hli := PySem.F.called_set.init.lookup
  have hns : newSet w = { cls := .type "set", dict := none, data := .set #[] 0 (.fresh 0 0 (!w.params.followText "set-order")) } := rfl
  refine wpAny_call (codeAny_of_tree ?_)
  show wpAny _ _ (callAny (.type "set") _) _ _ _
  refine wpAny_pure ⟨Code.quiet_builtin _ (by decide +kernel), codeAny_builtin PySem.F.entry_type_call ?_⟩
  rw [Around.under_plain (weight_type_call_type "set" [.ref l] []) rfl]
  repeat (any_goals (first | assumption | wp_step))
  refine codeAny_mono (code_set_led1 (.ref l) (E := E) (Q₁ := fun ob s1 => ob = .ref s.heap.objs.size ∧ s1 = { s with heap := s.heap.push (newSet w) }) ⟨rfl, by rw [hns]⟩) fun r s1 hr => ?_
  match r, hr with
  | .error _, hr => exact hr
  | .ok (.ret _), ⟨e1, e2⟩ =>
    subst e1 e2
    have gS : (s.heap.push (newSet w)).get? s.heap.objs.size = some (newSet w) := Heap.get?_push_size _ rfl
    have tS : Shared.TypeIs { s with heap := s.heap.push (newSet w) } (.ref s.heap.objs.size) "set" := ⟨_, gS, rfl⟩
    have hbi := PySem.F.called_set.init.bind (.ref s.heap.objs.size)
    repeat (any_goals (first | assumption | wp_step))
    refine codeAny_mono (codeAny_call_builtin (R := wants (fun r s2 => r = .none ∧ ∃ h2 tk, s2 = { s with heap := h2, toks := tk } ∧ Iv items.size h2 ∧ Kept s.heap h2) E) PySem.F.called_set.init.plain PySem.F.entry_set_init (check_set_init_1 tS ?_)) fun r2 s2 hr2 => ?_
    · obtain ⟨⟨ocls, odict, odata, oslots⟩, gl, hcl, nl, hdl⟩ := hl
      simp only at hcl hdl
      subst hcl hdl
      have gl1 : (s.heap.push (newSet w)).get? l = some { cls := .type "list", dict := odict, data := .seq items nl, slots := oslots } := Heap.get?_push_of_some _ gl
      have lt1 : l < s.heap.objs.size := Heap.lt_size gl
      have q1 := PySem.F.sub_list_set
      have q2 := PySem.F.sub_list_frozenset
      have q3 : (Value.type "list" == Value.type "dict") = false := by decide
      have isl : (s.heap.push (newSet w)).IsList l items := ⟨_, gl1, rfl, nl, rfl⟩
      have sz : (s.heap.push (newSet w)).objs.size = s.heap.objs.size + 1 := Heap.size_push ..
      unfold Builtin.«set.__init__» noKeywords Builtin.Frozenset.updateFrom
      generalize ePI : pyIter = PI
      wp_walk
      subst ePI
      refine wpAny_pyIter_list isl ?_
      refine wpAny_bind (wpAny_runValue ?_)
      have nh : A.in1.in1.in1.handled = none := by simp [hh]
      have ne1 : l ≠ (s.heap.push (newSet w)).objs.size := by rw [sz]; exact Nat.ne_of_lt (Nat.lt_succ_of_lt lt1)
      have out : s.heap.objs.size ∉ [(s.heap.push (newSet w)).objs.size, l] := by
        rw [sz]
        intro z
        rcases List.mem_cons.mp z with z | z
        · exact absurd z (Nat.ne_of_lt (Nat.lt_succ_self _))
        · exact absurd (List.mem_singleton.mp z).symm (Nat.ne_of_lt lt1)
      refine adds_run ((Walks.list nh _ l ne1 items).toS) out (none_above (Nat.le_refl _)) (fun b hb => none_above (by rw [List.mem_singleton.mp hb, sz]; exact Nat.le_succ _)) st ?_ items.size 0 _ (Nat.zero_add _)
        ⟨⟨_, Heap.get?_push_size _ rfl, rfl, rfl⟩, isl.push _⟩ (fun b o e => Heap.get?_push_of_some _ (Heap.get?_push_of_some _ e)) (beg _ (Heap.get?_push_of_some _ gS)) ?_
      · intro i v A' E' s' Q' hv hu
        exact ok i v A' E' s' Q' hv (Nat.le_trans hu (by simp only [Around.in1_units]; omega))
      · intro s3 mv iv kp
        have e3 : s3 = { s with heap := s3.heap, toks := s3.toks } := by
          have a1 := mv.gens
          have a2 := mv.drawn
          have a3 := mv.os
          obtain ⟨b1, b2, b3, b4, b5⟩ := s3
          simp only at a1 a2 a3
          subst a1 a2 a3
          rfl
        show wpAny _ _ _ _ _ _
        refine wpAny_pure ?_
        show wpAny _ _ (ret Value.none) _ _ _
        exact wpAny_pure ⟨rfl, s3.heap, s3.toks, e3, iv, kp⟩
    · match r2, hr2 with
      | .error _, hr2 => exact hr2
      | .ok (.ret _), ⟨e1, h2, tk, e2, iv, kp⟩ =>
        subst e1 e2
        repeat (any_goals (first | assumption | wp_step))
        exact fin h2 tk iv kp
/-- set(xs), xs a tuple: from the empty set, item by item -/
theorem set_of_tuple {l : Addr} {items : Array Value} {Q : Value → Shared → Prop} (Iv : Nat → Heap → Prop) (hh : A.handled = none) (hl : s.heap.IsTuple l items)
    (beg : ∀ h, h.get? s.heap.objs.size = some (newSet w) → Iv 0 h) (st : Steady s.heap.objs.size s.heap Iv) (ok : AddsOk P w (A.units + 4) s.heap.objs.size s.heap items Iv)
    (fin : ∀ h' tk, Iv items.size h' → Kept s.heap h' → Q (.ref s.heap.objs.size) { s with heap := h', toks := tk }) : wpAny (model P w) A (call (.type "set") [.ref l]) Q E s := by
  obtain ⟨c, tl, hmro⟩ := PySem.F.called_set.mro
  have hmade := PySem.F.called_set.made
  have hsub := PySem.F.called_set.sub
  have hnt := PySem.F.called_set.notType
  have hcc := PySem.F.called_set.canCreate
  have htc := PySem.F.typeCall_set_1 (.ref l)
  have hli := PySem.F.called_set.init.lookup
  have hns : newSet w = { cls := .type "set", dict := none, data := .set #[] 0 (.fresh 0 0 (!w.params.followText "set-order")) } := rfl
  refine wpAny_call (codeAny_of_tree ?_)
  show wpAny _ _ (callAny (.type "set") _) _ _ _
  refine wpAny_pure ⟨Code.quiet_builtin _ (by decide +kernel), codeAny_builtin PySem.F.entry_type_call ?_⟩
  rw [Around.under_plain (weight_type_call_type "set" [.ref l] []) rfl]
  repeat (any_goals (first | assumption | wp_step))
  refine codeAny_mono (code_set_led1 (.ref l) (E := E) (Q₁ := fun ob s1 => ob = .ref s.heap.objs.size ∧ s1 = { s with heap := s.heap.push (newSet w) }) ⟨rfl, by rw [hns]⟩) fun r s1 hr => ?_
  match r, hr with
  | .error _, hr => exact hr
  | .ok (.ret _), ⟨e1, e2⟩ =>
    subst e1 e2
    have gS : (s.heap.push (newSet w)).get? s.heap.objs.size = some (newSet w) := Heap.get?_push_size _ rfl
    have tS : Shared.TypeIs { s with heap := s.heap.push (newSet w) } (.ref s.heap.objs.size) "set" := ⟨_, gS, rfl⟩
    have hbi := PySem.F.called_set.init.bind (.ref s.heap.objs.size)
    repeat (any_goals (first | assumption | wp_step))
    refine codeAny_mono (codeAny_call_builtin (R := wants (fun r s2 => r = .none ∧ ∃ h2 tk, s2 = { s with heap := h2, toks := tk } ∧ Iv items.size h2 ∧ Kept s.heap h2) E) PySem.F.called_set.init.plain PySem.F.entry_set_init (check_set_init_1 tS ?_)) fun r2 s2 hr2 => ?_
    · obtain ⟨⟨ocls, odict, odata, oslots⟩, gl, hcl, nl, hdl⟩ := hl
      simp only at hcl hdl
      subst hcl hdl
      have gl1 : (s.heap.push (newSet w)).get? l = some { cls := .type "tuple", dict := odict, data := .seq items nl, slots := oslots } := Heap.get?_push_of_some _ gl
      have lt1 : l < s.heap.objs.size := Heap.lt_size gl
      have q1 := PySem.F.sub_tuple_set
      have q2 := PySem.F.sub_tuple_frozenset
      have q3 : (Value.type "tuple" == Value.type "dict") = false := by decide
      have isl : (s.heap.push (newSet w)).IsTuple l items := ⟨_, gl1, rfl, nl, rfl⟩
      have sz : (s.heap.push (newSet w)).objs.size = s.heap.objs.size + 1 := Heap.size_push ..
      unfold Builtin.«set.__init__» noKeywords Builtin.Frozenset.updateFrom
      generalize ePI : pyIter = PI
      wp_walk
      subst ePI
      refine wpAny_pyIter_tuple isl ?_
      refine wpAny_bind (wpAny_runValue ?_)
      have nh : A.in1.in1.in1.handled = none := by simp [hh]
      have ne1 : l ≠ (s.heap.push (newSet w)).objs.size := by rw [sz]; exact Nat.ne_of_lt (Nat.lt_succ_of_lt lt1)
      have out : s.heap.objs.size ∉ [(s.heap.push (newSet w)).objs.size, l] := by
        rw [sz]
        intro z
        rcases List.mem_cons.mp z with z | z
        · exact absurd z (Nat.ne_of_lt (Nat.lt_succ_self _))
        · exact absurd (List.mem_singleton.mp z).symm (Nat.ne_of_lt lt1)
      refine adds_run ((Walks.tuple nh _ l ne1 items).toS) out (none_above (Nat.le_refl _)) (fun b hb => none_above (by rw [List.mem_singleton.mp hb, sz]; exact Nat.le_succ _)) st ?_ items.size 0 _ (Nat.zero_add _)
        ⟨⟨_, Heap.get?_push_size _ rfl, rfl, rfl⟩, isl.push _⟩ (fun b o e => Heap.get?_push_of_some _ (Heap.get?_push_of_some _ e)) (beg _ (Heap.get?_push_of_some _ gS)) ?_
      · intro i v A' E' s' Q' hv hu
        exact ok i v A' E' s' Q' hv (Nat.le_trans hu (by simp only [Around.in1_units]; omega))
      · intro s3 mv iv kp
        have e3 : s3 = { s with heap := s3.heap, toks := s3.toks } := by
          have a1 := mv.gens
          have a2 := mv.drawn
          have a3 := mv.os
          obtain ⟨b1, b2, b3, b4, b5⟩ := s3
          simp only at a1 a2 a3
          subst a1 a2 a3
          rfl
        show wpAny _ _ _ _ _ _
        refine wpAny_pure ?_
        show wpAny _ _ (ret Value.none) _ _ _
        exact wpAny_pure ⟨rfl, s3.heap, s3.toks, e3, iv, kp⟩
    · match r2, hr2 with
      | .error _, hr2 => exact hr2
      | .ok (.ret _), ⟨e1, h2, tk, e2, iv, kp⟩ =>
        subst e1 e2
        repeat (any_goals (first | assumption | wp_step))
        exact fin h2 tk iv kp
end
end MG

set_option Elab.async false
set_option linter.all false
set_option maxRecDepth 100000
set_option maxHeartbeats 4000000
/-! MgSetB: set(xs), xs a list of texts. -/
namespace MG
open PySem PySem.Spec PyProof.Rows L2
open PySem.Froz (SD sObj addTx tailTx TxOk)

theorem tailTx_ris (ep : Nat) (es : Array (Int × Value)) (t : SetTable) (wd : Bool) (r : Ris t.place.toList) : Ris (tailTx ep es t wd).2.2.place.toList := by
  unfold tailTx
  split
  · exact relayAll_ris _ _ _
  · exact r
theorem tailTx_led (ep : Nat) (es : Array (Int × Value)) (t : SetTable) (wd : Bool) : (tailTx ep es t wd).2.2.led = t.led := by
  unfold tailTx
  split
  · exact relayAll_led _ _ _
  · rfl
theorem addTx_ris (h : Int) (v : Value) (D : SD) (r : Ris D.2.2.place.toList) : Ris (addTx h v D).2.2.place.toList := by
  have q := layNew_ris D.2.2 D.1 h v r
  unfold addTx
  refine tailTx_ris _ _ _ _ ?_
  split
  · exact q
  · exact q
theorem addTx_led (h : Int) (v : Value) (D : SD) : (addTx h v D).2.2.led = D.2.2.led := by
  have q := layNew_led D.2.2 D.1 h v
  unfold addTx
  rw [tailTx_led]
  split
  · exact q
  · exact q
section
variable {P : Program} {w : World} {A : Around} {E : Value → Shared → Prop} {s : Shared}
/-- a text that is there already -/
theorem add_again {a : Addr} {T : String} {D : SD} {l : List Str} {k : Str} {u : Tok} {Q : Bool → Shared → Prop} (ho : s.heap.get? a = some (sObj T D)) (G : TxOk P w D l) (hk : k ∈ l) (hb : l.length < scanBound) (h : Q false s) :
    wpAny (model P w) A (setAddHashed a (.str k u) (hashStr w k)) Q E s := by
  have hkey := Froz.is_str (P := P) (w := w) k u
  have hsz : D.1.size < scanBound := by rw [G.sz]; exact hb
  obtain ⟨e, he, pe⟩ := (G.mem k).mp hk
  cases hf : List.findIdx? (fun e => (strKind P w).is k e.2) D.1.toList with
  | none => exact absurd pe (by rw [List.findIdx?_eq_none_iff.mp hf e he]; decide)
  | some j =>
    unfold setAddHashed setAddHashedIn
    refine wpAny_holding (wpAny_bind (wpAny_setState_of (es := D.1) (ep := D.2.1) (t := D.2.2) ho rfl G.fit ?_))
    dsimp only
    rw [byScan_of rfl hsz G.el, if_pos rfl]
    unfold setAddByScan
    refine wpAny_bind (wpAny_bind (wpAny_rule (wpAny_bind (wpAny_setScan_of hkey ho rfl G.fit G.el ?_))))
    rw [hf]
    exact wpAny_pure (wpAny_pure h)
/-- what the set holds behind i items -/
def TxIv (P : Program) (w : World) (S : Addr) (ks : List Str) (i : Nat) (h : Heap) : Prop := ∃ (D : SD) (l : List Str), h.get? S = some (sObj "set" D) ∧ TxOk P w D l ∧ l.Nodup ∧ Ris D.2.2.place.toList ∧ (w.params.followText "set-order" = true ∨ D.2.2.led = true) ∧ ∀ k, k ∈ l ↔ k ∈ ks.take i
theorem take_up {α : Type} {l : List α} {i : Nat} {x : α} (h : l[i]? = some x) (y : α) : y ∈ l.take (i + 1) ↔ y = x ∨ y ∈ l.take i := by
  rw [take_next h, List.mem_append, List.mem_singleton]
  exact Or.comm
theorem tx_adds {S : Addr} {h0 : Heap} {items : Array Value} {ks : List Str} {n : Nat} (hv : ∀ (i : Nat) (v : Value), items[i]? = some v → ∃ k u, ks[i]? = some k ∧ v = Value.str k u) (few : ∀ l : List Str, l.Nodup → (∀ k ∈ l, k ∈ ks) → l.length < 64) :
    AddsOk P w n S h0 items (TxIv P w S ks) := by
  intro i v A E s Q hi _ _ iv h
  obtain ⟨k, u, hk, rfl⟩ := hv i v hi
  obtain ⟨D, l, ho, G, nd, ri, ld, mem⟩ := iv
  have sub : ∀ x ∈ l, x ∈ ks := fun x hx => List.mem_of_mem_take ((mem x).mp hx)
  have hl := few l nd sub
  unfold setAdd
  refine wpAny_holding (wpAny_bind ((strKind P w).pyHash (Froz.is_str (P := P) (w := w) k u) ?_))
  by_cases c : k ∈ l
  · refine add_again (s := { s with toks := s.toks + 1 }) ho G c (Nat.lt_trans hl (by decide)) (h false s.heap _ (Heap.SameBut.refl S s.heap) (Nat.le_succ _) ⟨D, l, ho, G, nd, ri, ld, fun x => ?_⟩)
    rw [take_up hk, mem x]
    exact ⟨.inr, fun z => z.elim (fun e => by rw [e]; exact (mem k).mp c) id⟩
  · have nd2 : (k :: l).Nodup := List.nodup_cons.mpr ⟨c, nd⟩
    refine Froz.add_x (s := { s with toks := s.toks + 1 }) ho G c (Nat.lt_of_lt_of_le (Nat.succ_lt_succ hl) (by decide)) (h true _ _ (Heap.SameBut.update ..) (Nat.le_succ _) ⟨_, k :: l, Froz.get_upd _ ho rfl, Froz.add_ok u G, nd2, addTx_ris _ _ _ ri, ld.imp id fun z => by rw [addTx_led]; exact z, fun x => ?_⟩)
    rw [take_up hk, List.mem_cons, mem x]
theorem tx_beg {S : Addr} {ks : List Str} {h : Heap} (e : h.get? S = some (newSet w)) : TxIv P w S ks 0 h :=
  ⟨(#[], 0, .fresh 0 0 (!w.params.followText "set-order")), [], e, Froz.TxOk.nil (by rfl), List.nodup_nil, List.Pairwise.nil, by
    show _ ∨ (!w.params.followText "set-order") = true
    cases w.params.followText "set-order" <;> simp, fun k => by simp⟩
theorem tx_steady {S : Addr} {ks : List Str} {h0 : Heap} : Steady S h0 (TxIv P w S ks) := fun i h h' k _ _ ⟨D, l, ho, r⟩ => ⟨D, l, k _ ho, r⟩
end

/-! ### tuples of texts -/
section
variable {P : Program} {w : World}

def xh (P : Program) (w : World) (k : List Str) : Int := tupleKeyHash (strKind P w) k
def IsX (P : Program) (w : World) (h : Heap) (k : List Str) (a : Addr) : Prop := IsTupleKey (strKind P w) h k a
variable {A : Around} {E : Value → Shared → Prop} {s : Shared}
theorem texts_in {k : List Str} {vs : List Value} (h : ItemsAre (strKind P w) k vs) : ∀ v ∈ vs, ∃ x u, v = Value.str x u := by
  induction h with
  | nil => simp
  | @cons k v ks vs h1 _ ih =>
    intro y hy
    rcases List.mem_cons.mp hy with e | hy
    · subst e
      cases y <;> first | exact ⟨_, _, rfl⟩ | exact absurd (show false = true from h1) (by decide)
    · exact ih y hy
theorem ask_class {k : List Str} {b : Addr} {Q : Bool → Shared → Prop} (hk : IsX P w s.heap k b) (h : Q false s) : wpAny (model P w) A (ofAClassStatement 8 (.ref b)) Q E s := by
  have ty : s.TypeIs (.ref b) "tuple" := IsTupleKey.typeIs hk
  obtain ⟨o, its, n, go, _, dd, it⟩ := hk
  unfold ofAClassStatement
  refine wpAny_bind (wpAny_typeOf ty ?_)
  dsimp only
  rw [if_pos (show (("tuple" : String) == "tuple") = true by decide)]
  refine wpAny_bind (wpAny_pure ?_)
  rw [if_neg (by decide)]
  try refine wpAny_bind (wpAny_pure ?_)
  show wpAny _ _ (seqItems? (.ref b) >>= _) _ _ s
  refine wpAny_bind (wpAny_seqItems go dd ?_)
  dsimp only
  refine wpAny_bind ?_
  show wpAny _ _ (forIn its _ _) _ _ s
  rw [← Array.forIn_toList]
  refine wpAny_forIn_list _ (fun rest r s1 => r.1 = none ∧ s1 = s ∧ ∀ v ∈ rest, ∃ x u, v = Value.str x u) _ ?_ ?_ _ _ ⟨rfl, rfl, texts_in it⟩
  · intro v rest r s1 ⟨h1, h2, h3⟩
    obtain ⟨x, u, rfl⟩ := h3 v List.mem_cons_self
    refine wpAny_bind (wpAny_pure ?_)
    exact wpAny_pure ⟨rfl, h2, fun y hy => h3 y (List.mem_cons_of_mem _ hy)⟩
  · intro r s1 ⟨h1, h2, _⟩
    obtain ⟨r1, r2⟩ := r
    simp only at h1
    subst h1 h2
    exact wpAny_pure h
theorem ask_hash {k : List Str} {b : Addr} {Q : Bool → Shared → Prop} (hk : IsX P w s.heap k b) (h : ∀ r, Q r s) : wpAny (model P w) A (hashByValue 8 (.ref b)) Q E s := by
  have ty : s.TypeIs (.ref b) "tuple" := IsTupleKey.typeIs hk
  obtain ⟨o, its, n, go, _, dd, it⟩ := hk
  unfold hashByValue
  refine wpAny_bind (wpAny_specialOf ty PySem.F.slot_tuple_hash.lookup ?_)
  show wpAny _ _ (seqItems? (.ref b) >>= _) _ _ s
  refine wpAny_bind (wpAny_seqItems go dd (wpAny_bind ?_))
  show wpAny _ _ (forIn its _ _) _ _ s
  rw [← Array.forIn_toList]
  cases e : its.toList with
  | nil =>
    rw [List.forIn_nil]
    exact wpAny_pure (wpAny_pure (h true))
  | cons v rest =>
    obtain ⟨x, u, rfl⟩ := texts_in it v (by rw [e]; exact List.mem_cons_self)
    rw [List.forIn_cons]
    refine wpAny_bind (wpAny_bind (wpAny_pure ?_))
    refine wpAny_pure ?_
    exact wpAny_pure (show wpAny _ _ (pure false) _ _ _ from wpAny_pure (h false))
end
end MG

set_option Elab.async false
set_option linter.all false
set_option maxRecDepth 100000
set_option maxHeartbeats 4000000
/-! MgSetC: set(xs), xs a list of tuples of texts. -/
namespace MG
open PySem PySem.Spec PyProof.Rows L2
section
variable {P : Program} {w : World}
abbrev KX := List (Addr × List Str)
def rowX (P : Program) (w : World) (L : KX) : List (Int × Value) := L.map fun p => (xh P w p.2, .ref p.1)
def hashX (P : Program) (w : World) (L : KX) : List Int := L.map fun p => xh P w p.2
structure XS (P : Program) (w : World) (h : Heap) (a : Addr) (L : KX) (es : Array (Int × Value)) (ep : Nat) (t : SetTable) : Prop where
  ob : h.get? a = some (Froz.sObj "set" (es, ep, t))
  rows : es.toList = rowX P w L
  tab : TabOk t (hashX P w L)
  nd : (L.map Prod.snd).Nodup
  tup : ∀ p ∈ L, IsX P w h p.2 p.1
  led : w.params.followText "set-order" = true ∨ t.led = true
  room : L.length * 5 < t.mask * 3
  few : L.length < 64
theorem rowX_len (L : KX) : (rowX P w L).length = L.length := List.length_map ..
theorem hashX_len (L : KX) : (hashX P w L).length = L.length := List.length_map ..
theorem rowX_at {L : KX} {es : Array (Int × Value)} (e : es.toList = rowX P w L) {i : Nat} {p : Addr × List Str} (h : L[i]? = some p) : es[i]? = some (xh P w p.2, .ref p.1) := by
  rw [← Array.getElem?_toList, e, rowX, List.getElem?_map, h]; rfl
theorem hashX_at {L : KX} {i : Nat} {p : Addr × List Str} (h : L[i]? = some p) : (hashX P w L)[i]? = some (xh P w p.2) := by
  rw [hashX, List.getElem?_map, h]; rfl
variable {A : Around} {E : Value → Shared → Prop} {s : Shared} {a : Addr} {L : KX} {es : Array (Int × Value)} {ep : Nat} {t : SetTable}
theorem XS.size (R : XS P w s.heap a L es ep t) : es.size = L.length := by rw [← Array.length_toList, R.rows, rowX_len]
theorem XS.psize (R : XS P w s.heap a L es ep t) : t.place.toList.length = L.length := by rw [Array.length_toList, R.tab.sz, hashX_len]
theorem XS.fit (R : XS P w s.heap a L es ep t) : t.fits es.size = true := by
  have a1 := R.tab.sz
  rw [hashX_len] at a1
  have a2 := R.room
  unfold SetTable.fits SetTable.fill
  rw [R.tab.dm, R.size, a1]
  simp
  omega
theorem XS.solid (R : XS P w s.heap a L es ep t) : t.gaveWay = false := by
  unfold SetTable.gaveWay
  rw [mask_odd R.tab.mok]; rfl
/-- nothing is seen of a search among such tuples -/
theorem unseen {k : List Str} {b : Addr} {Q : Bool → Shared → Prop} (hb : IsX P w s.heap k b) {ys : List Value} (hy : ∀ y ∈ ys, ∃ k' c, y = Value.ref c ∧ IsX P w s.heap k' c) (h : Q false s) : wpAny (model P w) A (searchCouldBeSeen (.ref b) ys) Q E s := by
  unfold searchCouldBeSeen
  refine wpAny_bind (wpAny_forIn_list _ (fun rest r s1 => r.1 = none ∧ s1 = s ∧ ∀ y ∈ rest, y ∈ ys) _ (fun y rest r s1 ⟨h1, h2, h3⟩ => ?_) (fun r s1 ⟨h1, h2, _⟩ => ?_) _ _ ⟨rfl, rfl, fun y z => z⟩)
  · subst h2
    obtain ⟨k', c, rfl, hc⟩ := hy y (h3 y List.mem_cons_self)
    have on : ∀ y ∈ rest, y ∈ ys := fun y z => h3 y (List.mem_cons_of_mem _ z)
    dsimp only
    by_cases g : (b == c || (carriedByValue (.ref b) && carriedByValue (.ref c))) = true
    · exact wp_if_pos g (wpAny_pure ⟨rfl, rfl, on⟩)
    · refine wp_if_neg g (wpAny_bind (wpAny_eqIsQuiet_tuple hb (wp_if_neg (by decide) ?_)))
      refine wpAny_bind (wpAny_eqIsQuiet_tuple hc (wp_if_neg (by decide) ?_))
      refine wpAny_bind (ask_class hb (wp_if_neg (by decide) ?_))
      refine wpAny_bind (ask_class hc (wp_if_neg (by decide) ?_))
      exact wpAny_pure ⟨rfl, rfl, on⟩
  · obtain ⟨r1, r2⟩ := r
    simp only at h1
    subst h1 h2
    exact wpAny_pure h
abbrev stepAt (m : Nat) (hv : Int) (c : Nat) : SetTable.Probe := nth m (runAt m (SetTable.bits hv % (m + 1)) (SetTable.bits hv)) c
theorem adv_dummy (m : Nat) (p : SetTable.Probe) : (adv m p).dummy = p.dummy := by unfold adv; split <;> rfl
theorem nth_dummy (m : Nat) : ∀ (n : Nat) (p : SetTable.Probe), (nth m p n).dummy = p.dummy
  | 0, _ => rfl
  | n + 1, p => (nth_dummy m n (adv m p)).trans (adv_dummy m p)
/-- what the probe finds from the c-th step on: an item of that hash, or the first empty slot -/
theorem XS.probe (R : XS P w s.heap a L es ep t) {hv : Int} {K c : Nat} (hc : c ≤ K) (hf : K < 10 * SetTable.turns t.mask) (hK : way t.mask hv K ∉ t.place.toList) (hb : ∀ q, q < K → way t.mask hv q ∈ t.place.toList) :
    (∃ (q i : Nat) (p : Addr × List Str), c ≤ q ∧ q < K ∧ L[i]? = some p ∧ xh P w p.2 = hv ∧ t.place.toList[i]? = some (way t.mask hv q) ∧ (∀ (q' i' : Nat) (p' : Addr × List Str), c ≤ q' → q' < q → L[i']? = some p' → t.place.toList[i']? = some (way t.mask hv q') → xh P w p'.2 ≠ hv) ∧
      t.probe (fun i => (es[i]?.map (·.1)).getD 0) hv (stepAt t.mask hv c) = some (.candidate (way t.mask hv q) i (stepAt t.mask hv (q + 1)))) ∨
    ((∀ (q' i' : Nat) (p' : Addr × List Str), c ≤ q' → q' < K → L[i']? = some p' → t.place.toList[i']? = some (way t.mask hv q') → xh P w p'.2 ≠ hv) ∧ t.probe (fun i => (es[i]?.map (·.1)).getD 0) hv (stepAt t.mask hv c) = some (.empty (way t.mask hv K) none)) := by
  have at_ : ∀ q, (nth t.mask (stepAt t.mask hv c) q) = stepAt t.mask hv (c + q) := fun q => (nth_add t.mask c _ q).symm
  have hsh : ∀ (i : Nat) p, L[i]? = some p → (fun i => (es[i]?.map (·.1)).getD 0) i = xh P w p.2 := fun i p e => by
    show (es[i]?.map (·.1)).getD 0 = _
    rw [rowX_at R.rows e]; rfl
  have eK : c + (K - c) = K := by omega
  rcases go_spec t R.tab.ris R.tab.dm (fun i => (es[i]?.map (·.1)).getD 0) hv (10 * SetTable.turns t.mask) (K - c) (stepAt t.mask hv c) (nth_dummy _ _ _) (by omega) (fun q z => by rw [at_]; exact hb _ (by omega)) (by rw [at_, eK]; exact hK) with ⟨q, i, z1, z2, z3, z4, z5⟩ | ⟨z1, z2⟩
  · rw [at_] at z2
    have hi : i < L.length := by rw [← R.psize]; exact (List.getElem?_eq_some_iff.mp z2).1
    refine .inl ⟨c + q, i, L[i], by omega, by omega, List.getElem?_eq_getElem hi, ?_, z2, fun q' i' p' y1 y2 y3 y4 => ?_, ?_⟩
    · rw [← hsh i _ (List.getElem?_eq_getElem hi)]; exact z3
    · rw [← hsh i' p' y3]
      refine z4 (q' - c) i' (by omega) ?_
      rw [at_, show c + (q' - c) = q' by omega]
      exact y4
    · rw [at_, at_] at z5
      exact z5
  · refine .inr ⟨fun q' i' p' y1 y2 y3 y4 => ?_, ?_⟩
    · rw [← hsh i' p' y3]
      refine z1 (q' - c) i' (by omega) ?_
      rw [at_, show c + (q' - c) = q' by omega]
      exact y4
    · rw [at_, eK] at z2
      exact z2
/-- the search for an adding, from the c-th step on -/
theorem XS.seek (R : XS P w s.heap a L es ep t) {x : Addr} {k : List Str} (hx : IsX P w s.heap k x) (hu : A.units < cLine) {K : Nat} (hf : K < 10 * SetTable.turns t.mask) (hK : way t.mask (xh P w k) K ∉ t.place.toList) (hb : ∀ q, q < K → way t.mask (xh P w k) q ∈ t.place.toList)
    {Q : SetFound → Shared → Prop} (yes : k ∈ L.map Prod.snd → Q (.there none) s) (no : k ∉ L.map Prod.snd → Q (.free (way t.mask (xh P w k) K) false) s) :
    ∀ (f c : Nat) (stand : Option SetTable.Probe), stand.getD (t.probeStart (xh P w k)) = stepAt t.mask (xh P w k) c → c ≤ K → K < c + f →
      (∀ (i : Nat) p, L[i]? = some p → p.2 = k → ∃ q, c ≤ q ∧ q < K ∧ t.place.toList[i]? = some (way t.mask (xh P w k) q)) → wpAny (model P w) A (setSearchFrom a (.ref x) (xh P w k) true f stand) Q E s := by
  intro f
  induction f with
  | zero => intro c stand _ h1 h2 _; omega
  | succ f ih =>
    intro c stand es0 h1 h2 left
    have state : ∀ {Q : Array (Int × Value) × Nat × SetTable → Shared → Prop}, Q (es, ep, t) s → wpAny (model P w) A (setState a) Q E s := fun q => wpAny_setState_of R.ob rfl R.fit q
    rw [setSearchFrom_succ]
    refine wpAny_bind (state ?_)
    dsimp only
    refine wp_if_neg (by rw [R.solid]; decide) ?_
    try refine wpAny_bind (wpAny_pure ?_)
    rw [es0]
    rcases R.probe h1 hf hK hb with ⟨q, i, p, z1, z2, z3, z4, z5, z6, z7⟩ | ⟨z1, z2⟩
    · rw [z7]
      dsimp only
      have pin : p ∈ L := List.mem_of_getElem? z3
      have sl : t.slot (way t.mask (xh P w k) q) = .live i := slot_live R.tab.ris z5
      have go : wpAny (model P w) A (searchRest a (.ref x) (xh P w k) true f es t (way t.mask (xh P w k) q) i (stepAt t.mask (xh P w k) (q + 1))) Q E s := by
        unfold searchRest
        rw [rowX_at R.rows z3]
        dsimp only
        refine wpAny_bind (wpAny_holding (wpAny_eqBool_tuple hu (R.tup p pin) hx (wpAny_bind (state ?_))))
        dsimp only
        by_cases e : p.2 = k
        · exact wp_if_pos (by simp [e]) (wpAny_pure (yes (List.mem_map.mpr ⟨p, pin, e⟩)))
        · refine wp_if_neg (by simp [e]) ?_
          try refine wpAny_bind (wpAny_pure ?_)
          rw [sameMem]
          simp only [if_true, sl, rowX_at R.rows z3]
          refine wpAny_bind (wpAny_isSame_ref_self (wpAny_bind (wpAny_pure ?_)))
          simp only [if_true]
          refine wp_if_neg (by simp [e]) (ih (q + 1) _ rfl (by omega) (by omega) fun i' p' y1 y2 => ?_)
          obtain ⟨q', x1, x2, x3⟩ := left i' p' y1 y2
          refine ⟨q', ?_, x2, x3⟩
          rcases Nat.lt_trichotomy q' q with o | o | o
          · exact absurd (by rw [y2]) (z6 q' i' p' x1 o y1 x3)
          · subst o
            have w1 := slot_live R.tab.ris x3
            rw [sl] at w1
            injection w1 with w1
            subst w1
            rw [z3] at y1
            cases y1
            exact absurd y2 e
          · exact o
      cases led : t.led with
      | true =>
        simp only [Bool.not_true, Bool.false_eq_true, if_false]
        try refine wpAny_bind (wpAny_pure ?_)
        exact go
      | false =>
        simp only [Bool.not_false, if_true]
        refine wpAny_bind (unseen hx (fun y hy => ?_) ?_)
        · obtain ⟨e, he, ee⟩ := List.mem_map.mp hy
          have he2 : e ∈ es.toList := by
            have := (show e ∈ es ∧ _ by simpa using he).1
            simpa using this
          rw [R.rows] at he2
          obtain ⟨p2, m2, e2⟩ := List.mem_map.mp he2
          exact ⟨p2.2, p2.1, by rw [← ee, ← e2], R.tup p2 m2⟩
        · refine wp_if_neg (by decide) ?_
          try refine wpAny_bind (wpAny_pure ?_)
          exact go
    · rw [z2]
      dsimp only
      refine wpAny_pure (no fun m => ?_)
      obtain ⟨p, pin, e⟩ := List.mem_map.mp m
      obtain ⟨i, hi, ei⟩ := List.getElem_of_mem pin
      have gi : L[i]? = some p := by rw [List.getElem?_eq_getElem hi, ei]
      obtain ⟨q', x1, x2, x3⟩ := left i p gi e
      exact z1 q' i p x1 x2 gi x3 (by rw [e])
theorem XS.search (R : XS P w s.heap a L es ep t) {x : Addr} {k : List Str} (hx : IsX P w s.heap k x) (hu : A.units < cLine) {Q : SetFound → Shared → Prop} (yes : k ∈ L.map Prod.snd → Q (.there none) s)
    (no : ∀ K, k ∉ L.map Prod.snd → way t.mask (xh P w k) K ∉ t.place.toList → (∀ q, q < K → way t.mask (xh P w k) q ∈ t.place.toList) → Q (.free (way t.mask (xh P w k) K) false) s) : wpAny (model P w) A (setSearch a (.ref x) (xh P w k) true) Q E s := by
  have r := R.room
  obtain ⟨K, h1, h2, h3⟩ := R.tab.first (by rw [hashX_len]; omega) (xh P w k)
  have small : 10 * SetTable.turns t.mask ≤ 1420 := by
    unfold SetTable.turns
    rcases R.tab.mok with e | e | e <;> omega
  unfold setSearch
  refine R.seek hx hu h1 h2 h3 yes (fun n => no K n h2 h3) 100000 0 none rfl (Nat.zero_le _) (by omega) fun i p gi e => ?_
  have hi : i < t.place.toList.length := by rw [R.psize]; exact (List.getElem?_eq_some_iff.mp gi).1
  have gh : (hashX P w L)[i]? = some (xh P w k) := by rw [hashX_at gi, e]
  obtain ⟨q, x1, x2⟩ := R.tab.before h2 gh (List.getElem?_eq_getElem hi)
  exact ⟨q, Nat.zero_le _, x1, by rw [List.getElem?_eq_getElem hi, x2]⟩
end
end MG

set_option Elab.async false
set_option linter.all false
set_option maxRecDepth 100000
set_option maxHeartbeats 4000000
/-! MgSetD: a tuple of texts goes into a set. -/
namespace MG
open PySem PySem.Spec PyProof.Rows L2
section
variable {P : Program} {w : World} {A : Around} {E : Value → Shared → Prop} {s : Shared} {a : Addr} {L : KX} {es : Array (Int × Value)} {ep : Nat} {t : SetTable}
theorem keep_other {h h' : Heap} {k : List Str} {b : Addr} {D : Froz.SD} (x : IsX P w h k b) (ho : h.get? a = some (Froz.sObj "set" D)) (sb : Heap.SameBut a h h') : IsX P w h' k b := by
  obtain ⟨o, its, n, g, cl, dd, it⟩ := x
  refine ⟨o, its, n, (sb.2 b fun z => ?_).trans g, cl, dd, it⟩
  subst z
  rw [ho] at g
  cases g
  cases dd
theorem IsX.up {h h' : Heap} {k : List Str} {b : Addr} (x : IsX P w h k b) (kp : Kept h h') : IsX P w h' k b := by
  obtain ⟨o, its, n, g, r⟩ := x
  exact ⟨o, its, n, kp _ _ g, r⟩
/-- the rows of a list in another order -/
theorem pick_rows {L : KX} {es : Array (Int × Value)} (e : es.toList = rowX P w L) : ∀ l : List Nat, (∀ i ∈ l, i < L.length) → ∃ M : KX, l.filterMap (fun i => es[i]?) = rowX P w M ∧ l.filterMap (fun i => L[i]?) = M ∧ hashX P w M = l.map fun i => (es.map Prod.fst).getD i 0
  | [], _ => ⟨[], rfl, rfl, rfl⟩
  | i :: l, h => by
    have hi := h i List.mem_cons_self
    have g := List.getElem?_eq_getElem hi
    have ge := rowX_at e g
    obtain ⟨M, h1, h2, h3⟩ := pick_rows e l fun j z => h j (List.mem_cons_of_mem _ z)
    refine ⟨L[i] :: M, ?_, ?_, ?_⟩
    · rw [List.filterMap_cons_some ge, h1]; rfl
    · rw [List.filterMap_cons_some g, h2]
    · have e2 : (es.map Prod.fst).getD i 0 = xh P w (L[i]).2 := by
        rw [Array.getD_eq_getD_getElem?, Array.getElem?_map, ge]; rfl
      rw [List.map_cons, ← h3, e2]; rfl
theorem range_pick {α : Type} (l : List α) : ∀ n, n ≤ l.length → (List.range n).filterMap (fun i => l[i]?) = l.take n
  | 0, _ => rfl
  | n + 1, h => by
    have g := List.getElem?_eq_getElem h
    rw [List.range_succ, List.filterMap_append, range_pick l n (Nat.le_of_lt h), List.filterMap_cons_some g, take_next g]; rfl
theorem relay_x {wanted M : Nat} (ho : s.heap.get? a = some (Froz.sObj "set" (es, ep, t))) (rows : es.toList = rowX P w L) (tab : TabOk t (hashX P w L)) (nd : (L.map Prod.snd).Nodup) (tup : ∀ p ∈ L, IsX P w s.heap p.2 p.1) (led : w.params.followText "set-order" = true ∨ t.led = true)
    (few : L.length < 64) (fit : L.length ≤ t.mask) (e1 : SetTable.sizeAbove wanted - 1 = M) (e2 : MaskOk M) (e3 : SetTable.sizeAbove wanted ≤ 128) (e4 : L.length * 5 < M * 3) {Q : Unit → Shared → Prop}
    (fin : ∀ h' L' es' ep' t', Heap.SameBut a s.heap h' → XS P w h' a L' es' ep' t' → L'.Perm L → Q () { s with heap := h' }) : wpAny (model P w) A (setRelay a wanted) Q E s := by
  have sz : es.size = L.length := by rw [← Array.length_toList, rows, rowX_len]
  have ps := tab.sz
  rw [hashX_len] at ps
  have fits : t.fits es.size = true := by
    unfold SetTable.fits SetTable.fill
    rw [tab.dm, sz, ps]
    simp
    omega
  obtain ⟨t', ord, q1, q2, q3, q4, q5, -, q7⟩ := relaid_ok t (hs := es.map (·.1)) e1 e2 (by rw [Array.size_map, sz]; omega)
  rw [Array.size_map, sz] at q2
  obtain ⟨L2, r1, r2, r3⟩ := pick_rows rows ord.toList fun i z => List.mem_range.mp (q2.mem_iff.mp z)
  have pm : L2.Perm L := by
    rw [← r2]
    exact (q2.filterMap _).trans (by rw [range_pick L L.length (Nat.le_refl _), List.take_length])
  have r1' : (ord.filterMap (es[·]?)).toList = rowX P w L2 := by rw [Array.toList_filterMap]; exact r1
  have sz2 : (ord.filterMap (es[·]?)).size = es.size := by rw [← Array.length_toList, r1', rowX_len, pm.length_eq, sz]
  rw [← r3] at q3
  rw [setRelay_eq]
  refine wpAny_bind (wpAny_setState_of ho rfl fits ?_)
  dsimp only
  refine wp_if_neg (by rw [sizeLine_eq]; omega) ?_
  try refine wpAny_bind (wpAny_pure ?_)
  rw [q1]
  dsimp only
  refine wpAny_bind (wp_if_neg (by rw [sz2]; simp) ?_)
  try refine wpAny_bind (wpAny_pure ?_)
  refine wpAny_pure ?_
  dsimp only
  refine wpAny_storeSet_of ho rfl ?_ (by rw [sz2, sz, sizeLine_eq]; omega)
  have sb : Heap.SameBut a s.heap (s.heap.update a (Obj.putSet (ord.filterMap (es[·]?)) t')) := Heap.SameBut.update ..
  exact fin _ L2 _ (ep + 1) t' sb ⟨store_at ho rfl, r1', q3, (pm.map Prod.snd).nodup_iff.mpr nd, fun p z => keep_other (tup p (pm.mem_iff.mp z)) ho sb, by rw [q5]; exact led, by rw [pm.length_eq, q4]; exact e4, by rw [pm.length_eq]; exact few⟩ pm
/-- the new item in its place -/
theorem XS.add (R : XS P w s.heap a L es ep t) {x : Addr} {k : List Str} (hx : IsX P w s.heap k x) (hu : A.units < cLine) (few : k ∉ L.map Prod.snd → L.length + 1 < 64) {Q : Bool → Shared → Prop}
    (fin : ∀ b h' L' es' ep' t', Heap.SameBut a s.heap h' → XS P w h' a L' es' ep' t' → (k ∈ L.map Prod.snd ∧ L' = L ∨ k ∉ L.map Prod.snd ∧ L'.Perm ((x, k) :: L)) → Q b { s with heap := h' }) : wpAny (model P w) A (setAddHashed a (.ref x) (xh P w k)) Q E s := by
  have sz := R.size
  have room := R.room
  unfold setAddHashed
  refine wpAny_holding ?_
  rw [show (100000 : Nat) = 99999 + 1 from rfl, setAddHashedIn_succ]
  refine wpAny_bind (wpAny_setState_of R.ob rfl R.fit ?_)
  dsimp only
  refine wp_if_neg (by simp [byScan, Value.scannable]) ?_
  try refine wpAny_bind (wpAny_pure ?_)
  refine wpAny_bind (R.search hx hu (fun m => ?_) fun K m hK hb => ?_)
  · exact wpAny_pure (fin false s.heap L es ep t (Heap.SameBut.refl a s.heap) R (.inl ⟨m, rfl⟩))
  have few1 := few m
  dsimp only
  refine wpAny_bind (wpAny_setState_of R.ob rfl R.fit ?_)
  dsimp only
  obtain ⟨p1, p2, p3, p4, p5, -, -, -, p9⟩ := R.tab.put hK hb
  generalize t.put (way t.mask (xh P w k) K) = pt at p1 p3 p4 p5 p9 ⊢
  obtain ⟨t1, j⟩ := pt
  dsimp only at p1 p3 p4 p5 p9 ⊢
  rw [← p1] at p2 p3
  clear p1
  rw [hashX_len] at p9
  have insd : (SetTable.insertAt es j (xh P w k, Value.ref x)).toList = rowX P w (L.take j ++ (x, k) :: L.drop j) := by
    rw [SetTable.toList_insertAt, R.rows, rowX, rowX, List.map_append, List.map_cons, List.map_take, List.map_drop]
  have insh : hashX P w (L.take j ++ (x, k) :: L.drop j) = (hashX P w L).take j ++ xh P w k :: (hashX P w L).drop j := by
    rw [hashX, hashX, List.map_append, List.map_cons, List.map_take, List.map_drop]
  rw [← insh] at p3
  have pm : (L.take j ++ (x, k) :: L.drop j).Perm ((x, k) :: L) := by
    have := List.perm_middle (a := (x, k)) (l₁ := L.take j) (l₂ := L.drop j)
    rw [List.take_append_drop] at this
    exact this
  generalize L.take j ++ (x, k) :: L.drop j = L1 at insd p3 pm insh
  have len1 : L1.length = L.length + 1 := pm.length_eq
  have sz1 : (SetTable.insertAt es j (xh P w k, Value.ref x)).size = L.length + 1 := by rw [← Array.length_toList, insd, rowX_len, len1]
  generalize SetTable.insertAt es j (xh P w k, Value.ref x) = es1 at insd sz1 ⊢
  have nd1 : (L1.map Prod.snd).Nodup := (pm.map Prod.snd).nodup_iff.mpr (List.nodup_cons.mpr ⟨m, R.nd⟩)
  -- whatever is said of the new item's hash, the table is as good
  have main : ∀ t2 : SetTable, t2.place = t1.place → t2.dummies = t1.dummies → t2.mask = t1.mask → t2.led = t1.led → wpAny (model P w) A (do
      storeSet a es1 t2
      if !false && t2.tooFull then setRelay a (SetTable.grown (es.size + 1))
      return true) Q E s := by
    intro t2 f1 f2 f3 f4
    have tab2 : TabOk t2 (hashX P w L1) := ⟨by rw [f1]; exact p3.ris, by rw [f2]; exact p3.dm, by rw [f1]; exact p3.sz, by rw [f3]; exact p3.mok, by rw [f1, f3]; exact p3.bd, by rw [f1, f3]; exact p3.reach⟩
    have fill2 : t2.fill = L.length + 1 := by
      rw [← p9]
      unfold SetTable.fill
      rw [f1, f2]
    have full2 : t2.tooFull = decide ((L.length + 1) * 5 ≥ t.mask * 3) := by
      unfold SetTable.tooFull
      rw [fill2, f3, p4]
    have led2 : w.params.followText "set-order" = true ∨ t2.led = true := by rw [f4, p5]; exact R.led
    refine wpAny_bind (wpAny_storeSet_of R.ob rfl ?_ (by rw [sz1, sizeLine_eq]; omega))
    have sb : Heap.SameBut a s.heap (s.heap.update a (Obj.putSet es1 t2)) := Heap.SameBut.update ..
    have ob1 : (s.heap.update a (Obj.putSet es1 t2)).get? a = some (Froz.sObj "set" (es1, ep + 1, t2)) := store_at R.ob rfl
    have tup1 : ∀ p ∈ L1, IsX P w (s.heap.update a (Obj.putSet es1 t2)) p.2 p.1 := fun p z => by
      rcases List.mem_cons.mp (pm.mem_iff.mp z) with z | z
      · rw [z]; exact keep_other hx R.ob sb
      · exact keep_other (R.tup p z) R.ob sb
    generalize s.heap.update a (Obj.putSet es1 t2) = h1 at sb ob1 tup1 ⊢
    rw [full2]
    by_cases c : (L.length + 1) * 5 ≥ t.mask * 3
    · have two : (t.mask = 7 ∧ L.length = 4) ∨ t.mask = 31 ∧ L.length = 18 := by
        rcases R.tab.mok with e | e | e <;> rw [e] at c room <;> omega
      have go : ∀ M, SetTable.sizeAbove (SetTable.grown (es.size + 1)) - 1 = M → MaskOk M → SetTable.sizeAbove (SetTable.grown (es.size + 1)) ≤ 128 → (L.length + 1) * 5 < M * 3 → wpAny (model P w) A (setRelay a (SetTable.grown (es.size + 1))) (fun _ s2 => wpAny (model P w) A (pure true) Q E s2) E { s with heap := h1 } :=
        fun M g1 g2 g3 g4 => relay_x (s := { s with heap := h1 }) ob1 insd tab2 nd1 tup1 led2 (by rw [len1]; exact few1) (by rw [len1, f3, p4]; omega) g1 g2 g3 (by rw [len1]; exact g4) fun h2 L2 es2 ep2 t3 sb2 R2 pm2 => wpAny_pure (fin true h2 L2 es2 ep2 t3 (sb.trans sb2) R2 (.inr ⟨m, pm2.trans pm⟩))
      rw [if_pos (by simp [c])]
      refine wpAny_bind ?_
      rcases two with ⟨e1, e2⟩ | ⟨e1, e2⟩
      · exact go 31 (by rw [sz, e2, size_20]) (.inr (.inl rfl)) (by rw [sz, e2, size_20]; decide) (by omega)
      · exact go 127 (by rw [sz, e2, size_76]) (.inr (.inr rfl)) (by rw [sz, e2, size_76]; decide) (by omega)
    · rw [if_neg (by simp; omega)]
      refine wpAny_pure (fin true h1 L1 es1 (ep + 1) t2 sb ⟨ob1, insd, tab2, nd1, tup1, led2, ?_, by rw [len1]; exact few1⟩ (.inr ⟨m, pm⟩))
      rw [len1, f3, p4]
      omega
  cases pl : t1.plain with
  | false =>
    simp only [Bool.false_eq_true, if_false]
    first
      | exact wpAny_bind (wpAny_pure (main _ rfl rfl rfl rfl))
      | exact main _ rfl rfl rfl rfl
  | true =>
    simp only [if_true]
    refine wpAny_bind (ask_hash hx fun r => ?_)
    cases r
    · exact main _ rfl rfl rfl rfl
    · exact main _ rfl rfl rfl rfl
end
end MG

set_option Elab.async false
set_option linter.all false
set_option maxRecDepth 100000
set_option maxHeartbeats 4000000
/-! MgOrd: strictly ordered lists. -/
namespace MG
open PySem PySem.Spec PyProof.Rows L2
/-- lt orders all -/
structure LO {α : Type} (lt : α → α → Bool) : Prop where
  irr : ∀ a, lt a a = false
  tr : ∀ a b c, lt a b = true → lt b c = true → lt a c = true
  tri : ∀ a b, lt a b = false → lt b a = false → a = b
section
variable {α : Type} {lt : α → α → Bool}
def insO (lt : α → α → Bool) (x : α) : List α → List α
  | [] => [x]
  | y :: ys => if lt x y then x :: y :: ys else if lt y x then y :: insO lt x ys else y :: ys
/-- the items, each once, in order -/
def sset (lt : α → α → Bool) : List α → List α
  | [] => []
  | x :: xs => insO lt x (sset lt xs)
abbrev Asc (lt : α → α → Bool) (l : List α) : Prop := l.Pairwise fun a b => lt a b = true
theorem mem_ins (o : LO lt) {x y : α} : ∀ {l : List α}, y ∈ insO lt x l ↔ y = x ∨ y ∈ l
  | [] => by simp [insO]
  | z :: l => by
    unfold insO
    by_cases h1 : lt x z = true
    · rw [if_pos h1, List.mem_cons]
    · rw [if_neg h1]
      by_cases h2 : lt z x = true
      · rw [if_pos h2, List.mem_cons, mem_ins o, List.mem_cons]
        constructor
        · rintro (h | h | h)
          · exact .inr (.inl h)
          · exact .inl h
          · exact .inr (.inr h)
        · rintro (h | h | h)
          · exact .inr (.inl h)
          · exact .inl h
          · exact .inr (.inr h)
      · rw [if_neg h2]
        have e := o.tri x z (by simpa using h1) (by simpa using h2)
        subst e
        rw [List.mem_cons]
        exact ⟨.inr, fun h => h.elim .inl id⟩
theorem asc_ins (o : LO lt) {x : α} : ∀ {l : List α}, Asc lt l → Asc lt (insO lt x l)
  | [], _ => by simp [insO, Asc]
  | z :: l, h => by
    obtain ⟨h1, h2⟩ := List.pairwise_cons.mp h
    unfold insO
    by_cases c : lt x z = true
    · rw [if_pos c]
      refine List.pairwise_cons.mpr ⟨fun y hy => ?_, h⟩
      rcases List.mem_cons.mp hy with e | hy
      · rw [e]; exact c
      · exact o.tr x z y c (h1 y hy)
    · rw [if_neg c]
      by_cases d : lt z x = true
      · rw [if_pos d]
        refine List.pairwise_cons.mpr ⟨fun y hy => ?_, asc_ins o h2⟩
        rcases (mem_ins o).mp hy with e | hy
        · rw [e]; exact d
        · exact h1 y hy
      · rw [if_neg d]; exact h
theorem asc_sset (o : LO lt) : ∀ l : List α, Asc lt (sset lt l)
  | [] => .nil
  | _ :: l => asc_ins o (asc_sset o l)
theorem mem_sset (o : LO lt) {y : α} : ∀ {l : List α}, y ∈ sset lt l ↔ y ∈ l
  | [] => by simp [sset]
  | x :: l => by rw [sset, mem_ins o, List.mem_cons, mem_sset o]
theorem asc_nodup (o : LO lt) {l : List α} (h : Asc lt l) : l.Nodup := List.Pairwise.imp (fun {a b} r e => by rw [e, o.irr] at r; cases r) h
/-- two such lists of the same items are one -/
theorem asc_uniq (o : LO lt) : ∀ {l m : List α}, Asc lt l → Asc lt m → (∀ x, x ∈ l ↔ x ∈ m) → l = m
  | [], [], _, _, _ => rfl
  | [], y :: m, _, _, h => absurd ((h y).mpr List.mem_cons_self) (by simp)
  | x :: l, [], _, _, h => absurd ((h x).mp List.mem_cons_self) (by simp)
  | x :: l, y :: m, hl, hm, h => by
    obtain ⟨l1, l2⟩ := List.pairwise_cons.mp hl
    obtain ⟨m1, m2⟩ := List.pairwise_cons.mp hm
    have e : x = y := by
      rcases List.mem_cons.mp ((h x).mp List.mem_cons_self) with e | hx
      · exact e
      · rcases List.mem_cons.mp ((h y).mpr List.mem_cons_self) with e | hy
        · exact e.symm
        · have := o.tr x y x (l1 y hy) (m1 x hx)
          rw [o.irr] at this; cases this
    subst e
    congr 1
    refine asc_uniq o l2 m2 fun z => ⟨fun hz => ?_, fun hz => ?_⟩
    · rcases List.mem_cons.mp ((h z).mp (List.mem_cons_of_mem _ hz)) with e | q
      · have := l1 z hz
        rw [e, o.irr] at this; cases this
      · exact q
    · rcases List.mem_cons.mp ((h z).mpr (List.mem_cons_of_mem _ hz)) with e | q
      · have := m1 z hz
        rw [e, o.irr] at this; cases this
      · exact q
theorem sset_eq (o : LO lt) {l m : List α} (hl : Asc lt l) (h : ∀ x, x ∈ l ↔ x ∈ m) : l = sset lt m := asc_uniq o hl (asc_sset o m) fun x => (h x).trans (mem_sset o).symm
/-- items without repetition among the given are at most as many -/
theorem few_of (o : LO lt) {l m : List α} (nd : l.Nodup) (h : ∀ x ∈ l, x ∈ m) : l.length ≤ (sset lt m).length := by
  have key : ∀ (l : List α), l.Nodup → (sset lt l).length = l.length := by
    intro l
    induction l with
    | nil => intro _; rfl
    | cons x l ih =>
      intro nd
      obtain ⟨n1, n2⟩ := List.nodup_cons.mp nd
      have one : ∀ k : List α, x ∉ k → (insO lt x k).length = k.length + 1 := by
        intro k
        induction k with
        | nil => intro _; rfl
        | cons z k ih2 =>
          intro hx
          unfold insO
          by_cases c : lt x z = true
          · rw [if_pos c]; rfl
          · rw [if_neg c]
            by_cases d : lt z x = true
            · rw [if_pos d, List.length_cons, ih2 fun q => hx (List.mem_cons_of_mem _ q)]; rfl
            · exact absurd (o.tri x z (by simpa using c) (by simpa using d)) fun e => hx (by rw [e]; exact List.mem_cons_self)
      rw [sset, one _ fun q => n1 ((mem_sset o).mp q), ih n2]; rfl
  rw [← key l nd]
  have sub : ∀ (a b : List α), Asc lt a → Asc lt b → (∀ x ∈ a, x ∈ b) → a.length ≤ b.length := by
    intro a
    induction a with
    | nil => intro b _ _ _; exact Nat.zero_le _
    | cons x a ih =>
      intro b ha hb hs
      obtain ⟨a1, a2⟩ := List.pairwise_cons.mp ha
      have hx := hs x List.mem_cons_self
      obtain ⟨p, q, e⟩ := List.append_of_mem hx
      subst e
      obtain ⟨b1, b2, b3⟩ := List.pairwise_append.mp hb
      obtain ⟨b4, b5⟩ := List.pairwise_cons.mp b2
      have := ih q a2 b5 fun y hy => by
        rcases List.mem_append.mp (hs y (List.mem_cons_of_mem _ hy)) with z | z
        · have w1 := b3 y z x List.mem_cons_self
          have w2 := o.tr x y x (a1 y hy) w1
          rw [o.irr] at w2; cases w2
        · rcases List.mem_cons.mp z with z | z
          · have w1 := a1 y hy
            rw [z, o.irr] at w1; cases w1
          · exact z
      rw [List.length_append, List.length_cons, List.length_cons]
      omega
  exact sub _ _ (asc_sset o l) (asc_sset o m) fun x hx => (mem_sset o).mpr (h x ((mem_sset o).mp hx))
end

/-! ### texts, tuples of texts -/
def cpl (x : Str) : List Nat := x.cps.toList
theorem cpl_inj {x y : Str} (h : cpl x = cpl y) : x = y := PySem.W.str_of_cps h
def ltS (a b : Str) : Bool := decide (cpl a < cpl b)
def ltT (a b : List Str) : Bool := decide (a.map cpl < b.map cpl)
theorem lo_S : LO ltS where
  irr := fun a => by unfold ltS; simp [List.lt_irrefl]
  tr := fun a b c h1 h2 => by unfold ltS at *; rw [decide_eq_true_eq] at *; exact List.lt_trans h1 h2
  tri := fun a b h1 h2 => by
    unfold ltS at h1 h2
    rw [decide_eq_false_iff_not] at h1 h2
    exact cpl_inj (List.le_antisymm (List.not_lt.mp h2) (List.not_lt.mp h1))
theorem lo_T : LO ltT where
  irr := fun a => by unfold ltT; simp [List.lt_irrefl]
  tr := fun a b c h1 h2 => by unfold ltT at *; rw [decide_eq_true_eq] at *; exact List.lt_trans h1 h2
  tri := fun a b h1 h2 => by
    unfold ltT at h1 h2
    rw [decide_eq_false_iff_not] at h1 h2
    have e := List.le_antisymm (List.not_lt.mp h2) (List.not_lt.mp h1)
    exact List.map_inj_right (f := cpl) (fun x y => cpl_inj) |>.mp e
end MG

set_option Elab.async false
set_option linter.all false
set_option maxRecDepth 100000
set_option maxHeartbeats 4000000
/-! MgSetE: sorted(set(xs)). -/
namespace MG
open PySem PySem.Spec PyProof.Rows L2
open PySem.W (EachIs dataLe dataLt alike alikeAll AllAlike Sortable rowLt)
/-! ### the orders of data -/
theorem rowLt_strs : ∀ xs ys : List Str, rowLt (xs.map .str) (ys.map .str) = ltT xs ys
  | [], [] => by
    have e : rowLt [] [] = false := lex_irrefl _
    simp [e, ltT]
  | [], y :: ys => by
    have e : rowLt [] (PyData.str y :: ys.map .str) = true := by
      unfold rowLt
      rw [PySem.W.toks_all_cons]
      simp only [PySem.W.keyToksAll]
      rw [lex_diff (O := itemOrd) (by simp)]; rfl
    simpa [ltT] using e
  | x :: xs, [] => by
    have e : rowLt (PyData.str x :: xs.map .str) [] = false := by
      unfold rowLt
      rw [PySem.W.toks_all_cons]
      simp only [PySem.W.keyToksAll]
      rw [lex_diff (O := itemOrd) (by simp)]; rfl
    simpa [ltT] using e
  | x :: xs, y :: ys => by
    have e : rowLt (PyData.str x :: xs.map .str) (PyData.str y :: ys.map .str) = if x = y then rowLt (xs.map .str) (ys.map .str) else ltS x y := by
      unfold rowLt
      rw [PySem.W.dataLt_cons (by simp [alike]), PySem.W.dataLt_str]
      simp only [PyData.eqv, beq_iff_eq]; rfl
    show rowLt (PyData.str x :: xs.map .str) (PyData.str y :: ys.map .str) = _
    rw [e]
    unfold ltT ltS
    by_cases h : x = y
    · rw [if_pos h, rowLt_strs xs ys, h]
      simp [ltT, List.cons_lt_cons_iff, List.lt_irrefl]
    · rw [if_neg h]
      have h' : ¬ cpl x = cpl y := fun q => h (cpl_inj q)
      simp [h', List.cons_lt_cons_iff]
theorem dataLe_S : dataLe false (fun k : Str => .str k) = fun a b => !ltS b a := by
  funext a b
  show (!dataLt (.str b) (.str a)) = _
  rw [PySem.W.dataLt_str]; rfl
theorem dataLe_T {β : Type} (f : β → List Str) : dataLe false (fun b : β => .tuple ((f b).map .str)) = fun a b => !ltT (f b) (f a) := by
  funext a b
  show (!dataLt (.tuple ((f b).map .str)) (.tuple ((f a).map .str))) = _
  rw [PySem.W.dataLt_tuple, ← rowLt_strs]; rfl
/-- mergeSort by a strict order gives an ascending list -/
theorem sort_asc {α β : Type} {lt : α → α → Bool} (o : LO lt) (f : β → α) (bs : List β) (nd : (bs.map f).Nodup) : (bs.mergeSort fun a b => !lt (f b) (f a)).Pairwise fun a b => lt (f a) (f b) = true := by
  have srt : (bs.mergeSort fun a b => !lt (f b) (f a)).Pairwise fun a b => (!lt (f b) (f a)) = true := by
    refine List.pairwise_mergeSort (fun a b c h1 h2 => ?_) (fun a b => ?_) bs
    · rw [Bool.not_eq_true'] at h1 h2 ⊢
      cases q : lt (f c) (f a) with
      | false => rfl
      | true =>
        cases r : lt (f a) (f b) with
        | true => rw [o.tr _ _ _ q r] at h2; cases h2
        | false =>
          have e := o.tri _ _ r h1
          rw [e, h2] at q; cases q
    · cases q : lt (f b) (f a) with
      | false => rfl
      | true =>
        cases r : lt (f a) (f b) with
        | false => rfl
        | true =>
          have := o.tr _ _ _ q r
          rw [o.irr] at this; cases this
  have nd2 : ((bs.mergeSort fun a b => !lt (f b) (f a)).map f).Nodup := ((List.mergeSort_perm bs _).map f).nodup_iff.mpr nd
  have both := srt.and (List.pairwise_map.mp nd2)
  refine both.imp fun {a b} ⟨h1, h2⟩ => ?_
  rw [Bool.not_eq_true'] at h1
  cases q : lt (f a) (f b) with
  | true => rfl
  | false => exact absurd (o.tri _ _ q h1) h2
/-! ### one list for another -/
theorem each_swap {α β : Type} {R : α → β → Prop} {as as' : List α} (pm : as'.Perm as) : ∀ {bs : List β}, EachIs R as bs → ∃ bs', EachIs R as' bs' ∧ bs'.Perm bs := by
  have key : ∀ {as as' : List α}, as.Perm as' → ∀ {bs : List β}, EachIs R as bs → ∃ bs', EachIs R as' bs' ∧ bs'.Perm bs := by
    intro as as' pm
    induction pm with
    | nil => intro bs h; exact ⟨bs, h, .refl _⟩
    | cons x _ ih =>
      intro bs h
      cases h with
      | cons h1 h2 =>
        obtain ⟨cs, q1, q2⟩ := ih h2
        exact ⟨_ :: cs, .cons h1 q1, q2.cons _⟩
    | swap x y l =>
      intro bs h
      cases h with
      | cons h1 h2 =>
        cases h2 with
        | cons h3 h4 => exact ⟨_, .cons h3 (.cons h1 h4), .swap _ _ _⟩
    | trans _ _ ih1 ih2 =>
      intro bs h
      obtain ⟨cs, q1, q2⟩ := ih1 h
      obtain ⟨ds, q3, q4⟩ := ih2 q1
      exact ⟨ds, q3, q4.trans q2⟩
  exact fun {bs} => key pm.symm
section
variable {P : Program} {w : World} {A : Around} {E : Value → Shared → Prop} {s : Shared} {β : Type}
/-- sorted(a set): its items, each for its b, by enc's order -/
theorem sorted_of_set {a : Addr} {es : Array (Int × Value)} {ep : Nat} {t : SetTable} {Q : Value → Shared → Prop} (R : Value → β → Prop) (enc : β → PyData) (bs : List β) (hh : A.handled = none) (ho : s.heap.get? a = some (Froz.sObj "set" (es, ep, t))) (fit : t.fits es.size = true) (few : es.size < 64) (ris : Ris t.place.toList)
    (led : w.params.followText "set-order" = true ∨ t.led = true) (each : EachIs R (es.toList.map (·.2)) bs) (reads : ∀ h', Kept s.heap h' → ∀ v b, R v b → b ∈ bs → Reads h' v (enc b) []) (al : ∀ b ∈ bs, ∀ b' ∈ bs, alike (enc b) (enc b') = true) (so : ∀ bs' : List β, bs'.Perm bs → Sortable (bs'.map enc))
    (hu : ∀ b ∈ bs, A.units + 4 + (enc b).depth < cLine)
    (fin : ∀ s' p out c (bs' : List β), Kept s.heap s'.heap → s'.gens = s.gens → s'.os = s.os → s.heap.objs.size ≤ p → s'.heap.get? p = some (seqObj "list" out c) → EachIs R out.toList (bs'.mergeSort (dataLe false enc)) → bs'.Perm bs → Q (.ref p) s') :
    wpAny (model P w) A (call (.builtin "sorted") [.ref a]) Q E s := by
  have len : bs.length = es.size := by rw [← each.length, List.length_map, Array.length_toList]
  refine Calls.call_function_entry kind_sorted plain_sorted entry_sorted (args_sorted1 _) ?_
  unfold Builtin.«sorted»
  refine wpAny_bind (m := checkCount "sorted" 1 1 _) (wpAny_pure ?_)
  refine wpAny_bind (collect_set (A := A.in1) hh ⟨_, ho, rfl, rfl⟩ fit (Nat.lt_trans few (by decide)) ris led fun s1 vs kp zz g1 o1 pm => ?_)
  obtain ⟨bs1, e1, p1⟩ := each_swap pm each
  have lv : vs.length = es.size := by rw [e1.length, p1.length_eq, len]
  have small : vs.length ≤ sizeLine := by rw [sizeLine_eq, lv]; omega
  refine wpAny_bind (wpAny_newList ?_ (by simpa using small))
  have gL : (s1.heap.push (seqObj "list" vs.toArray 0)).get? s1.heap.objs.size = some (seqObj "list" vs.toArray 0) := Heap.get?_push_size _ rfl
  have kp2 : Kept s.heap (s1.heap.push (seqObj "list" vs.toArray 0)) := fun b o q => Heap.get?_push_of_some _ (kp b o q)
  refine wpAny_bind (wpAny_holding (PySem.W.list_sort_data (s := { s1 with heap := s1.heap.push (seqObj "list" vs.toArray 0) }) (enc := enc) (bs := bs1) gL e1
    ((PySem.W.each_mem e1).mono fun v b h => ⟨[], reads _ kp2 v b h.1 (p1.mem_iff.mp h.2), by simp⟩) (fun d hd d' hd' => ?_) (so bs1 p1) (by rw [← e1.length]; exact small) (fun b hb => ?_) fun out ol oe => ?_))
  · obtain ⟨b, hb, rfl⟩ := List.mem_map.mp hd
    obtain ⟨b', hb', rfl⟩ := List.mem_map.mp hd'
    exact al b (p1.mem_iff.mp hb) b' (p1.mem_iff.mp hb')
  · have := hu b (p1.mem_iff.mp hb)
    simp only [Around.in1_units]
    omega
  · obtain ⟨c, hc⟩ := sortedHeap_at (vs := vs) (out := out.toArray) gL
    refine wpAny_pure ⟨_, rfl, fin _ s1.heap.objs.size out.toArray c bs1 (fun b o q => ?_) g1 o1 zz hc (by simpa using oe) p1⟩
    have q1 := kp b o q
    have hl := Heap.lt_size q1
    show (sortedHeap (s1.heap.push (seqObj "list" vs.toArray 0)) s1.heap.objs.size vs out.toArray).get? b = some o
    rw [sortedHeap_old (Nat.ne_of_lt hl) (by rw [size_push']; exact Nat.lt_succ_of_lt hl)]
    exact kp2 b o q
end
end MG

set_option Elab.async false
set_option linter.all false
set_option maxRecDepth 100000
set_option maxHeartbeats 4000000
/-! MgSetF: sorted(set(xs)), over the heap and over plain data. -/
namespace MG
open PySem PySem.Spec PyProof.Rows L2
open PySem.W (EachIs dataLe alike alikeAll AllAlike Sortable)
theorem alike_strs : ∀ xs ys : List Str, alikeAll (xs.map .str) (ys.map .str) = true
  | [], _ => by simp [alikeAll]
  | _ :: _, [] => by simp [alikeAll]
  | x :: xs, y :: ys => by
    show alikeAll (.str x :: xs.map .str) (.str y :: ys.map .str) = true
    rw [alikeAll, alike_strs xs ys]
    simp [alike]
theorem depth_strs : ∀ xs : List Str, PyData.depthAll (xs.map .str) = 0
  | [] => by simp [PyData.depthAll]
  | x :: xs => by
    show PyData.depthAll (.str x :: xs.map .str) = 0
    rw [PyData.depthAll, depth_strs xs]
    simp [PyData.depth]
theorem perm_of_len {α : Type} : ∀ {l b : List α}, l.Nodup → (∀ k ∈ l, k ∈ b) → b.length ≤ l.length → b.Perm l
  | [], b, _, _, h => by rw [List.eq_nil_of_length_eq_zero (Nat.le_zero.mp h)]
  | k :: l, b, nd, h, z => by
    obtain ⟨n1, n2⟩ := List.nodup_cons.mp nd
    obtain ⟨p, q, e⟩ := List.append_of_mem (h k List.mem_cons_self)
    subst e
    have pm : (p ++ k :: q).Perm (k :: (p ++ q)) := List.perm_middle
    refine pm.trans ((perm_of_len n2 (fun x hx => ?_) ?_).cons k)
    · rcases List.mem_cons.mp (pm.mem_iff.mp (h x (List.mem_cons_of_mem _ hx))) with e | m
      · rw [e] at hx; exact absurd hx n1
      · exact m
    · rw [pm.length_eq, List.length_cons, List.length_cons] at z
      omega
section
variable {P : Program} {w : World} {A : Around} {E : Value → Shared → Prop} {s : Shared}
abbrev IsSeq (h : Heap) (l : Addr) (items : Array Value) : Prop := h.IsList l items ∨ h.IsTuple l items
theorem set_of_seq {l : Addr} {items : Array Value} {Q : Value → Shared → Prop} (Iv : Nat → Heap → Prop) (hh : A.handled = none) (hl : IsSeq s.heap l items)
    (beg : ∀ h, h.get? s.heap.objs.size = some (newSet w) → Iv 0 h) (st : Steady s.heap.objs.size s.heap Iv) (ok : AddsOk P w (A.units + 4) s.heap.objs.size s.heap items Iv)
    (fin : ∀ h' tk, Iv items.size h' → Kept s.heap h' → Q (.ref s.heap.objs.size) { s with heap := h', toks := tk }) : wpAny (model P w) A (call (.type "set") [.ref l]) Q E s :=
  hl.elim (fun hl => set_of_list Iv hh hl beg st ok fin) fun hl => set_of_tuple Iv hh hl beg st ok fin
def StrV (v : Value) (k : Str) : Prop := ∃ u, v = .str k u
/-- texts -/
theorem sortset_strs {l : Addr} {items : Array Value} {ks : List Str} {Q : Value → Shared → Prop} (hh : A.handled = none) (hu : A.units + 64 < cLine) (hl : IsSeq s.heap l items) (hi : EachIs StrV items.toList ks) (few : (sset ltS ks).length < 64)
    (fin : ∀ s' p out c, Kept s.heap s'.heap → s'.gens = s.gens → s'.os = s.os → s.heap.objs.size ≤ p → s'.heap.get? p = some (seqObj "list" out c) → EachIs StrV out.toList (sset ltS ks) → Q (.ref p) s') :
    wpAny (model P w) A (call (.type "set") [.ref l]) (fun v s1 => wpAny (model P w) A (call (.builtin "sorted") [v]) Q E s1) E s := by
  have at_ : ∀ (i : Nat) (v : Value), items[i]? = some v → ∃ k u, ks[i]? = some k ∧ v = Value.str k u := by
    have key : ∀ {us : List Value} {ks : List Str}, EachIs StrV us ks → ∀ (i : Nat) (v : Value), us[i]? = some v → ∃ k u, ks[i]? = some k ∧ v = Value.str k u := by
      intro us ks e
      induction e with
      | nil => intro i v q; simp at q
      | cons h1 _ ih =>
        intro i v q
        cases i with
        | zero => obtain ⟨u, e⟩ := h1; simp at q; exact ⟨_, u, rfl, by rw [← q, e]⟩
        | succ i => obtain ⟨k, u, a1, a2⟩ := ih i v (by simpa using q); exact ⟨k, u, by simpa using a1, a2⟩
    intro i v q
    exact key hi i v (by rw [Array.getElem?_toList]; exact q)
  have szi : items.size = ks.length := by rw [← Array.length_toList, hi.length]
  refine set_of_seq (TxIv P w s.heap.objs.size ks) hh hl (fun h e => tx_beg e) tx_steady (tx_adds at_ fun l nd sub => Nat.lt_of_le_of_lt (few_of lo_S nd sub) few) fun h' tk ⟨D, l2, ho, G, nd, ri, ld, mem⟩ kp => ?_
  rw [szi, List.take_length] at mem
  have fewl : l2.length < 64 := Nat.lt_of_le_of_lt (few_of lo_S nd fun x z => (mem x).mp z) few
  -- the entries are the texts
  have ents : ∃ bs : List Str, EachIs StrV (D.1.toList.map (·.2)) bs ∧ ∀ b ∈ bs, b ∈ l2 := by
    have all : ∀ e ∈ D.1.toList, ∃ k u, e.2 = .str k u ∧ k ∈ l2 := fun e he => by
      obtain ⟨⟨k, h1, _⟩, _⟩ := G.el e he
      have h2 : ∃ u, e.2 = Value.str k u := by
        have h1' : Value.isStrOf k e.2 = true := h1
        cases q : e.2 with
        | str x u =>
          rw [q] at h1'
          have : x = k := by simpa [Value.isStrOf] using h1'
          exact ⟨u, by rw [this]⟩
        | _ => rw [q] at h1'; exact absurd (show false = true from h1') (by decide)
      obtain ⟨u, h2⟩ := h2
      exact ⟨k, u, h2, (G.mem k).mpr ⟨e, he, h1⟩⟩
    generalize D.1.toList = l at all
    induction l with
    | nil => exact ⟨[], .nil, by simp⟩
    | cons e l ih =>
      obtain ⟨k, u, h2, h3⟩ := all e List.mem_cons_self
      obtain ⟨bs, q1, q2⟩ := ih fun e he => all e (List.mem_cons_of_mem _ he)
      refine ⟨k :: bs, .cons ⟨u, h2⟩ q1, fun b hb => ?_⟩
      rcases List.mem_cons.mp hb with z | z
      · rw [z]; exact h3
      · exact q2 b z
  obtain ⟨bs, eb, sub⟩ := ents
  have lenb : bs.length = l2.length := by rw [← eb.length, List.length_map, Array.length_toList, G.sz]
  have all2 : ∀ k ∈ l2, k ∈ bs := fun k hk => by
    obtain ⟨e, he, h1⟩ := (G.mem k).mp hk
    have key : ∀ {us : List Value} {bs : List Str}, EachIs StrV us bs → ∀ v ∈ us, ∃ b ∈ bs, StrV v b := by
      intro us bs e
      induction e with
      | nil => intro v hv; simp at hv
      | cons h1 _ ih =>
        intro v hv
        rcases List.mem_cons.mp hv with z | z
        · subst z; exact ⟨_, List.mem_cons_self, h1⟩
        · obtain ⟨b, h2, h3⟩ := ih v z; exact ⟨b, List.mem_cons_of_mem _ h2, h3⟩
    obtain ⟨b, h2, u, h3⟩ := key eb e.2 (List.mem_map.mpr ⟨e, he, rfl⟩)
    have h1' : Value.isStrOf k e.2 = true := h1
    rw [h3] at h1'
    have : b = k := by simpa [Value.isStrOf] using h1'
    rw [← this]; exact h2
  have pm : bs.Perm l2 := perm_of_len nd all2 (by omega)
  have ndb : bs.Nodup := pm.nodup_iff.mpr nd
  have szD : D.1.size < 64 := by rw [G.sz]; exact fewl
  refine sorted_of_set (s := { s with heap := h', toks := tk }) StrV (fun k : Str => .str k) bs hh ho G.fit szD ri ld eb (fun h2 _ v b ⟨u, e⟩ _ => by rw [e]; exact .str _ _) (fun b _ b' _ => by simp [alike])
    (fun bs' _ => .inr fun d hd => by obtain ⟨b, _, rfl⟩ := List.mem_map.mp hd; exact ⟨by simp, by simp⟩) (fun b _ => by simp only [PyData.depth]; omega) fun s' p out c bs' k2 g2 o2 hp gp eo pb => ?_
  have srt := sort_asc lo_S id bs' (by rw [List.map_id]; exact pb.nodup_iff.mpr ndb)
  rw [dataLe_S] at eo
  have e3 : (bs'.mergeSort fun a b => !ltS b a) = sset ltS ks := sset_eq lo_S srt fun x => by
    rw [(List.mergeSort_perm bs' _).mem_iff, pb.mem_iff, pm.mem_iff, mem]
  rw [e3] at eo
  exact fin s' p out c (fun b o q => k2 b o (kp b o q)) g2 o2 (by
    refine Nat.le_trans ?_ hp
    have := Heap.lt_size ho
    exact Nat.le_of_lt this) gp eo
end
end MG

set_option Elab.async false
set_option linter.all false
set_option maxRecDepth 100000
set_option maxHeartbeats 4000000
/-! MgSetG: sorted(set(xs)), xs of tuples of texts; both over plain data. -/
namespace MG
open PySem PySem.Spec PyProof.Rows L2
open PySem.W (EachIs dataLe alike alikeAll AllAlike Sortable)
section
variable {P : Program} {w : World} {A : Around} {E : Value → Shared → Prop} {s : Shared}
/-- what the set has got from the first i items -/
def TpIv (P : Program) (w : World) (S : Addr) (h0 : Heap) (kx : KX) (i : Nat) (h : Heap) : Prop := ∃ L es ep t, XS P w h S L es ep t ∧ (∀ p ∈ L, p ∈ kx.take i) ∧ ∀ p ∈ kx.take i, p.2 ∈ L.map Prod.snd
theorem tp_beg {S : Addr} {h0 : Heap} {kx : KX} {h : Heap} (e : h.get? S = some (newSet w)) : TpIv P w S h0 kx 0 h :=
  ⟨[], #[], 0, .fresh 0 0 (!w.params.followText "set-order"), ⟨e, rfl, ⟨List.Pairwise.nil, rfl, rfl, .inl rfl, fun x hx => (by cases hx), fun i h j hi => (by simp [hashX] at hi)⟩, List.nodup_nil, fun p hp => (by cases hp), (by
    show _ ∨ (!w.params.followText "set-order") = true
    cases w.params.followText "set-order" <;> simp), (by show 0 * 5 < 7 * 3; decide), (by show 0 < 64; decide)⟩, fun p hp => (by cases hp), fun p hp => (by simp at hp)⟩
theorem tp_steady {S : Addr} {h0 : Heap} {kx : KX} (hx : ∀ p ∈ kx, IsX P w h0 p.2 p.1) : Steady S h0 (TpIv P w S h0 kx) := fun i h h' k _ k2 ⟨L, es, ep, t, R, a1, a2⟩ =>
  ⟨L, es, ep, t, ⟨k _ R.ob, R.rows, R.tab, R.nd, fun p hp => (hx p (List.mem_of_mem_take (a1 p hp))).up k2, R.led, R.room, R.few⟩, a1, a2⟩
theorem tp_adds {S : Addr} {h0 : Heap} {items : Array Value} {kx : KX} {n : Nat} (hn : n < cLine) (hx : ∀ p ∈ kx, IsX P w h0 p.2 p.1) (hv : ∀ (i : Nat) (v : Value), items[i]? = some v → ∃ p, kx[i]? = some p ∧ v = Value.ref p.1)
    (few : ∀ l : List (List Str), l.Nodup → (∀ k ∈ l, k ∈ kx.map Prod.snd) → l.length < 64) : AddsOk P w n S h0 items (TpIv P w S h0 kx) := by
  intro i v A E s Q hi hA kp iv h
  obtain ⟨p, hp, rfl⟩ := hv i v hi
  obtain ⟨L, es, ep, t, R, a1, a2⟩ := iv
  have pin : p ∈ kx := List.mem_of_getElem? hp
  have xp : IsX P w s.heap p.2 p.1 := (hx p pin).up kp
  have hu : A.units < cLine := Nat.lt_of_le_of_lt hA hn
  unfold setAdd
  refine wpAny_holding (wpAny_bind (wpAny_pyHash_tuple hu xp ?_))
  have sub : ∀ k ∈ L.map Prod.snd, k ∈ kx.map Prod.snd := fun k hk => by
    obtain ⟨q, hq, e⟩ := List.mem_map.mp hk
    exact List.mem_map.mpr ⟨q, List.mem_of_mem_take (a1 q hq), e⟩
  refine XS.add (s := { s with toks := s.toks + (p.2.length + 1) }) (k := p.2) ⟨R.ob, R.rows, R.tab, R.nd, R.tup, R.led, R.room, R.few⟩ xp hu (fun nm => ?_) fun b h' L' es' ep' t' sb R' c => ?_
  · have := few (p.2 :: L.map Prod.snd) (List.nodup_cons.mpr ⟨nm, R.nd⟩) fun k hk => by
      rcases List.mem_cons.mp hk with e | hk
      · rw [e]; exact List.mem_map.mpr ⟨p, pin, rfl⟩
      · exact sub k hk
    simpa using this
  · refine h b h' _ sb (Nat.le_add_right _ _) ⟨L', es', ep', t', R', fun q hq => ?_, fun q hq => ?_⟩
    · rw [take_up hp]
      rcases c with ⟨_, e⟩ | ⟨_, pm⟩
      · rw [e] at hq; exact .inr (a1 q hq)
      · rcases List.mem_cons.mp (pm.mem_iff.mp hq) with e | hq
        · exact .inl e
        · exact .inr (a1 q hq)
    · rw [take_up hp] at hq
      rcases c with ⟨m, e⟩ | ⟨_, pm⟩
      · rw [e]
        rcases hq with z | z
        · rw [z]; exact m
        · exact a2 q z
      · rw [(pm.map Prod.snd).mem_iff, List.map_cons]
        rcases hq with z | z
        · rw [z]; exact List.mem_cons_self
        · exact List.mem_cons_of_mem _ (a2 q z)
def RefV (v : Value) (b : Addr × List Str) : Prop := v = .ref b.1
theorem texts_read {h : Heap} {k : List Str} {vs : List Value} (it : ItemsAre (strKind P w) k vs) : ReadsAll h vs (k.map .str) [] := by
  induction it with
  | nil => exact .nil
  | @cons k v ks vs h1 _ ih =>
    have : ∃ u, v = Value.str k u := by
      cases v with
      | str x u =>
        have e : x = k := by simpa [Value.isStrOf] using (show Value.isStrOf k (.str x u) = true from h1)
        exact ⟨u, by rw [e]⟩
      | _ => exact absurd (show false = true from h1) (by decide)
    obtain ⟨u, rfl⟩ := this
    exact ReadsAll.cons (as := []) (bs := []) (.str _ _) ih
theorem IsX.reads {h : Heap} {k : List Str} {b : Addr} (x : IsX P w h k b) : Reads h (.ref b) (.tuple (k.map .str)) [] := by
  obtain ⟨o, its, n, g, cl, dd, it⟩ := x
  exact .tuple g cl dd (texts_read it)
/-- tuples of texts -/
theorem sortset_tups {l : Addr} {items : Array Value} {kx : KX} {Q : Value → Shared → Prop} (hh : A.handled = none) (hu : A.units + 64 < cLine) (hl : IsSeq s.heap l items) (hi : items.toList = kx.map fun p => Value.ref p.1) (hx : ∀ p ∈ kx, IsX P w s.heap p.2 p.1)
    (ne : ∀ p ∈ kx, p.2 ≠ []) (few : (sset ltT (kx.map Prod.snd)).length < 64)
    (fin : ∀ s' p out c (rs : KX), Kept s.heap s'.heap → s'.gens = s.gens → s'.os = s.os → s.heap.objs.size ≤ p → s'.heap.get? p = some (seqObj "list" out c) → EachIs RefV out.toList rs → (∀ q ∈ rs, q ∈ kx) → rs.map Prod.snd = sset ltT (kx.map Prod.snd) → Q (.ref p) s') :
    wpAny (model P w) A (call (.type "set") [.ref l]) (fun v s1 => wpAny (model P w) A (call (.builtin "sorted") [v]) Q E s1) E s := by
  have at_ : ∀ (i : Nat) (v : Value), items[i]? = some v → ∃ p, kx[i]? = some p ∧ v = Value.ref p.1 := fun i v q => by
    rw [← Array.getElem?_toList, hi, List.getElem?_map] at q
    obtain ⟨p, a1, a2⟩ := Option.map_eq_some_iff.mp q
    exact ⟨p, a1, a2.symm⟩
  have szi : items.size = kx.length := by rw [← Array.length_toList, hi, List.length_map]
  refine set_of_seq (TpIv P w s.heap.objs.size s.heap kx) hh hl (fun h e => tp_beg e) (tp_steady hx) (tp_adds (by omega) hx at_ fun l nd sub => Nat.lt_of_le_of_lt (few_of lo_T nd sub) few) fun h' tk ⟨L, es, ep, t, R, a1, a2⟩ kp => ?_
  rw [szi, List.take_length] at a1 a2
  have eb : EachIs RefV (es.toList.map (·.2)) L := by
    rw [R.rows, rowX, List.map_map]
    have key : ∀ L : KX, EachIs RefV (L.map fun p => Value.ref p.1) L := by
      intro L
      induction L with
      | nil => exact .nil
      | cons p L ih => exact .cons rfl ih
    exact key L
  have R2 : XS P w ({ s with heap := h', toks := tk } : Shared).heap s.heap.objs.size L es ep t := R
  refine sorted_of_set (s := { s with heap := h', toks := tk }) RefV (fun b : Addr × List Str => .tuple (b.2.map .str)) L hh R.ob R2.fit (by rw [R2.size]; exact R.few) R.tab.ris R.led eb (fun h2 k2 v b e hb => by
      rw [show v = .ref b.1 from e]
      exact ((R.tup b hb).up k2).reads) (fun b _ b' _ => by rw [alike]; exact alike_strs _ _)
    (fun bs' pm => .inl fun d hd => by
      obtain ⟨b, hb, rfl⟩ := List.mem_map.mp hd
      have hne := ne b (a1 b (pm.mem_iff.mp hb))
      cases hb2 : b.2 with
      | nil => exact absurd hb2 hne
      | cons x r => exact ⟨.str x, r.map .str, by simp⟩) (fun b _ => by simp only [PyData.depth, depth_strs]; omega) fun s' p out c bs' k2 g2 o2 hp gp eo pb => ?_
  rw [dataLe_T] at eo
  have srt := sort_asc lo_T Prod.snd bs' ((pb.map Prod.snd).nodup_iff.mpr R.nd)
  have pm2 := List.mergeSort_perm bs' fun a b => !ltT b.2 a.2
  refine fin s' p out c _ (fun b o q => k2 b o (kp b o q)) g2 o2 (Nat.le_trans (Nat.le_of_lt (Heap.lt_size R.ob)) hp) gp eo (fun q hq => a1 q (pb.mem_iff.mp (pm2.mem_iff.mp hq))) (sset_eq lo_T (List.pairwise_map.mpr srt) fun x => ?_)
  constructor
  · intro hx2
    obtain ⟨q, hq, e⟩ := List.mem_map.mp hx2
    exact List.mem_map.mpr ⟨q, a1 q (pb.mem_iff.mp (pm2.mem_iff.mp hq)), e⟩
  · intro hx2
    obtain ⟨q, hq, e⟩ := List.mem_map.mp hx2
    obtain ⟨r, hr, e2⟩ := List.mem_map.mp (a2 q hq)
    exact List.mem_map.mpr ⟨r, pm2.mem_iff.mpr (pb.mem_iff.mpr hr), e2.trans e⟩
end
end MG

set_option Elab.async false
set_option linter.all false
set_option maxRecDepth 100000
set_option maxHeartbeats 4000000
/-! MgSetH: sorted(set(e)), over plain data. -/
namespace MG
open PySem PySem.Spec PyProof.Rows L2
open PySem.W (EachIs)
theorem vals_StrV : ∀ {ks : List Str} {us : List Value}, Vals (ks.map V.str) us → EachIs StrV us ks
  | [], _, h => by cases h; exact .nil
  | k :: ks, _, h => by
    cases h with
    | cons r t =>
      obtain ⟨u, rfl⟩ := r
      exact .cons ⟨u, rfl⟩ (vals_StrV t)
theorem StrV_vals : ∀ {ks : List Str} {us : List Value}, EachIs StrV us ks → Vals (ks.map V.str) us
  | _, _, .nil => .nil
  | _, _, .cons ⟨u, e⟩ t => by subst e; exact .cons ⟨u, rfl⟩ (StrV_vals t)
theorem vals_RefV : ∀ {kx : KX} {us : List Value}, Vals (kx.map fun p => V.ref p.1) us → us = kx.map fun p => Value.ref p.1
  | [], _, h => by cases h; rfl
  | k :: ks, _, h => by
    cases h with
    | cons r t => cases r; rw [vals_RefV t]; rfl
theorem RefV_vals : ∀ {kx : KX} {us : List Value}, EachIs RefV us kx → Vals (kx.map fun p => V.ref p.1) us
  | _, _, .nil => .nil
  | _, _, .cons e t => by
    rw [show _ = Value.ref _ from e]
    exact .cons rfl (RefV_vals t)
theorem items_str {P : Program} {w : World} : ∀ {k : List Str} {us : List Value}, Vals (k.map V.str) us → ItemsAre (strKind P w) k us
  | [], _, h => by cases h; exact .nil
  | k :: ks, _, h => by
    cases h with
    | cons r t =>
      obtain ⟨u, rfl⟩ := r
      exact .cons (Froz.is_str (P := P) (w := w) k u) (items_str t)
section
variable {X : Cx} {pins : List (Addr × Obj)} {σ : L2.St} {H : Hp} {s : Shared}
theorem isX_of (I : Inv X pins σ H s) {b : Addr} {k : List Str} (h : SqT X.K H b (k.map V.str)) : IsX X.prog X.w s.heap k b := by
  obtain ⟨its, r, ⟨o, ho, hc, n, hd⟩, _⟩ := I.tuple h
  exact ⟨o, its.toArray, n, ho, hc, hd, by simpa using items_str r⟩
theorem seq_of (I : Inv X pins σ H s) {l : Addr} {xs : List V} (h : SqL X.K H l xs ∨ SqT X.K H l xs) : ∃ its : List Value, Vals xs its ∧ IsSeq s.heap l its.toArray := by
  rcases h with h | h
  · obtain ⟨its, r, pl, _⟩ := I.list h
    exact ⟨its, r, .inl pl.isList⟩
  · obtain ⟨its, r, pl, _⟩ := I.tuple h
    exact ⟨its, r, .inr pl⟩
theorem new_list (I : Inv X pins σ H s) {s' : Shared} {p : Addr} {out : Array Value} {c : Nat} {xs : List V} (kp : Kept s.heap s'.heap) (g : s'.gens = s.gens) (o : s'.os = s.os) (hp : s.heap.objs.size ≤ p) (gp : s'.heap.get? p = some (seqObj "list" out c)) (hv : Vals xs out.toList) (hz : xs.length ≤ sizeLine) :
    Inv X pins σ (upd H p (.lst xs)) s' :=
  I.call' (ch := []) o (Un.laid kp hp (I.hok.fresh hp)) (I.hok.laid kp hp ⟨hz, out.toList, c, hv, gp⟩) (by rw [g]; exact I.bare) fun _ z => nomatch z
end
def sortPost (K : PySem.W.Frag) (Q : VK) : VK := fun x H1 =>
  (∃ l ks, x = V.ref l ∧ (SqL K H1 l (ks.map V.str) ∨ SqT K H1 l (ks.map V.str)) ∧ (sset ltS ks).length < 64 ∧ ∀ p, H1 p = none → Q (.ref p) (upd H1 p (.lst ((sset ltS ks).map V.str)))) ∨
  ∃ (l : Addr) (kx : KX), x = V.ref l ∧ (SqL K H1 l (kx.map fun p => V.ref p.1) ∨ SqT K H1 l (kx.map fun p => V.ref p.1)) ∧ (∀ p ∈ kx, SqT K H1 p.1 (p.2.map V.str)) ∧ (∀ p ∈ kx, p.2 ≠ []) ∧ (sset ltT (kx.map Prod.snd)).length < 64 ∧
    ∀ (p : Addr) (rs : KX), H1 p = none → (∀ q ∈ rs, q ∈ kx) → rs.map Prod.snd = sset ltT (kx.map Prod.snd) → Q (.ref p) (upd H1 p (.lst (rs.map fun q => V.ref q.1)))
def tSortSet (K : PySem.W.Frag) (ta : TE) : TE := fun σ H Q => ta σ H (sortPost K Q)
section
variable {X : Cx}
theorem pe_sortset {a : Expr} {ta : TE} {p p2 q pos : Pos} (hc : X.calm = true) (hu : X.A.units + 64 < cLine) (hm : X.mg "sorted" = none) (hm2 : X.mg "set" = none) (ha : PE X a ta) (hg : Gl X "sorted" := by rfl) (hg2 : Gl X "set" := by rfl)
    (na : starEach [a] X.env = (false, eval a X.env) :: starEach [] X.env := by rfl) : PE X (.Call (.Name "sorted" p) [.Call (.Name "set" p2) [a] [] q] [] pos) (tSortSet X.K ta) := by
  refine ⟨fun pins s σ H Q I h => ?_⟩
  refine Call_ (ld_blt I hg hm PyProof.Rows.boot_sorted ?_)
  refine PyProof.Rows.callWith_builtin1 (PyProof.Rows.args_cons ?_ rfl) rfl rfl
  refine Call_ (ld_blt I hg2 hm2 PyProof.Rows.boot_set ?_)
  refine PyProof.Rows.callWith_type1 (PyProof.Rows.args_cons (thn (ha.run pins s σ H _ I h) fun v s1 ⟨x, H1, I1, r1, q1⟩ => PyProof.Rows.args_nil ?_) na) na rfl
  have hh := I1.ok.hd hc
  rcases q1 with ⟨l, ks, rfl, hs, few, q1⟩ | ⟨l, kx, rfl, hs, hx, ne, few, q1⟩
  · cases r1
    obtain ⟨its, rv, isq⟩ := seq_of I1 hs
    exact thn (sortset_strs (Q := EP X pins σ Q) hh hu isq (by simpa using vals_StrV rv) few fun s' p out c kp g o hp gp eo =>
      ⟨.ref p, _, new_list I1 kp g o hp gp (StrV_vals eo) (by rw [List.length_map, sizeLine_eq]; omega), rfl, q1 p (I1.hok.fresh hp)⟩) fun v s2 h2 => PyProof.Rows.args_nil h2
  · cases r1
    obtain ⟨its, rv, isq⟩ := seq_of I1 hs
    exact thn (sortset_tups (Q := EP X pins σ Q) hh hu isq (by simpa using vals_RefV rv) (fun p hp => isX_of I1 (hx p hp)) ne few fun s' p out c rs kp g o hp gp eo sub e =>
      ⟨.ref p, _, new_list I1 kp g o hp gp (RefV_vals eo) (by
        have : rs.length = (sset ltT (kx.map Prod.snd)).length := by rw [← e, List.length_map]
        rw [List.length_map, sizeLine_eq, this]; omega), rfl, q1 p rs (I1.hok.fresh hp) sub e⟩) fun v s2 h2 => PyProof.Rows.args_nil h2
end
/-! ### over plain data -/
def strsOf : List PyData → Option (List Str)
  | [] => some []
  | .str x :: r => (strsOf r).map (x :: ·)
  | _ :: _ => none
def tupsOf : List PyData → Option (List (List Str))
  | [] => some []
  | .tuple ds :: r => match strsOf ds with
    | some (x :: xs) => (tupsOf r).map ((x :: xs) :: ·)
    | _ => none
  | _ :: _ => none
def tupS (k : List Str) : PyData := .tuple (k.map .str)
/-- the items of a set, ascending -/
def sortD (ds : List PyData) (Φ : List PyData → Prop) : Prop := match strsOf ds with
  | some ks => (sset ltS ks).length < 64 ∧ Φ ((sset ltS ks).map .str)
  | none => match tupsOf ds with
    | some ks => (sset ltT ks).length < 64 ∧ Φ ((sset ltT ks).map tupS)
    | none => False
def wSSet (we : WE) : WA := fun ε Φ => we ε fun d => match d with
  | .list ds => sortD ds Φ
  | .tuple ds => sortD ds Φ
  | _ => False
theorem strsOf_eq : ∀ {ds : List PyData} {ks : List Str}, strsOf ds = some ks → ds = ks.map .str
  | [], _, h => by cases h; rfl
  | d :: ds, ks, h => by
    cases d with
    | str x =>
      rw [strsOf] at h
      obtain ⟨r, h1, h2⟩ := Option.map_eq_some_iff.mp h
      rw [← h2, strsOf_eq h1]; rfl
    | _ => cases h
theorem strsOf_map : ∀ ks : List Str, strsOf (ks.map .str) = some ks
  | [] => rfl
  | k :: ks => by rw [List.map_cons, strsOf, strsOf_map ks]; rfl
theorem tupsOf_eq : ∀ {ds : List PyData} {ks : List (List Str)}, tupsOf ds = some ks → ds = ks.map tupS ∧ ∀ k ∈ ks, k ≠ []
  | [], _, h => by cases h; exact ⟨rfl, by simp⟩
  | d :: ds, ks, h => by
    cases d with
    | tuple es =>
      rw [tupsOf] at h
      split at h
      · rename_i x xs e
        obtain ⟨r, h1, h2⟩ := Option.map_eq_some_iff.mp h
        obtain ⟨g1, g2⟩ := tupsOf_eq h1
        rw [← h2, g1, strsOf_eq e]
        refine ⟨rfl, fun k hk => ?_⟩
        rcases List.mem_cons.mp hk with z | z
        · rw [z]; simp
        · exact g2 k z
      · cases h
    | _ => cases h
theorem tupsOf_map : ∀ {ks : List (List Str)}, (∀ k ∈ ks, k ≠ []) → tupsOf (ks.map tupS) = some ks
  | [], _ => rfl
  | k :: ks, h => by
    rw [List.map_cons, tupS, tupsOf, strsOf_map]
    cases k with
    | nil => exact absurd rfl (h [] List.mem_cons_self)
    | cons x xs =>
      simp only
      rw [tupsOf_map fun k z => h k (List.mem_cons_of_mem _ z)]; rfl
section
variable {K : PySem.W.Frag} {T : Option Addr} {F : Hp}
theorem rp_strs : ∀ {ks : List Str} {vs : List V}, RpAll K F vs (ks.map .str) → vs = ks.map V.str ∧ ∀ k ∈ ks, sOk k = true
  | [], _, h => by cases h; exact ⟨rfl, by simp⟩
  | k :: ks, _, h => by
    cases h with
    | cons h1 h2 =>
      cases h1 with
      | str g =>
        obtain ⟨e, q⟩ := rp_strs h2
        rw [e]
        refine ⟨rfl, fun x hx => ?_⟩
        rcases List.mem_cons.mp hx with z | z
        · rw [z]; exact g
        · exact q x z
theorem strs_rp : ∀ {ks : List Str}, (∀ k ∈ ks, sOk k = true) → RpAll K F (ks.map V.str) (ks.map .str)
  | [], _ => .nil
  | k :: ks, h => .cons (.str (h k List.mem_cons_self)) (strs_rp fun x hx => h x (List.mem_cons_of_mem _ hx))
theorem rp_tups : ∀ {ks : List (List Str)} {vs : List V}, RpAll K F vs (ks.map tupS) → ∃ kx : KX, vs = kx.map (fun p => V.ref p.1) ∧ ks = kx.map Prod.snd ∧ ∀ p ∈ kx, SqT K F p.1 (p.2.map V.str) ∧ Rp K F (.ref p.1) (tupS p.2)
  | [], _, h => by cases h; exact ⟨[], rfl, rfl, by simp⟩
  | k :: ks, _, h => by
    cases h with
    | cons h1 h2 =>
      have h1' := h1
      cases h1 with
      | @tup a xs _ e z r =>
        obtain ⟨kx, e1, e2, q⟩ := rp_tups h2
        obtain ⟨e3, _⟩ := rp_strs r
        subst e3
        refine ⟨(a, k) :: kx, by rw [e1]; rfl, by rw [e2]; rfl, fun p hp => ?_⟩
        rcases List.mem_cons.mp hp with z | z
        · rw [z]; exact ⟨e, h1'⟩
        · exact q p z
theorem tups_rp : ∀ {kx : KX}, (∀ p ∈ kx, Rp K F (.ref p.1) (tupS p.2)) → RpAll K F (kx.map fun p => V.ref p.1) ((kx.map Prod.snd).map tupS)
  | [], _ => .nil
  | k :: ks, h => .cons (h k List.mem_cons_self) (tups_rp fun x hx => h x (List.mem_cons_of_mem _ hx))
variable [Tbl]
theorem sortset_of {we : WE} : ∀ σ H Q, tN K T (wSSet we) σ H Q → tSortSet K (tD K T we) σ H Q := by
  rintro σ H Q ⟨H0, ε, F, Φ, S, W, hw, k⟩
  refine ⟨H0, ε, F, _, S, W, hw, fun d v F1 H1 hd W1 X1 D1 => ?_⟩
  have go : ∀ {a : Addr} {xs : List V} {ds : List PyData}, v = .ref a → (SqL K H1 a xs ∨ SqT K H1 a xs) → RpAll K F1 xs ds → sortD ds Φ → sortPost K Q v H1 := fun {a xs ds} ev hs r hd => by
    subst ev
    unfold sortD at hd
    split at hd
    · rename_i ks e
      have e' := strsOf_eq e
      subst e'
      obtain ⟨e2, ok⟩ := rp_strs r
      subst e2
      refine .inl ⟨a, ks, rfl, hs, hd.1, fun p hp => ?_⟩
      obtain ⟨W2, X2⟩ := new_raw (o := .lst ((sset ltS ks).map V.str)) W1 hp
      exact k _ _ _ _ _ hd.2 W2 (X1.trans X2) (none_back X1 hp) (W1.none_of hp) (tape_ne W1 hp) upd_same (by rw [List.length_map, sizeLine_eq]; omega) (strs_rp fun x hx => ok x ((mem_sset lo_S).mp hx))
    · split at hd
      · rename_i ks e
        obtain ⟨e', ne⟩ := tupsOf_eq e
        subst e'
        obtain ⟨kx, e1, e2, q⟩ := rp_tups r
        subst e1 e2
        refine .inr ⟨a, kx, rfl, hs, fun p hp => same_sqT W1.fz (q p hp).1, fun p hp => ne _ (List.mem_map.mpr ⟨p, hp, rfl⟩), hd.1, fun p rs hp sub e => ?_⟩
        obtain ⟨W2, X2⟩ := new_raw (o := .lst (rs.map fun q => V.ref q.1)) W1 hp
        have hl : rs.length = (sset ltT (kx.map Prod.snd)).length := by rw [← e, List.length_map]
        have hd2 := hd.2
        rw [← e] at hd2
        exact k _ _ _ _ _ hd2 W2 (X1.trans X2) (none_back X1 hp) (W1.none_of hp) (tape_ne W1 hp) upd_same (by rw [List.length_map, sizeLine_eq, hl]; omega) (tups_rp fun p hp => (q p (sub p hp)).2)
      · exact hd.elim
  cases D1 with
  | lst e z r => exact go rfl (.inl (SqL.of (W1.fz _ _ e))) r hd
  | tup e z r => exact go rfl (.inr (same_sqT W1.fz e)) r hd
  | _ => exact hd.elim
variable {X : Cx}
theorem mn_sortset {a : Expr} {we : WE} {p p2 q pos : Pos} (hk : X.K = K) (hc : X.calm = true) (hu : X.A.units + 64 < cLine) (hm : X.mg "sorted" = none) (hm2 : X.mg "set" = none) (ha : PE X a (tD K T we)) (hg : Gl X "sorted" := by rfl) (hg2 : Gl X "set" := by rfl)
    (na : starEach [a] X.env = (false, eval a X.env) :: starEach [] X.env := by rfl) : PE X (.Call (.Name "sorted" p) [.Call (.Name "set" p2) [a] [] q] [] pos) (tN K T (wSSet we)) := by
  subst hk
  exact pe_imp (pe_sortset hc hu hm hm2 ha hg hg2 na) sortset_of
end
end MG

set_option Elab.async false
set_option linter.all false
set_option maxRecDepth 100000
set_option maxHeartbeats 4000000
/-! MgIter: targets, what is walked, list comprehensions, over plain data. -/
namespace MG
variable [Tbl]
open PySem PySem.Spec PyProof.Rows L2

/-! ### targets -/
abbrev WG := PyData → EV → (EV → Prop) → Prop
abbrev WGs := List PyData → EV → (EV → Prop) → Prop
def wgV (i : Nat) : WG := fun d ε Φ => Φ (ε.set i (.val d))
def wgNil : WGs := fun ds ε Φ => match ds with
  | [] => Φ ε
  | _ => False
def wgCons (g : WG) (gs : WGs) : WGs := fun ds ε Φ => match ds with
  | d :: r => g d ε fun ε1 => gs r ε1 Φ
  | [] => False
def wgTup (gs : WGs) : WG := fun d ε Φ => match d with
  | .tuple ds => gs ds ε Φ
  | _ => False
section
variable (K : PySem.W.Frag) (T : Option Addr)
def tDG (is : List Nat) (g : WG) : TG := fun v σ H Q => ∃ H0 ε F d Φ, Sat K T H0 ε σ F H ∧ Wd T F H ∧ Rp K F v d ∧ g d ε Φ ∧ ∀ ε' σ', Φ ε' → Sat K T H0 ε' σ' F H → σ'.length = σ.length → (∀ j, j ∉ is → σ'[j]? = σ[j]?) → Q σ' H
def tDGs (n : Nat) (is : List Nat) (g : WGs) : TGs := fun vs σ H Q => ∃ H0 ε F ds Φ, Sat K T H0 ε σ F H ∧ Wd T F H ∧ RpAll K F vs ds ∧ ds.length = n ∧ g ds ε Φ ∧ ∀ ε' σ', Φ ε' → Sat K T H0 ε' σ' F H → σ'.length = σ.length → (∀ j, j ∉ is → σ'[j]? = σ[j]?) → Q σ' H
end
section
variable {K : PySem.W.Frag} {T : Option Addr} {H0 F H : Hp} {ε : EV} {σ : L2.St}
theorem Sat.set (S : Sat K T H0 ε σ F H) {v : V} {d : PyData} (i : Nat) (r : Rp K F v d) : Sat K T H0 (ε.set i (.val d)) (σ.set i (some v)) F H where
  len := by rw [List.length_set, List.length_set, S.len]
  val := fun j e h => by
    by_cases hij : i = j
    · subst hij
      by_cases hi : i < ε.length
      · rw [List.getElem?_set_self hi] at h
        cases h
        exact ⟨v, List.getElem?_set_self (by rw [← S.len]; exact hi), r⟩
      · rw [List.getElem?_eq_none (by rw [List.length_set]; omega)] at h; cases h
    · rw [List.getElem?_set_ne hij] at h ⊢; exact S.val j e h
  own := fun j ds h => by
    by_cases hij : i = j
    · subst hij
      by_cases hi : i < ε.length
      · rw [List.getElem?_set_self hi] at h; cases h
      · rw [List.getElem?_eq_none (by rw [List.length_set]; omega)] at h; cases h
    · rw [List.getElem?_set_ne hij] at h ⊢; exact S.own j ds h
  sep := fun j l a ds ds' hjl h1 h2 h3 => by
    have key : ∀ j ds, (ε.set i (.val d))[j]? = some (SV.own ds) → i ≠ j ∧ ε[j]? = some (SV.own ds) := fun j ds h => by
      by_cases hij : i = j
      · subst hij
        by_cases hi : i < ε.length
        · rw [List.getElem?_set_self hi] at h; cases h
        · rw [List.getElem?_eq_none (by rw [List.length_set]; omega)] at h; cases h
      · rw [List.getElem?_set_ne hij] at h; exact ⟨hij, h⟩
    obtain ⟨n1, g1⟩ := key _ _ h1
    obtain ⟨n2, g2⟩ := key _ _ h2
    rw [List.getElem?_set_ne n1] at h3
    rw [List.getElem?_set_ne n2]
    exact S.sep j l a ds ds' hjl g1 g2 h3
  tape := fun j o h => by
    by_cases hij : i = j
    · subst hij
      by_cases hi : i < ε.length
      · rw [List.getElem?_set_self hi] at h; cases h
      · rw [List.getElem?_eq_none (by rw [List.length_set]; omega)] at h; cases h
    · rw [List.getElem?_set_ne hij] at h ⊢; exact S.tape j o h
  fns := fun j f h => by
    obtain ⟨n, g⟩ := fn_set (by simp) h
    rw [List.getElem?_set_ne n]; exact S.fns j f g
  dct := S.dct.set i (by simp)
end
section
variable {X : Cx} {K : PySem.W.Frag} {T : Option Addr} {pos : Pos} {e : Expr} {es : List Expr}
theorem pg_imp {t t' : TG} (h : PG X e t) (i : ∀ v σ H Q, t' v σ H Q → t v σ H Q) : PG X e t' := ⟨fun pins s σ H v u Q I r hw => h.run pins s σ H v u Q I r (i v σ H Q hw)⟩
theorem pgs_imp {t t' : TGs} (h : PGs X es t) (i : ∀ v σ H Q, t' v σ H Q → t v σ H Q) : PGs X es t' := ⟨fun pins s σ H v u Q I r hw => h.run pins s σ H v u Q I r (i v σ H Q hw)⟩
theorem mg_v {x : Str} (i : Nat) (hN : X.N.Nodup) (hi : X.N[i]? = some x := by rfl) (hx : Loc X.env.scope x := by first | exact Or.inl rfl | exact Or.inr rfl) (hf : X.fn x = true ∨ X.env.scope.names.lookup x = some .local := by first | exact .inl rfl | exact .inr rfl | assumption) : PG X (.Name x pos) (tDG K T [i] (wgV i)) :=
  pg_imp (pg_name hN hi hx hf) fun v σ H Q ⟨H0, ε, F, d, Φ, S, W, r, hg, k⟩ => k _ _ hg (S.set i r) (List.length_set ..) fun j hj => List.getElem?_set_ne fun z => hj (by rw [z]; exact List.mem_singleton.mpr rfl)
theorem mgs_nil : PGs X [] (tDGs K T 0 [] wgNil) :=
  pgs_imp pgs_nil fun vs σ H Q ⟨H0, ε, F, ds, Φ, S, W, r, hl, hg, k⟩ => by
    cases ds with
    | nil => cases r; exact ⟨rfl, k _ _ hg S rfl fun _ _ => rfl⟩
    | cons _ _ => cases hl
theorem mgs_cons {n : Nat} {is js : List Nat} {g : WG} {gs : WGs} (h1 : PG X e (tDG K T is g)) (h2 : PGs X es (tDGs K T n js gs)) (hs : (assignEach (e :: es) X.env).map (·.2) = assign e X.env :: (assignEach es X.env).map (·.2) := by rfl) : PGs X (e :: es) (tDGs K T (n + 1) (is ++ js) (wgCons g gs)) :=
  pgs_imp (pgs_cons h1 h2 hs) fun vs σ H Q ⟨H0, ε, F, ds, Φ, S, W, r, hl, hg, k⟩ => by
    cases r with
    | nil => cases hl
    | @cons v vs d ds r1 r2 =>
      refine ⟨v, vs, rfl, H0, ε, F, d, _, S, W, r1, hg, fun ε1 σ1 h1 S1 l1 o1 => ?_⟩
      refine ⟨H0, ε1, F, ds, _, S1, W, r2, Nat.succ.inj hl, h1, fun ε2 σ2 h2 S2 l2 o2 => ?_⟩
      exact k _ _ h2 S2 (l2.trans l1) fun j hj => (o2 j fun z => hj (List.mem_append_right _ z)).trans (o1 j fun z => hj (List.mem_append_left _ z))

theorem mg_tup {k n : Nat} {is : List Nat} {gs : WGs} (hK : X.K = K) (hc : X.calm = true) (h : PGs X es (tDGs K T n is gs)) (hgl : ∀ ds ε Φ, gs ds ε Φ → ds.length = n)
    (hn : (assignEach es X.env).length = n := by rfl) (hst : (assignEach es X.env).findIdx? (·.1) = none := by rfl) : PG X (.Tuple es k pos) (tDG K T is (wgTup gs)) := by
  subst hK
  exact pg_imp (pg_tup hc h hn hst) fun v σ H Q ⟨H0, ε, F, d, Φ, S, W, r, hg, k⟩ => by
    unfold wgTup at hg
    split at hg
    · have hl := hgl _ _ _ hg
      cases r with
      | tup e z a => exact ⟨_, _, rfl, same_sqT W.fz e, by rw [a.length]; exact hl, H0, ε, F, _, Φ, S, W, a, hl, hg, k⟩
    · exact hg.elim
theorem wgl_nil : ∀ ds ε Φ, wgNil ds ε Φ → ds.length = 0 := fun ds ε Φ h => by
  cases ds with
  | nil => rfl
  | cons _ _ => exact h.elim
theorem wgl_v {i : Nat} {gs : WGs} {n : Nat} (h : ∀ ds ε Φ, gs ds ε Φ → ds.length = n) : ∀ ds ε Φ, wgCons (wgV i) gs ds ε Φ → ds.length = n + 1 := fun ds ε Φ q => by
  cases ds with
  | nil => exact q.elim
  | cons d r => exact congrArg (· + 1) (h r _ _ q)
end

/-! ### what is walked -/
abbrev WI := EV → (List PyData → Prop) → Prop
/-- a walk over J gives the data ds, whatever is laid meanwhile -/
def ItOk (K : PySem.W.Frag) (T : Option Addr) (J : It) (ds : List PyData) (F' : Hp) : Prop := ds.length ≤ sizeLine ∧ ∃ G Y, Walk J ds.length G Y ∧ (∀ F2 H2, Same F' F2 → Wd T F2 H2 → G H2) ∧
  ∀ i H2 x H3 F2, i < ds.length → Same F' F2 → Wd T F2 H2 → Y i H2 x H3 → ∃ F3 d, ds[i]? = some d ∧ Wd T F3 H3 ∧ Ex T F2 H2 F3 H3 ∧ Rp K F3 x d
def tDI (K : PySem.W.Frag) (T : Option Addr) (w : WI) : TI := fun σ H R => ∃ H0 ε F Φ, Sat K T H0 ε σ F H ∧ Wd T F H ∧ w ε Φ ∧ ∀ ds J F' H', Φ ds → Wd T F' H' → Ex T F H F' H' → ItOk K T J ds F' → R J H'
theorem it_list {K : PySem.W.Frag} {T : Option Addr} {F : Hp} {a : Addr} {xs : List V} {ds : List PyData} (e : F a = some (.lst xs)) (z : xs.length ≤ sizeLine) (r : RpAll K F xs ds) : ItOk K T (Itl K a) ds F := by
  refine ⟨by rw [← r.length]; exact z, _, _, r.length ▸ walk_list (K := K) (a := a) (xs := xs), fun F2 H2 f W => SqL.of (W.fz _ _ (f _ _ e)), fun i H2 x H3 F2 hi f W y => ?_⟩
  obtain ⟨rfl, h⟩ := y
  obtain ⟨d, h1, h2⟩ := r.get h
  exact ⟨F2, d, h1, W, Ex.refl, Rp.up f _ _ h2⟩
theorem it_tup {K : PySem.W.Frag} {T : Option Addr} {F : Hp} {a : Addr} {xs : List V} {ds : List PyData} (e : SqT K F a xs) (z : xs.length ≤ sizeLine) (r : RpAll K F xs ds) : ItOk K T (Itt K a) ds F := by
  refine ⟨by rw [← r.length]; exact z, _, _, r.length ▸ walk_tup (K := K) (a := a) (xs := xs), fun F2 H2 f W => same_sqT W.fz (same_sqT f e), fun i H2 x H3 F2 hi f W y => ?_⟩
  obtain ⟨rfl, h⟩ := y
  obtain ⟨d, h1, h2⟩ := r.get h
  exact ⟨F2, d, h1, W, Ex.refl, Rp.up f _ _ h2⟩
/-- the signs of a text, as texts -/
def signs (z : Str) : List PyData := z.cps.toList.map fun c => .str ⟨#[c]⟩
theorem strOk_sign {z : Str} {i : Nat} {c : Nat} (h : sOk z = true) (e : z.cps[i]? = some c) : sOk ⟨#[c]⟩ = true := by
  have h1 := sOk_ok h
  unfold PyData.strOk at h1
  rw [Array.all_eq_true'] at h1
  refine sOk_of ?_ (by rw [sizeLine_eq]; show 1 ≤ 16777216; decide)
  unfold PyData.strOk
  rw [Array.all_eq_true']
  intro x hx
  have : x = c := by simpa using hx
  subst this
  exact h1 x (Array.mem_of_getElem? e)
theorem it_str {K : PySem.W.Frag} {T : Option Addr} {F : Hp} {z : Str} (g : sOk z = true) : ItOk K T (Its z) (signs z) F := by
  have hl : (signs z).length = z.cps.size := by unfold signs; rw [List.length_map, Array.length_toList]
  refine ⟨by rw [hl]; exact sOk_len g, _, _, hl ▸ walk_str (z := z), fun F2 H2 f W => trivial, fun i H2 x H3 F2 hi f W y => ?_⟩
  obtain ⟨rfl, c, h, rfl⟩ := y
  exact ⟨F2, _, by unfold signs; rw [List.getElem?_map, Array.getElem?_toList, h]; rfl, W, Ex.refl, .str (strOk_sign g h)⟩
def itemsOf : PyData → Option (List PyData)
  | .list ds => some ds
  | .tuple ds => some ds
  | .str z => some (signs z)
  | _ => none
def wiSeq (we : WE) : WI := fun ε Φ => we ε fun d => match itemsOf d with
  | some ds => Φ ds
  | none => False
def wiRng (lo : Int) (n : Nat) : List PyData := (List.range n).map fun (i : Nat) => .int (lo + (i : Int))
def wiR1 (wa : WE) : WI := fun ε Φ => wa ε fun d => match d with
  | .int j => (-(2 ^ 62) ≤ j ∧ j ≤ LIM) ∧ Φ (wiRng 0 j.toNat)
  | _ => False
def wiR2 (wa wb : WE) : WI := fun ε Φ => wa ε fun d => wb ε fun e => match d, e with
  | .int i, .int j => (-(2 ^ 62) ≤ i ∧ i < 2 ^ 62 ∧ -(2 ^ 62) ≤ j ∧ j < 2 ^ 62 ∧ j - i ≤ LIM) ∧ Φ (wiRng i (j - i).toNat)
  | _, _ => False
theorem rng_len (lo : Int) (n : Nat) : (wiRng lo n).length = n := by unfold wiRng; rw [List.length_map, List.length_range]
theorem rng_get {lo : Int} {n i : Nat} (h : i < n) : (wiRng lo n)[i]? = some (.int (lo + (i : Int))) := by
  unfold wiRng
  rw [List.getElem?_map, List.getElem?_range h]; rfl
theorem it_rng {K : PySem.W.Frag} {T : Option Addr} {F : Hp} {lo : Int} {n : Nat} (hn : n ≤ sizeLine) : ItOk K T (Itr lo n) (wiRng lo n) F := by
  refine ⟨by rw [rng_len]; exact hn, fun _ => True, YFn fun i => .int (lo + i), by rw [rng_len]; exact walk_range, fun F2 H2 f W => trivial, fun i H2 x H3 F2 hi f W y => ?_⟩
  obtain ⟨rfl, rfl⟩ := y
  rw [rng_len] at hi
  exact ⟨F2, _, rng_get hi, W, Ex.refl, .int _⟩
section
variable {X : Cx} {K : PySem.W.Frag} {T : Option Addr} {pos : Pos} {tg e : Expr}
theorem pi_imp {w w' : TI} (h : PI X tg e w) (i : ∀ σ H R, w' σ H R → w σ H R) : PI X tg e w' := ⟨fun pins s σ H R I hw => h.run pins s σ H R I (i σ H R hw)⟩
/-- a list, a tuple or a text, as it comes -/
theorem mi_seq {we : WE} (hk : X.K = K) (he : PE X e (tD K T we)) : PI X tg e (tDI K T (wiSeq we)) := by
  subst hk
  refine ⟨fun pins s σ H R I ⟨H0, ε, F, Φ, S, W, hw, k⟩ => ?_⟩
  refine thn (he.run pins s σ H (fun x H1 => ∃ d F1, (match itemsOf d with | some ds => Φ ds | none => False) ∧ Wd T F1 H1 ∧ Ex T F H F1 H1 ∧ Rp X.K F1 x d) I ⟨H0, ε, F, _, S, W, hw, fun d v F1 H1 h1 h2 h3 h4 => ⟨d, F1, h1, h2, h3, h4⟩⟩) ?_
  rintro v s1 ⟨x, H1, I1, r1, d, F1, hd, W1, X1, D1⟩
  cases D1 with
  | non => exact hd.elim
  | bl b => exact hd.elim
  | int i => exact hd.elim
  | @str z g =>
    obtain ⟨t, rfl⟩ := r1
    have q := k _ _ F1 H1 hd W1 X1 (it_str g)
    cases ha : z.cps.all (· < 128)
    · refine wpAny_pyIter_wide ha ?_
      exact pi_one (tk := s1.toks) I1 _ (turn_str _ z t _ (Or.inr rfl)) ⟨_, Heap.get?_push_size _ rfl, rfl, rfl⟩ q
    · refine wpAny_pyIter_ascii ha ?_
      exact pi_one (tk := s1.toks) I1 _ (turn_str _ z t _ (Or.inl rfl)) ⟨_, Heap.get?_push_size _ rfl, rfl, rfl⟩ q
  | @lst p xs ds e1 z a =>
    cases r1
    obtain ⟨its, rv, pl, hz⟩ := I1.list (SqL.of (K := X.K) (W1.fz _ _ e1))
    refine wpAny_pyIter_list pl.isList ?_
    exact pi_one (tk := s1.toks) I1 _ (turn_list p _) ⟨_, Heap.get?_push_size _ rfl, rfl, rfl⟩ (k _ _ F1 H1 hd W1 X1 (it_list e1 z a))
  | @tup p xs ds e1 z a =>
    cases r1
    obtain ⟨its, rv, pl, hz⟩ := I1.tuple (same_sqT W1.fz e1)
    refine wpAny_pyIter_tuple (show s1.heap.IsTuple p its.toArray from pl) ?_
    exact pi_one (tk := s1.toks) I1 _ (turn_tuple p _) ⟨_, Heap.get?_push_size _ rfl, rfl, rfl⟩ (k _ _ F1 H1 hd W1 X1 (it_tup e1 z a))
theorem mi_range1 {a : Expr} {p : Pos} {wa : WE} (hm : X.mg "range" = none) (ha : PE X a (tD K T wa)) (hg : Gl X "range" := by rfl) (hs : starEach [a] X.env = [(false, eval a X.env)] := by rfl) : PI X tg (.Call (.Name "range" p) [a] [] pos) (tDI K T (wiR1 wa)) :=
  pi_imp (pi_range1 hg hm (pa_cons ha pa_nil hs) hs) fun σ H R ⟨H0, ε, F, Φ, S, W, hw, k⟩ => ⟨H0, ε, F, _, S, W, hw, fun d v F1 H1 hd W1 X1 D1 => by
    split at hd
    · cases D1
      rename_i j
      have h1 := hd.1.1
      have h2 := hd.1.2
      exact ⟨j, rfl, h1, by unfold LIM at h2; omega, k _ _ F1 H1 hd.2 W1 X1 (it_rng (lim_line (by unfold LIM at h2 ⊢; omega)))⟩
    · exact hd.elim⟩
theorem mi_range2 {a b : Expr} {p : Pos} {wa wb : WE} (hm : X.mg "range" = none) (ha : PE X a (tD K T wa)) (hb : PE X b (tD K T wb)) (hg : Gl X "range" := by rfl) (hs : starEach [a, b] X.env = [(false, eval a X.env), (false, eval b X.env)] := by rfl) (hs2 : starEach [b] X.env = [(false, eval b X.env)] := by rfl) : PI X tg (.Call (.Name "range" p) [a, b] [] pos) (tDI K T (wiR2 wa wb)) :=
  pi_imp (pi_range2 hg hm (pa_cons ha (pa_cons hb pa_nil hs2) (hs.trans (by rw [hs2]))) hs hs2) fun σ H R ⟨H0, ε, F, Φ, S, W, hw, k⟩ => ⟨H0, ε, F, _, S, W, hw, fun d v F1 H1 hd W1 X1 D1 => ⟨H0, ε, F1, _, S.ex X1, W1, hd, fun d2 v2 F2 H2 hd2 W2 X2 D2 => by
    split at hd2
    · cases D1
      cases D2
      rename_i i j
      obtain ⟨⟨h1, h2, h3, h4, h5⟩, h⟩ := hd2
      exact ⟨i, j, rfl, ⟨h1, h2, h3, h4⟩, k _ _ F2 H2 h W2 (X1.trans X2) (it_rng (lim_line (by unfold LIM at h5 ⊢; omega)))⟩
    · exact hd2.elim⟩⟩
end

/-! ### list comprehensions -/
/-- the items, one by one: g binds, c tests, w gives -/
def wLc (g : WG) (c : WB) (w : WE) : List PyData → EV → (List PyData → Prop) → Prop
  | [], _, Φ => Φ []
  | d :: ds, ε, Φ => g d ε fun ε1 => c ε1 fun b => match b with
    | true => w ε1 fun r => wLc g c w ds ε fun rs => Φ (r :: rs)
    | false => wLc g c w ds ε Φ
def wYes : WB := fun _ Φ => Φ true
def unS (ε : EV) : List Nat → EV
  | [] => ε
  | i :: is => (unS ε is).set i .un
def wComp (wi : WI) (is : List Nat) (g : WG) (c : WB) (w : WE) : WA := fun ε Φ => wi ε fun ds => wLc g c w ds (unS ε is) Φ
theorem unS_len (ε : EV) : ∀ is, (unS ε is).length = ε.length
  | [] => rfl
  | i :: is => by rw [unS, List.length_set, unS_len ε is]
theorem unS_get {ε : EV} {i : Nat} {s : SV} (hs : s ≠ .un) : ∀ {is : List Nat}, (unS ε is)[i]? = some s → ε[i]? = some s ∧ i ∉ is
  | [], h => ⟨h, by simp⟩
  | v :: vs, h => by
    unfold unS at h
    by_cases hi : v = i
    · subst hi
      by_cases hv : v < (unS ε vs).length
      · rw [List.getElem?_set_self hv] at h; cases h; exact absurd rfl hs
      · rw [List.getElem?_eq_none (by rw [List.length_set]; omega)] at h; cases h
    · rw [List.getElem?_set_ne hi] at h
      obtain ⟨h1, h2⟩ := unS_get hs h
      exact ⟨h1, by simp only [List.mem_cons, not_or]; exact ⟨fun e => hi e.symm, h2⟩⟩
theorem wipe_get {σ : L2.St} {i : Nat} : ∀ {is : List Nat}, i ∉ is → (wipe σ is)[i]? = σ[i]? := fun h => wipe_out h
theorem wipe_eq : ∀ {is : List Nat} {σ σ' : L2.St}, σ'.length = σ.length → (∀ j, j ∉ is → σ'[j]? = (wipe σ is)[j]?) → wipe σ' is = wipe σ is
  | [], σ, σ', hl, h => List.ext_getElem? fun j => by exact h j (by simp)
  | v :: vs, σ, σ', hl, h => by
    unfold wipe at h ⊢
    have hk : wipe (σ'.set v none) vs = wipe (σ.set v none) vs := wipe_eq (by rw [List.length_set, List.length_set, hl]) fun j hj => by
      by_cases e : v = j
      · subst e
        rw [wipe_get hj]
        by_cases hv : v < σ.length
        · rw [List.getElem?_set_self hv, List.getElem?_set_self (by rw [hl]; exact hv)]
        · rw [List.getElem?_eq_none (by rw [List.length_set]; omega), List.getElem?_eq_none (by rw [List.length_set]; omega)]
      · have q := h j (by simp only [List.mem_cons, not_or]; exact ⟨fun z => e z.symm, hj⟩)
        rw [List.getElem?_set_ne e] at q
        rw [wipe_get hj, List.getElem?_set_ne e, List.getElem?_set_ne e, q, wipe_get hj]
    have comm : ∀ (τ : L2.St) (ws : List Nat), (wipe τ ws).set v none = wipe (τ.set v none) ws := fun τ ws => by
      induction ws with
      | nil => rfl
      | cons u us ih =>
        unfold wipe
        rw [← ih]
        by_cases e : u = v
        · subst e; rfl
        · exact List.set_comm _ _ e
    rw [comm, comm, hk]
theorem Sat.wipe {K : PySem.W.Frag} {T : Option Addr} {H0 F H : Hp} {ε : EV} {σ : L2.St} (S : Sat K T H0 ε σ F H) (is : List Nat) : Sat K T H0 (unS ε is) (L2.wipe σ is) F H where
  len := by rw [unS_len, wipe_length, S.len]
  val := fun i d h => by
    obtain ⟨h1, h2⟩ := unS_get (by simp) h
    rw [wipe_get h2]; exact S.val i d h1
  own := fun i ds h => by
    obtain ⟨h1, h2⟩ := unS_get (by simp) h
    rw [wipe_get h2]; exact S.own i ds h1
  sep := fun i j a ds ds' hij h1 h2 h3 => by
    obtain ⟨g1, n1⟩ := unS_get (by simp) h1
    obtain ⟨g2, n2⟩ := unS_get (by simp) h2
    rw [wipe_get n1] at h3
    rw [wipe_get n2]; exact S.sep i j a ds ds' hij g1 g2 h3
  tape := fun i o h => by
    obtain ⟨h1, h2⟩ := unS_get (by simp) h
    rw [wipe_get h2]; exact S.tape i o h1
  fns := fun i f h => by
    obtain ⟨h1, h2⟩ := unS_get (by simp) h
    rw [wipe_get h2]; exact S.fns i f h1
  dct := S.dct.mono (fun j ds h => let ⟨h1, h2⟩ := unS_get (by simp) h; ⟨h1, wipe_get h2⟩) fun _ _ h1 h2 h3 h4 => ⟨h1, h2, h3, h4⟩
theorem tLc_of {K : PySem.W.Frag} {T : Option Addr} {wi : WI} {is : List Nat} {g : WG} {c : WB} {w : WE} {vs : List Nat} (hv : ∀ i ∈ is, i ∈ vs) :
    ∀ σ H Q, tN K T (wComp wi vs g c w) σ H Q → tLc (tDI K T wi) (tDG K T is g) (tDB K T c) (tD K T w) vs σ H Q := by
  rintro σ H Q ⟨H0, ε, F, Φ, S, W, hw, k⟩
  refine ⟨H0, ε, F, _, S, W, hw, fun ds J F1 H1 hd W1 X1 hit => fun D hD => ?_⟩
  obtain ⟨hz, G, Y, walk, hG, hY⟩ := hit
  have hF1D : F1 D = none := W1.none_of hD
  have hTD : T ≠ some D := tape_ne W1 hD
  refine lc_it walk (fun i H2 => ∃ F2 acc rs, Wd T F2 H2 ∧ Ex T F1 H1 F2 H2 ∧ F2 D = none ∧ H2 D = some (.lst acc) ∧ acc.length ≤ i ∧ RpAll K F2 acc rs ∧ wLc g c w (ds.drop i) (unS ε vs) (fun zs => Φ (rs ++ zs))) ?_ ?_ ?_ ?_
  · obtain ⟨W2, X2⟩ := new_raw (o := .lst []) W1 hD
    exact ⟨F1, [], [], W2, X2, hF1D, upd_same, Nat.zero_le _, .nil, hd⟩
  · rintro i H2 hi ⟨F2, acc, rs, W2, X2, _⟩
    exact hG F2 H2 X2.ff W2
  · rintro i x H2 H3 hi ⟨F2, acc, rs, W2, X2, hF2D, hD2, hl, ra, hloop⟩ y
    obtain ⟨F3, d, hdi, W3, X3, r3⟩ := hY i H2 x H3 F2 hi X2.ff W2 y
    have hdrop : ds.drop i = d :: ds.drop (i + 1) := by
      rw [List.drop_eq_getElem_cons hi]
      congr 1
      rw [List.getElem?_eq_getElem hi] at hdi
      exact Option.some.inj hdi
    rw [hdrop] at hloop
    have X13 := X1.trans (X2.trans X3)
    have S3 := (S.ex X13).wipe vs
    have D3 : H3 D = some (.lst acc) := X3.hl hD2 hTD
    have F3D : F3 D = none := by rw [X3.old D (by rw [hD2]; simp)]; exact hF2D
    refine ⟨H0, unS ε vs, F3, d, _, S3, W3, r3, hloop, fun ε4 σ4 h4 S4 l4 o4 => ⟨wipe_eq (by rw [l4, wipe_length]) fun j hj => o4 j fun z => hj (hv j z), ?_⟩⟩
    refine ⟨H0, ε4, F3, _, S4, W3, h4, fun b F5 H5 hb W5 X5 => ?_⟩
    have D5 : H5 D = some (.lst acc) := X5.hl D3 hTD
    have F5D : F5 D = none := by rw [X5.old D (by rw [D3]; simp)]; exact F3D
    cases b with
    | false =>
      exact iteF ⟨F5, acc, rs, W5, (X2.trans X3).trans X5, F5D, D5, Nat.le_succ_of_le hl, RpAll.up (X3.trans X5).ff _ _ ra, hb⟩
    | true =>
      refine iteT ?_
      refine ⟨H0, ε4, F5, _, S4.ex X5, W5, hb, fun r v F6 H6 hr W6 X6 D6 => ?_⟩
      have E6 : H6 D = some (.lst acc) := X6.hl D5 hTD
      have F6D : F6 D = none := by rw [X6.old D (by rw [D5]; simp)]; exact F5D
      have hacc : acc.length < sizeLine := by omega
      refine ⟨acc, E6, hacc, F6, acc ++ [v], rs ++ [r], ?_, ?_, F6D, upd_same, by rw [List.length_append]; exact Nat.succ_le_succ hl, (RpAll.up ((X3.trans X5).trans X6).ff _ _ ra).append (.cons D6 .nil), ?_⟩
      · refine ⟨fun b u q => ?_, ?_, tabs_lst W6.tabs E6, W6.nt⟩
        · have hb : b ≠ D := ne_of_none q F6D
          rw [upd_ne hb]; exact W6.fz _ _ q
        · cases T with
          | none => trivial
          | some t =>
            obtain ⟨f, l, ns, p, c, h1, h2, h3⟩ := W6.tape
            exact ⟨f, l, ns, p, c, by rw [upd_ne (fun z => hTD (by rw [z]))]; exact h1, h2, h3⟩
      · have X16 := ((X2.trans X3).trans X5).trans X6
        refine ⟨fun b u q t n => ?_, fun b q => ?_, X16.ff, X16.old, fun b l p c e q => let ⟨p', c', q'⟩ := X16.tl b l p c e q; ⟨p', c', by rw [upd_ne (fun z => hTD (by rw [e, z]))]; exact q'⟩⟩
        · rw [upd_ne (ne_of_none q hD)]; exact X16.hh _ _ q t (by assumption)
        · rw [upd_ne (fun z => q (by rw [z]; exact hD))]; exact X16.dom b q
      · have e : (fun zs => Φ (rs ++ [r] ++ zs)) = fun zs => Φ (rs ++ r :: zs) := funext fun zs => by rw [List.append_assoc]; rfl
        rw [e]; exact hr
  · rintro H2 ⟨F2, acc, rs, W2, X2, hF2D, hD2, hl, ra, hloop⟩
    rw [List.drop_length] at hloop
    have hloop : Φ (rs ++ []) := hloop
    rw [List.append_nil] at hloop
    exact k _ D acc F2 H2 hloop W2 (X1.trans X2) (none_back X1 hD) hF2D hTD hD2 (Nat.le_trans hl hz) ra
section
variable {X : Cx} {K : PySem.W.Frag} {T : Option Addr} {pos : Pos}
theorem mts_nil : PTs X [] (tDB K T wYes) := ⟨fun pins s σ H Q I ⟨H0, ε, F, Φ, S, W, hw, k⟩ => pts_nil.run pins s σ H Q I (k _ F H hw W Ex.refl)⟩
theorem mts_one {c : Expr} {t : WB} (h : PT X c (tDB K T t)) : PTs X [c] (tDB K T t) := pts_one h
theorem mn_lc {elt tg iter : Expr} {ifs : List Expr} {scope : Scope} {own : List (Str × Nat)} {wi : WI} {is : List Nat} {g : WG} {c : WB} {w : WE} (hc : X.calm = true) (hN : X.N.Nodup) (hi : PI X tg iter (tDI K T wi)) (ok : BlkOk X.N X.env.scope scope own)
    (hg : ∀ (s : Shared) (H : Hp) (C : Addr) (cl : List (Str × Addr)) (fp : List Addr), PG (X.blk s H scope (compEnvC scope cl C X.env) fp) tg (tDG K T is g)) (ht : ∀ (s : Shared) (H : Hp) (C : Addr) (cl : List (Str × Addr)) (fp : List Addr), PTs (X.blk s H scope (compEnvC scope cl C X.env) fp) ifs (tDB K T c))
    (he : ∀ (s : Shared) (H : Hp) (C : Addr) (cl : List (Str × Addr)) (fp : List Addr), PE (X.blk s H scope (compEnvC scope cl C X.env) fp) elt (tD K T w)) (hv : ∀ i ∈ is, i ∈ own.map (·.2) := by decide) (hs : ∀ x, foldedSetIterable iter X.env x = pure x := by intro _; rfl) :
    PE X (.ListComp elt [⟨tg, iter, ifs, 0⟩] scope pos) (tN K T (wComp wi (own.map (·.2)) g c w)) :=
  pe_imp (pe_lc hc hN hi ok hg ht he hs) (tLc_of hv)
end
end MG

set_option Elab.async false
set_option linter.all false
set_option maxRecDepth 100000
set_option maxHeartbeats 4000000
/-! MgStmt: statements, loops, defs, over plain data. -/
namespace MG
variable [Tbl]
open PySem PySem.Spec PyProof.Rows L2

structure WEnds where
  nx : EV → Prop
  rt : EV → PyData → Prop
  bk : EV → Prop
  ct : EV → Prop
abbrev WS := EV → WEnds → Prop
def sD (K : PySem.W.Frag) (T : Option Addr) (w : WS) : TS := fun D σ H => ∃ H0 F0 ε F Ψ, Sat K T H0 ε σ F H ∧ Wd T F H ∧ Ex T F0 H0 F H ∧ w ε Ψ ∧
  (∀ ε' σ' F' H', Ψ.nx ε' → Sat K T H0 ε' σ' F' H' → Wd T F' H' → Ex T F0 H0 F' H' → D.nx σ' H') ∧
  (∀ ε' σ' d v F' H', Ψ.rt ε' d → Sat K T H0 ε' σ' F' H' → Wd T F' H' → Ex T F0 H0 F' H' → Rp K F' v d → D.rt v H') ∧
  (∀ ε' σ' F' H', Ψ.bk ε' → Sat K T H0 ε' σ' F' H' → Wd T F' H' → Ex T F0 H0 F' H' → D.bk σ' H') ∧
  (∀ ε' σ' F' H', Ψ.ct ε' → Sat K T H0 ε' σ' F' H' → Wd T F' H' → Ex T F0 H0 F' H' → D.ct σ' H')

/-! ### statements -/
def wNext : WS := fun ε Ψ => Ψ.nx ε
def wSeq (a b : WS) : WS := fun ε Ψ => a ε { Ψ with nx := fun ε1 => b ε1 Ψ }
def wIfS (t : WB) (a b : WS) : WS := fun ε Ψ => t ε fun c => match c with
  | true => a ε Ψ
  | false => b ε Ψ
def wRet (w : WE) : WS := fun ε Ψ => w ε (Ψ.rt ε)
def wRetN : WS := fun ε Ψ => Ψ.rt ε .none
def wDrop (w : WE) : WS := fun ε Ψ => w ε fun _ => Ψ.nx ε
def wSet (i : Nat) (w : WE) : WS := fun ε Ψ => w ε fun d => Ψ.nx (ε.set i (.val d))
def wSetN (i : Nat) (w : WA) : WS := fun ε Ψ => w ε fun ds => Ψ.nx (ε.set i (.own ds))
def wAsg (g : WG) (w : WE) : WS := fun ε Ψ => w ε fun d => g d ε Ψ.nx
def wPar (i j : Nat) (wa wb : WE) : WS := fun ε Ψ => wa ε fun d => wb ε fun e => Ψ.nx ((ε.set i (.val d)).set j (.val e))
def wPar3 (i j l : Nat) (wa wb wc : WE) : WS := fun ε Ψ => wa ε fun d => wb ε fun e => wc ε fun f => Ψ.nx (((ε.set i (.val d)).set j (.val e)).set l (.val f))
def wApp (i : Nat) (w : WE) : WS := fun ε Ψ => match ε[i]? with
  | some (SV.own ds) => w ε fun d => ds.length < LIM ∧ Ψ.nx (ε.set i (.own (ds ++ [d])))
  | _ => False
/-- from here on the list in slot i is not written -/
def wFrz (i : Nat) (w : WS) : WS := fun ε Ψ => match ε[i]? with
  | some (SV.own ds) => w (ε.set i (.val (.list ds))) Ψ
  | _ => False
def wNever : WS := fun _ _ => False
def wBreak : WS := fun ε Ψ => Ψ.bk ε
def wCont : WS := fun ε Ψ => Ψ.ct ε
def wForL (g : WG) (b : WS) : List PyData → EV → WEnds → Prop
  | [], ε, Ψ => Ψ.nx ε
  | d :: ds, ε, Ψ => g d ε fun ε1 => b ε1 { nx := fun ε2 => wForL g b ds ε2 Ψ, ct := fun ε2 => wForL g b ds ε2 Ψ, bk := Ψ.nx, rt := Ψ.rt }
def wFor (wi : WI) (g : WG) (b : WS) : WS := fun ε Ψ => wi ε fun ds => wForL g b ds ε Ψ
def wWhl (c : WB) (b : WS) : Nat → WS
  | 0 => fun _ _ => False
  | n + 1 => fun ε Ψ => c ε fun t => match t with
    | true => b ε { nx := fun ε2 => wWhl c b n ε2 Ψ, ct := fun ε2 => wWhl c b n ε2 Ψ, bk := Ψ.nx, rt := Ψ.rt }
    | false => Ψ.nx ε

section
variable {X : Cx} {K : PySem.W.Frag} {T : Option Addr} {pos : Pos} {e : Expr} {we : WE} {st : Stmt} {rest : List Stmt}
theorem ps_imp {t t' : TS} (h : PS X st t) (i : ∀ D σ H, t' D σ H → t D σ H) : PS X st t' := ⟨fun pins s σ H D I hw => h.run pins s σ H D I (i D σ H hw)⟩
theorem pss_imp {t t' : TS} (h : PSs X rest t) (i : ∀ D σ H, t' D σ H → t D σ H) : PSs X rest t' := ⟨fun pins s σ H D I hw => h.run pins s σ H D I (i D σ H hw)⟩
theorem mss_nil : PSs X [] (sD K T wNext) := pss_imp pss_nil fun D σ H ⟨H0, F0, ε, F, Ψ, S, W, X0, hw, kn, kr, kb, kc⟩ => kn ε σ F H hw S W X0
theorem mss_cons {a b : WS} (h1 : PS X st (sD K T a)) (h2 : PSs X rest (sD K T b)) : PSs X (st :: rest) (sD K T (wSeq a b)) :=
  pss_imp (pss_cons h1 h2) fun D σ H ⟨H0, F0, ε, F, Ψ, S, W, X0, hw, kn, kr, kb, kc⟩ => ⟨H0, F0, ε, F, _, S, W, X0, hw, fun ε1 σ1 F1 H1 h1 S1 W1 X1 => ⟨H0, F0, ε1, F1, Ψ, S1, W1, X1, h1, kn, kr, kb, kc⟩, kr, kb, kc⟩
theorem mss_one {a : WS} (h1 : PS X st (sD K T a)) : PSs X [st] (sD K T a) := pss_one h1
theorem ms_if {c : Expr} {a b : List Stmt} {t : WB} {u w : WS} (hc : PT X c (tDB K T t)) (ha : PSs X a (sD K T u)) (hb : PSs X b (sD K T w)) : PS X (.If c a b pos) (sD K T (wIfS t u w)) :=
  ps_imp (ps_if hc ha hb) fun D σ H ⟨H0, F0, ε, F, Ψ, S, W, X0, hw, kn, kr, kb, kc⟩ => ⟨H0, ε, F, _, S, W, hw, fun b F1 H1 hb W1 X1 => by
    cases b with
    | true => exact iteT ⟨H0, F0, ε, F1, Ψ, S.ex X1, W1, X0.trans X1, hb, kn, kr, kb, kc⟩
    | false => exact iteF ⟨H0, F0, ε, F1, Ψ, S.ex X1, W1, X0.trans X1, hb, kn, kr, kb, kc⟩⟩
theorem ms_ret (he : PE X e (tD K T we)) : PS X (.Return (some e) pos) (sD K T (wRet we)) :=
  ps_imp (ps_ret he) fun D σ H ⟨H0, F0, ε, F, Ψ, S, W, X0, hw, kn, kr, kb, kc⟩ => ⟨H0, ε, F, _, S, W, hw, fun d v F1 H1 hd W1 X1 D1 => kr ε σ d v F1 H1 hd (S.ex X1) W1 (X0.trans X1) D1⟩
theorem ms_retN : PS X (.Return none pos) (sD K T wRetN) :=
  ps_imp ps_retN fun D σ H ⟨H0, F0, ε, F, Ψ, S, W, X0, hw, kn, kr, kb, kc⟩ => kr ε σ .none .non F H hw S W X0 .non
theorem ms_pass : PS X (.Pass pos) (sD K T wNext) := ps_imp ps_pass fun D σ H ⟨H0, F0, ε, F, Ψ, S, W, X0, hw, kn, kr, kb, kc⟩ => kn ε σ F H hw S W X0
theorem ms_break : PS X (.Break pos) (sD K T wBreak) := ps_imp ps_break fun D σ H ⟨H0, F0, ε, F, Ψ, S, W, X0, hw, kn, kr, kb, kc⟩ => kb ε σ F H hw S W X0
theorem ms_cont : PS X (.Continue pos) (sD K T wCont) := ps_imp ps_continue fun D σ H ⟨H0, F0, ε, F, Ψ, S, W, X0, hw, kn, kr, kb, kc⟩ => kc ε σ F H hw S W X0
theorem ms_never : PS X st (sD K T wNever) := ps_imp ps_never fun D σ H ⟨H0, F0, ε, F, Ψ, S, W, X0, hw, _⟩ => hw.elim
theorem ms_drop (he : PE X e (tD K T we)) (hs : swapsWith e none pos.line X.env = pure false := by rfl) : PS X (.Expr e pos) (sD K T (wDrop we)) :=
  ps_imp (ps_expr he hs) fun D σ H ⟨H0, F0, ε, F, Ψ, S, W, X0, hw, kn, kr, kb, kc⟩ => ⟨H0, ε, F, _, S, W, hw, fun d v F1 H1 hd W1 X1 D1 => kn ε σ F1 H1 hd (S.ex X1) W1 (X0.trans X1)⟩
theorem tAsg_of {i : Nat} : ∀ D σ H, sD K T (wSet i we) D σ H → tAsg (tD K T we) (gName i) D σ H :=
  fun D σ H ⟨H0, F0, ε, F, Ψ, S, W, X0, hw, kn, kr, kb, kc⟩ => ⟨H0, ε, F, _, S, W, hw, fun d v F1 H1 hd W1 X1 D1 => kn _ _ F1 H1 hd ((S.ex X1).set i D1) W1 (X0.trans X1)⟩
/-- name = e -/
theorem ms_set {x : Str} {pos' : Pos} (i : Nat) (hN : X.N.Nodup) (he : PE X e (tD K T we)) (hi : X.N[i]? = some x := by rfl) (hx : Loc X.env.scope x := by first | exact Or.inl rfl | exact Or.inr rfl) (hs : swapsWith e (some (.Name x pos')) pos.line X.env = pure false := by rfl)
    (hf : X.fn x = true ∨ X.env.scope.names.lookup x = some .local := by first | exact .inl rfl | exact .inr rfl | assumption) : PS X (.Assign [.Name x pos'] e pos) (sD K T (wSet i we)) :=
  ps_imp (ps_set hN hi hx he hs hf) tAsg_of
/-- a slot takes a list of its own -/
theorem Sat.setOwn {H0 F H : Hp} {ε : EV} {σ : L2.St} (S : Sat K T H0 ε σ F H) {a : Addr} {vs : List V} {ds : List PyData} (i : Nat) (e : H a = some (.lst vs)) (z : vs.length ≤ sizeLine) (r : RpAll K F vs ds) (hF : F a = none) (h0 : H0 a = none) (hT : T ≠ some a)
    (hn : ∀ j ds, i ≠ j → ε[j]? = some (SV.own ds) → σ[j]? ≠ some (some (V.ref a))) : Sat K T H0 (ε.set i (.own ds)) (σ.set i (some (.ref a))) F H where
  len := by rw [List.length_set, List.length_set, S.len]
  val := fun j d h => by
    by_cases hij : i = j
    · subst hij
      by_cases hi : i < ε.length
      · rw [List.getElem?_set_self hi] at h; cases h
      · rw [List.getElem?_eq_none (by rw [List.length_set]; omega)] at h; cases h
    · rw [List.getElem?_set_ne hij] at h ⊢; exact S.val j d h
  own := fun j es h => by
    by_cases hij : i = j
    · subst hij
      by_cases hi : i < ε.length
      · rw [List.getElem?_set_self hi] at h
        cases h
        exact ⟨a, vs, List.getElem?_set_self (by rw [← S.len]; exact hi), e, z, r, hF, h0, hT⟩
      · rw [List.getElem?_eq_none (by rw [List.length_set]; omega)] at h; cases h
    · rw [List.getElem?_set_ne hij] at h ⊢; exact S.own j es h
  sep := fun j l b es es' hjl h1 h2 h3 => by
    by_cases hij : i = j
    · subst hij
      rw [List.getElem?_set_ne hjl] at h2 ⊢
      by_cases hi : i < ε.length
      · rw [List.getElem?_set_self (by rw [← S.len]; exact hi)] at h3
        cases h3
        exact hn l es' hjl h2
      · rw [List.getElem?_eq_none (by rw [List.length_set]; omega)] at h1; cases h1
    · rw [List.getElem?_set_ne hij] at h1 h3
      by_cases hil : i = l
      · subst hil
        intro q
        by_cases hi : i < ε.length
        · rw [List.getElem?_set_self (by rw [← S.len]; exact hi)] at q
          cases q
          exact hn j es hij h1 h3
        · rw [List.getElem?_eq_none (by rw [List.length_set]; omega)] at h2; cases h2
      · rw [List.getElem?_set_ne hil] at h2 ⊢
        exact S.sep j l b es es' hjl h1 h2 h3
  tape := fun j o h => by
    by_cases hij : i = j
    · subst hij
      by_cases hi : i < ε.length
      · rw [List.getElem?_set_self hi] at h; cases h
      · rw [List.getElem?_eq_none (by rw [List.length_set]; omega)] at h; cases h
    · rw [List.getElem?_set_ne hij] at h ⊢; exact S.tape j o h
  fns := fun j f h => by
    obtain ⟨n, g⟩ := fn_set (by simp) h
    rw [List.getElem?_set_ne n]; exact S.fns j f g
  dct := S.dct.set i (by simp)
theorem Sat.new {H0 F H F1 H1 : Hp} {ε : EV} {σ : L2.St} (S : Sat K T H0 ε σ F H) (X0 : ∀ a, H0 a ≠ none → H a ≠ none) (x : Ex T F H F1 H1) {a : Addr} {vs : List V} {ds : List PyData} (i : Nat) (ha : H a = none) (e : H1 a = some (.lst vs)) (z : vs.length ≤ sizeLine) (r : RpAll K F1 vs ds) (hF : F1 a = none) (hT : T ≠ some a) :
    Sat K T H0 (ε.set i (.own ds)) (σ.set i (some (.ref a))) F1 H1 :=
  (S.ex x).setOwn i e z r hF (by
    cases q : H0 a with
    | none => rfl
    | some o => exact absurd ha (X0 a (by rw [q]; simp))) hT fun j es hij hj q => by
    obtain ⟨b, us, h1, h2, _⟩ := S.own j es hj
    rw [h1] at q
    cases q
    rw [ha] at h2; cases h2
theorem tAsgN_of {i : Nat} {w : WA} : ∀ D σ H, sD K T (wSetN i w) D σ H → tAsg (tN K T w) (gName i) D σ H :=
  fun D σ H ⟨H0, F0, ε, F, Ψ, S, W, X0, hw, kn, kr, kb, kc⟩ => ⟨H0, ε, F, _, S, W, hw, fun ds a vs F1 H1 hd W1 X1 ha hF hT e z r =>
    kn _ _ F1 H1 hd (S.new X0.dom X1 i ha e z r hF hT) W1 (X0.trans X1)⟩
/-- name = a list that the def will write -/
theorem ms_setN {x : Str} {pos' : Pos} {w : WA} (i : Nat) (hN : X.N.Nodup) (he : PE X e (tN K T w)) (hi : X.N[i]? = some x := by rfl) (hx : Loc X.env.scope x := by first | exact Or.inl rfl | exact Or.inr rfl) (hs : swapsWith e (some (.Name x pos')) pos.line X.env = pure false := by rfl)
    (hf : X.fn x = true ∨ X.env.scope.names.lookup x = some .local := by first | exact .inl rfl | exact .inr rfl | assumption) : PS X (.Assign [.Name x pos'] e pos) (sD K T (wSetN i w)) :=
  ps_imp (ps_set hN hi hx he hs hf) tAsgN_of
/-- name = [.. for ..] on one line, the name a local -/
theorem ms_lcRaw {y : Str} {py spos : Pos} {elt tg iter : Expr} {ifs : List Expr} {scope : Scope} {own : List (Str × Nat)} {wi : WI} {is : List Nat} {g : WG} {c : WB} {w : WE} (i : Nat) (hc : X.calm = true) (hN : X.N.Nodup) (hi : PI X tg iter (tDI K T wi)) (ok : BlkOk X.N X.env.scope scope own)
    (hg : ∀ (s : Shared) (H : Hp) (C : Addr) (cl : List (Str × Addr)) (fp : List Addr), PG (X.blk s H scope (compEnvC scope cl C X.env) fp) tg (tDG K T is g)) (ht : ∀ (s : Shared) (H : Hp) (C : Addr) (cl : List (Str × Addr)) (fp : List Addr), PTs (X.blk s H scope (compEnvC scope cl C X.env) fp) ifs (tDB K T c))
    (he : ∀ (s : Shared) (H : Hp) (C : Addr) (cl : List (Str × Addr)) (fp : List Addr), PE (X.blk s H scope (compEnvC scope cl C X.env) fp) elt (tD K T w)) (hv : ∀ i ∈ is, i ∈ own.map (·.2) := by decide) (hy : X.N[i]? = some y := by rfl) (hyl : X.env.scope.names.lookup y = some .local := by rfl)
    (hsw : swapsWith (.ListComp elt [⟨tg, iter, ifs, 0⟩] scope pos) (some (.Name y py)) spos.line X.env = pure true := by exact sw_true rfl rfl rfl (by decide +kernel)) (hs : ∀ x, foldedSetIterable iter X.env x = pure x := by intro _; rfl) :
    PS X (.Assign [.Name y py] (.ListComp elt [⟨tg, iter, ifs, 0⟩] scope pos) spos) (tAsg (tN K T (wComp wi (own.map (·.2)) g c w)) (gName i)) :=
  ps_imp (ps_setLc hc hN hy hyl hsw hi ok hg ht he hs) fun D σ H q => tLc_of hv σ H _ q
theorem ms_lcN {y : Str} {py spos : Pos} {elt : Expr} {gs : List Comprehension} {scope : Scope} {w : WA} (i : Nat) (h : PS X (.Assign [.Name y py] (.ListComp elt gs scope pos) spos) (tAsg (tN K T w) (gName i))) : PS X (.Assign [.Name y py] (.ListComp elt gs scope pos) spos) (sD K T (wSetN i w)) :=
  ps_imp h tAsgN_of
theorem tN_fz {w : WA} : ∀ (σ : L2.St) (H : Hp) (Q : VK), tD K T (wL w) σ H Q → tN K T w σ H Q :=
  fun σ H Q ⟨H0, ε, F, Φ, S, W, hw, k⟩ => ⟨H0, ε, F, _, S, W, hw, fun ds a vs F' H' hd W' X' ha hF hT e z r => by
    obtain ⟨W2, X2⟩ := freeze W' X' ha hF hT e
    have ff : Same F' (upd F' a (.lst vs)) := fun b u q => by rw [upd_ne (ne_of_none q hF)]; exact q
    exact k _ _ _ _ hd W2 X2 (.lst upd_same z (RpAll.up ff _ _ r))⟩
theorem ms_lc {y : Str} {py spos : Pos} {elt : Expr} {gs : List Comprehension} {scope : Scope} {w : WA} (i : Nat) (h : PS X (.Assign [.Name y py] (.ListComp elt gs scope pos) spos) (tAsg (tN K T w) (gName i))) : PS X (.Assign [.Name y py] (.ListComp elt gs scope pos) spos) (sD K T (wSet i (wL w))) :=
  ps_imp h fun D σ H q => tN_fz σ H _ (tAsg_of D σ H q)
/-- a target of another form -/
theorem ms_asg {tg : Expr} {is : List Nat} {g : WG} (he : PE X e (tD K T we)) (hg : PG X tg (tDG K T is g)) (hs : swapsWithSole [tg] e pos.line X.env = pure false := by rfl) (hw : swappedStores [tg] e X.env = pure none := by rfl)
    (h1 : (assignEach [tg] X.env).map (·.2) = [assign tg X.env] := by rfl) : PS X (.Assign [tg] e pos) (sD K T (wAsg g we)) :=
  ps_imp (ps_asg he hg hs hw h1) fun D σ H ⟨H0, F0, ε, F, Ψ, S, W, X0, hw, kn, kr, kb, kc⟩ => ⟨H0, ε, F, _, S, W, hw, fun d v F1 H1 hd W1 X1 D1 => ⟨H0, ε, F1, d, _, S.ex X1, W1, D1, hd, fun ε2 σ2 h2 S2 _ _ => kn ε2 σ2 F1 H1 h2 S2 W1 (X0.trans X1)⟩⟩
theorem ms_par {x y : Str} {a b : Expr} {px py pt : Pos} {kt k2 pt2} {wa wb : WE} (i j : Nat) (hc : X.calm = true) (hN : X.N.Nodup) (ha : PE X a (tD K T wa)) (hb : PE X b (tD K T wb)) (hij : i ≠ j := by decide) (hi : X.N[i]? = some x := by rfl) (hj : X.N[j]? = some y := by rfl)
    (hx : X.env.scope.names.lookup x = some .local := by rfl) (hy : X.env.scope.names.lookup y = some .local := by rfl) (hw : swappedStores [.Tuple [.Name x px, .Name y py] kt pt] (.Tuple [a, b] k2 pt2) X.env = pure (some [x, y]) := by rfl)
    (hs : swapsWithSole [.Tuple [.Name x px, .Name y py] kt pt] (.Tuple [a, b] k2 pt2) pos.line X.env = pure false := by rfl) (h1 : starEach [a, b] X.env = (false, eval a X.env) :: starEach [b] X.env := by rfl) (h2 : starEach [b] X.env = (false, eval b X.env) :: starEach [] X.env := by rfl) :
    PS X (.Assign [.Tuple [.Name x px, .Name y py] kt pt] (.Tuple [a, b] k2 pt2) pos) (sD K T (wPar i j wa wb)) :=
  ps_imp (ps_par hc hN hi hj hij hx hy (pa_cons ha (pa_cons hb pa_nil h2) h1) hw hs) fun D σ H ⟨H0, F0, ε, F, Ψ, S, W, X0, hw, kn, kr, kb, kc⟩ =>
    ⟨H0, ε, F, _, S, W, hw, fun d v F1 H1 hd W1 X1 D1 => ⟨H0, ε, F1, _, S.ex X1, W1, hd, fun d2 v2 F2 H2 hd2 W2 X2 D2 => ⟨v, v2, rfl, kn _ _ F2 H2 hd2 ((((S.ex X1).ex X2).set i (Rp.up X2.ff _ _ D1)).set j D2) W2 (X0.trans (X1.trans X2))⟩⟩⟩
theorem ms_par3 {x y z : Str} {a b c : Expr} {px py pz pt : Pos} {kt k2 pt2} {wa wb wc : WE} (i j l : Nat) (hc : X.calm = true) (hN : X.N.Nodup) (ha : PE X a (tD K T wa)) (hb : PE X b (tD K T wb)) (hcc : PE X c (tD K T wc)) (hij : i ≠ j := by decide) (hil : i ≠ l := by decide) (hjl : j ≠ l := by decide) (hi : X.N[i]? = some x := by rfl) (hj : X.N[j]? = some y := by rfl) (hl : X.N[l]? = some z := by rfl)
    (hx : X.env.scope.names.lookup x = some .local := by rfl) (hy : X.env.scope.names.lookup y = some .local := by rfl) (hz : X.env.scope.names.lookup z = some .local := by rfl) (hw : swappedStores [.Tuple [.Name x px, .Name y py, .Name z pz] kt pt] (.Tuple [a, b, c] k2 pt2) X.env = pure (some [x, y, z]) := by rfl)
    (hs : swapsWithSole [.Tuple [.Name x px, .Name y py, .Name z pz] kt pt] (.Tuple [a, b, c] k2 pt2) pos.line X.env = pure false := by rfl) (h1 : starEach [a, b, c] X.env = (false, eval a X.env) :: starEach [b, c] X.env := by rfl) (h2 : starEach [b, c] X.env = (false, eval b X.env) :: starEach [c] X.env := by rfl) (h3 : starEach [c] X.env = (false, eval c X.env) :: starEach [] X.env := by rfl) :
    PS X (.Assign [.Tuple [.Name x px, .Name y py, .Name z pz] kt pt] (.Tuple [a, b, c] k2 pt2) pos) (sD K T (wPar3 i j l wa wb wc)) :=
  ps_imp (ps_par3 hc hN hi hj hl hij hil hjl hx hy hz (pa_cons ha (pa_cons hb (pa_cons hcc pa_nil h3) h2) h1) hw hs) fun D σ H ⟨H0, F0, ε, F, Ψ, S, W, X0, hw, kn, kr, kb, kc⟩ =>
    ⟨H0, ε, F, _, S, W, hw, fun d v F1 H1 hd W1 X1 D1 => ⟨H0, ε, F1, _, S.ex X1, W1, hd, fun d2 v2 F2 H2 hd2 W2 X2 D2 => ⟨H0, ε, F2, _, (S.ex X1).ex X2, W2, hd2, fun d3 v3 F3 H3 hd3 W3 X3 D3 =>
      ⟨v, v2, v3, rfl, kn _ _ F3 H3 hd3 ((((((S.ex X1).ex X2).ex X3).set i (Rp.up (X2.trans X3).ff _ _ D1)).set j (Rp.up X3.ff _ _ D2)).set l D3) W3 (X0.trans (X1.trans (X2.trans X3)))⟩⟩⟩⟩
end
end MG

set_option Elab.async false
set_option linter.all false
set_option maxRecDepth 100000
set_option maxHeartbeats 4000000
/-! MgLoop: append, freezing, for, while, defs, over plain data. -/
namespace MG
variable [Tbl]
open PySem PySem.Spec PyProof.Rows L2
section
variable {X : Cx} {K : PySem.W.Frag} {T : Option Addr} {pos : Pos} {e : Expr} {we : WE} {st : Stmt} {rest : List Stmt}
theorem Ex.rebase {F0 H0 F3 H3 : Hp} (x : Ex T F0 H0 F3 H3) : Ex T F3 H0 F3 H3 := ⟨x.hh, x.dom, Same.refl _, fun _ _ => rfl, x.tl⟩
theorem Ex.unbase {F0 H0 F3 H3 F5 H5 : Hp} (x : Ex T F0 H0 F3 H3) (y : Ex T F3 H0 F5 H5) : Ex T F0 H0 F5 H5 := ⟨y.hh, y.dom, x.ff.trans y.ff, fun a h => (y.old a h).trans (x.old a h), y.tl⟩
/-! ### append -/
theorem mut_own {H0 F0 F1 H1 : Hp} {ε : EV} {σ : L2.St} {i : Nat} {ds : List PyData} {a : Addr} {vs ws : List V} {es : List PyData} (S : Sat K T H0 ε σ F1 H1) (W1 : Wd T F1 H1) (X1 : Ex T F0 H0 F1 H1) (he : ε[i]? = some (SV.own ds))
    (h1 : σ[i]? = some (some (V.ref a))) (h2 : H1 a = some (.lst vs)) (h4 : F1 a = none) (h5 : H0 a = none) (h6 : T ≠ some a) (hz : ws.length ≤ sizeLine) (hr : RpAll K F1 ws es) :
    Sat K T H0 (ε.set i (.own es)) σ F1 (upd H1 a (.lst ws)) ∧ Wd T F1 (upd H1 a (.lst ws)) ∧ Ex T F0 H0 F1 (upd H1 a (.lst ws)) := by
  have hi : i < ε.length := by
    rcases Nat.lt_or_ge i ε.length with h | h
    · exact h
    · rw [List.getElem?_eq_none h] at he; cases he
  have other : ∀ j es', i ≠ j → ε[j]? = some (SV.own es') → ∀ b, σ[j]? = some (some (V.ref b)) → b ≠ a := fun j es' hij hj b hb z => by
    subst z
    exact S.sep i j b ds es' hij he hj h1 hb
  refine ⟨⟨by rw [List.length_set]; exact S.len, fun j d h => ?_, fun j ds' h => ?_, fun j l b ds1 ds2 hjl g1 g2 g3 => ?_, fun j o h => ?_, fun j f h => S.fns j f (fn_set (by simp) h).2, (S.dct.see i (by simp)).lst h2⟩, ⟨fun b u q => ?_, ?_, tabs_lst W1.tabs h2, W1.nt⟩, ⟨fun b u q t n => ?_, fun b q => ?_, X1.ff, X1.old, fun b l p c e q => let ⟨p', c', q'⟩ := X1.tl b l p c e q; ⟨p', c', by rw [upd_ne (fun z => h6 (by rw [e, z]))]; exact q'⟩⟩⟩
  · by_cases hij : i = j
    · subst hij; rw [List.getElem?_set_self hi] at h; cases h
    · rw [List.getElem?_set_ne hij] at h; exact S.val j d h
  · by_cases hij : i = j
    · subst hij
      rw [List.getElem?_set_self hi] at h
      cases h
      exact ⟨a, ws, h1, upd_same, hz, hr, h4, h5, h6⟩
    · rw [List.getElem?_set_ne hij] at h
      obtain ⟨b, us, k1, k2, k3, k4, k5, k6, k7⟩ := S.own j ds' h
      exact ⟨b, us, k1, by rw [upd_ne (other j ds' hij h b k1)]; exact k2, k3, k4, k5, k6, k7⟩
  · have key : ∀ j ds', (ε.set i (.own es))[j]? = some (SV.own ds') → ∃ ds'', ε[j]? = some (SV.own ds'') := fun j ds' h => by
      by_cases hij : i = j
      · subst hij; exact ⟨ds, he⟩
      · rw [List.getElem?_set_ne hij] at h; exact ⟨_, h⟩
    obtain ⟨_, q1⟩ := key _ _ g1
    obtain ⟨_, q2⟩ := key _ _ g2
    exact S.sep j l b _ _ hjl q1 q2 g3
  · by_cases hij : i = j
    · subst hij; rw [List.getElem?_set_self hi] at h; cases h
    · rw [List.getElem?_set_ne hij] at h
      obtain ⟨t, l, p, c, k1, k2, k3, k4⟩ := S.tape j o h
      exact ⟨t, l, p, c, k1, k2, by rw [upd_ne (fun z => h6 (by rw [k1, z]))]; exact k3, k4⟩
  · rw [upd_ne (ne_of_none q h4)]; exact W1.fz _ _ q
  · cases T with
    | none => trivial
    | some t =>
      obtain ⟨f, l, ns, p, c, q1, q2, q3⟩ := W1.tape
      exact ⟨f, l, ns, p, c, by rw [upd_ne (fun z => h6 (by rw [z]))]; exact q1, q2, q3⟩
  · rw [upd_ne (ne_of_none q h5)]; exact X1.hh _ _ q t (by assumption)
  · by_cases z : b = a
    · subst z; rw [upd_same]; simp
    · rw [upd_ne z]; exact X1.dom b q
theorem ms_app {x : Str} {px pa pc : Pos} (i : Nat) (hk : X.K = K) (he : PE X e (tD K T we)) (hN : X.N[i]? = some x := by rfl) (hv : Vis X.env.scope x := by first | exact Or.inl rfl | exact Or.inr (Or.inl rfl) | exact Or.inr (Or.inr rfl)) (hd : (x == ("__debug__" : Str)) = false := by decide) (hcd : (x == ("__classdict__" : Str)) = false := by decide)
    (hbase : attributeBase (.Name x px) "append" X.env (eval (.Name x px) X.env) = eval (.Name x px) X.env := by rfl)
    (hfew : ((backTo pc (starEach [e] X.env)).all (fun x => !x.1) && (backToKw pc (keywordEach [] X.env)).all (fun x => x.1.isSome) && decide (([e] : List Expr).length + ([] : List Keyword).length + (if ([] : List Keyword).isEmpty then 0 else 1) < 30)) = true := by rfl)
    (hline : (pa.endLine == pc.line) = true := by rfl) (h1 : starEach [e] X.env = (false, eval e X.env) :: starEach [] X.env := by rfl) (hplain : (backTo pc (starEach [] X.env)).any (·.1) = false := by rfl)
    (hs : swapsWith (.Call (.Attribute (.Name x px) "append" pa) [e] [] pc) none pos.line X.env = pure false := by rfl) : PS X (.Expr (.Call (.Attribute (.Name x px) "append" pa) [e] [] pc) pos) (sD K T (wApp i we)) := by
  subst hk
  refine ps_imp (ps_expr (pe_bm PySem.F.plainAttrs_list PySem.F.slot_list_append PySem.F.type_list_append mt_append (pe_var hN hv hd hcd) (pa_cons he pa_nil h1) hbase hfew hline h1 hplain) hs) fun D σ H ⟨H0, F0, ε, F, Ψ, S, W, X0, hw, kn, kr, kb, kc⟩ => ?_
  unfold wApp at hw
  split at hw
  · rename_i ds hε
    obtain ⟨a, vs, h1, h2, z, r, hF, h0, hT⟩ := S.own i ds hε
    refine ⟨.ref a, h1, .inl ⟨rfl, _, SqL.of h2⟩, H0, ε, F, _, S, W, hw, fun d v F1 H1 hd W1 X1 D1 => ?_⟩
    have e1 : H1 a = some (.lst vs) := X1.hl h2 hT
    have f1 : F1 a = none := by rw [X1.old a (by rw [h2]; simp)]; exact hF
    have r1 := RpAll.up X1.ff _ _ r
    have hlt : vs.length < sizeLine := by rw [r.length]; exact Nat.lt_of_lt_of_le hd.1 (lim_line (Nat.le_refl _))
    refine ⟨a, vs, v, rfl, rfl, e1, hlt, ?_⟩
    obtain ⟨S3, W3, X3⟩ := mut_own (es := ds ++ [d]) (ws := vs ++ [v]) (S.ex X1) W1 (X0.trans X1) hε h1 e1 f1 h0 hT (by rw [List.length_append]; exact hlt) (r1.append (.cons D1 .nil))
    exact kn _ _ _ _ hd.2 S3 W3 X3
  · exact hw.elim
/-! ### freezing: no code -/
theorem frz_of {i : Nat} {w : WS} : ∀ D σ H, sD K T (wFrz i w) D σ H → sD K T w D σ H := fun D σ H ⟨H0, F0, ε, F, Ψ, S, W, X0, hw, kn, kr, kb, kc⟩ => by
  unfold wFrz at hw
  split at hw
  · rename_i ds hε
    obtain ⟨a, vs, h1, h2, z, r, hF, h0, hT⟩ := S.own i ds hε
    have hi : i < ε.length := by
      rcases Nat.lt_or_ge i ε.length with h | h
      · exact h
      · rw [List.getElem?_eq_none h] at hε; cases hε
    obtain ⟨W2, X2⟩ := freeze (a := a) W X0 h0 hF hT h2
    have ff : Same F (upd F a (.lst vs)) := fun b u q => by rw [upd_ne (ne_of_none q hF)]; exact q
    refine ⟨H0, F0, ε.set i (.val (.list ds)), _, Ψ, ⟨by rw [List.length_set]; exact S.len, fun j d h => ?_, fun j ds' h => ?_, fun j l b ds1 ds2 hjl g1 g2 g3 => ?_, fun j o h => ?_, fun j f h => S.fns j f (fn_set (by simp) h).2, (S.dct.see i (by simp)).frz h2 hF⟩, W2, X2, hw, kn, kr, kb, kc⟩
    · by_cases hij : i = j
      · subst hij
        rw [List.getElem?_set_self hi] at h
        cases h
        exact ⟨_, h1, .lst upd_same z (RpAll.up ff _ _ r)⟩
      · rw [List.getElem?_set_ne hij] at h
        obtain ⟨v, k1, k2⟩ := S.val j d h
        exact ⟨v, k1, Rp.up ff _ _ k2⟩
    · by_cases hij : i = j
      · subst hij; rw [List.getElem?_set_self hi] at h; cases h
      · rw [List.getElem?_set_ne hij] at h
        obtain ⟨b, us, k1, k2, k3, k4, k5, k6, k7⟩ := S.own j ds' h
        exact ⟨b, us, k1, k2, k3, RpAll.up ff _ _ k4, by rw [upd_ne fun q => S.sep i j a ds ds' hij hε h h1 (by rw [k1, q])]; exact k5, k6, k7⟩
    · have key : ∀ j ds', (ε.set i (.val (.list ds)))[j]? = some (SV.own ds') → ε[j]? = some (SV.own ds') := fun j ds' h => by
        by_cases hij : i = j
        · subst hij; rw [List.getElem?_set_self hi] at h; cases h
        · rw [List.getElem?_set_ne hij] at h; exact h
      exact S.sep j l b _ _ hjl (key _ _ g1) (key _ _ g2) g3
    · by_cases hij : i = j
      · subst hij; rw [List.getElem?_set_self hi] at h; cases h
      · rw [List.getElem?_set_ne hij] at h
        obtain ⟨t, l, p, c, k1, k2, k3, k4⟩ := S.tape j o h
        exact ⟨t, l, p, c, k1, k2, k3, fun ns q => ff _ _ (k4 ns q)⟩
  · exact hw.elim
theorem ms_frz {w : WS} (i : Nat) (h : PS X st (sD K T w)) : PS X st (sD K T (wFrz i w)) := ps_imp h frz_of
theorem mss_frz {w : WS} (i : Nat) (h : PSs X rest (sD K T w)) : PSs X rest (sD K T (wFrz i w)) := pss_imp h frz_of
/-! ### for -/
theorem ms_for {tg iter : Expr} {body : List Stmt} {wi : WI} {is : List Nat} {g : WG} {b : WS} (hp : PassesOwn (model X.prog X.w) X.A X.env X.xe) (hc : X.calm = true) (hi : PI X tg iter (tDI K T wi)) (hg : PG X tg (tDG K T is g)) (hb : PSs X body (sD K T b)) (hs : ∀ x, foldedSetIterable iter X.env x = pure x := by intro _; rfl) :
    PS X (.For tg iter body [] pos) (sD K T (wFor wi g b)) :=
  ps_imp (ps_for hp hc hi hg hb hs) fun D σ H ⟨H0, F0, ε, F, Ψ, S, W, X0, hw, kn, kr, kb, kc⟩ => ⟨H0, ε, F, _, S, W, hw, fun ds J F1 H1 hd W1 X1 hit => by
    obtain ⟨hz, G, Y, walk, hG, hY⟩ := hit
    refine for_it walk (fun i σ2 H2 => ∃ ε2 F2, Sat K T H0 ε2 σ2 F2 H2 ∧ Wd T F2 H2 ∧ Ex T F0 H0 F2 H2 ∧ Same F1 F2 ∧ wForL g b (ds.drop i) ε2 Ψ) ⟨ε, F1, S.ex X1, W1, X0.trans X1, Same.refl _, hd⟩ ?_ ?_ ?_
    · rintro i σ2 H2 hi ⟨ε2, F2, S2, W2, X2, f2, _⟩
      exact hG F2 H2 f2 W2
    · rintro i x σ2 H2 H3 hi ⟨ε2, F2, S2, W2, X2, f2, hl⟩ y
      obtain ⟨F3, d, hdi, W3, X3, r3⟩ := hY i H2 x H3 F2 hi f2 W2 y
      have hdrop : ds.drop i = d :: ds.drop (i + 1) := by
        rw [List.drop_eq_getElem_cons hi]
        congr 1
        rw [List.getElem?_eq_getElem hi] at hdi
        exact Option.some.inj hdi
      rw [hdrop] at hl
      refine ⟨H0, ε2, F3, d, _, S2.ex X3, W3, r3, hl, fun ε4 σ4 h4 S4 _ _ => ?_⟩
      have X23 := X2.trans X3
      have f13 := f2.trans X3.ff
      exact ⟨H0, F3, ε4, F3, _, S4, W3, X23.rebase, h4, fun ε5 σ5 F5 H5 h5 S5 W5 X5 => ⟨ε5, F5, S5, W5, X23.unbase X5, f13.trans X5.ff, h5⟩, fun ε5 σ5 d v F5 H5 h5 S5 W5 X5 D5 => kr ε5 σ5 d v F5 H5 h5 S5 W5 (X23.unbase X5) D5,
        fun ε5 σ5 F5 H5 h5 S5 W5 X5 => kn ε5 σ5 F5 H5 h5 S5 W5 (X23.unbase X5), fun ε5 σ5 F5 H5 h5 S5 W5 X5 => ⟨ε5, F5, S5, W5, X23.unbase X5, f13.trans X5.ff, h5⟩⟩
    · rintro σ2 H2 ⟨ε2, F2, S2, W2, X2, f2, hl⟩
      rw [List.drop_length] at hl
      exact kn ε2 σ2 F2 H2 hl S2 W2 X2⟩
/-! ### while -/
theorem ms_while {c : Expr} {body : List Stmt} {t : WB} {b : WS} (n : Nat) (hp : PassesOwn (model X.prog X.w) X.A X.env X.xe) (hc : PT X c (tDB K T t)) (hb : PSs X body (sD K T b)) : PS X (.While c body [] pos) (sD K T (wWhl t b n)) :=
  ps_imp (ps_while hp hc hb) fun D σ H ⟨H0, F0, ε, F, Ψ, S, W, X0, hw, kn, kr, kb, kc⟩ => by
    refine ⟨fun m σ2 H2 => ∃ ε2 F2, Sat K T H0 ε2 σ2 F2 H2 ∧ Wd T F2 H2 ∧ Ex T F0 H0 F2 H2 ∧ wWhl t b m ε2 Ψ, ⟨n, ε, F, S, W, X0, hw⟩, ?_⟩
    rintro m σ2 H2 ⟨ε2, F2, S2, W2, X2, hl⟩
    cases m with
    | zero => exact hl.elim
    | succ m =>
      refine ⟨H0, ε2, F2, _, S2, W2, hl, fun v F3 H3 hv W3 X3 => ?_⟩
      cases v with
      | false => exact iteF (kn ε2 σ2 F3 H3 hv (S2.ex X3) W3 (X2.trans X3))
      | true =>
        refine iteT ⟨fun σ4 H4 => ∃ ε4 F4, Sat K T H0 ε4 σ4 F4 H4 ∧ Wd T F4 H4 ∧ Ex T F0 H0 F4 H4 ∧ wWhl t b m ε4 Ψ, fun σ4 H4 q => ⟨m, Nat.lt_succ_self m, q⟩, ?_⟩
        exact ⟨H0, F0, ε2, F3, _, S2.ex X3, W3, X2.trans X3, hv, fun ε5 σ5 F5 H5 h5 S5 W5 X5 => ⟨ε5, F5, S5, W5, X5, h5⟩, kr, kn, fun ε5 σ5 F5 H5 h5 S5 W5 X5 => ⟨ε5, F5, S5, W5, X5, h5⟩⟩
/-! ### defs -/
/-- a def's body as a def over data: N slots, the arguments first -/
def wRun (N : Nat) (w : WS) : WF := fun ds Φ => w (ds.map SV.val ++ List.replicate (N - ds.length) SV.un) { nx := fun _ => Φ .none, rt := fun _ => Φ, bk := fun _ => False, ct := fun _ => False }
theorem rp_at {F : Hp} {ds : List PyData} {vs : List V} (r : RpAll K F vs ds) (m : Nat) {i : Nat} {d : PyData} (h : (ds.map SV.val ++ List.replicate m SV.un)[i]? = some (SV.val d)) : ∃ v, (vs.map some ++ List.replicate m (none : Option V))[i]? = some (some v) ∧ Rp K F v d := by
  rcases Nat.lt_or_ge i ds.length with hi | hi
  · rw [List.getElem?_append_left (by rw [List.length_map]; exact hi), List.getElem?_map] at h
    obtain ⟨d', h1, h2⟩ := Option.map_eq_some_iff.mp h
    cases h2
    obtain ⟨v, g1, g2⟩ := r.getD h1
    refine ⟨v, ?_, g2⟩
    rw [List.getElem?_append_left (by rw [List.length_map, r.length]; exact hi), List.getElem?_map, g1]; rfl
  · rw [List.getElem?_append_right (by rw [List.length_map]; exact hi), List.getElem?_replicate] at h
    split at h <;> cases h
theorem no_own {ds : List PyData} {m i : Nat} {s : SV} (hs : ∀ d, s ≠ .val d) (hu : s ≠ .un) (h : (ds.map SV.val ++ List.replicate m SV.un)[i]? = some s) : False := by
  rcases Nat.lt_or_ge i ds.length with hi | hi
  · rw [List.getElem?_append_left (by rw [List.length_map]; exact hi), List.getElem?_map] at h
    obtain ⟨d', h1, h2⟩ := Option.map_eq_some_iff.mp h
    exact hs d' h2.symm
  · rw [List.getElem?_append_right (by rw [List.length_map]; exact hi), List.getElem?_replicate] at h
    split at h
    · cases h; exact hu rfl
    · cases h
theorem sat_start {F H : Hp} {N : List Str} {ds : List PyData} {vs : List V} (r : RpAll K F vs ds) : Sat K T H (ds.map SV.val ++ List.replicate (N.length - ds.length) SV.un) (L2.start N vs) F H where
  len := by unfold L2.start; rw [List.length_append, List.length_append, List.length_map, List.length_map, List.length_replicate, List.length_replicate, r.length]
  val := fun i d h => by
    unfold L2.start
    rw [r.length]
    exact rp_at r _ h
  own := fun i ds' h => (no_own (by simp) (by simp) h).elim
  sep := fun i j a ds1 ds2 _ h1 _ _ => (no_own (by simp) (by simp) h1).elim
  tape := fun i o h => (no_own (by simp) (by simp) h).elim
  fns := fun i f h => (no_own (by simp) (by simp) h).elim
  dct := .none fun i ds h => no_own (by simp) (by simp) h
theorem fn_start {N : List Str} {n : Nat} {w : WS} {vs : List V} {H : Hp} {Q : VK} {E : XK} (h : spD K n (wRun N.length w) vs H Q E) : sD K none w { nx := fun _ H' => Q .non H', rt := Q } (L2.start N vs) H := by
  obtain ⟨hl, ds, F, Φ, W, r, hw, k⟩ := h
  refine ⟨H, F, _, F, _, sat_start r, W, Ex.refl, hw, fun ε' σ' F' H' h' S' W' X' => k _ _ F' H' h' W' X' .non, fun ε' σ' d v F' H' h' S' W' X' D' => k d v F' H' h' W' X' D', fun _ _ _ _ h' => h'.elim, fun _ _ _ _ h' => h'.elim⟩
end
section
variable {P : Program} {w : World} {K : PySem.W.Frag} {mg : Str → Option Value} {base : Heap}
/-- THE RULE for a def over plain data -/
theorem fn_D {x qual : Str} {params : Arguments} {body : List Stmt} {scope : Scope} {f : Addr} {fd : FuncData} {N ps : List Str} {k : Nat} {b : WS} (F : FunD K x qual params body scope [] [] f fd) (S : FnScope N ps scope)
    (h : ∀ (cdv : Value) (A : Around) (outer : List Env) (s : Shared) (H : Hp) (E : XK), Room k (A.deeper (envOfC qual scope s.heap.objs.size f cdv)) → PSs (cxOf CX0 P w K mg base N qual scope f cdv A outer s H E).nox body (sD K none b)) :
    FnOk P w K mg base CX0 (k + 1) f fd ps (spD K ps.length (wRun N.length b)) :=
  F.ok S (fun vs H Q E q => q.1) fun cdv A outer s H vs Q E hr q => ⟨_, PSs.nox (h cdv A outer s H E hr), fn_start q⟩
/-- another wording of what it does -/
theorem fn_eq {f : Addr} {fd : FuncData} {ps : List Str} {k n : Nat} {u v : WF} (h : FnOk P w K mg base CX0 k f fd ps (spD K n u)) (e : ∀ ds Φ, v ds Φ → u ds Φ) : FnOk P w K mg base CX0 k f fd ps (spD K n v) :=
  h.imp fun vs H Q E ⟨hl, ds, F, Φ, W, r, hw, k⟩ => ⟨hl, ds, F, Φ, W, r, e ds Φ hw, k⟩
end
end MG

set_option Elab.async false
set_option linter.all false
set_option maxRecDepth 100000
set_option maxHeartbeats 4000000
/-! MgCall: chains, negation, calls of the text's own defs by one word, over plain data. -/
namespace MG
variable [Tbl]
open PySem PySem.Spec PyProof.Rows L2
def wChain (op op' : PyData → PyData → (PyData → Prop) → Prop) (wa wb wc : WE) : WE := fun ε Φ => wa ε fun x => wb ε fun y => op x y fun z => match z with
  | .bool true => wc ε fun u => op' y u Φ
  | .bool false => Φ (.bool false)
  | _ => False
def opNeg (d : PyData) (Φ : PyData → Prop) : Prop := match d with
  | .int i => Φ (.int (-i))
  | _ => False
section
variable {X : Cx} {K : PySem.W.Frag} {T : Option Addr} {pos : Pos} {a b c e : Expr} {wa wb wc we : WE}
theorem tD_chain {r r' : R2} {op op' : PyData → PyData → (PyData → Prop) → Prop} (h : OpD K T r op) (h' : OpD K T r' op') : ∀ σ H Q, tD K T (wChain op op' wa wb wc) σ H Q → tChain r r' (tD K T wa) (tD K T wb) (tD K T wc) σ H Q := by
  rintro σ H Q ⟨H0, ε, F, Φ, S, W, hw, k⟩
  refine ⟨H0, ε, F, _, S, W, hw, fun d v F1 H1 hd W1 X1 D1 => ?_⟩
  refine ⟨H0, ε, F1, _, S.ex X1, W1, hd, fun e u F2 H2 he W2 X2 D2 => ?_⟩
  refine h d e v u F2 H2 _ _ W2 (Rp.up X2.ff _ _ D1) D2 he fun z x F3 H3 hz W3 X3 D3 => ?_
  split at hz
  · cases D3
    refine ⟨true, rfl, iteT ⟨H0, ε, F3, _, ((S.ex X1).ex X2).ex X3, W3, hz, fun f y F4 H4 hf W4 X4 D4 => ?_⟩⟩
    exact h' e f u y F4 H4 Q Φ W4 (Rp.up (X3.trans X4).ff _ _ D2) D4 hf fun z2 x2 F5 H5 hz2 W5 X5 D5 => k z2 x2 F5 H5 hz2 W5 ((((X1.trans X2).trans X3).trans X4).trans X5) D5
  · cases D3
    exact ⟨false, rfl, iteF (k _ _ F3 H3 hz W3 ((X1.trans X2).trans X3) (.bl false))⟩
  · exact hz.elim
theorem md_chain {o o' : CmpOp} {r r' : R2} {op op' : PyData → PyData → (PyData → Prop) → Prop} (ho : OpR X (compareOp o) r) (h : OpD K T r op) (ho' : OpR X (compareOp o') r') (h' : OpD K T r' op') (ha : PE X a (tD K T wa)) (hb : PE X b (tD K T wb)) (hc : PE X c (tD K T wc))
    (hm : lastMarks [o, o'] [b, c] = false := by with_unfolding_all rfl) : PE X (.Compare a [o, o'] [b, c] pos) (tD K T (wChain op op' wa wb wc)) := pe_imp (pe_chain ho ho' ha hb hc hm) (tD_chain h h')
theorem mt_chain {o o' : CmpOp} {r r' : R2} {op op' : PyData → PyData → (PyData → Prop) → Prop} (ho : OpR X (compareOp o) r) (h : OpD K T r op) (ho' : OpR X (compareOp o') r') (h' : OpD K T r' op') (ha : PE X a (tD K T wa)) (hb : PE X b (tD K T wb)) (hc : PE X c (tD K T wc))
    (hm : lastMarks [o, o'] [b, c] = false := by with_unfolding_all rfl) : PT X (.Compare a [o, o'] [b, c] pos) (tDB K T (wTest (wChain op op' wa wb wc))) := pt_imp (pt_chain ho ho' ha hb hc hm) fun σ H Q q => tD_chain h h' σ H _ (tDB_test σ H Q q)
theorem ud_neg : UnD K T (rU fun i => .int (-i)) opNeg := fun d x F H Q Φ W h1 h k => by
  unfold opNeg at h
  split at h
  · cases h1; exact ⟨_, rfl, k _ _ F H h W Ex.refl (.int _)⟩
  · exact h.elim
theorem md_neg (ha : PE X a (tD K T wa)) : PE X (.UnaryOp .USub a pos) (tD K T (wUn opNeg wa)) := pe_imp (pe_un un_neg ha) (tD_un ud_neg)
/-- a name that stands for a tuple of the module -/
theorem md_globT {x : Str} {p : Addr} {xs : List V} {ds : List PyData} (hm : X.mg x = some (.ref p)) (hs : ∀ H, SqT K H p xs) (hz : xs.length ≤ sizeLine) (hr : ∀ F, RpAll K F xs ds) (hg : Gl X x := by rfl) (hd : (x == ("__debug__" : Str)) = false := by decide) : PE X (.Name x pos) (tD K T (wC (.tuple ds))) :=
  md_glob (v := .ref p) (u := .ref p) hm (show Value.ref p = Value.ref p from rfl) (fun F => .tup (hs F) hz (hr F)) hg hd
end
/-- constants of the module -/
def CtT (K : PySem.W.Frag) (mg : Str → Option Value) (x : Str) (ds : List PyData) : Prop := ∃ p xs, mg x = some (.ref p) ∧ (∀ H, SqT K H p xs) ∧ xs.length ≤ sizeLine ∧ ∀ F, RpAll K F xs ds
def CtS (mg : Str → Option Value) (x z : Str) : Prop := sOk z = true ∧ ∃ t, mg x = some (.str z t)
theorem md_ct {X : Cx} {K : PySem.W.Frag} {T : Option Addr} {pos : Pos} {x : Str} {ds : List PyData} (c : CtT K X.mg x ds) (hg : Gl X x := by rfl) (hd : (x == ("__debug__" : Str)) = false := by decide) : PE X (.Name x pos) (tD K T (wC (.tuple ds))) := by
  obtain ⟨p, xs, h1, h2, h3, h4⟩ := c
  exact md_globT h1 h2 h3 h4 hg hd
theorem md_cs {X : Cx} {K : PySem.W.Frag} {T : Option Addr} {pos : Pos} {x z : Str} (c : CtS X.mg x z) (hg : Gl X x := by rfl) (hd : (x == ("__debug__" : Str)) = false := by decide) : PE X (.Name x pos) (tD K T (wC (.str z))) := by
  obtain ⟨h, t, h1⟩ := c
  exact md_glob (v := .str z) (u := .str z t) h1 ⟨t, rfl⟩ (fun F => .str h) hg hd
/-- the def x of the text does w, by at most k levels of calls -/
structure Df (P : Program) (w : World) (K : PySem.W.Frag) (mg : Str → Option Value) (base : Heap) (x : Str) (k n : Nat) (u : WF) : Prop where
  ex : ∃ (f : Addr) (fd : FuncData) (ps : List Str), FnOk P w K mg base CX0 k f fd ps (spD K n u) ∧ mg x = some (.ref f) ∧ PySem.W.keepIn K (.ref f) = true ∧ Binds K fd ps []
theorem Df.eq {P : Program} {w : World} {K : PySem.W.Frag} {mg : Str → Option Value} {base : Heap} {x : Str} {k n : Nat} {u v : WF} (D : Df P w K mg base x k n u) (e : ∀ ds Φ, v ds Φ → u ds Φ) : Df P w K mg base x k n v := by
  obtain ⟨f, fd, ps, h1, h2, h3, h4⟩ := D.ex
  exact ⟨f, fd, ps, fn_eq h1 e, h2, h3, h4⟩
theorem md_df {X : Cx} {K : PySem.W.Frag} {T : Option Addr} {pos p : Pos} {e : Expr} {es : List Expr} {x : Str} {k n : Nat} {u : WF} {wa : WA} (hk : X.K = K) (D : Df X.prog X.w K X.mg X.base x k n u) (hr : Room k X.A) (ha : PA X (e :: es) (tDA K T n wa))
    (hg : Gl X x := by rfl) (hdb : (x == ("__debug__" : Str)) = false := by decide) (he : starEach (e :: es) X.env = (false, eval e X.env) :: starEach es X.env := by rfl) (hpl : (backTo pos (starEach es X.env)).any (·.1) = false := by rfl) : PE X (.Call (.Name x p) (e :: es) [] pos) (tD K T (wFn u wa)) := by
  subst hk
  obtain ⟨f, fd, ps, h1, h2, h3, h4⟩ := D.ex
  exact md_call h1 hr h2 h3 h4 ha hg hdb he hpl
theorem Df.mk' {P : Program} {w : World} {K : PySem.W.Frag} {mg : Str → Option Value} {base : Heap} {x : Str} {k : Nat} {b : WS} {qual : Str} {params : Arguments} {body : List Stmt} {scope : Scope} {f : Addr} {fd : FuncData} {N ps : List Str} (F : FunD K x qual params body scope [] [] f fd) (g : mg x = some (.ref f)) (S : FnScope N ps scope)
    (hb : ∀ (kV doc pm : Value) (an : Option Addr) (cdv ct : Value) (us : List Value), us.length = ps.length → bindArgs (PySem.W.fnOf x qual params body scope .none kV doc pm an cdv ct) ⟨us, []⟩ = pure (ps.zip us))
    (h : ∀ (cdv : Value) (A : Around) (outer : List Env) (s : Shared) (H : Hp) (E : XK), Room k (A.deeper (envOfC qual scope s.heap.objs.size f cdv)) → PSs (cxOf CX0 P w K mg base N qual scope f cdv A outer s H E).nox body (sD K none b)) :
    Df P w K mg base x (k + 1) ps.length (wRun N.length b) := ⟨f, fd, ps, fn_D F S h, g, F.kp, F.bindsN hb⟩
end MG

set_option Elab.async false
set_option linter.all false
set_option maxRecDepth 100000
set_option maxHeartbeats 4000000
/-! MgOwn: a list of one's own: read, stored into, popped, inserted into, turned round; over plain data. -/
namespace MG
variable [Tbl]
open PySem PySem.Spec PyProof.Rows L2
section
/-- x[e] -/
def wOIx (i : Nat) (wb : WE) : WE := fun ε Φ => match ε[i]? with
  | some (SV.own ds) => wb ε fun k => match k with
    | .int k => match atI ds k with
      | some d => Φ d
      | none => False
    | _ => False
  | _ => False
/-- len(x) -/
def wOLen (i : Nat) : WE := fun ε Φ => match ε[i]? with
  | some (SV.own ds) => Φ (.int ds.length)
  | _ => False
/-- x[::-1] -/
def wORev (i : Nat) : WA := fun ε Φ => match ε[i]? with
  | some (SV.own ds) => Φ ds.reverse
  | _ => False
/-- x[e] = e' -/
def wOSet (i : Nat) (wb we : WE) : WS := fun ε Ψ => match ε[i]? with
  | some (SV.own ds) => we ε fun d => wb ε fun k => match k with
    | .int k => match ixN ds.length k with
      | some j => Ψ.nx (ε.set i (.own (ds.set j d)))
      | none => False
    | _ => False
  | _ => False
/-- x.pop(e) -/
def wOPopAt (i : Nat) (wb : WE) : WS := fun ε Ψ => match ε[i]? with
  | some (SV.own ds) => wb ε fun k => match k with
    | .int k => (-(2 ^ 63) ≤ k ∧ k < 2 ^ 63) ∧ match seqIndex? k ds.length with
      | some j => Ψ.nx (ε.set i (.own (ds.eraseIdx j)))
      | none => False
    | _ => False
  | _ => False
/-- y = x.pop() -/
def wOPop (j i : Nat) : WS := fun ε Ψ => match ε[i]? with
  | some (SV.own ds) => match ds[ds.length - 1]? with
    | some d => Ψ.nx ((ε.set i (.own ds.dropLast)).set j (.val d))
    | none => False
  | _ => False
/-- x.insert(e, e') -/
def wOIns (i : Nat) (wb we : WE) : WS := fun ε Ψ => match ε[i]? with
  | some (SV.own ds) => wb ε fun k => we ε fun d => match k with
    | .int k => (0 ≤ k ∧ k < 2 ^ 63 ∧ ds.length < LIM) ∧ Ψ.nx (ε.set i (.own (ds.take k.toNat ++ [d] ++ ds.drop k.toNat)))
    | _ => False
  | _ => False
/-- x.extend(e) -/
def wOExt (i : Nat) (we : WE) : WS := fun ε Ψ => match ε[i]? with
  | some (SV.own ds) => we ε fun d => match d with
    | .list es => ds.length + es.length ≤ LIM ∧ Ψ.nx (ε.set i (.own (ds ++ es)))
    | _ => False
  | _ => False
variable {X : Cx} {K : PySem.W.Frag} {T : Option Addr} {pos : Pos} {e a b : Expr} {we wa wb : WE}
/-- what an own slot says -/
theorem Sat.own_at {H0 F H F1 H1 : Hp} {ε : EV} {σ : L2.St} (S : Sat K T H0 ε σ F H) {i : Nat} {ds : List PyData} (h : ε[i]? = some (SV.own ds)) : ∃ (p : Addr) (vs : List V), σ[i]? = some (some (V.ref p)) ∧ H0 p = none ∧ T ≠ some p ∧
    (H p = some (.lst vs) ∧ RpAll K F vs ds ∧ F p = none) ∧ vs.length ≤ sizeLine ∧ ∀ F1 H1, Ex T F H F1 H1 → H1 p = some (.lst vs) ∧ RpAll K F1 vs ds ∧ F1 p = none := by
  obtain ⟨p, vs, h1, h2, z, r, hF, h0, hT⟩ := S.own i ds h
  exact ⟨p, vs, h1, h0, hT, ⟨h2, r, hF⟩, z, fun F1 H1 x => ⟨x.hl h2 hT, RpAll.up x.ff _ _ r, by rw [x.old p (by rw [h2]; simp)]; exact hF⟩⟩
section
variable {x : Str} {px : Pos}
theorem md_oix (i : Nat) (hk : X.K = K) (hb : PE X b (tD K T wb)) (hN : X.N[i]? = some x := by rfl) (hv : Vis X.env.scope x := by first | exact Or.inl rfl | exact Or.inr (Or.inl rfl) | exact Or.inr (Or.inr rfl)) (hd : (x == ("__debug__" : Str)) = false := by decide)
    (hcd : (x == ("__classdict__" : Str)) = false := by decide) (hs : PlainIx b := by intro _ _; rfl) : PE X (.Subscript (.Name x px) b pos) (tD K T (wOIx i wb)) := by
  subst hk
  refine pe_imp (pe_ix ix_seq (pe_var hN hv hd hcd) hb hs) fun σ H Q ⟨H0, ε, F, Φ, S, W, hw, k⟩ => ?_
  unfold wOIx at hw
  split at hw
  · rename_i ds hε
    obtain ⟨p, vs, h1, h0, hT, _, z, later⟩ := Sat.own_at (F1 := F) (H1 := H) S hε
    refine ⟨.ref p, h1, H0, ε, F, _, S, W, hw, fun d v F1 H1 hd W1 X1 D1 => ?_⟩
    obtain ⟨g1, g2, _⟩ := later F1 H1 X1
    split at hd
    · split at hd
      · rename_i q
        cases D1
        obtain ⟨u, q1, q2⟩ := at_rp g2 q
        exact .inl ⟨_, _, _, _, rfl, rfl, SqL.of g1, q1, k _ _ F1 H1 hd W1 X1 q2⟩
      · exact hd.elim
    · exact hd.elim
  · exact hw.elim
theorem md_olen {p : Pos} (i : Nat) (hk : X.K = K) (hm : X.mg "len" = none) (hN : X.N[i]? = some x := by rfl) (hv : Vis X.env.scope x := by first | exact Or.inl rfl | exact Or.inr (Or.inl rfl) | exact Or.inr (Or.inr rfl)) (hd : (x == ("__debug__" : Str)) = false := by decide)
    (hcd : (x == ("__classdict__" : Str)) = false := by decide) (hg : Gl X "len" := by rfl) (hs : starEach [Expr.Name x px] X.env = (false, eval (.Name x px) X.env) :: starEach [] X.env := by rfl) (hpl : (backTo pos (starEach [] X.env)).any (·.1) = false := by rfl) : PE X (.Call (.Name "len" p) [.Name x px] [] pos) (tD K T (wOLen i)) := by
  subst hk
  refine pe_imp (pe_callB call_len_seq hg hm PySem.boot_len (pa_cons (pe_var hN hv hd hcd) pa_nil hs) (by decide) (by decide) hs hpl) fun σ H Q ⟨H0, ε, F, Φ, S, W, hw, k⟩ => ?_
  unfold wOLen at hw
  split at hw
  · rename_i ds hε
    obtain ⟨p, vs, h1, h0, hT, ⟨g1, g2, _⟩, z, later⟩ := Sat.own_at (F1 := F) (H1 := H) S hε
    exact ⟨.ref p, h1, _, _, rfl, .inl (SqL.of g1), k _ _ F H (by rw [g2.length]; exact hw) W Ex.refl (.int _)⟩
  · exact hw.elim
theorem mn_orev {p1 p2 p3 : Pos} {kk : Nat} (i : Nat) (hk : X.K = K) (hN : X.N[i]? = some x := by rfl) (hv : Vis X.env.scope x := by first | exact Or.inl rfl | exact Or.inr (Or.inl rfl) | exact Or.inr (Or.inr rfl)) (hd : (x == ("__debug__" : Str)) = false := by decide)
    (hcd : (x == ("__classdict__" : Str)) = false := by decide) : PE X (.Subscript (.Name x px) (.Slice none none (some (.UnaryOp .USub (.Constant (.int 1) kk p1) p2)) p3) pos) (tN K T (wORev i)) := by
  subst hk
  refine pe_imp (pe_revL (pe_var hN hv hd hcd)) fun σ H Q ⟨H0, ε, F, Φ, S, W, hw, k⟩ => ?_
  unfold wORev at hw
  split at hw
  · rename_i ds hε
    obtain ⟨p, vs, h1, h0, hT, ⟨g1, g2, _⟩, z, later⟩ := Sat.own_at (F1 := F) (H1 := H) S hε
    refine ⟨.ref p, h1, p, vs, rfl, SqL.of g1, fun q hq => ?_⟩
    obtain ⟨W2, X2⟩ := new_raw (o := .lst vs.reverse) W hq
    exact k _ _ _ _ _ hw W2 X2 hq (W.none_of hq) (tape_ne W hq) upd_same (by rw [List.length_reverse]; exact z) (RpAll.rev g2)
  · exact hw.elim
theorem own_len {H0 F H : Hp} {ε : EV} {σ : L2.St} {i : Nat} {s : SV} (h : ε[i]? = some s) : i < ε.length := by
  rcases Nat.lt_or_ge i ε.length with q | q
  · exact q
  · rw [List.getElem?_eq_none q] at h; cases h
theorem ms_oset (i : Nat) (hk : X.K = K) (he : PE X e (tD K T we)) (hb : PE X b (tD K T wb)) {p1 : Pos} (hN : X.N[i]? = some x := by rfl) (hv : Vis X.env.scope x := by first | exact Or.inl rfl | exact Or.inr (Or.inl rfl) | exact Or.inr (Or.inr rfl)) (hd : (x == ("__debug__" : Str)) = false := by decide)
    (hcd : (x == ("__classdict__" : Str)) = false := by decide)
    (ha : ∀ v, assign (.Subscript (.Name x px) b p1) X.env v = (do
      let ov ← holding [v] (eval (.Name x px) X.env)
      let iv ← holding [v, ov] (eval b X.env)
      standAt p1
      holding [v, ov, iv] (setItem ov iv v)
      release [v, ov, iv] []) := by intro _; rfl)
    (hs : swapsWithSole [.Subscript (.Name x px) b p1] e pos.line X.env = pure false := by rfl) (hw : swappedStores [.Subscript (.Name x px) b p1] e X.env = pure none := by rfl)
    (h1 : (assignEach [.Subscript (.Name x px) b p1] X.env).map (·.2) = [assign (.Subscript (.Name x px) b p1) X.env] := by rfl) : PS X (.Assign [.Subscript (.Name x px) b p1] e pos) (sD K T (wOSet i wb we)) := by
  subst hk
  refine ps_imp (ps_asg he (pg_sub (pe_var hN hv hd hcd) hb set_list ha) hs hw h1) fun D σ H ⟨H0, F0, ε, F, Ψ, S, W, X0, hw, kn, kr, kb, kc⟩ => ?_
  unfold wOSet at hw
  split at hw
  · rename_i ds hε
    obtain ⟨p, vs, h1, h0, hT, _, z, later⟩ := Sat.own_at (F1 := F) (H1 := H) S hε
    refine ⟨H0, ε, F, _, S, W, hw, fun d v F1 H1 hd W1 X1 D1 => ⟨.ref p, h1, H0, ε, F1, _, S.ex X1, W1, hd, fun k u F2 H2 hk W2 X2 D2 => ?_⟩⟩
    obtain ⟨g1, g2, g3⟩ := later F2 H2 (X1.trans X2)
    split at hk
    · split at hk
      · rename_i j q
        cases D2
        rw [← g2.length] at q
        refine ⟨_, _, _, _, rfl, rfl, g1, q, ?_⟩
        obtain ⟨S3, W3, X3⟩ := mut_own (es := ds.set j d) (ws := vs.set j v) ((S.ex X1).ex X2) W2 (X0.trans (X1.trans X2)) hε h1 g1 g3 h0 hT (by rw [List.length_set]; exact z) (RpAll.set (Rp.up X2.ff _ _ D1) _ g2)
        exact kn _ _ _ _ hk S3 W3 X3
      · exact hk.elim
    · exact hk.elim
  · exact hw.elim
theorem seqIndex_lt {k : Int} {n j : Nat} (q : seqIndex? k n = some j) : j < n := by
  unfold seqIndex? at q
  have key : ∀ i : Int, (if 0 ≤ i && i < n then some i.toNat else none) = some j → j < n := fun i h => by
    by_cases c : (0 ≤ i && i < n) = true
    · rw [if_pos c] at h
      have e : i.toNat = j := Option.some.inj h
      simp at c
      omega
    · rw [if_neg c] at h; exact nomatch h
  exact key _ q
section
variable {pa pc : Pos}
theorem RpAll.erase {F : Hp} : ∀ {xs : List V} {ds : List PyData} (j : Nat), RpAll K F xs ds → RpAll K F (xs.eraseIdx j) (ds.eraseIdx j)
  | _, _, _, .nil => .nil
  | _, _, 0, .cons _ t => t
  | _, _, j + 1, .cons r t => .cons r (RpAll.erase j t)
theorem RpAll.dropLast {F : Hp} {xs : List V} {ds : List PyData} (h : RpAll K F xs ds) : RpAll K F xs.dropLast ds.dropLast := by
  rw [List.dropLast_eq_take, List.dropLast_eq_take, h.length]; exact h.take _
theorem ms_opopAt (i : Nat) (hk : X.K = K) (hb : PE X b (tD K T wb)) (hN : X.N[i]? = some x := by rfl) (hv : Vis X.env.scope x := by first | exact Or.inl rfl | exact Or.inr (Or.inl rfl) | exact Or.inr (Or.inr rfl)) (hd : (x == ("__debug__" : Str)) = false := by decide) (hcd : (x == ("__classdict__" : Str)) = false := by decide)
    (hbase : attributeBase (.Name x px) "pop" X.env (eval (.Name x px) X.env) = eval (.Name x px) X.env := by rfl)
    (hfew : ((backTo pc (starEach [b] X.env)).all (fun x => !x.1) && (backToKw pc (keywordEach [] X.env)).all (fun x => x.1.isSome) && decide (([b] : List Expr).length + ([] : List Keyword).length + (if ([] : List Keyword).isEmpty then 0 else 1) < 30)) = true := by rfl)
    (hline : (pa.endLine == pc.line) = true := by rfl) (h1 : starEach [b] X.env = (false, eval b X.env) :: starEach [] X.env := by rfl) (hplain : (backTo pc (starEach [] X.env)).any (·.1) = false := by rfl)
    (hs : swapsWith (.Call (.Attribute (.Name x px) "pop" pa) [b] [] pc) none pos.line X.env = pure false := by rfl) : PS X (.Expr (.Call (.Attribute (.Name x px) "pop" pa) [b] [] pc) pos) (sD K T (wOPopAt i wb)) := by
  subst hk
  refine ps_imp (ps_expr (pe_bm PySem.F.plainAttrs_list PySem.F.slot_list_pop PySem.F.type_list_pop mt_popAt (pe_var hN hv hd hcd) (pa_cons hb pa_nil h1) hbase hfew hline h1 hplain) hs) fun D σ H ⟨H0, F0, ε, F, Ψ, S, W, X0, hw, kn, kr, kb, kc⟩ => ?_
  unfold wOPopAt at hw
  split at hw
  · rename_i ds hε
    obtain ⟨p, vs, h1, h0, hT, ⟨g1, _⟩, z, later⟩ := Sat.own_at (F1 := F) (H1 := H) S hε
    refine ⟨.ref p, h1, .inl ⟨rfl, _, SqL.of g1⟩, H0, ε, F, _, S, W, hw, fun k u F1 H1 hk W1 X1 D1 => ?_⟩
    obtain ⟨g1, g2, g3⟩ := later F1 H1 X1
    split at hk
    · obtain ⟨⟨b1, b2⟩, hk⟩ := hk
      split at hk
      · rename_i k _ j q
        cases D1
        rw [← g2.length] at q
        have hj : j < vs.length := by
          exact seqIndex_lt q
        obtain ⟨S3, W3, X3⟩ := mut_own (es := ds.eraseIdx j) (ws := vs.eraseIdx j) (S.ex X1) W1 (X0.trans X1) hε h1 g1 g3 h0 hT (by have := List.length_eraseIdx_le vs j; omega) (RpAll.erase j g2)
        exact ⟨p, vs, k, j, vs[j], rfl, rfl, g1, b1, b2, q, List.getElem?_eq_getElem hj, kn _ _ _ _ hk S3 W3 X3⟩
      · exact hk.elim
    · exact hk.elim
  · exact hw.elim
theorem ms_oins (i : Nat) (hk : X.K = K) (hb : PE X b (tD K T wb)) (he : PE X e (tD K T we)) (hN : X.N[i]? = some x := by rfl) (hv : Vis X.env.scope x := by first | exact Or.inl rfl | exact Or.inr (Or.inl rfl) | exact Or.inr (Or.inr rfl)) (hd : (x == ("__debug__" : Str)) = false := by decide) (hcd : (x == ("__classdict__" : Str)) = false := by decide)
    (hbase : attributeBase (.Name x px) "insert" X.env (eval (.Name x px) X.env) = eval (.Name x px) X.env := by rfl)
    (hfew : ((backTo pc (starEach [b, e] X.env)).all (fun x => !x.1) && (backToKw pc (keywordEach [] X.env)).all (fun x => x.1.isSome) && decide (([b, e] : List Expr).length + ([] : List Keyword).length + (if ([] : List Keyword).isEmpty then 0 else 1) < 30)) = true := by rfl)
    (hline : (pa.endLine == pc.line) = true := by rfl) (h1 : starEach [b, e] X.env = (false, eval b X.env) :: starEach [e] X.env := by rfl) (h2 : starEach [e] X.env = (false, eval e X.env) :: starEach [] X.env := by rfl) (hplain : (backTo pc (starEach [e] X.env)).any (·.1) = false := by rfl)
    (hs : swapsWith (.Call (.Attribute (.Name x px) "insert" pa) [b, e] [] pc) none pos.line X.env = pure false := by rfl) : PS X (.Expr (.Call (.Attribute (.Name x px) "insert" pa) [b, e] [] pc) pos) (sD K T (wOIns i wb we)) := by
  subst hk
  refine ps_imp (ps_expr (pe_bm PySem.F.plainAttrs_list PySem.F.slot_list_insert PySem.F.type_list_insert mt_insert (pe_var hN hv hd hcd) (pa_cons hb (pa_cons he pa_nil h2) h1) hbase hfew hline h1 hplain) hs) fun D σ H ⟨H0, F0, ε, F, Ψ, S, W, X0, hw, kn, kr, kb, kc⟩ => ?_
  unfold wOIns at hw
  split at hw
  · rename_i ds hε
    obtain ⟨p, vs, h1, h0, hT, ⟨g1, _⟩, z, later⟩ := Sat.own_at (F1 := F) (H1 := H) S hε
    refine ⟨.ref p, h1, .inl ⟨rfl, _, SqL.of g1⟩, H0, ε, F, _, S, W, hw, fun k u F1 H1 hk W1 X1 D1 => ⟨H0, ε, F1, _, S.ex X1, W1, hk, fun d v F2 H2 hd W2 X2 D2 => ?_⟩⟩
    obtain ⟨g1, g2, g3⟩ := later F2 H2 (X1.trans X2)
    split at hd
    · rename_i k
      cases D1
      obtain ⟨⟨b1, b2, b3⟩, hd⟩ := hd
      have lt : vs.length < sizeLine := by rw [g2.length]; exact Nat.lt_of_lt_of_le b3 (lim_line (Nat.le_refl _))
      obtain ⟨S3, W3, X3⟩ := mut_own (es := ds.take k.toNat ++ [d] ++ ds.drop k.toNat) (ws := vs.take k.toNat ++ [v] ++ vs.drop k.toNat) ((S.ex X1).ex X2) W2 (X0.trans (X1.trans X2)) hε h1 g1 g3 h0 hT (by
        rw [List.length_append, List.length_append, List.length_take, List.length_drop, List.length_singleton]; omega) (((g2.take _).append (.cons D2 .nil)).append (g2.drop _))
      exact ⟨p, vs, k, v, rfl, rfl, g1, lt, b1, b2, kn _ _ _ _ hd S3 W3 X3⟩
    · exact hd.elim
  · exact hw.elim
theorem ms_oext (i : Nat) (hk : X.K = K) (he : PE X e (tD K T we)) (hN : X.N[i]? = some x := by rfl) (hv : Vis X.env.scope x := by first | exact Or.inl rfl | exact Or.inr (Or.inl rfl) | exact Or.inr (Or.inr rfl)) (hd : (x == ("__debug__" : Str)) = false := by decide) (hcd : (x == ("__classdict__" : Str)) = false := by decide)
    (hbase : attributeBase (.Name x px) "extend" X.env (eval (.Name x px) X.env) = eval (.Name x px) X.env := by rfl)
    (hfew : ((backTo pc (starEach [e] X.env)).all (fun x => !x.1) && (backToKw pc (keywordEach [] X.env)).all (fun x => x.1.isSome) && decide (([e] : List Expr).length + ([] : List Keyword).length + (if ([] : List Keyword).isEmpty then 0 else 1) < 30)) = true := by rfl)
    (hline : (pa.endLine == pc.line) = true := by rfl) (h1 : starEach [e] X.env = (false, eval e X.env) :: starEach [] X.env := by rfl) (hplain : (backTo pc (starEach [] X.env)).any (·.1) = false := by rfl)
    (hs : swapsWith (.Call (.Attribute (.Name x px) "extend" pa) [e] [] pc) none pos.line X.env = pure false := by rfl) : PS X (.Expr (.Call (.Attribute (.Name x px) "extend" pa) [e] [] pc) pos) (sD K T (wOExt i we)) := by
  subst hk
  refine ps_imp (ps_expr (pe_bm PySem.F.plainAttrs_list PySem.F.slot_list_extend PySem.F.type_list_extend mt_extend (pe_var hN hv hd hcd) (pa_cons he pa_nil h1) hbase hfew hline h1 hplain) hs) fun D σ H ⟨H0, F0, ε, F, Ψ, S, W, X0, hw, kn, kr, kb, kc⟩ => ?_
  unfold wOExt at hw
  split at hw
  · rename_i ds hε
    obtain ⟨p, vs, h1, h0, hT, ⟨g1, _⟩, z, later⟩ := Sat.own_at (F1 := F) (H1 := H) S hε
    refine ⟨.ref p, h1, .inl ⟨rfl, _, SqL.of g1⟩, H0, ε, F, _, S, W, hw, fun d v F1 H1 hd W1 X1 D1 => ?_⟩
    obtain ⟨g1, g2, g3⟩ := later F1 H1 X1
    split at hd
    · rename_i es
      cases D1 with
      | @lst q ys _ e1 z1 a1 =>
        have lt : vs.length + ys.length ≤ sizeLine := by rw [g2.length, a1.length]; exact lim_line hd.1
        obtain ⟨S3, W3, X3⟩ := mut_own (es := ds ++ es) (ws := vs ++ ys) (S.ex X1) W1 (X0.trans X1) hε h1 g1 g3 h0 hT (by rw [List.length_append]; exact lt) (g2.append a1)
        exact ⟨p, q, vs, ys, rfl, rfl, g1, W1.fz _ _ e1, lt, kn _ _ _ _ hd.2 S3 W3 X3⟩
    · exact hd.elim
  · exact hw.elim
/-- y = x.pop() -/
theorem ms_opop {y : Str} {py : Pos} (j i : Nat) (hk : X.K = K) (hnd : X.N.Nodup) (hN : X.N[i]? = some x := by rfl) (hv : Vis X.env.scope x := by first | exact Or.inl rfl | exact Or.inr (Or.inl rfl) | exact Or.inr (Or.inr rfl)) (hd : (x == ("__debug__" : Str)) = false := by decide) (hcd : (x == ("__classdict__" : Str)) = false := by decide)
    (hbase : attributeBase (.Name x px) "pop" X.env (eval (.Name x px) X.env) = eval (.Name x px) X.env := by rfl) (hline : (pa.endLine == pc.line) = true := by rfl)
    (hi : X.N[j]? = some y := by rfl) (hx : Loc X.env.scope y := by first | exact Or.inl rfl | exact Or.inr rfl) (hs : swapsWith (.Call (.Attribute (.Name x px) "pop" pa) [] [] pc) (some (.Name y py)) pos.line X.env = pure false := by rfl)
    (hf : X.fn y = true ∨ X.env.scope.names.lookup y = some .local := by first | exact .inl rfl | exact .inr rfl | assumption) : PS X (.Assign [.Name y py] (.Call (.Attribute (.Name x px) "pop" pa) [] [] pc) pos) (sD K T (wOPop j i)) := by
  subst hk
  refine ps_imp (ps_set hnd hi hx (pe_bm0 PySem.F.plainAttrs_list PySem.F.slot_list_pop PySem.F.type_list_pop mt_pop (pe_var hN hv hd hcd) hbase hline) hs hf) fun D σ H ⟨H0, F0, ε, F, Ψ, S, W, X0, hw, kn, kr, kb, kc⟩ => ?_
  unfold wOPop at hw
  split at hw
  · rename_i ds hε
    split at hw
    · rename_i d q
      obtain ⟨p, vs, h1, h0, hT, ⟨g1, g2, g3⟩, z, later⟩ := Sat.own_at (F1 := F) (H1 := H) S hε
      obtain ⟨v, q1, q2⟩ := g2.getD q
      rw [← g2.length] at q1
      obtain ⟨S3, W3, X3⟩ := mut_own (es := ds.dropLast) (ws := vs.dropLast) S W X0 hε h1 g1 g3 h0 hT (by rw [List.length_dropLast]; omega) g2.dropLast
      exact ⟨.ref p, h1, .inl ⟨rfl, _, SqL.of g1⟩, p, vs, v, rfl, rfl, g1, q1, kn _ _ _ _ hw (S3.set j q2) W3 X3⟩
    · exact hw.elim
  · exact hw.elim
end
end
end
end MG

set_option Elab.async false
set_option linter.all false
set_option maxRecDepth 100000
set_option maxHeartbeats 4000000
/-! MgTape: defs that draw from the law's tape, over plain data. -/
namespace MG
variable [Tbl]
open PySem PySem.Spec PyProof.Rows L2
/-- what a def with the tape as its first argument does with the others -/
def spT (K : PySem.W.Frag) (n : Nat) (u : WF) : Sp := fun vs H Q _ => ∃ (tp : Addr) (ws : List V), vs = .ref tp :: ws ∧ ws.length = n ∧ ∃ ds F Φ, Wd (some tp) F H ∧ RpAll K F ws ds ∧ u ds Φ ∧
  ∀ d v F' H', Φ d → Wd (some tp) F' H' → Ex (some tp) F H F' H' → Rp K F' v d → Q v H'
/-- the def x of the text draws from the tape and does u with its other n arguments -/
structure Dt (P : Program) (w : World) (K : PySem.W.Frag) (mg : Str → Option Value) (base : Heap) (x : Str) (k n : Nat) (u : WF) : Prop where
  ex : ∃ (f : Addr) (fd : FuncData) (ps : List Str), FnOk P w K mg base CX0 k f fd ps (spT K n u) ∧ mg x = some (.ref f) ∧ PySem.W.keepIn K (.ref f) = true ∧ Binds K fd ps []
def isTp : Option SV → Prop
  | some (SV.tp _) => True
  | _ => False
theorem isTp_eq {o : Option SV} (h : isTp o) : ∃ ns, o = some (SV.tp ns) := by
  match o, h with
  | some (SV.tp ns), _ => exact ⟨ns, rfl⟩
/-- the tape, then other arguments -/
def wTA (i : Nat) (wa : WA) : WA := fun ε Φ => isTp ε[i]? ∧ wa ε Φ
def tDT (K : PySem.W.Frag) (T : Option Addr) (n : Nat) (w : WA) : TA := fun σ H Q => ∃ H0 ε F Φ tp, T = some tp ∧ Sat K T H0 ε σ F H ∧ Wd T F H ∧ w ε Φ ∧ ∀ ds vs F' H', Φ ds → ds.length = n → Wd T F' H' → Ex T F H F' H' → RpAll K F' vs ds → Q (.ref tp :: vs) H'
/-- tape[0], tape[1], tape[2], len(tape[0]) -/
def wT0 (i : Nat) : WE := fun ε Φ => match ε[i]? with
  | some (SV.tp (some ns)) => Φ (.list (ns.map .int))
  | _ => False
def wTk (i : Nat) : WE := fun ε Φ => isTp ε[i]? ∧ ∀ z : Int, Φ (.int z)
/-- tape[k] = e, k not 0 -/
def wTSet (i : Nat) (we : WE) : WS := fun ε Ψ => isTp ε[i]? ∧ we ε fun d => match d with
  | .int _ => Ψ.nx ε
  | _ => False
theorem intsOf_map : ∀ ns : List Int, intsOf (ns.map .int) = some ns
  | [] => rfl
  | n :: ns => by rw [List.map_cons, intsOf, intsOf_map ns]; rfl
theorem ints_rp {K : PySem.W.Frag} {F : Hp} : ∀ ns : List Int, RpAll K F (ns.map V.int) (ns.map .int)
  | [] => .nil
  | n :: ns => .cons (.int n) (ints_rp ns)
section
variable {X : Cx} {K : PySem.W.Frag} {T : Option Addr} {pos : Pos}
section
variable {x : Str} {px : Pos}
theorem ma_tape {n : Nat} {es : List Expr} {wa : WA} (i : Nat) (hr : PA X es (tDA K T n wa)) (hN : X.N[i]? = some x := by rfl) (hv : Vis X.env.scope x := by first | exact Or.inl rfl | exact Or.inr (Or.inl rfl) | exact Or.inr (Or.inr rfl)) (hd : (x == ("__debug__" : Str)) = false := by decide)
    (hcd : (x == ("__classdict__" : Str)) = false := by decide) (hs : starEach (Expr.Name x px :: es) X.env = (false, eval (.Name x px) X.env) :: starEach es X.env := by rfl) : PA X (.Name x px :: es) (tDT K T n (wTA i wa)) :=
  pa_imp (pa_cons (pe_var hN hv hd hcd) hr hs) fun σ H Q ⟨H0, ε, F, Φ, tp, e, S, W, hw, k⟩ => by
    obtain ⟨ns, hε⟩ := isTp_eq hw.1
    obtain ⟨a, l, p, c, h1, h2, _⟩ := S.tape i ns hε
    have ea : a = tp := Option.some.inj (h1.symm.trans e)
    subst ea
    exact ⟨.ref a, h2, H0, ε, F, _, S, W, hw.2, fun ds vs F' H' hd hl W' X' D' => k ds vs F' H' hd hl W' X' D'⟩
theorem md_dt {p : Pos} {e : Expr} {es : List Expr} {f : Str} {k n i : Nat} {u : WF} {wa : WA} (hk : X.K = K) (D : Dt X.prog X.w K X.mg X.base f k n u) (hr : Room k X.A) (ha : PA X (e :: es) (tDT K T n (wTA i wa)))
    (hg : Gl X f := by rfl) (hdb : (f == ("__debug__" : Str)) = false := by decide) (he : starEach (e :: es) X.env = (false, eval e X.env) :: starEach es X.env := by rfl) (hpl : (backTo pos (starEach es X.env)).any (·.1) = false := by rfl) : PE X (.Call (.Name f p) (e :: es) [] pos) (tD K T (wFn u (wTA i wa))) := by
  subst hk
  obtain ⟨f, fd, ps, F, hm, hk, hb⟩ := D.ex
  refine pe_imp (pe_call F hr hg hm hk hb .nil pass0 ha hdb he hpl) fun σ H Q ⟨H0, ε, F0, Φ, S, W, hw, k⟩ => ?_
  obtain ⟨ns, hε⟩ := isTp_eq hw.1
  obtain ⟨tp, _, _, _, h1, h2, _⟩ := S.tape i ns hε
  subst h1
  refine ⟨H0, ε, F0, _, tp, rfl, S, W, hw, fun ds vs F1 H1 hd hl W1 X1 D1 => ?_⟩
  exact ⟨tp, vs, by rw [List.append_nil], by rw [D1.length]; exact hl, ds, F1, Φ, W1, D1, hd, fun d v F' H' hΦ W' X' D' => k d v F' H' hΦ W' (X1.trans X') D'⟩
theorem md_t0 {j} {p1 : Pos} (i : Nat) (hk : X.K = K) (hN : X.N[i]? = some x := by rfl) (hv : Vis X.env.scope x := by first | exact Or.inl rfl | exact Or.inr (Or.inl rfl) | exact Or.inr (Or.inr rfl)) (hd : (x == ("__debug__" : Str)) = false := by decide)
    (hcd : (x == ("__classdict__" : Str)) = false := by decide) (hs : PlainIx (.Constant (.int 0) j p1) := by intro _ _; rfl) : PE X (.Subscript (.Name x px) (.Constant (.int 0) j p1) pos) (tD K T (wT0 i)) := by
  subst hk
  refine pe_imp (pe_ix ix_seq (pe_var hN hv hd hcd) pe_int hs) fun σ H Q ⟨H0, ε, F, Φ, S, W, hw, k⟩ => ?_
  unfold wT0 at hw
  split at hw
  · rename_i ns hε
    obtain ⟨a, l, p, c, h1, h2, h3, h4⟩ := S.tape i _ hε
    have hl := h4 ns rfl
    subst h1
    obtain ⟨_, l2, ns2, p2, c2, g1, g2, g3⟩ := W.tape
    rw [h3] at g1
    cases g1
    rw [hl] at g2
    have hz : (ns.map V.int).length ≤ sizeLine := by
      have e1 : ns.map V.int = ns2.map V.int := by
        injection g2 with g2
        injection g2
      rw [e1, List.length_map, sizeLine_eq]; omega
    exact ⟨.ref a, h2, .inl ⟨_, _, _, _, rfl, rfl, SqL.of h3, rfl, k _ _ F H hw W Ex.refl (.lst hl hz (ints_rp ns))⟩⟩
  · exact hw.elim
theorem md_tk {kk : Int} {j} {p1 : Pos} (i : Nat) (h12 : kk = 1 ∨ kk = 2) (hk : X.K = K) (hN : X.N[i]? = some x := by rfl) (hv : Vis X.env.scope x := by first | exact Or.inl rfl | exact Or.inr (Or.inl rfl) | exact Or.inr (Or.inr rfl)) (hd : (x == ("__debug__" : Str)) = false := by decide)
    (hcd : (x == ("__classdict__" : Str)) = false := by decide) (hs : PlainIx (.Constant (.int kk) j p1) := by intro _ _; rfl) : PE X (.Subscript (.Name x px) (.Constant (.int kk) j p1) pos) (tD K T (wTk i)) := by
  subst hk
  refine pe_imp (pe_ix ix_seq (pe_var hN hv hd hcd) pe_int hs) fun σ H Q ⟨H0, ε, F, Φ, S, W, hw, k⟩ => ?_
  obtain ⟨ns, hε⟩ := isTp_eq hw.1
  obtain ⟨a, l, p, c, h1, h2, h3, _⟩ := S.tape i _ hε
  refine ⟨.ref a, h2, .inl ?_⟩
  rcases h12 with e | e
  · subst e; exact ⟨_, _, _, _, rfl, rfl, SqL.of h3, rfl, k _ _ F H (hw.2 p) W Ex.refl (.int p)⟩
  · subst e; exact ⟨_, _, _, _, rfl, rfl, SqL.of h3, rfl, k _ _ F H (hw.2 c) W Ex.refl (.int c)⟩
/-- the tape written: its count or its cell -/
theorem tape_write {H0 F0 F H : Hp} {ε : EV} {σ : L2.St} {a l : Addr} {p c p' c' : Int} (S : Sat K (some a) H0 ε σ F H) (W : Wd (some a) F H) (X0 : Ex (some a) F0 H0 F H) (h : H a = some (.lst [.ref l, .int p, .int c])) :
    Sat K (some a) H0 ε σ F (upd H a (.lst [.ref l, .int p', .int c'])) ∧ Wd (some a) F (upd H a (.lst [.ref l, .int p', .int c'])) ∧ Ex (some a) F0 H0 F (upd H a (.lst [.ref l, .int p', .int c'])) := by
  obtain ⟨hF, l2, ns, p2, c2, g1, g2, g3⟩ := W.tape
  rw [h] at g1
  cases g1
  refine ⟨⟨S.len, S.val, fun i ds e => ?_, S.sep, fun i o e => ?_, S.fns, S.dct.lst h⟩, ⟨fun b u q => ?_, ⟨hF, l, ns, p', c', upd_same, g2, g3⟩, tabs_lst W.tabs h, W.nt⟩, ⟨fun b u q t n => ?_, fun b q => ?_, X0.ff, X0.old, fun b l3 p3 c3 e q => ?_⟩⟩
  · obtain ⟨b, us, k1, k2, k3, k4, k5, k6, k7⟩ := S.own i ds e
    exact ⟨b, us, k1, by rw [upd_ne fun z => k7 (by rw [z])]; exact k2, k3, k4, k5, k6, k7⟩
  · obtain ⟨b, l3, p3, c3, k1, k2, k3, k4⟩ := S.tape i o e
    cases k1
    rw [h] at k3
    cases k3
    exact ⟨a, l, p', c', rfl, k2, upd_same, k4⟩
  · rw [upd_ne (fun z => by rw [z, hF] at q; cases q)]; exact W.fz _ _ q
  · rw [upd_ne (fun z => t (by rw [z]))]; exact X0.hh b u q t (by assumption)
  · by_cases z : b = a
    · rw [z, upd_same]; simp
    · rw [upd_ne z]; exact X0.dom b q
  · cases e
    obtain ⟨p4, c4, q4⟩ := X0.tl a l3 p3 c3 rfl q
    rw [h] at q4
    cases q4
    exact ⟨p', c', upd_same⟩
theorem ms_tset {e : Expr} {we : WE} {kk : Int} {j} {p1 p2 : Pos} (i : Nat) (h12 : kk = 1 ∨ kk = 2) (hk : X.K = K) (he : PE X e (tD K T we)) (hN : X.N[i]? = some x := by rfl) (hv : Vis X.env.scope x := by first | exact Or.inl rfl | exact Or.inr (Or.inl rfl) | exact Or.inr (Or.inr rfl)) (hd : (x == ("__debug__" : Str)) = false := by decide)
    (hcd : (x == ("__classdict__" : Str)) = false := by decide)
    (ha : ∀ v, assign (.Subscript (.Name x px) (.Constant (.int kk) j p2) p1) X.env v = (do
      let ov ← holding [v] (eval (.Name x px) X.env)
      let iv ← holding [v, ov] (eval (.Constant (.int kk) j p2) X.env)
      standAt p1
      holding [v, ov, iv] (setItem ov iv v)
      release [v, ov, iv] []) := by intro _; rfl)
    (hs : swapsWithSole [.Subscript (.Name x px) (.Constant (.int kk) j p2) p1] e pos.line X.env = pure false := by rfl) (hw : swappedStores [.Subscript (.Name x px) (.Constant (.int kk) j p2) p1] e X.env = pure none := by rfl)
    (h1 : (assignEach [.Subscript (.Name x px) (.Constant (.int kk) j p2) p1] X.env).map (·.2) = [assign (.Subscript (.Name x px) (.Constant (.int kk) j p2) p1) X.env] := by rfl) : PS X (.Assign [.Subscript (.Name x px) (.Constant (.int kk) j p2) p1] e pos) (sD K T (wTSet i we)) := by
  subst hk
  refine ps_imp (ps_asg he (pg_sub (pe_var hN hv hd hcd) pe_int set_list ha) hs hw h1) fun D σ H ⟨H0, F0, ε, F, Ψ, S, W, X0, hw, kn, kr, kb, kc⟩ => ?_
  obtain ⟨ns, hε⟩ := isTp_eq hw.1
  refine ⟨H0, ε, F, _, S, W, hw.2, fun d v F1 H1 hd W1 X1 D1 => ?_⟩
  obtain ⟨a, l, p, c, h1, h2, h3, h4⟩ := (S.ex X1).tape i ns hε
  subst h1
  split at hd
  · rename_i z
    cases D1
    refine ⟨.ref a, h2, ?_⟩
    rcases h12 with e | e
    · subst e
      obtain ⟨S3, W3, X3⟩ := tape_write (p' := z) (c' := c) (S.ex X1) W1 (X0.trans X1) h3
      exact ⟨_, _, _, 1, rfl, rfl, h3, rfl, kn _ _ _ _ hd S3 W3 X3⟩
    · subst e
      obtain ⟨S3, W3, X3⟩ := tape_write (p' := p) (c' := z) (S.ex X1) W1 (X0.trans X1) h3
      exact ⟨_, _, _, 2, rfl, rfl, h3, rfl, kn _ _ _ _ hd S3 W3 X3⟩
  · exact hd.elim
end
/-! ### such a def's start -/
def wRunTn (N : Nat) (ns : Option (List Int)) (w : WS) : WF := fun ds Φ => w (SV.tp ns :: (ds.map SV.val ++ List.replicate (N - (ds.length + 1)) SV.un)) { nx := fun _ => Φ .none, rt := fun _ => Φ, bk := fun _ => False, ct := fun _ => False }
def wRunT (N : Nat) (w : WS) : WF := wRunTn N none w
theorem start_cons (N : List Str) (v : V) (vs : List V) : L2.start N (v :: vs) = some v :: (vs.map some ++ List.replicate (N.length - (vs.length + 1)) none) := by
  unfold L2.start
  rfl
theorem sat_tape {F H : Hp} {tp l : Addr} {p c : Int} {o : Option (List Int)} {N : List Str} {ds : List PyData} {vs : List V} (r : RpAll K F vs ds) (h1 : H tp = some (.lst [.ref l, .int p, .int c])) (h2 : ∀ ns, o = some ns → F l = some (.lst (ns.map V.int))) :
    Sat K (some tp) H (SV.tp o :: (ds.map SV.val ++ List.replicate (N.length - (ds.length + 1)) SV.un)) (L2.start N (.ref tp :: vs)) F H where
  len := by
    rw [start_cons]
    simp only [List.length_cons, List.length_append, List.length_map, List.length_replicate, r.length]
  val := fun i d h => by
    rw [start_cons, r.length]
    cases i with
    | zero => exact nomatch h
    | succ i => exact rp_at r _ (by simpa using h)
  own := fun i ds' h => by
    cases i with
    | zero => exact nomatch h
    | succ i => exact (no_own (s := SV.own ds') (by simp) (by simp) (List.getElem?_cons_succ ▸ h)).elim
  sep := fun i j a ds1 ds2 _ h1 _ _ => by
    cases i with
    | zero => exact nomatch h1
    | succ i => exact (no_own (s := SV.own ds1) (by simp) (by simp) (List.getElem?_cons_succ ▸ h1)).elim
  tape := fun i o' h => by
    cases i with
    | zero => cases h; exact ⟨tp, l, p, c, rfl, by rw [start_cons]; rfl, h1, h2⟩
    | succ i => exact (no_own (s := SV.tp o') (by simp) (by simp) (List.getElem?_cons_succ ▸ h)).elim
  fns := fun i f h => by
    cases i with
    | zero => cases h
    | succ i => exact (no_own (s := SV.fn f) (by simp) (by simp) (List.getElem?_cons_succ ▸ h)).elim
  dct := .none fun i ds h => by
    cases i with
    | zero => cases h
    | succ i => exact (no_own (s := SV.dct ds) (by simp) (by simp) (List.getElem?_cons_succ ▸ h)).elim
end
section
variable {P : Program} {w : World} {K : PySem.W.Frag} {mg : Str → Option Value} {base : Heap}
/-- THE RULE for a def with the tape -/
theorem fn_T {x qual : Str} {params : Arguments} {body : List Stmt} {scope : Scope} {f : Addr} {fd : FuncData} {N ps : List Str} {k n : Nat} {b : WS} (F : FunD K x qual params body scope [] [] f fd) (S : FnScope N ps scope) (hn : ps.length = n + 1)
    (h : ∀ (tp : Addr) (cdv : Value) (A : Around) (outer : List Env) (s : Shared) (H : Hp) (E : XK), Room k (A.deeper (envOfC qual scope s.heap.objs.size f cdv)) → PSs (cxOf CX0 P w K mg base N qual scope f cdv A outer s H E).nox body (sD K (some tp) b)) :
    FnOk P w K mg base CX0 (k + 1) f fd ps (spT K n fun ds Φ => ∀ ns : List Int, ns.length ≤ 1000 → wRunTn N.length (some ns) b ds Φ) := by
  refine F.ok S (fun vs H Q E ⟨tp, ws, e, hl, _⟩ => by rw [e, hn, List.length_cons, hl]) fun cdv A outer s H vs Q E hr ⟨tp, ws, e, hl, ds, F, Φ, W, r, hw, k⟩ => ?_
  subst e
  obtain ⟨_, l, ns, p, c, h1, h2, h3⟩ := id W.tape
  refine ⟨_, PSs.nox (h tp cdv A outer s H E hr), H, F, _, F, _, sat_tape (o := some ns) r h1 (fun ms e => by cases e; exact h2), W, Ex.refl, hw ns h3, fun ε' σ' F' H' h' S' W' X' => k _ _ F' H' h' W' X' .non, fun ε' σ' d v F' H' h' S' W' X' D' => k d v F' H' h' W' X' D', fun _ _ _ _ h' => h'.elim, fun _ _ _ _ h' => h'.elim⟩
theorem fn_T0 {x qual : Str} {params : Arguments} {body : List Stmt} {scope : Scope} {f : Addr} {fd : FuncData} {N ps : List Str} {k n : Nat} {b : WS} (F : FunD K x qual params body scope [] [] f fd) (S : FnScope N ps scope) (hn : ps.length = n + 1)
    (h : ∀ (tp : Addr) (cdv : Value) (A : Around) (outer : List Env) (s : Shared) (H : Hp) (E : XK), Room k (A.deeper (envOfC qual scope s.heap.objs.size f cdv)) → PSs (cxOf CX0 P w K mg base N qual scope f cdv A outer s H E).nox body (sD K (some tp) b)) :
    FnOk P w K mg base CX0 (k + 1) f fd ps (spT K n (wRunT N.length b)) := by
  refine F.ok S (fun vs H Q E ⟨tp, ws, e, hl, _⟩ => by rw [e, hn, List.length_cons, hl]) fun cdv A outer s H vs Q E hr ⟨tp, ws, e, hl, ds, F, Φ, W, r, hw, k⟩ => ?_
  subst e
  obtain ⟨_, l, ns, p, c, h1, h2, h3⟩ := id W.tape
  refine ⟨_, PSs.nox (h tp cdv A outer s H E hr), H, F, _, F, _, sat_tape (o := none) r h1 (fun ms e => nomatch e), W, Ex.refl, hw, fun ε' σ' F' H' h' S' W' X' => k _ _ F' H' h' W' X' .non, fun ε' σ' d v F' H' h' S' W' X' D' => k d v F' H' h' W' X' D', fun _ _ _ _ h' => h'.elim, fun _ _ _ _ h' => h'.elim⟩
section
variable {x : Str} {k n : Nat} {b : WS} {qual : Str} {params : Arguments} {body : List Stmt} {scope : Scope} {f : Addr} {fd : FuncData} {N ps : List Str}
theorem Dt.mk' (F : FunD K x qual params body scope [] [] f fd) (g : mg x = some (.ref f)) (S : FnScope N ps scope) (hn : ps.length = n + 1)
    (hb : ∀ (kV doc pm : Value) (an : Option Addr) (cdv ct : Value) (us : List Value), us.length = ps.length → bindArgs (PySem.W.fnOf x qual params body scope .none kV doc pm an cdv ct) ⟨us, []⟩ = pure (ps.zip us))
    (h : ∀ (tp : Addr) (cdv : Value) (A : Around) (outer : List Env) (s : Shared) (H : Hp) (E : XK), Room k (A.deeper (envOfC qual scope s.heap.objs.size f cdv)) → PSs (cxOf CX0 P w K mg base N qual scope f cdv A outer s H E).nox body (sD K (some tp) b)) :
    Dt P w K mg base x (k + 1) n (wRunT N.length b) := ⟨f, fd, ps, fn_T0 F S hn h, g, F.kp, F.bindsN hb⟩
theorem Dt.mkn (F : FunD K x qual params body scope [] [] f fd) (g : mg x = some (.ref f)) (S : FnScope N ps scope) (hn : ps.length = n + 1)
    (hb : ∀ (kV doc pm : Value) (an : Option Addr) (cdv ct : Value) (us : List Value), us.length = ps.length → bindArgs (PySem.W.fnOf x qual params body scope .none kV doc pm an cdv ct) ⟨us, []⟩ = pure (ps.zip us))
    (h : ∀ (tp : Addr) (cdv : Value) (A : Around) (outer : List Env) (s : Shared) (H : Hp) (E : XK), Room k (A.deeper (envOfC qual scope s.heap.objs.size f cdv)) → PSs (cxOf CX0 P w K mg base N qual scope f cdv A outer s H E).nox body (sD K (some tp) b)) :
    Dt P w K mg base x (k + 1) n (fun ds Φ => ∀ ns : List Int, ns.length ≤ 1000 → wRunTn N.length (some ns) b ds Φ) := ⟨f, fd, ps, fn_T F S hn h, g, F.kp, F.bindsN hb⟩
end
/-- another wording -/
theorem Dt.eq {x : Str} {k n : Nat} {u v : WF} (D : Dt P w K mg base x k n u) (e : ∀ ds Φ, v ds Φ → u ds Φ) : Dt P w K mg base x k n v := by
  obtain ⟨f, fd, ps, h1, h2, h3, h4⟩ := D.ex
  exact ⟨f, fd, ps, h1.imp fun vs H Q E ⟨tp, ws, q1, q2, ds, F, Φ, W, r, hw, k⟩ => ⟨tp, ws, q1, q2, ds, F, Φ, W, r, e ds Φ hw, k⟩, h2, h3, h4⟩
/-- a draw gives any number below its argument -/
def wDraw : WF := fun ds Φ => match ds with
  | [.int m] => (0 < m ∧ m < 340282366920938463463374607431768211456) ∧ ∀ i : Int, 0 ≤ i → i < m → Φ (.int i)
  | _ => False
end
/-! ### from one's own list to the tape -/
/-- from here on the list in slot i is the tape -/
def wTape (i : Nat) (w : WS) : WS := fun ε Ψ => match ε[i]? with
  | some (SV.own [.list ds, .int _, .int _]) => (∃ ns : List Int, ds = ns.map .int ∧ ns.length ≤ 1000) ∧ w (ε.set i (.tp none)) { nx := fun _ => False, bk := fun _ => False, ct := fun _ => False, rt := fun ε' d => Ψ.rt (List.replicate ε'.length .un) d }
  | _ => False
theorem get_un {n i : Nat} {s : SV} (h : (List.replicate n SV.un)[i]? = some s) : s = .un := by
  rw [List.getElem?_replicate] at h
  split at h
  · cases h; rfl
  · cases h
theorem mss_tape {X : Cx} {K : PySem.W.Frag} {rest : List Stmt} {w : WS} (i : Nat) (h : ∀ tp, PSs X rest (sD K (some tp) w)) : PSs X rest (sD K none (wTape i w)) := by
  refine ⟨fun pins s σ H D I ⟨H0, F0, ε, F, Ψ, S, W, X0, hw, kn, kr, kb, kc⟩ => ?_⟩
  unfold wTape at hw
  split at hw
  · rename_i ds p c hε
    obtain ⟨⟨ns, e, hz⟩, hw⟩ := hw
    subst e
    obtain ⟨a, vs, h1, h2, z, r, hF, h0, hT⟩ := S.own i _ hε
    have hi := own_len (H0 := H0) (F := F) (H := H) (σ := σ) hε
    obtain ⟨l, hvs, hl⟩ : ∃ l, vs = [.ref l, .int p, .int c] ∧ F l = some (.lst (ns.map V.int)) := by
      cases r with
      | cons r1 r2 =>
        cases r2 with
        | cons r2 r3 =>
          cases r3 with
          | cons r3 r4 =>
            cases r4
            cases r2
            cases r3
            cases r1 with
            | @lst l xs _ e1 _ a1 =>
              have := ints_vals a1 (intsOf_map ns)
              subst this
              exact ⟨l, rfl, e1⟩
    subst hvs
    have S2 : Sat K (some a) H0 (ε.set i (.tp none)) σ F H := by
      refine ⟨by rw [List.length_set]; exact S.len, fun j d h => ?_, fun j ds h => ?_, fun j l b ds1 ds2 hjl g1 g2 g3 => ?_, fun j o h => ?_, fun j f h => S.fns j f (fn_set (by simp) h).2, (S.dct.see i (by simp)).mono (fun _ _ h => ⟨h, rfl⟩) fun b ds d f h t => ⟨d, f, h, fun z => d.ne h2 (Option.some.inj z).symm⟩⟩
      · by_cases hij : i = j
        · subst hij; rw [List.getElem?_set_self hi] at h; cases h
        · rw [List.getElem?_set_ne hij] at h; exact S.val j d h
      · by_cases hij : i = j
        · subst hij; rw [List.getElem?_set_self hi] at h; cases h
        · rw [List.getElem?_set_ne hij] at h
          obtain ⟨b, us, k1, k2, k3, k4, k5, k6, _⟩ := S.own j ds h
          exact ⟨b, us, k1, k2, k3, k4, k5, k6, fun q => S.sep i j a _ ds hij hε h h1 (by rw [k1, Option.some.inj q])⟩
      · have key : ∀ j ds', (ε.set i (.tp none))[j]? = some (SV.own ds') → ε[j]? = some (SV.own ds') := fun j ds' h => by
          by_cases hij : i = j
          · subst hij; rw [List.getElem?_set_self hi] at h; cases h
          · rw [List.getElem?_set_ne hij] at h; exact h
        exact S.sep j l b _ _ hjl (key _ _ g1) (key _ _ g2) g3
      · by_cases hij : i = j
        · subst hij; rw [List.getElem?_set_self hi] at h; cases h
          exact ⟨a, l, p, c, rfl, h1, h2, fun ns e => nomatch e⟩
        · rw [List.getElem?_set_ne hij] at h
          obtain ⟨_, _, _, _, q, _⟩ := S.tape j o h
          cases q
    have W2 : Wd (some a) F H := ⟨W.fz, ⟨hF, l, ns, p, c, h2, hl, hz⟩, W.tabs, W.nt⟩
    refine (h a).run pins s σ H D I ⟨H0, F0, _, F, _, S2, W2, ⟨fun b u q _ n => X0.hh b u q (by simp) n, X0.dom, X0.ff, X0.old, fun b l' p' c' e q => by cases e; rw [h0] at q; cases q⟩, hw, fun _ _ _ _ h' => h'.elim, fun ε' σ' d v F' H' h' S' W' X' D' => ?_, fun _ _ _ _ h' => h'.elim, fun _ _ _ _ h' => h'.elim⟩
    refine kr _ σ' d v F' H' h' ⟨by rw [List.length_replicate]; exact S'.len, fun j d h => (nomatch get_un h), fun j d h => (nomatch get_un h), fun j l b d1 d2 _ h _ _ => (nomatch get_un h), fun j o h => (nomatch get_un h), fun j f h => (nomatch get_un h), .none fun j ds h => (nomatch get_un h)⟩ W'.weak ⟨fun b u q _ n => X'.hh b u q (fun z => ?_) n, X'.dom, X'.ff, X'.old, fun _ _ _ _ e _ => nomatch e⟩ D'
    cases z
    rw [h0] at q; cases q
  · exact hw.elim
end MG

set_option Elab.async false
set_option linter.all false
set_option maxRecDepth 100000
set_option maxHeartbeats 4000000
/-! MgPlus: max, min, recursion. -/
namespace MG
variable [Tbl]
open PySem PySem.Spec PyProof.Rows L2
section
variable {X : Cx} {K : PySem.W.Frag} {T : Option Addr}
def opMax2 : List PyData → (PyData → Prop) → Prop
  | [.int i, .int j], Φ => Φ (.int (if j > i then j else i))
  | _, _ => False
theorem cd_max2 : CaD K T (fun xs H Q => ∃ i j, xs = [.int i, .int j] ∧ Q (.int (if j > i then j else i)) H) opMax2 := fun ds vs F H Q Φ W D h k => by
  unfold opMax2 at h
  split at h
  · cases D with
    | cons d1 d2 =>
      cases d2 with
      | cons d2 d3 =>
        cases d3
        cases d1
        cases d2
        exact ⟨_, _, rfl, k _ _ F H h W Ex.refl (.int _)⟩
  · exact h.elim
end
section
variable {P : Program} {w : World} {K : PySem.W.Frag} {mg : Str → Option Value} {base : Heap} {x : Str} {k n : Nat}
theorem Df.none {qual : Str} {params : Arguments} {body : List Stmt} {scope : Scope} {f : Addr} {fd : FuncData} {ps : List Str} (F : FunD K x qual params body scope [] [] f fd) (g : mg x = some (.ref f))
    (hb : ∀ (kV doc pm : Value) (an : Option Addr) (cdv ct : Value) (us : List Value), us.length = ps.length → bindArgs (PySem.W.fnOf x qual params body scope .none kV doc pm an cdv ct) ⟨us, []⟩ = pure (ps.zip us)) : Df P w K mg base x k n (fun _ _ => False) :=
  ⟨f, fd, ps, ⟨fun vs H Q E ⟨_, _, _, _, _, _, h, _⟩ => h.elim, fun A outer s H args us vs Q E _ _ _ _ ⟨_, _, _, _, _, _, h, _⟩ => h.elim⟩, g, F.kp, F.bindsN hb⟩
theorem Dt.none {qual : Str} {params : Arguments} {body : List Stmt} {scope : Scope} {f : Addr} {fd : FuncData} {ps : List Str} (F : FunD K x qual params body scope [] [] f fd) (g : mg x = some (.ref f))
    (hb : ∀ (kV doc pm : Value) (an : Option Addr) (cdv ct : Value) (us : List Value), us.length = ps.length → bindArgs (PySem.W.fnOf x qual params body scope .none kV doc pm an cdv ct) ⟨us, []⟩ = pure (ps.zip us)) : Dt P w K mg base x k n (fun _ _ => False) :=
  ⟨f, fd, ps, ⟨fun vs H Q E ⟨_, _, _, _, _, _, _, _, _, h, _⟩ => h.elim, fun A outer s H args us vs Q E _ _ _ _ ⟨_, _, _, _, _, _, _, _, _, h, _⟩ => h.elim⟩, g, F.kp, F.bindsN hb⟩
theorem Df.up {j : Nat} {u : WF} (D : Df P w K mg base x j n u) (h : j ≤ k) : Df P w K mg base x k n u := by
  obtain ⟨f, fd, ps, F, r⟩ := D.ex
  exact ⟨f, fd, ps, F.mono h, r⟩
theorem Dt.up {j : Nat} {u : WF} (D : Dt P w K mg base x j n u) (h : j ≤ k) : Dt P w K mg base x k n u := by
  obtain ⟨f, fd, ps, F, r⟩ := D.ex
  exact ⟨f, fd, ps, F.mono h, r⟩
end
theorem md_df0 {X : Cx} {K : PySem.W.Frag} {T : Option Addr} {pos p : Pos} {x : Str} {k : Nat} {u : WF} (hk : X.K = K) (D : Df X.prog X.w K X.mg X.base x k 0 u) (hr : Room k X.A) (hg : Gl X x := by rfl) (hdb : (x == ("__debug__" : Str)) = false := by decide) :
    PE X (.Call (.Name x p) [] [] pos) (tD K T (wFn u wANil)) := by
  subst hk
  obtain ⟨f, fd, ps, F, hm, hk, hb⟩ := D.ex
  exact pe_imp (pe_call0 F hr hg hm hk hb .nil pass0 hdb) fun σ H Q ⟨H0, ε, F0, Φ, S, W, hw, k⟩ =>
    ⟨rfl, [], F0, Φ, W.weak, .nil, hw, fun d v F' H' hΦ W' X' D' => k d v F' H' hΦ (W.back W' X') X'.weak D'⟩
end MG

set_option Elab.async false
set_option linter.all false
set_option maxRecDepth 100000
set_option maxHeartbeats 4000000
/-! MgLc2: list comprehensions with two fors, over plain data. -/
namespace MG
variable [Tbl]
open PySem PySem.Spec PyProof.Rows L2
def wLcA (g : WG) (c : WB) (w : WE) : List PyData → EV → List PyData → (List PyData → Prop) → Prop
  | [], _, acc, Φ => Φ acc
  | d :: ds, ε, acc, Φ => g d ε fun ε1 => c ε1 fun b => match b with
    | true => w ε1 fun r => acc.length < LIM ∧ wLcA g c w ds ε (acc ++ [r]) Φ
    | false => wLcA g c w ds ε acc Φ
def wLcO (g : WG) (c : WB) (wi1 : WI) (vs1 : List Nat) (g1 : WG) (c1 : WB) (w : WE) : List PyData → EV → List PyData → (List PyData → Prop) → Prop
  | [], _, acc, Φ => Φ acc
  | d :: ds, ε, acc, Φ => g d ε fun ε1 => c ε1 fun b => match b with
    | true => wi1 ε1 fun es => wLcA g1 c1 w es (unS ε1 vs1) acc fun acc' => wLcO g c wi1 vs1 g1 c1 w ds ε acc' Φ
    | false => wLcO g c wi1 vs1 g1 c1 w ds ε acc Φ
def wComp2 (wi : WI) (vs : List Nat) (g : WG) (c : WB) (wi1 : WI) (vs1 : List Nat) (g1 : WG) (c1 : WB) (w : WE) : WA := fun ε Φ => wi ε fun ds => wLcO g c wi1 vs1 g1 c1 w ds (unS ε vs) [] Φ
/-- what stands while the list at D grows -/
structure Grow (K : PySem.W.Frag) (T : Option Addr) (F1 H1 : Hp) (D : Addr) (F2 H2 : Hp) (rs : List PyData) : Prop where
  wd : Wd T F2 H2
  ex : Ex T F1 H1 F2 H2
  fD : F2 D = none
  at_ : ∃ acc, H2 D = some (.lst acc) ∧ acc.length ≤ sizeLine ∧ RpAll K F2 acc rs
section
variable {K : PySem.W.Frag} {T : Option Addr} {F1 H1 F2 H2 F3 H3 : Hp} {D : Addr} {rs : List PyData}
theorem Grow.step (G : Grow K T F1 H1 D F2 H2 rs) (hT : T ≠ some D) (W : Wd T F3 H3) (x : Ex T F2 H2 F3 H3) : Grow K T F1 H1 D F3 H3 rs := by
  obtain ⟨acc, a1, a2, a3⟩ := G.at_
  exact ⟨W, G.ex.trans x, by rw [x.old D (by rw [a1]; simp)]; exact G.fD, acc, x.hl a1 hT, a2, RpAll.up x.ff _ _ a3⟩
theorem Grow.app (G : Grow K T F1 H1 D F2 H2 rs) (hD : H1 D = none) (hT : T ≠ some D) {v : V} {d : PyData} (r : Rp K F2 v d) (hl : rs.length < LIM) : ∃ acc, H2 D = some (.lst acc) ∧ acc.length < sizeLine ∧ Grow K T F1 H1 D F2 (upd H2 D (.lst (acc ++ [v]))) (rs ++ [d]) := by
  obtain ⟨acc, a1, a2, a3⟩ := G.at_
  have lt : acc.length < sizeLine := by rw [a3.length]; exact Nat.lt_of_lt_of_le hl (lim_line (Nat.le_refl _))
  refine ⟨acc, a1, lt, ⟨⟨fun b u q => ?_, ?_, tabs_lst G.wd.tabs a1, G.wd.nt⟩, ⟨fun b u q t n => ?_, fun b q => ?_, G.ex.ff, G.ex.old, fun b l p c e q => ?_⟩, G.fD, _, upd_same, by rw [List.length_append]; exact lt, a3.append (.cons r .nil)⟩⟩
  · rw [upd_ne (ne_of_none q G.fD)]; exact G.wd.fz _ _ q
  · cases T with
    | none => trivial
    | some t =>
      obtain ⟨f, l, ns, p, c, h1, h2, h3⟩ := G.wd.tape
      exact ⟨f, l, ns, p, c, by rw [upd_ne (fun z => hT (by rw [z]))]; exact h1, h2, h3⟩
  · rw [upd_ne (ne_of_none q hD)]; exact G.ex.hh _ _ q t (by assumption)
  · rw [upd_ne (fun z => q (by rw [z]; exact hD))]; exact G.ex.dom b q
  · obtain ⟨p', c', q'⟩ := G.ex.tl b l p c e q
    exact ⟨p', c', by rw [upd_ne (fun z => hT (by rw [e, z]))]; exact q'⟩
theorem drop_at {ds : List PyData} {i : Nat} {d : PyData} (hi : i < ds.length) (h : ds[i]? = some d) : ds.drop i = d :: ds.drop (i + 1) := by
  rw [List.drop_eq_getElem_cons hi]
  congr 1
  rw [List.getElem?_eq_getElem hi] at h
  exact Option.some.inj h
/-- the list at D is no slot's own -/
theorem Sat.seal {H0 F H : Hp} {ε : EV} {σ : L2.St} (S : Sat K T H0 ε σ F H) (o : HO) (hD : H D = none) : Sat K T (upd H0 D o) ε σ F H where
  len := S.len
  val := S.val
  own := fun i ds e => by
    obtain ⟨a, vs, h1, h2, hz, h3, h4, h5, h6⟩ := S.own i ds e
    exact ⟨a, vs, h1, h2, hz, h3, h4, by rw [upd_ne (ne_of_none h2 hD)]; exact h5, h6⟩
  sep := S.sep
  tape := S.tape
  fns := S.fns
  dct := S.dct.mono (fun _ _ h => ⟨h, rfl⟩) fun a ds d f h t => ⟨d, f, by rw [upd_ne fun z => d.at (by rw [z]; exact hD)]; exact h, t⟩
theorem Sat.grown {H0 F H : Hp} {ε : EV} {σ : L2.St} (S : Sat K T H0 ε σ F H) (o : HO) (hD : H0 D ≠ none) (hT : T ≠ some D) : Sat K T H0 ε σ F (upd H D o) where
  len := S.len
  val := S.val
  own := fun i ds e => by
    obtain ⟨a, vs, h1, h2, hz, h3, h4, h5, h6⟩ := S.own i ds e
    exact ⟨a, vs, h1, by rw [upd_ne (fun z => hD (by rw [← z]; exact h5))]; exact h2, hz, h3, h4, h5, h6⟩
  sep := S.sep
  tape := fun i q e => by
    obtain ⟨a, l, p, c, h1, h2, h3, h4⟩ := S.tape i q e
    exact ⟨a, l, p, c, h1, h2, by rw [upd_ne (fun z => hT (by rw [h1, z]))]; exact h3, h4⟩
  fns := S.fns
  dct := S.dct.mono (fun _ _ h => ⟨h, rfl⟩) fun a ds d f h t => ⟨d.up (Same.refl _) fun o e _ _ => by rw [upd_ne fun z => hD (by rw [← z]; exact h)]; exact e, f, h, t⟩
theorem tLc2_of {wi wi1 : WI} {is is1 : List Nat} {g g1 : WG} {c c1 : WB} {w : WE} {vs vs1 : List Nat} (hv : ∀ i ∈ is, i ∈ vs) (hv1 : ∀ i ∈ is1, i ∈ vs1) :
    ∀ σ H Q, tN K T (wComp2 wi vs g c wi1 vs1 g1 c1 w) σ H Q → tLc2 (tDI K T wi) (tDG K T is g) (tDB K T c) (tDI K T wi1) (tDG K T is1 g1) (tDB K T c1) (tD K T w) vs vs1 σ H Q := by
  rintro σ H Q ⟨H0, ε, F, Φ, S, W, hw, k⟩
  refine ⟨H0, ε, F, _, S, W, hw, fun ds J F1 H1 hd W1 X1 hit => fun D hD => ?_⟩
  obtain ⟨hz, G, Y, walk, hG, hY⟩ := hit
  have hF1D : F1 D = none := W1.none_of hD
  have hTD : T ≠ some D := tape_ne W1 hD
  have Sv : ∀ {F2 H2}, Ex T F1 H1 F2 H2 → Sat K T (upd H0 D (.lst [])) (unS ε vs) (L2.wipe σ vs) F2 H2 := fun {F2 H2} x => (((S.ex X1).seal (.lst []) hD).ex x).wipe vs
  have h0D : upd H0 D (.lst []) D ≠ none := by rw [upd_same]; simp
  refine ⟨fun i m H2 => m = ds.length - i ∧ i ≤ ds.length ∧ ∃ F2 rs, Grow K T F1 H1 D F2 H2 rs ∧ wLcO g c wi1 vs1 g1 c1 w (ds.drop i) (unS ε vs) rs Φ, ⟨ds.length, by simp, Nat.zero_le _, F1, [], ?_, hd⟩, ?_⟩
  · obtain ⟨W2, X2⟩ := new_raw (o := .lst []) W1 hD
    exact ⟨W2, X2, hF1D, [], upd_same, Nat.zero_le _, .nil⟩
  rintro i m H2 ⟨rfl, hi, F2, rs, Gr, hl⟩
  have gg := hG F2 H2 Gr.ex.ff Gr.wd
  by_cases hlt : i < ds.length
  · refine .inr ⟨walk.goes i H2 hlt gg, fun H' => ∃ F' rs', Grow K T F1 H1 D F' H' rs' ∧ wLcO g c wi1 vs1 g1 c1 w (ds.drop (i + 1)) (unS ε vs) rs' Φ, fun H' ⟨F', rs', q1, q2⟩ => ⟨ds.length - (i + 1), by omega, rfl, hlt, F', rs', q1, q2⟩, fun x H3 y => ?_⟩
    obtain ⟨F3, d, hdi, W3, X3, r3⟩ := hY i H2 x H3 F2 hlt Gr.ex.ff Gr.wd (walk.yields i H2 x H3 hlt gg y)
    rw [drop_at hlt hdi] at hl
    have Gr3 := Gr.step hTD W3 X3
    refine ⟨_, unS ε vs, F3, d, _, Sv Gr3.ex, W3, r3, hl, fun ε4 σ4 h4 S4 l4 o4 => ⟨wipe_eq (by rw [l4, wipe_length]) fun j hj => o4 j fun z => hj (hv j z), ?_⟩⟩
    refine ⟨_, ε4, F3, _, S4, W3, h4, fun b F5 H5 hb W5 X5 => ?_⟩
    have Gr5 := Gr3.step hTD W5 X5
    cases b with
    | false => exact iteF ⟨F5, rs, Gr5, hb⟩
    | true =>
      refine iteT ?_
      have S5 := S4.ex X5
      refine ⟨_, ε4, F5, _, S5, W5, hb, fun es J1 F6 H6 he W6 X6 hit1 => ?_⟩
      obtain ⟨hz1, G1, Y1, walk1, hG1, hY1⟩ := hit1
      have Gr6 := Gr5.step hTD W6 X6
      have S6 := S5.ex X6
      refine ⟨fun j m H7 => m = es.length - j ∧ j ≤ es.length ∧ ∃ F7 rs', Grow K T F1 H1 D F7 H7 rs' ∧ Same F6 F7 ∧ Sat K T (upd H0 D (.lst [])) ε4 σ4 F7 H7 ∧ wLcA g1 c1 w (es.drop j) (unS ε4 vs1) rs' (fun acc' => wLcO g c wi1 vs1 g1 c1 w (ds.drop (i + 1)) (unS ε vs) acc' Φ), ⟨es.length, by simp, Nat.zero_le _, F6, rs, Gr6, Same.refl _, S6, he⟩, ?_⟩
      rintro j m H7 ⟨rfl, hj, F7, rs7, Gr7, f7, S7, hl7⟩
      have gg1 := hG1 F7 H7 f7 Gr7.wd
      by_cases hlt1 : j < es.length
      · refine .inr ⟨walk1.goes j H7 hlt1 gg1, fun H' => ∃ F' rs', Grow K T F1 H1 D F' H' rs' ∧ Same F6 F' ∧ Sat K T (upd H0 D (.lst [])) ε4 σ4 F' H' ∧ wLcA g1 c1 w (es.drop (j + 1)) (unS ε4 vs1) rs' (fun acc' => wLcO g c wi1 vs1 g1 c1 w (ds.drop (i + 1)) (unS ε vs) acc' Φ), fun H' ⟨F', rs', q1, q2, q3, q4⟩ => ⟨es.length - (j + 1), by omega, rfl, hlt1, F', rs', q1, q2, q3, q4⟩, fun x H8 y1 => ?_⟩
        obtain ⟨F8, d1, hd1, W8, X8, r8⟩ := hY1 j H7 x H8 F7 hlt1 f7 Gr7.wd (walk1.yields j H7 x H8 hlt1 gg1 y1)
        rw [drop_at hlt1 hd1] at hl7
        have Gr8 := Gr7.step hTD W8 X8
        have f8 := f7.trans X8.ff
        refine ⟨_, unS ε4 vs1, F8, d1, _, (S7.ex X8).wipe vs1, W8, r8, hl7, fun ε9 σ9 h9 S9 l9 o9 => ⟨wipe_eq (by rw [l9, wipe_length]) fun j hj => o9 j fun z => hj (hv1 j z), ?_⟩⟩
        refine ⟨_, ε9, F8, _, S9, W8, h9, fun b1 F10 H10 hb1 W10 X10 => ?_⟩
        have Gr10 := Gr8.step hTD W10 X10
        have S10 := (S7.ex X8).ex X10
        have f10 := f8.trans X10.ff
        cases b1 with
        | false => exact iteF ⟨F10, rs7, Gr10, f10, S10, hb1⟩
        | true =>
          refine iteT ⟨_, ε9, F10, _, S9.ex X10, W10, hb1, fun r v F11 H11 hr W11 X11 D11 => ?_⟩
          have Gr11 := Gr10.step hTD W11 X11
          obtain ⟨acc, a1, a2, Gr12⟩ := Gr11.app hD hTD D11 hr.1
          exact ⟨acc, a1, a2, F11, rs7 ++ [r], Gr12, f10.trans X11.ff, (S10.ex X11).grown _ h0D hTD, hr.2⟩
      · have e : j = es.length := by omega
        subst e
        rw [List.drop_length] at hl7
        exact .inl ⟨walk1.stops H7 gg1, F7, rs7, Gr7, hl7⟩
  · have e : i = ds.length := by omega
    subst e
    rw [List.drop_length] at hl
    obtain ⟨acc, a1, a2, a3⟩ := Gr.at_
    exact .inl ⟨walk.stops H2 gg, k rs D acc F2 H2 hl Gr.wd (X1.trans Gr.ex) (none_back X1 hD) Gr.fD hTD a1 a2 a3⟩
variable {X : Cx} {pos : Pos}
section
variable {elt tg iter tg1 iter1 : Expr} {ifs ifs1 : List Expr} {scope : Scope} {own : List (Str × Nat)} {vs1 : List Nat} {wi wi1 : WI} {is is1 : List Nat} {g g1 : WG} {c c1 : WB} {w : WE}
theorem mn_lc2 (hc : X.calm = true) (hN : X.N.Nodup) (hi : PI X tg iter (tDI K T wi)) (ok : BlkOk X.N X.env.scope scope own)
    (hg : ∀ (s : Shared) (H : Hp) (C : Addr) (cl : List (Str × Addr)) (fp : List Addr), PG (X.blk s H scope (compEnvC scope cl C X.env) fp) tg (tDG K T is g)) (ht : ∀ (s : Shared) (H : Hp) (C : Addr) (cl : List (Str × Addr)) (fp : List Addr), PTs (X.blk s H scope (compEnvC scope cl C X.env) fp) ifs (tDB K T c))
    (hi1 : ∀ (s : Shared) (H : Hp) (C : Addr) (cl : List (Str × Addr)) (fp : List Addr), PI (X.blk s H scope (compEnvC scope cl C X.env) fp) tg1 iter1 (tDI K T wi1))
    (hg1 : ∀ (s : Shared) (H : Hp) (C : Addr) (cl : List (Str × Addr)) (fp : List Addr), PG (X.blk s H scope (compEnvC scope cl C X.env) fp) tg1 (tDG K T is1 g1)) (ht1 : ∀ (s : Shared) (H : Hp) (C : Addr) (cl : List (Str × Addr)) (fp : List Addr), PTs (X.blk s H scope (compEnvC scope cl C X.env) fp) ifs1 (tDB K T c1))
    (he : ∀ (s : Shared) (H : Hp) (C : Addr) (cl : List (Str × Addr)) (fp : List Addr), PE (X.blk s H scope (compEnvC scope cl C X.env) fp) elt (tD K T w)) (hv : ∀ i ∈ is, i ∈ own.map (·.2) := by decide) (hv1 : ∀ i ∈ is1, i ∈ vs1 := by decide) (hvo : ∀ i ∈ vs1, i ∈ own.map (·.2) := by decide)
    (hs : ∀ x, foldedSetIterable iter X.env x = pure x := by intro _; rfl) (hs1 : ∀ env x, foldedSetIterable iter1 env x = pure x := by intro _ _; rfl) :
    PE X (.ListComp elt [⟨tg, iter, ifs, 0⟩, ⟨tg1, iter1, ifs1, 0⟩] scope pos) (tN K T (wComp2 wi (own.map (·.2)) g c wi1 vs1 g1 c1 w)) :=
  pe_imp (pe_lc2 hc hN hi ok hvo hg ht hi1 hg1 ht1 he hs hs1) (tLc2_of hv hv1)
theorem ms_lc2Raw {y : Str} {py spos : Pos} (i : Nat) (hc : X.calm = true) (hN : X.N.Nodup) (hi : PI X tg iter (tDI K T wi)) (ok : BlkOk X.N X.env.scope scope own)
    (hg : ∀ (s : Shared) (H : Hp) (C : Addr) (cl : List (Str × Addr)) (fp : List Addr), PG (X.blk s H scope (compEnvC scope cl C X.env) fp) tg (tDG K T is g)) (ht : ∀ (s : Shared) (H : Hp) (C : Addr) (cl : List (Str × Addr)) (fp : List Addr), PTs (X.blk s H scope (compEnvC scope cl C X.env) fp) ifs (tDB K T c))
    (hi1 : ∀ (s : Shared) (H : Hp) (C : Addr) (cl : List (Str × Addr)) (fp : List Addr), PI (X.blk s H scope (compEnvC scope cl C X.env) fp) tg1 iter1 (tDI K T wi1))
    (hg1 : ∀ (s : Shared) (H : Hp) (C : Addr) (cl : List (Str × Addr)) (fp : List Addr), PG (X.blk s H scope (compEnvC scope cl C X.env) fp) tg1 (tDG K T is1 g1)) (ht1 : ∀ (s : Shared) (H : Hp) (C : Addr) (cl : List (Str × Addr)) (fp : List Addr), PTs (X.blk s H scope (compEnvC scope cl C X.env) fp) ifs1 (tDB K T c1))
    (he : ∀ (s : Shared) (H : Hp) (C : Addr) (cl : List (Str × Addr)) (fp : List Addr), PE (X.blk s H scope (compEnvC scope cl C X.env) fp) elt (tD K T w)) (hv : ∀ i ∈ is, i ∈ own.map (·.2) := by decide) (hv1 : ∀ i ∈ is1, i ∈ vs1 := by decide) (hvo : ∀ i ∈ vs1, i ∈ own.map (·.2) := by decide)
    (hy : X.N[i]? = some y := by rfl) (hyl : X.env.scope.names.lookup y = some .local := by rfl)
    (hsw : swapsWith (.ListComp elt [⟨tg, iter, ifs, 0⟩, ⟨tg1, iter1, ifs1, 0⟩] scope pos) (some (.Name y py)) spos.line X.env = pure true := by exact sw_true rfl rfl rfl (by decide +kernel))
    (hs : ∀ x, foldedSetIterable iter X.env x = pure x := by intro _; rfl) (hs1 : ∀ env x, foldedSetIterable iter1 env x = pure x := by intro _ _; rfl) :
    PS X (.Assign [.Name y py] (.ListComp elt [⟨tg, iter, ifs, 0⟩, ⟨tg1, iter1, ifs1, 0⟩] scope pos) spos) (tAsg (tN K T (wComp2 wi (own.map (·.2)) g c wi1 vs1 g1 c1 w)) (gName i)) :=
  ps_imp (ps_setLc2 hc hN hy hyl hsw hi ok hvo hg ht hi1 hg1 ht1 he hs hs1) fun D σ H q => tLc2_of hv hv1 σ H _ q
end
end
end MG

set_option Elab.async false
set_option linter.all false
set_option maxRecDepth 100000
set_option maxHeartbeats 4000000
/-! MgLaw: the law's own def: its tape from its argument. -/
namespace MG
variable [Tbl]
open PySem PySem.Spec PyProof.Rows L2
def endTrue : WEnds := { nx := fun _ => False, bk := fun _ => False, ct := fun _ => False, rt := fun _ d => d = .bool true }
/-- behind tape = [list(script), 0, 0] -/
def lawStart (N i : Nat) (ns : List Int) : EV := (List.replicate N SV.un).set i (.own [.list (ns.map .int), .int 0, .int 0])
def tLaw (K : PySem.W.Frag) (i : Nat) (w : WS) : TS := fun D σ H => ∃ (a : Addr) (ns : List Int), σ[0]? = some (some (.ref a)) ∧ SqL K H a (ns.map V.int) ∧ LamX.Tabs Tbl.tb H ∧ ns.length ≤ 63 ∧ i < σ.length ∧ w (lawStart σ.length i ns) endTrue ∧ ∀ H', D.rt (.bl true) H'
theorem mss_law {X : Cx} {K : PySem.W.Frag} {rest : List Stmt} {w : WS} {x y : Str} {px py p1 p2 p3 p4 pos pos2 : Pos} {k1 k2 : Nat} (i : Nat) (hk : X.K = K) (hnd : X.N.Nodup) (hm : X.mg "list" = none) (h : PSs X rest (sD K none w))
    (hN : X.N[0]? = some x := by rfl) (hv : Vis X.env.scope x := by first | exact Or.inl rfl | exact Or.inr (Or.inl rfl) | exact Or.inr (Or.inr rfl)) (hd : (x == ("__debug__" : Str)) = false := by decide) (hcd : (x == ("__classdict__" : Str)) = false := by decide)
    (hi : X.N[i]? = some y := by rfl) (hx : Loc X.env.scope y := by first | exact Or.inl rfl | exact Or.inr rfl) (hg : Gl X "list" := by rfl)
    (h1 : starEach [Expr.Name x px] X.env = (false, eval (.Name x px) X.env) :: starEach [] X.env := by rfl) (hpl : (backTo p2 (starEach [] X.env)).any (·.1) = false := by rfl)
    (h2 : starEach [.Call (.Name "list" p1) [.Name x px] [] p2, .Constant (.int 0) k1 p3, .Constant (.int 0) k2 p4] X.env = (false, eval (.Call (.Name "list" p1) [.Name x px] [] p2) X.env) :: starEach [.Constant (.int 0) k1 p3, .Constant (.int 0) k2 p4] X.env := by rfl)
    (h3 : starEach [.Constant (.int 0) k1 p3, .Constant (.int 0) k2 p4] X.env = (false, eval (.Constant (.int 0) k1 p3) X.env) :: starEach [.Constant (.int 0) k2 p4] X.env := by rfl)
    (h4 : starEach [.Constant (.int 0) k2 p4] X.env = (false, eval (.Constant (.int 0) k2 p4) X.env) :: starEach [] X.env := by rfl)
    (hs : swapsWith (.List [.Call (.Name "list" p1) [.Name x px] [] p2, .Constant (.int 0) k1 p3, .Constant (.int 0) k2 p4] pos) (some (.Name y py)) pos2.line X.env = pure false := by rfl)
    (hf : X.fn y = true ∨ X.env.scope.names.lookup y = some .local := by first | exact .inl rfl | exact .inr rfl | assumption) :
    PSs X (.Assign [.Name y py] (.List [.Call (.Name "list" p1) [.Name x px] [] p2, .Constant (.int 0) k1 p3, .Constant (.int 0) k2 p4] pos) pos2 :: rest) (tLaw K i w) := by
  subst hk
  refine pss_imp (pss_cons (ps_set hnd hi hx (pe_lst (pa_cons (pe_callTy call_list_of hg hm PyProof.Rows.boot_list (pa_cons (pe_var hN hv hd hcd) pa_nil h1) (by decide) (by decide) h1 hpl) (pa_cons pe_int (pa_cons pe_int pa_nil h4) h3) h2)) hs hf) h) fun D σ H ⟨a, ns, e0, hS, hTb, hz, hi, hw, hr⟩ => ?_
  have nsz : (ns.map V.int).length ≤ sizeLine := by rw [List.length_map, sizeLine_eq]; omega
  refine ⟨.ref a, e0, a, _, rfl, .inl hS, fun l hl => ⟨by show 3 ≤ sizeLine; rw [sizeLine_eq]; decide, fun t ht => ?_⟩⟩
  have hlt : t ≠ l := fun z => by rw [z, upd_same] at ht; cases ht
  have ht0 : H t = none := by rw [upd_ne hlt] at ht; exact ht
  let F : Hp := upd (fun _ => none) l (.lst (ns.map V.int))
  have fz : Same F (upd (upd H l (.lst (ns.map V.int))) t (.lst [.ref l, .int 0, .int 0])) := fun b u q => by
    by_cases z : b = l
    · subst z
      have q' : upd (fun _ => none) b (HO.lst (ns.map V.int)) b = some u := q
      rw [upd_same] at q'
      rw [upd_ne (Ne.symm hlt), upd_same]; exact q'
    · have q' : upd (fun _ => none) l (.lst (ns.map V.int)) b = some u := q
      rw [upd_ne z] at q'
      cases q'
  have ev : ∀ {j : Nat} {s : SV}, (lawStart σ.length i ns)[j]? = some s → s = .un ∨ (j = i ∧ s = .own [.list (ns.map .int), .int 0, .int 0]) := fun {j s} q => by
    unfold lawStart at q
    by_cases z : i = j
    · subst z
      rw [List.getElem?_set_self (by rw [List.length_replicate]; exact hi)] at q
      cases q
      exact .inr ⟨rfl, rfl⟩
    · rw [List.getElem?_set_ne z] at q
      exact .inl (get_un q)
  refine ⟨H, fun _ => none, lawStart σ.length i ns, F, endTrue, ⟨?_, fun j d q => ?_, fun j ds q => ?_, fun j m b d1 d2 hjm q1 q2 _ => ?_, fun j o q => ?_, fun j f q => (by rcases ev q with z | ⟨_, z⟩ <;> cases z), .none fun j f q => (by rcases ev q with z | ⟨_, z⟩ <;> cases z)⟩, ⟨fz, trivial, tabs_new (tabs_new hTb hl) ht, nt_upd (fun _ _ z => nomatch z) fun _ z => nomatch z⟩, ⟨fun b o q _ _ => ?_, fun b q => ?_, fun b u q => (nomatch q), fun b q => ?_, fun _ _ _ _ q => nomatch q⟩, hw, fun _ _ _ _ q => q.elim, fun _ _ d v F' H' q _ _ _ D' => ?_, fun _ _ _ _ q => q.elim, fun _ _ _ _ q => q.elim⟩
  · unfold lawStart; rw [List.length_set, List.length_replicate, List.length_set]
  · rcases ev q with z | ⟨_, z⟩ <;> cases z
  · rcases ev q with z | ⟨e, z⟩
    · cases z
    · cases z
      subst e
      refine ⟨t, [.ref l, .int 0, .int 0], List.getElem?_set_self hi, upd_same, by show 3 ≤ sizeLine; rw [sizeLine_eq]; decide, .cons (.lst upd_same nsz (ints_rp ns)) (.cons (.int 0) (.cons (.int 0) .nil)), ?_, ht0, by simp⟩
      show upd _ l _ t = none
      rw [upd_ne hlt]
  · rcases ev q1 with z | ⟨e1, _⟩
    · cases z
    · rcases ev q2 with z | ⟨e2, _⟩
      · cases z
      · exact absurd (e1.trans e2.symm) hjm
  · rcases ev q with z | ⟨_, z⟩ <;> cases z
  · rw [upd_ne (ne_of_none q ht0), upd_ne (ne_of_none q hl)]; exact q
  · rw [upd_ne (fun z => q (by rw [z]; exact ht0)), upd_ne (fun z => q (by rw [z]; exact hl))]; exact q
  · show upd _ l _ b = none
    rw [upd_ne (fun z => q (by rw [z]; exact hl))]
  · have e : d = .bool true := q
    subst e
    cases D'
    exact hr H'
/-- the law's promise -/
def spLaw (K : PySem.W.Frag) : Sp := fun vs H Q _ => ∃ (a : Addr) (ns : List Int), vs = [.ref a] ∧ ns.length ≤ 63 ∧ LamX.Tabs Tbl.tb H ∧ SqL K H a (ns.map V.int) ∧ ∀ H', Q (.bl true) H'
theorem fn_law {P : Program} {w : World} {K : PySem.W.Frag} {mg : Str → Option Value} {base : Heap} {x qual y : Str} {params : Arguments} {body : List Stmt} {scope : Scope} {f : Addr} {fd : FuncData} {N : List Str} {k : Nat} {b : WS} (i : Nat) (F : FunD K x qual params body scope [] [] f fd) (S : FnScope N [y] scope) (hi : i < N.length)
    (ok : ∀ ns : List Int, ns.length ≤ 63 → b (lawStart N.length i ns) endTrue)
    (h : ∀ (cdv : Value) (A : Around) (outer : List Env) (s : Shared) (H : Hp) (E : L2.XK), Room k (A.deeper (envOfC qual scope s.heap.objs.size f cdv)) → PSs (cxOf CX0 P w K mg base N qual scope f cdv A outer s H E).nox body (tLaw K i b)) :
    FnOk P w K mg base CX0 (k + 1) f fd [y] (spLaw K) := by
  refine F.ok S (fun vs H Q E ⟨a, ns, e, _⟩ => by rw [e]; rfl) fun cdv A outer s H vs Q E hr ⟨a, ns, e, hz, hTb, hS, hQ⟩ => ⟨_, PSs.nox (h cdv A outer s H E hr), ?_⟩
  subst e
  have ls : (L2.start N [V.ref a]).length = N.length := by
    unfold L2.start
    rw [List.length_append, List.length_map, List.length_replicate]
    have : 0 < N.length := Nat.lt_of_le_of_lt (Nat.zero_le _) hi
    show 1 + (N.length - 1) = N.length
    omega
  refine ⟨a, ns, rfl, hS, hTb, hz, by rw [ls]; exact hi, by rw [ls]; exact ok ns hz, fun H' => hQ H'⟩
end MG

set_option Elab.async false
set_option linter.all false
set_option maxRecDepth 100000
set_option maxHeartbeats 4000000
/-! MgSort: sorted(e), over plain data. -/
namespace MG
variable [Tbl]
open PySem PySem.Spec PySem.W PyProof.Rows L2
/-- what sorted gives, by keys -/
def srtK (k : PyData → PyData) (ds : List PyData) : List PyData := ds.mergeSort (dataLe false k)
/-- the keys can be compared -/
def Srt (k : PyData → PyData) (ds : List PyData) : Prop := AllAlike (ds.map k) ∧ Sortable (ds.map k) ∧ ∀ d ∈ ds, (k d).depth ≤ 20
def opSorted : List PyData → (List PyData → Prop) → Prop
  | [.list ds], Φ => Srt id ds ∧ Φ (srtK id ds)
  | [.tuple ds], Φ => False
  | _, _ => False
section
variable {X : Cx} {K : PySem.W.Frag} {T : Option Addr} {F H : Hp} {pins : List (Addr × Obj)} {σ : L2.St} {s : Shared}
/-- the value stands for the datum -/
def Stands (K : PySem.W.Frag) (F : Hp) (v : Value) (d : PyData) : Prop := ∃ x, RelV x v ∧ Rp K F x d
theorem stands_all : ∀ {xs : List V} {vs : List Value} {ds : List PyData}, Vals xs vs → RpAll K F xs ds → EachIs (Stands K F) vs ds
  | _, _, _, .nil, .nil => .nil
  | _, _, _, .cons r t, .cons q u => .cons ⟨_, r, q⟩ (stands_all t u)
theorem stands_back : ∀ {vs : List Value} {ds : List PyData}, EachIs (Stands K F) vs ds → ∃ xs, Vals xs vs ∧ RpAll K F xs ds
  | _, _, .nil => ⟨[], .nil, .nil⟩
  | _, _, .cons ⟨x, r, q⟩ t => let ⟨xs, h1, h2⟩ := stands_back t; ⟨x :: xs, .cons r h1, .cons q h2⟩
theorem stands_reads (I : Inv X pins σ H s) (w : Same F H) {vs : List Value} {ds : List PyData} (h : EachIs (Stands X.K F) vs ds) : EachIs (fun v d => ∃ as, Reads s.heap v (id d) as) vs ds :=
  h.mono fun v d ⟨x, r, q⟩ => Rp.reads I w q r
def rSortD (K : PySem.W.Frag) : List V → Hp → VK → Prop := fun vs H Q => ∃ (a : Addr) (F : Hp) (xs : List V) (ds : List PyData), vs = [V.ref a] ∧ SqL K H a xs ∧ Same F H ∧ RpAll K F xs ds ∧ Srt id ds ∧
  ∀ (ys : List V) (p : Addr), RpAll K F ys (srtK id ds) → H p = none → Q (.ref p) (upd H p (.lst ys))
theorem cr_sortedD (hu : X.A.units + 64 < cLine) : CallR X (.builtin "sorted") (rSortD X.K) := by
  intro pins s σ H vs us Q I r h
  obtain ⟨a, F, xs, ds, rfl, hs, w, hr, ⟨g1, g2, g3⟩, q⟩ := h
  obtain ⟨its, rv, hl, hz⟩ := I.list hs
  rw [Vals.ref1 r]
  have e := stands_all rv hr
  refine sorted_data (enc := id) (R := Stands X.K F) hl.isList e (stands_reads I w e) g1 g2 (by rw [← hr.length]; exact hz) (fun d hd => by have := g3 d hd; omega) fun out hlen eo => ?_
  obtain ⟨ys, y1, y2⟩ := stands_back eo
  obtain ⟨ep, he'⟩ := PyProof.Rows.sortedAll_at s.heap its out.toArray
  have hl2 : ys.length ≤ sizeLine := by rw [y1.length, hlen, ← hr.length]; exact hz
  exact ⟨.ref _, upd H (s.heap.objs.size + 1) (.lst ys), I.laid (t' := s.toks) (fun _ _ => PyProof.Rows.sortedAll_old) (Nat.le_succ _) ⟨hl2, out, ep, y1, he'⟩, rfl, q _ _ y2 (I.hok.fresh (Nat.le_succ _))⟩
theorem cn_sorted : CaN K T (rSortD K) opSorted := fun ds vs F H Q Φ W D h k => by
  unfold opSorted at h
  split at h
  · rename_i es
    cases D with
    | cons d1 d2 =>
      cases d2
      cases d1 with
      | lst e z a =>
        refine ⟨_, F, _, es, rfl, SqL.of (W.fz _ _ e), W.fz, a, h.1, fun ys p hy hp => ?_⟩
        obtain ⟨W', X'⟩ := new_raw (o := .lst ys) W hp
        have hl : ys.length ≤ sizeLine := by
          rw [hy.length]
          unfold srtK
          rw [List.length_mergeSort, ← a.length]; exact z
        exact k _ p ys F _ h.2 W' X' hp (W.none_of hp) (tape_ne W hp) upd_same hl hy
  · exact h.elim
  · exact h.elim
end
end MG

set_option Elab.async false
set_option linter.all false
set_option maxRecDepth 100000
set_option maxHeartbeats 4000000
/-! MgLam: sorted(e, key=lambda y: ..), over plain data. -/
namespace MG
open PySem PySem.Spec PySem.W PySem.Calls PyProof.Rows L2
/-! ### data without lists -/
mutual
def noL : PyData → Bool
  | .none => true
  | .bool _ => true
  | .int _ => true
  | .str _ => true
  | .tuple ds => noLs ds
  | _ => false
def noLs : List PyData → Bool
  | [] => true
  | d :: ds => noL d && noLs ds
end
theorem noLs_mem : ∀ {ds : List PyData}, noLs ds = true ↔ ∀ d ∈ ds, noL d = true
  | [] => by simp [noLs]
  | d :: ds => by rw [noLs, Bool.and_eq_true, noLs_mem]; simp
mutual
theorem reads_noL {h : Heap} : ∀ {d : PyData} {v : Value} {as : List Addr}, noL d = true → Reads h v d as → as = []
  | _, _, _, _, .none => rfl
  | _, _, _, _, .bool _ => rfl
  | _, _, _, _, .int _ _ => rfl
  | _, _, _, _, .str _ _ => rfl
  | _, _, _, e, .tuple _ _ _ r => readsAll_noL (by rw [noL] at e; exact e) r
  | _, _, _, e, .list _ _ _ _ => by rw [noL] at e <;> first | exact nomatch e | simp
  | _, _, _, e, .dict _ _ _ _ _ => by rw [noL] at e <;> first | exact nomatch e | simp
theorem readsAll_noL {h : Heap} : ∀ {ds : List PyData} {vs : List Value} {as : List Addr}, noLs ds = true → ReadsAll h vs ds as → as = []
  | _, _, _, _, .nil => rfl
  | _, _, _, e, .cons r t => by
    rw [noLs, Bool.and_eq_true] at e
    rw [reads_noL e.1 r, readsAll_noL e.2 t]; rfl
end
theorem readsAll_get {h : Heap} : ∀ {ds : List PyData} {vs : List Value} {as : List Addr} {i : Nat} {d : PyData}, ReadsAll h vs ds as → ds[i]? = some d → ∃ v bs, vs[i]? = some v ∧ Reads h v d bs
  | _, _, _, _, _, .nil, e => by simp at e
  | _, _, _, 0, _, .cons r _, e => by simp at e; subst e; exact ⟨_, _, rfl, r⟩
  | _, _, _, i + 1, d, .cons _ t, e => by
    obtain ⟨v, bs, h1, h2⟩ := readsAll_get (i := i) (d := d) t (by simpa using e)
    exact ⟨v, bs, by simpa using h1, h2⟩
theorem readsAll_drop {h : Heap} : ∀ (n : Nat) {ds : List PyData} {vs : List Value} {as : List Addr}, ReadsAll h vs ds as → ∃ bs, ReadsAll h (vs.drop n) (ds.drop n) bs
  | 0, _, _, _, r => ⟨_, r⟩
  | _ + 1, _, _, _, .nil => ⟨_, .nil⟩
  | n + 1, _, _, _, .cons _ t => readsAll_drop n t
theorem readsAll_take {h : Heap} : ∀ (n : Nat) {ds : List PyData} {vs : List Value} {as : List Addr}, ReadsAll h vs ds as → ∃ bs, ReadsAll h (vs.take n) (ds.take n) bs
  | 0, _, _, _, _ => ⟨_, .nil⟩
  | _ + 1, _, _, _, .nil => ⟨_, .nil⟩
  | n + 1, _, _, _, .cons r t => let ⟨_, q⟩ := readsAll_take n t; ⟨_, .cons r q⟩
theorem readsAll_len {h : Heap} : ∀ {ds : List PyData} {vs : List Value} {as : List Addr}, ReadsAll h vs ds as → vs.length = ds.length
  | _, _, _, .nil => rfl
  | _, _, _, .cons _ t => congrArg (· + 1) (readsAll_len t)
/-! ### a key's body -/
/-- what the body of the lambda gives -/
def BodyK (P : Program) (w : World) (body : Expr) (y : Str) (ok : PyData → Bool) (k : PyData → PyData) : Prop :=
  ∀ (A : Around) (E : Value → Shared → Prop) (env : Env) (s : Shared) (m : Str → Option Value) (v : Value) (d : PyData), env.scope.kind = .function → env.kindOf y = some .local → s.heap.Ns env.locals m → m y = some v → Reads s.heap v d [] → ok d = true →
    wpAny (model P w) A (eval body env) (KeyPure (k d) s) E s
/-- y[c] -/
def okIx (c : Nat) : PyData → Bool
  | .tuple ds => noLs ds && decide (c < ds.length) && decide (ds.length ≤ 1000)
  | _ => false
def kIx (c : Nat) : PyData → PyData
  | .tuple ds => (ds[c]?).getD .none
  | _ => .none
theorem bodyIx {P : Program} {w : World} {y : Str} {c : Nat} {j} {p1 p2 p3 : Pos} (hd : (y == ("__debug__" : Str)) = false := by decide) : BodyK P w (.Subscript (.Name y p1) (.Constant (.int (c : Int)) j p2) p3) y (okIx c) (kIx c) := by
  intro A E env s m v d hk hl hn hm hr ok
  cases d with
  | tuple ds =>
    have ok' : (noLs ds && decide (c < ds.length) && decide (ds.length ≤ 1000)) = true := ok
    simp only [Bool.and_eq_true, decide_eq_true_eq] at ok'
    obtain ⟨⟨o1, o2⟩, o3⟩ := ok'
    cases hr with
    | @tuple a o vs n xs as e1 e2 e3 r =>
      obtain ⟨x, bs, g1, g2⟩ := readsAll_get (i := c) (d := ds[c]) r (List.getElem?_eq_getElem o2)
      have bs0 : bs = [] := reads_noL (noLs_mem.mp o1 _ (List.getElem_mem o2)) g2
      subst bs0
      have hlen : vs.size = ds.length := by have := readsAll_len r; rw [Array.length_toList] at this; exact this
      refine Subscript_ (wpAny_Name (wpAny_loadName_local hk hl hn hm ?_) hd)
      refine wpAny_Constant_int ?_
      have ht : IsTup s.heap a vs := ⟨o, e1, e2, n, e3⟩
      have hsi : seqIndex? (c : Int) vs.size = some c := by
        unfold seqIndex?
        rw [hlen]
        have h1 : ¬ (c : Int) < 0 := by omega
        have h2 : (c : Int) < ds.length := by omega
        simp [h1, h2]
      have g1' : vs[c]? = some x := by rw [← g1, Array.getElem?_toList]
      refine subscriptTail_builtinR (x := x) (T := "tuple") ⟨o, e1, e2⟩ slot_tuple_getitem.lookup (getItem_tuple (j := c) ht (by omega) (by omega) hsi g1' ⟨rfl, ?_⟩)
      refine ⟨s.heap, _, rfl, fun b o e => e, ?_⟩
      show Reads s.heap x ((ds[c]?).getD .none) []
      rw [List.getElem?_eq_getElem o2]
      exact g2
  | _ => exact nomatch ok
/-- y[:n] -/
def okSl (n : Nat) : PyData → Bool
  | .tuple ds => noLs ds && decide (ds.length ≤ 1000)
  | _ => false
def kSl (n : Nat) : PyData → PyData
  | .tuple ds => .tuple (ds.take n)
  | _ => .none
theorem sIx_hi (len n : Nat) : HT.sIx len len (some (n : Int)) = min n len := by
  unfold HT.sIx
  simp
  try omega
theorem noLs_take {n : Nat} {ds : List PyData} (h : noLs ds = true) : noLs (ds.take n) = true := noLs_mem.mpr fun d hd => noLs_mem.mp h d (List.mem_of_mem_take hd)
theorem bodySl {P : Program} {w : World} {y : Str} {n : Nat} {j} {p1 p2 p3 p4 : Pos} (hd : (y == ("__debug__" : Str)) = false := by decide) : BodyK P w (.Subscript (.Name y p1) (.Slice none (some (.Constant (.int (n : Int)) j p2)) none p4) p3) y (okSl n) (kSl n) := by
  intro A E env s m v d hk hl hn hm hr ok
  cases d with
  | tuple ds =>
    have ok' : (noLs ds && decide (ds.length ≤ 1000)) = true := ok
    simp only [Bool.and_eq_true, decide_eq_true_eq] at ok'
    obtain ⟨o1, o3⟩ := ok'
    cases hr with
    | @tuple a o vs nn xs as e1 e2 e3 r =>
      have hlen : vs.size = ds.length := by have := readsAll_len r; rw [Array.length_toList] at this; exact this
      refine Subscript_ (wpAny_Name (wpAny_loadName_local hk hl hn hm ?_) hd)
      refine wpAny_Slice ?_
      rw [evalPart_none]
      refine wpAny_pure ?_
      rw [evalPart_some]
      refine wpAny_Constant_int ?_
      refine wpAny_pure ?_
      have ht0 : IsTup s.heap a vs := ⟨o, e1, e2, nn, e3⟩
      have kp : ∀ b u, s.heap.get? b = some u → (s.heap.push { cls := .type "slice", data := .fields #[.none, .int (n : Int) s.toks, .none] }).get? b = some u := fun b u e => Heap.get?_push_of_some _ e
      refine tail_any (ops := [.ref s.heap.objs.size, .ref a]) (T := "tuple") ⟨o, kp _ _ e1, e2⟩ slot_tuple_getitem.lookup ?_ (by with_unfolding_all rfl)
      have hs : (s.heap.push { cls := .type "slice", data := .fields #[.none, .int (n : Int) s.toks, .none] }).IsSliceOf s.heap.objs.size .none (.int (n : Int) s.toks) .none := Heap.IsSliceOf.new ..
      have lo0 : HT.sIx vs.size 0 none = 0 := rfl
      by_cases hw : vs.size ≤ n
      · refine getItem_tuple_whole (lo := none) (hi := some (n : Int)) (ht0.keeps kp) hs .none (.int _ _) ⟨lo0, by rw [sIx_hi]; omega⟩ ⟨_, _, rfl, kp, ?_⟩
        show Reads _ (.ref a) (.tuple (ds.take n)) []
        rw [List.take_of_length_le (by omega)]
        exact PyProof.Rows.Reads.keeps kp (.tuple e1 e2 e3 r)
      · refine HT.getItem_tuple_cut (lo := none) (hi := some (n : Int)) (ht0.keeps kp) hs .none (.int _ _) (fun z => hw (by have := z.2; rw [sIx_hi] at this; omega)) ⟨_, _, rfl, fun b u e => Heap.get?_push_of_some _ (kp b u e), ?_⟩ (by rw [hlen, sizeLine_eq]; omega)
        show Reads _ _ (.tuple (ds.take n)) []
        obtain ⟨bs, q⟩ := readsAll_take n r
        have b0 : bs = [] := readsAll_noL (noLs_take o1) q
        subst b0
        refine .tuple (o := { cls := .type "tuple", data := .seq _ }) (Heap.get?_push_size _ rfl) rfl rfl ?_
        rw [lo0, sIx_hi]
        rw [List.drop_zero, Nat.sub_zero, Nat.min_eq_left (by omega)]
        rw [List.toList_toArray]
        exact PyProof.Rows.ReadsAll.keeps (fun b u e => Heap.get?_push_of_some _ (kp b u e)) q
  | _ => exact nomatch ok
/-! ### the lambda called -/
structure LamK (scope : Scope) (y : Str) : Prop where
  kind : scope.kind = .function
  co : scope.isCoroutine = false
  gen : scope.isGenerator = false
  loc : scope.names.lookup y = some .local
  cell : ∀ x ∈ scope.names, x.2 ≠ .cell
  free : ∀ x ∈ scope.names, x.2 ≠ .free
def lamKB (scope : Scope) (y : Str) : Bool := decide (scope.kind = .function) && (!scope.isCoroutine && (!scope.isGenerator && (decide (scope.names.lookup y = some .local) && scope.names.all fun x => !decide (x.2 = .cell) && !decide (x.2 = .free))))
theorem lamK_by {scope : Scope} {y : Str} (h : lamKB scope y = true) : LamK scope y := by
  unfold lamKB at h
  simp only [Bool.and_eq_true, Bool.not_eq_true', decide_eq_true_eq, decide_eq_false_iff_not, List.all_eq_true] at h
  obtain ⟨h1, h2, h3, h4, h5⟩ := h
  exact ⟨h1, h2, h3, h4, fun x hx => (h5 x hx).1, fun x hx => (h5 x hx).2⟩
theorem lam_turn {P : Program} {w : World} {A : Around} {s : Shared} {f c' : Addr} {q y : Str} {params : Arguments} {body : Expr} {scope : Scope} {cl : List (Str × Addr)} {pm ctv v : Value} {d : PyData} {ok : PyData → Bool} {k : PyData → PyData}
    (hroom : A.depth < recursionLimit) (lim : s.heap.NoLimit) (ho : s.heap.get? f = some (kla_obj "<lambda>" q params body scope cl pm c' ctv)) (hcd : s.heap.CodeRec (.ref c') q) (L : LamK scope y)
    (hbind : bindArgs (kla_fn "<lambda>" q params body scope cl pm (.ref c') ctv) ⟨[v], []⟩ = pure [(y, v)]) (B : BodyK P w body y ok k) (hr : Reads s.heap v d []) (hok : ok d = true) :
    wpAny (model P w) A (call (.ref f) [v]) (KeyPure (k d) s) (fun _ _ => False) s := by
  refine wpAny_call (codeAny_mono (R := fun r s' => match r with | .ok (.ret u) => KeyPure (k d) s u s' | _ => False) ?_ fun r s' h => ?_)
  · refine kla_callFunE hroom ho rfl L.co L.gen rfl hcd ?_
    rw [hbind]
    refine wpAny_pure (wpAny_newFunctionEnv L.cell (fun x hx => by rw [List.mem_singleton.mp hx]; exact L.loc) (fun h₁ hns hsb => ⟨lim.fresh _ hsb, ?_⟩) L.kind)
    have kp : ∀ b o, s.heap.get? b = some o → h₁.get? b = some o := fun b o e => hsb.extBut b o (Nat.ne_of_lt (Heap.lt_size e)) (Heap.get?_push_of_some _ e)
    refine kla_codeExpr (wpAny_mono (B _ (fun _ _ => False) _ _ _ v d L.kind L.loc hns (by simp) (PyProof.Rows.Reads.keeps kp hr) hok) (fun u s' hq => ?_) fun e s' hq => hq.elim)
    obtain ⟨h', tk, e1, e2, e3⟩ := hq
    exact ⟨h', tk, e1, fun b o e => e2 b o (kp b o e), e3⟩
  · cases r with
    | error e => exact h.elim
    | ok fl => cases fl <;> first | exact h | exact h.elim
/-! ### sorted(e, key=lambda y: ..) -/
def wSortK (ok : PyData → Bool) (k : PyData → PyData) (w : WE) : WA := fun ε Φ => w ε fun d => match d with
  | .list ds => ((∀ d ∈ ds, ok d = true) ∧ noLs ds = true ∧ Srt k ds) ∧ Φ (srtK k ds)
  | _ => False
variable [Tbl]
theorem ex_tables {T : Option Addr} {F H H1 : Hp} (W : Wd T F H) (eN : LamX.ExtN H H1) (t1 : LamX.Tabs Tbl.tb H1) (hd : ∀ a, H a ≠ none → H1 a ≠ none) : Wd T F H1 ∧ Ex T F H F H1 := ⟨⟨fun a u e => eN a u (W.fz a u e) fun ps z => W.nt a ps (z ▸ e), by
  cases T with
  | none => trivial
  | some t =>
    obtain ⟨f, l, ns, p, c, h1, h2, h3⟩ := W.tape
    exact ⟨f, l, ns, p, c, eN _ _ h1 (fun _ z => nomatch z), h2, h3⟩, t1, W.nt⟩,
  ⟨fun a o h _ n => eN a o h n, hd, Same.refl _, fun _ _ => rfl, fun a l p c _ h => ⟨p, c, eN _ _ h fun _ z => nomatch z⟩⟩⟩
section
variable {X : Cx} {K : PySem.W.Frag} {T : Option Addr} {e : Expr} {we : WE} {p pos lpos kp : Pos} {params : Arguments} {body : Expr} {scope : Scope} {y : Str} {ok : PyData → Bool} {k : PyData → PyData} {c P : Addr}
theorem each_and {R R' : Value → PyData → Prop} : ∀ {vs : List Value} {ds : List PyData}, EachIs R vs ds → EachIs R' vs ds → EachIs (fun v d => R v d ∧ R' v d) vs ds
  | _, _, .nil, .nil => .nil
  | _, _, .cons a t, .cons b u => .cons ⟨a, b⟩ (each_and t u)
/-- the lambda made; what stood stands, but for the table -/
theorem lam_made {pins : List (Addr × Obj)} {σ : L2.St} {H : Hp} {s : Shared} {tb : List (Addr × Str)} {E Q : Value → Shared → Prop} (I : L2.Inv X pins σ H s) (TB : LamX.TabB X.base X.mg c P) (hcode : X.env.code = .ref c) (hmem : (P, X.env.qual ++ "<lambda>") ∈ tb) (hone : ∀ q ∈ tb, q.1 = P → q.2 = X.env.qual ++ "<lambda>") (hT : LamX.Tabs tb H)
    (hdef : defaultsOf params X.env = ([], [])) (nf : ∀ z ∈ scope.names, z.2 ≠ .free)
    (go : ∀ (f c' : Addr) (pm ctv : Value) (H1 : Hp) (s1 : Shared), L2.Inv X pins σ H1 s1 → LamX.ExtN H H1 → (∀ b, H b ≠ none → H1 b ≠ none) → LamX.Tabs tb H1 → s1.heap.get? f = some (kla_obj "<lambda>" (X.env.qual ++ "<lambda>") params body scope (cloFrom X.env.cells scope.names []) pm c' ctv) → H1 c' = some (LamX.CodeO c' (X.env.qual ++ "<lambda>")) → Q (.ref f) s1) :
    wpAny (model X.prog X.w) X.A (eval (.Lambda params body scope pos) X.env) Q E s := by
  obtain ⟨ps, tabAt, trip, named⟩ := hT _ hmem
  have inHeap : s.heap.get? P = some { cls := .none, data := .fields ps } := I.hok P _ tabAt
  have bms : s.heap.BuiltinsAt X.mg P := TB.bm.keeps I.bk
  have clo := closure_ok (env := X.env) (scope := scope) fun z hz e => absurd e (nf z hz)
  refine PySem.W.kla_eval hdef ?_
  cases found : codeAmong pos ps.toList with
  | some cv =>
    obtain ⟨c', rfl, isCode⟩ := named pos cv found
    refine PySem.W.kla_makeFunctionHit (mg := X.mg) (c := c) (P := P) (ps := ps) clo I.ok.glob (I.mod.glob.keeps I.bk) hcode (TB.code.keeps I.bk) inHeap trip found bms fun ctv h1 tk old sz => ?_
    have J : L2.Inv X pins σ H { s with heap := h1.push (kla_obj "<lambda>" (X.env.qual ++ "<lambda>") params body scope (cloFrom X.env.cells scope.names []) ((X.mg "__name__").getD .none) c' ctv), toks := tk } := I.kept fun b o e => Heap.get?_push_of_some _ (old b o e)
    exact go _ c' _ ctv H _ J (LamX.ExtN.refl H) (fun _ n => n) hT (Heap.get?_push_size _ rfl) isCode
  | none =>
    refine PySem.W.kla_makeFunction (mg := X.mg) (c := c) (P := P) (ps := ps) clo I.ok.glob (I.mod.glob.keeps I.bk) hcode (TB.code.keeps I.bk) inHeap trip found TB.gP bms fun c' ctv h1 tk old sz lt rec_ tab1 => ?_
    obtain ⟨cc, oc, vs, t, ecc, at_, dat, nam⟩ := rec_
    cases ecc
    have freshC : H c' = none := I.hok.fresh sz
    have J := LamX.inv_table (t' := tk) (more := #[rawInt pos.line, rawInt pos.col, .ref c']) (h' := h1.push (kla_obj "<lambda>" (X.env.qual ++ "<lambda>") params body scope (cloFrom X.env.cells scope.names []) ((X.mg "__name__").getD .none) c' ctv)) I tabAt
      (fun b o n e => Heap.get?_push_of_some _ (old b o n e)) (Heap.get?_push_of_some _ tab1) sz ⟨oc, vs, t, Heap.get?_push_of_some _ at_, dat, nam⟩
    have notP : ∀ {b : Addr} {o : HO}, H b = some o → (∀ ps, o ≠ .tbl ps) → b ≠ P := fun {b o} e n z => by
      rw [z, tabAt] at e
      exact n ps (Option.some.inj e).symm
    have grown : LamX.ExtN H (upd (upd H P (.tbl (ps ++ #[rawInt pos.line, rawInt pos.col, .ref c']))) c' (LamX.CodeO c' (X.env.qual ++ "<lambda>"))) := fun b o e n => by
      rw [upd_ne (ne_of_none e freshC), upd_ne (notP e n)]
      exact e
    have listed : (ps ++ #[rawInt pos.line, rawInt pos.col, .ref c']).toList = ps.toList ++ [rawInt pos.line, rawInt pos.col, .ref c'] := by simp
    refine go _ c' _ ctv _ _ J grown (fun b n => ?_) (fun q hq => ?_) (Heap.get?_push_size _ rfl) upd_same
    · by_cases e1 : b = c'
      · rw [e1, upd_same]; simp
      · by_cases e2 : b = P
        · rw [upd_ne e1, e2, upd_same]; simp
        · rw [upd_ne e1, upd_ne e2]; exact n
    · by_cases here : q.1 = P
      · rw [hone q hq here, here]
        refine ⟨_, (upd_ne (ne_of_none tabAt freshC)).trans upd_same, by rw [listed]; exact PySem.TriplesOk_snoc _ _ _ _ trip, fun p1 cv1 in1 => ?_⟩
        rw [listed] at in1
        rcases LamX.among_app _ trip in1 with z | z
        · obtain ⟨c0, k1, k2⟩ := named p1 cv1 z
          exact ⟨c0, k1, grown _ _ k2 LamX.codeO_ne⟩
        · exact ⟨c', z, upd_same⟩
      · obtain ⟨qs, q1, q2, q3⟩ := hT q hq
        refine ⟨qs, (upd_ne (ne_of_none q1 freshC)).trans ((upd_ne here).trans q1), q2, fun p1 cv1 in1 => ?_⟩
        obtain ⟨c0, k1, k2⟩ := q3 p1 cv1 in1
        exact ⟨c0, k1, grown _ _ k2 LamX.codeO_ne⟩
theorem mn_sortkey (hk : X.K = K) (hu : X.A.units + 64 < cLine) (hdp : X.A.depth < recursionLimit) (TB : LamX.TabB X.base X.mg c P) (hcode : X.env.code = .ref c) (hT : (P, X.env.qual ++ "<lambda>") ∈ Tbl.tb) (hU : ∀ q ∈ Tbl.tb, q.1 = P → q.2 = X.env.qual ++ "<lambda>") (hm : X.mg "sorted" = none)
    (L : LamK scope y) (B : BodyK X.prog X.w body y ok k) (he : PE X e (tD K T we)) (hdef : defaultsOf params X.env = ([], []) := by rfl) (hbind : ∀ (q : Str) (cl : List (Str × Addr)) (pm cv ctv v : Value), bindArgs (kla_fn "<lambda>" q params body scope cl pm cv ctv) ⟨[v], []⟩ = pure [(y, v)] := by intros; rfl)
    (hg : Gl X "sorted" := by rfl) (hs : starEach [e] X.env = (false, eval e X.env) :: starEach [] X.env := by rfl) (hb : backTo pos (starEach [e] X.env) = (false, eval e X.env) :: backTo pos (starEach [] X.env) := by rfl) (hpl : (backTo pos (starEach [e] X.env)).any (·.1) = false := by rfl)
    (hall : (backToKw pos (keywordEach [⟨some "key", .Lambda params body scope lpos, kp⟩] X.env)).all (·.1.isSome) = true := by rfl) (hnone : (backToKw pos (keywordEach [⟨some "key", .Lambda params body scope lpos, kp⟩] X.env)).any (·.1.isNone) = false := by rfl)
    (hks : (backToKw pos (keywordEach [⟨some "key", .Lambda params body scope lpos, kp⟩] X.env)).filterMap (·.1) = [Str.ofString "key"] := by rfl) :
    PE X (.Call (.Name "sorted" p) [e] [⟨some "key", .Lambda params body scope lpos, kp⟩] pos) (tN K T (wSortK ok k we)) := by
  subst hk
  refine ⟨fun pins s σ H Q I ⟨H0, ε, F0, Φ, S, W0, hw, kk⟩ => ?_⟩
  refine wpAny_Call_Name_kw (ld_blt I hg hm (show bootBuiltins "sorted" = some (.builtin "sorted") by decide +kernel) ?_ (by decide) (by decide))
  refine PyProof.Rows.callWith_kw (thn ((pa_cons he pa_nil hs).run pos pins s σ H (fun vs H1 => ∃ (F1 : Hp) (a : Addr) (xs : List V) (ds : List PyData), vs = [.ref a] ∧ (((∀ d ∈ ds, ok d = true) ∧ noLs ds = true ∧ Srt k ds) ∧ Φ (srtK k ds)) ∧ Wd T F1 H1 ∧ Ex T F0 H F1 H1 ∧ F1 a = some (.lst xs) ∧ xs.length ≤ sizeLine ∧ RpAll X.K F1 xs ds) I ⟨H0, ε, F0, _, S, W0, hw, fun d v F1 H1 hd W1 X1 D1 => ?_⟩) fun us s1 ⟨vs, H1, I1, r1, q1⟩ => ?_) hb hpl hall hnone
  · cases D1 with
    | lst e1 z1 a1 => exact ⟨F1, _, _, _, rfl, hd, W1, X1, e1, z1, a1⟩
    | _ => exact hd.elim
  · obtain ⟨F1, a, xs, ds, rfl, ⟨⟨o1, o2, o3⟩, hΦ⟩, W1, X1, e1, z1, a1⟩ := q1
    obtain rfl := Vals.ref1 r1
    rw [hks]
    show wpAny _ _ (evalAll ((do let v ← eval (.Lambda params body scope lpos) X.env; standAt pos; pure v) :: (backToKw pos (keywordEach [] X.env)).map (·.2))) _ _ s1
    refine wpAny_evalAll_cons (wpAny_bind (lam_made I1 TB hcode hT hU W1.tabs hdef L.free fun f c' pm ctv H2 s2 I2 eN dm T2 hf hco => wpAny_bind (wpAny_standAt (wpAny_pure (wpAny_evalAll_nil ?_)))))
    show wpAny _ _ (call (.builtin "sorted") [.ref a] [(Str.ofString "key", .ref f)]) _ _ s2
    obtain ⟨W2, X2⟩ := ex_tables W1 eN T2 dm
    obtain ⟨its, rv, hl, hz⟩ := I2.list (SqL.of (W2.fz _ _ e1))
    have est := stands_all rv a1
    have er := stands_reads I2 W2.fz est
    obtain ⟨⟨oc, ovs, ot, hoc, hdc, hvc⟩, _, _⟩ := I2.hok c' _ hco
    refine sorted_key_data (b := false) (R := fun v d => Stands X.K F1 v d ∧ ∃ as, Reads s2.heap v (id d) as) k hl.isList (each_and est er) o3.1 o3.2.1 (by rw [← a1.length]; exact hz) (fun d hd => by have := o3.2.2 d hd; omega) (ksk_s1 _ _) (fun _ => ksk_l1 _ _) (fun _ => ksk_t1 _ _)
      (fun v d ⟨_, as, r⟩ hd h tk kept => ?_) fun out cc h' tk kept fresh hD hlen eo => ?_
    · have r0 : as = [] := reads_noL (noLs_mem.mp o2 d hd) r
      subst r0
      exact lam_turn (s := { s2 with heap := h, toks := tk }) hdp (I2.nolimit.keeps kept) (kept _ _ hf) ⟨c', oc, ovs, ot, rfl, kept _ _ hoc, hdc, hvc⟩ L (hbind _ _ _ _ _ _) B (PyProof.Rows.Reads.keeps kept r) (o1 d hd)
    · obtain ⟨ys, y1, y2⟩ := stands_back (K := X.K) (F := F1) (eo.mono fun _ _ z => z.1)
      have hl2 : ys.length ≤ sizeLine := by rw [y1.length, hlen, ← a1.length]; exact hz
      have nD : H2 (s2.heap.objs.size + 1) = none := I2.hok.fresh (Nat.le_succ _)
      obtain ⟨W3, X3⟩ := new_raw (o := .lst ys) W2 nD
      have X13 := X1.trans X2
      exact ⟨.ref _, upd H2 (s2.heap.objs.size + 1) (.lst ys), I2.laid (t' := tk) kept (Nat.le_succ _) ⟨hl2, out, cc, y1, hD⟩, rfl, kk _ _ ys F1 _ hΦ W3 (X13.trans X3) (none_back X13 nD) (W2.none_of nD) (tape_ne W2 nD) upd_same hl2 y2⟩
end
end MG

set_option Elab.async false
set_option linter.all false
set_option maxRecDepth 100000
set_option maxHeartbeats 4000000
/-! MgZipM: the pairs of a list with a tuple. k says of each: true for a tuple. -/
namespace MG
open PySem PyProof.Rows L2
def clsS (k : Bool) : String := if k then "tuple" else "list"
def clsI (k : Bool) : String := if k then "tuple_iterator" else "list_iterator"
def SqH (k : Bool) (h : Heap) (a : Addr) (vs : Array Value) : Prop := ∃ o, h.get? a = some o ∧ o.cls = .type (clsS k) ∧ ∃ n, o.data = .seq vs n
def ItH (k : Bool) (h : Heap) (c a : Addr) (i : Nat) : Prop := ∃ o, h.get? c = some o ∧ o.cls = .type (clsI k) ∧ o.data = .fields #[.ref a, .int i 0]
/-- what stands at all but c stands after too -/
abbrev Keeps (cs : List Addr) (h h' : Heap) : Prop := ∀ c o, c ∉ cs → h.get? c = some o → h'.get? c = some o
section
variable {k : Bool} {h h' : Heap} {c a : Addr} {i : Nat} {vs : Array Value}
theorem SqH.on (x : SqH k h a vs) (f : ∀ o, h.get? a = some o → h'.get? a = some o) : SqH k h' a vs := x.imp fun o y => ⟨f o y.1, y.2⟩
theorem ItH.on (x : ItH k h c a i) (f : ∀ o, h.get? c = some o → h'.get? c = some o) : ItH k h' c a i := x.imp fun o y => ⟨f o y.1, y.2⟩
end
section
variable {prog : Program} {w : World} {A : Around} {E : Value → Shared → Prop} {s : Shared}
theorem nx_item {k : Bool} {c a : Addr} {i : Nat} {vs : Array Value} {x : Value} {Q : Value → Shared → Prop} (t : ItH k s.heap c a i) (q : SqH k s.heap a vs) (hx : vs[i]? = some x)
    (n : ∀ h', ItH k h' c a (i + 1) → Heap.SameBut c s.heap h' → Q x { s with heap := h' }) : wpAny (model prog w) A (Builtin.SmallTypes.nextOf (.ref c)) Q E s := by
  cases k
  · exact wpAny_nextOf_list_item t q hx n
  · exact RZ.nextOf_tuple_item t q hx n
theorem nx_end {k : Bool} {c a : Addr} {i : Nat} {vs : Array Value} {Q : Value → Shared → Prop} (hh : A.handled = none) (t : ItH k s.heap c a i) (q : SqH k s.heap a vs) (hx : vs[i]? = none)
    (n : ∀ h' e, Heap.ExtBut c s.heap h' → (∃ o, h'.get? e = some o ∧ o.cls = .type "StopIteration") → E (.ref e) { s with heap := h' }) : wpAny (model prog w) A (Builtin.SmallTypes.nextOf (.ref c)) Q E s := by
  cases k
  · exact wpAny_nextOf_list_end hh t q hx n
  · exact RZ.nextOf_tuple_end hh t q hx n
theorem bnd {α β : Type} {m : Sem α} {f : α → Sem β} {Q : β → Shared → Prop} (x : wpAny (model prog w) A m (fun a t => wpAny (model prog w) A (f a) Q E t) E s) : wpAny (model prog w) A (m >>= f) Q E s := wpAny_bind x
/-- what a turn over two begins with -/
theorem zip_pre {z TI TO i1 i2 : Addr} {Q : Fin → Shared → Prop} (hz : IsZip s.heap z TI TO .none) (hTI : IsPair s.heap TI (.ref i1) (.ref i2))
    {k1 k2 : Bool} {l1 l2 : Addr} {j : Nat} {xs ys : Array Value} {u v : Value} (D : ZipApart z TI TO i1 i2 l1 l2) (hTO : IsPair s.heap TO u v)
    (t1 : ItH k1 s.heap i1 l1 j) (t2 : ItH k2 s.heap i2 l2 j) (q1 : SqH k1 s.heap l1 xs) (q2 : SqH k2 s.heap l2 ys) (hh : A.handled = none)
    (item : ∀ x y, xs[j]? = some x → ys[j]? = some y → ∀ h', IsZip h' z TI TO (rawInt s.heap.objs.size) → IsPair h' TO x y → ItH k1 h' i1 l1 (j + 1) → ItH k2 h' i2 l2 (j + 1) → IsPair h' s.heap.objs.size x y → h'.objs.size = s.heap.objs.size + 1 →
      Keeps [z, TO, i1, i2] s.heap h' → Q (.done (.ret (.ref s.heap.objs.size))) { s with heap := h' })
    (stop : (xs[j]? = none ∨ ys[j]? = none) → ∀ h' e, Keeps [z, TO, i1, i2] s.heap h' → (∃ o, h'.get? e = some o ∧ o.cls = .type "StopIteration") → E (.ref e) { s with heap := h' }) :
    wpAny (model prog w) A (Builtin.«zip.__next__» ⟨[.ref z], []⟩) Q E s := by
  show wpAny _ _ (field (.ref z) 2 >>= _) _ _ _
  refine bnd (wpAny_field hz rfl (x := .bool false) rfl ?_)
  show wpAny _ _ (field (.ref z) 3 >>= _) _ _ _
  refine bnd (wpAny_field hz rfl (x := .ref TI) rfl ?_)
  refine bnd (wpAny_seqItems hTI rfl ?_)
  show wpAny _ _ (Builtin.SmallTypes.ownedTupleIsFree (.ref z) >>= _) _ _ _
  refine bnd ?_
  unfold Builtin.SmallTypes.ownedTupleIsFree
  refine bnd (wpAny_field hz rfl (x := .none) rfl (wpAny_pure ?_))
  simp only [if_true]
  refine bnd (wpAny_rule ?_)
  refine bnd (wpAny_field hz rfl (x := .ref TO) rfl ?_)
  refine bnd (wpAny_setField_rec hz (by simp) fun ha za sa => ?_)
  replace za : IsZip ha z TI TO .ellipsis := za
  refine bnd ?_
  simp only [List.zipIdx_cons, List.zipIdx_nil, List.forIn_cons, List.forIn_nil]
  refine bnd (wpAny_bind (wpAny_onRaise ?_))
  show wpAny _ _ (Builtin.SmallTypes.nextOf (.ref i1) >>= _) _ _ _
  have t1a := t1.on (h' := ha) fun o e => sa.extBut _ _ D.i1z e
  have q1a := q1.on (h' := ha) fun o e => sa.extBut _ _ D.l1z e
  cases hx : xs[j]? with
  | none =>
    refine bnd (nx_end hh t1a q1a hx fun hb e sb se => ?_)
    obtain ⟨oe, ge, ce⟩ := se
    have zb : IsZip hb z TI TO .ellipsis := sb _ _ D.i1z.symm za
    have ne : e ≠ z := fun q => by subst q; rw [zb] at ge; cases ge; simp at ce
    exact wpAny_setField_rec zb (by simp) fun hc _ sc => stop (.inl hx) hc e (fun c o nc x => by
      simp only [List.mem_cons, List.not_mem_nil, or_false, not_or] at nc
      exact sc.extBut _ _ nc.1 (sb _ _ nc.2.2.1 (sa.extBut _ _ nc.1 x))) ⟨oe, sc.extBut _ _ ne ge, ce⟩
  | some x =>
    refine bnd (nx_item t1a q1a hx fun hb t1b sb => wpAny_pure ?_)
    have Tb : IsPair hb TO u v := sb.extBut _ _ D.TOi1 (sa.extBut _ _ D.TOz hTO)
    refine bnd (wpAny_seqItems Tb rfl ?_)
    refine bnd (wpAny_updateSeq_pair Tb fun hc Tc sc => ?_)
    replace Tc : IsPair hc TO x v := Tc
    refine bnd (wpAny_letGo (wpAny_pure ?_))
    refine bnd (wpAny_bind (wpAny_onRaise ?_))
    show wpAny _ _ (Builtin.SmallTypes.nextOf (.ref i2) >>= _) _ _ _
    have t2c := t2.on (h' := hc) fun o e => sc.extBut _ _ D.TOi2.symm (sb.extBut _ _ D.i12.symm (sa.extBut _ _ D.i2z e))
    have q2c := q2.on (h' := hc) fun o e => sc.extBut _ _ D.l2TO (sb.extBut _ _ D.l2i1 (sa.extBut _ _ D.l2z e))
    cases hy : ys[j]? with
    | none =>
      refine bnd (nx_end hh t2c q2c hy fun hd e sd se => ?_)
      obtain ⟨oe, ge, ce⟩ := se
      have zd : IsZip hd z TI TO .ellipsis := sd _ _ D.i2z.symm (sc.extBut _ _ D.TOz.symm (sb.extBut _ _ D.i1z.symm za))
      have ne : e ≠ z := fun q => by subst q; rw [zd] at ge; cases ge; simp at ce
      exact wpAny_setField_rec zd (by simp) fun hf _ sf => stop (.inr hy) hf e (fun c o nc x => by
        simp only [List.mem_cons, List.not_mem_nil, or_false, not_or] at nc
        exact sf.extBut _ _ nc.1 (sd _ _ nc.2.2.2 (sc.extBut _ _ nc.2.1 (sb.extBut _ _ nc.2.2.1 (sa.extBut _ _ nc.1 x))))) ⟨oe, sf.extBut _ _ ne ge, ce⟩
    | some y =>
      refine bnd (nx_item t2c q2c hy fun hd t2d sd => wpAny_pure ?_)
      have Td : IsPair hd TO x v := sd.extBut _ _ D.TOi2 Tc
      refine bnd (wpAny_seqItems Td rfl ?_)
      refine bnd (wpAny_updateSeq_pair Td fun hf Tf sf => ?_)
      replace Tf : IsPair hf TO x y := Tf
      refine bnd (wpAny_letGo (wpAny_pure (wpAny_pure ?_)))
      refine bnd (wpAny_seqItems Tf rfl ?_)
      refine bnd (wpAny_newTuple ?_)
      have sz : hf.objs.size = s.heap.objs.size := by rw [sf.1, sd.1, sc.1, sb.1, sa.1]
      have zf : IsZip hf z TI TO .ellipsis := sf.extBut _ _ D.TOz.symm (sd.extBut _ _ D.i2z.symm (sc.extBut _ _ D.TOz.symm (sb.extBut _ _ D.i1z.symm za)))
      have kf : Keeps [z, TO, i1, i2] s.heap hf := fun c o nc e => by
        simp only [List.mem_cons, List.not_mem_nil, or_false, not_or] at nc
        exact sf.extBut _ _ nc.2.1 (sd.extBut _ _ nc.2.2.2 (sc.extBut _ _ nc.2.1 (sb.extBut _ _ nc.2.2.1 (sa.extBut _ _ nc.1 e))))
      have t1f := t1b.on (h' := hf) fun o e => sf.extBut _ _ D.TOi1.symm (sd.extBut _ _ D.i12 (sc.extBut _ _ D.TOi1.symm e))
      have t2f := t2d.on (h' := hf) fun o e => sf.extBut _ _ D.TOi2.symm e
      have zl : z < hf.objs.size := Heap.lt_size zf
      show wpAny _ _ (Builtin.SmallTypes.ownedTupleHandOut (.ref z) (.ref hf.objs.size) >>= _) _ _ _
      refine bnd ?_
      unfold Builtin.SmallTypes.ownedTupleHandOut
      have zg : IsZip (hf.push { cls := .type "tuple", data := .seq #[x, y] }) z TI TO .ellipsis := Heap.get?_push_of_some _ zf
      refine bnd (wpAny_setField_rec zg (by simp) fun hi zi si => ?_)
      replace zi : IsZip hi z TI TO (rawInt hf.objs.size) := zi
      refine wpAny_setField_rec zi (by simp) fun hj zj sj => ?_
      replace zj : IsZip hj z TI TO (rawInt hf.objs.size) := zj
      have up : ∀ c o, c ≠ z → hf.get? c = some o → hj.get? c = some o := fun c o n e => sj.extBut _ _ n (si.extBut _ _ n (Heap.get?_push_of_some _ e))
      have Tj : IsPair hj hf.objs.size x y := sj.extBut _ _ (Nat.ne_of_gt zl) (si.extBut _ _ (Nat.ne_of_gt zl) (Heap.get?_push_size _ rfl))
      have szj : hj.objs.size = hf.objs.size + 1 := by rw [sj.1, si.1, Heap.size_push]
      rw [sz] at zj Tj szj
      refine wpAny_pure ?_
      show Q (.done (.ret (.ref hf.objs.size))) _
      rw [sz]
      exact item x y hx hy hj zj (up _ _ D.TOz Tf) (t1f.on fun o e => up _ o D.i1z e) (t2f.on fun o e => up _ o D.i2z e) Tj szj fun c o nc e => up c o (fun q => nc (by simp [q])) (kf c o nc e)
end
end MG

set_option Elab.async false
set_option linter.all false
set_option maxRecDepth 100000
set_option maxHeartbeats 4000000
/-! MgZipN: zip of a list and a tuple, as a walk. -/
namespace MG
open PySem PySem.Spec PyProof.Rows L2
section
variable {prog : Program} {w : World} {A : Around} {E : Value → Shared → Prop} {s : Shared}
theorem it_new {k : Bool} {l : Addr} {vs : Array Value} {Q : Value → Shared → Prop} (q : SqH k s.heap l vs)
    (n : Q (.ref s.heap.objs.size) { s with heap := s.heap.push { cls := .type (clsI k), data := .fields #[.ref l, .int 0 0] } }) : wpAny (model prog w) A (pyIter (.ref l)) Q E s := by
  cases k
  · exact wpAny_pyIter_list q n
  · exact wpAny_pyIter_tuple q n
theorem nx_zip {z TI TO i1 i2 l1 l2 : Addr} {k1 k2 : Bool} {j : Nat} {xs ys : Array Value} {u v : Value} {Q : Option Value → Shared → Prop} (hh : A.handled = none) (D : ZipApart z TI TO i1 i2 l1 l2) (hz : IsZip s.heap z TI TO .none) (hTI : IsPair s.heap TI (.ref i1) (.ref i2)) (hTO : IsPair s.heap TO u v)
    (t1 : ItH k1 s.heap i1 l1 j) (t2 : ItH k2 s.heap i2 l2 j) (q1 : SqH k1 s.heap l1 xs) (q2 : SqH k2 s.heap l2 ys)
    (item : ∀ x y, xs[j]? = some x → ys[j]? = some y → ∀ h', IsZip h' z TI TO (rawInt s.heap.objs.size) → IsPair h' TO x y → ItH k1 h' i1 l1 (j + 1) → ItH k2 h' i2 l2 (j + 1) → IsPair h' s.heap.objs.size x y → h'.objs.size = s.heap.objs.size + 1 →
      Keeps [z, TO, i1, i2] s.heap h' → Q (some (.ref s.heap.objs.size)) { s with heap := h' })
    (stop : (xs[j]? = none ∨ ys[j]? = none) → ∀ h', Keeps [z, TO, i1, i2] s.heap h' → Q none { s with heap := h' }) : wpAny (model prog w) A (pyNext (.ref z)) Q E s := by
  have ty : s.TypeIs (.ref z) "zip" := ⟨_, hz, rfl⟩
  unfold pyNext
  refine bnd (wpAny_attempt (wpAny_callSpecial?_slot (name := Str.ofString "__next__") ty F.slot_zip_next (wpAny_call_entry F.slot_zip_next ty F.entry_zip_next (zip_pre hz hTI D hTO t1 t2 q1 q2 hh (fun x y hx hy h' a1 a2 a3 a4 a5 a6 a7 => ⟨_, rfl, wpAny_pure (item x y hx hy h' a1 a2 a3 a4 a5 a6 a7)⟩) fun en h' e kp ⟨o, ho, hc⟩ => bnd (wpAny_isInstance (T := "StopIteration") (b := true) ⟨o, ho, hc⟩ isSubtype_stop (wpAny_pure (stop en h' kp)))) (F.args_zip_next_1 _))))
/-! ### zip(a, b) is made -/
abbrev mH (h : Heap) (c : String) (l : Addr) : Heap := h.push { cls := .type c, data := .fields #[.ref l, .int 0 0] }
abbrev mT (h : Heap) (x y : Value) : Heap := h.push { cls := .type "tuple", data := .seq #[x, y] }
abbrev mZ (h : Heap) (x y : Addr) : Heap := h.push { cls := .type "zip", data := .fields #[.none, .bool false, .bool false, .ref x, .ref y] }
abbrev mP (h : Heap) (k1 k2 : Bool) (l1 l2 : Addr) : Heap := mT (mH (mH h (clsI k1) l1) (clsI k2) l2) (.ref h.objs.size) (.ref (mH h (clsI k1) l1).objs.size)
abbrev mA (h : Heap) (k1 k2 : Bool) (l1 l2 : Addr) : Heap := mT (mP h k1 k2 l1 l2) .none .none
abbrev mAll (h : Heap) (k1 k2 : Bool) (l1 l2 : Addr) : Heap := mZ (mA h k1 k2 l1 l2) (mH (mH h (clsI k1) l1) (clsI k2) l2).objs.size (mP h k1 k2 l1 l2).objs.size
theorem new_zip (k1 k2 : Bool) (l1 l2 : Addr) (xs ys : Array Value) :
    Meets (Builtin.«zip.__new__» ⟨[.type "zip", .ref l1, .ref l2], []⟩) fun _ R s => SqH k1 s.heap l1 xs ∧ SqH k2 s.heap l2 ys ∧ R (.ok (.ret (.ref (mA s.heap k1 k2 l1 l2).objs.size))) { s with heap := mAll s.heap k1 k2 l1 l2 } := by
  refine .of_wp fun prog w A R s ⟨q1, q2, r⟩ => ?_
  obtain ⟨hp, g, d, tk, os⟩ := s
  have sub := sub_zip
  have p1 : SqH k1 (Shared.heap ⟨hp, g, d, tk, os⟩) l1 xs := q1
  have p2 : SqH k2 (Shared.heap ⟨mH hp (clsI k1) l1, g, d, tk, os⟩) l2 ys := q2.on fun o e => Heap.get?_push_of_some _ e
  wp_walk using it_new p1, it_new p2
  exact ⟨_, rfl, r⟩
theorem cl_zip {k1 k2 : Bool} {l1 l2 : Addr} {xs ys : Array Value} {Q : Value → Shared → Prop} (q1 : SqH k1 s.heap l1 xs) (q2 : SqH k2 s.heap l2 ys) (n : ∀ h' (N : Nat), N = s.heap.objs.size → IsZip h' (N + 4) (N + 2) (N + 3) .none → IsPair h' (N + 2) (.ref N) (.ref (N + 1)) → IsPair h' (N + 3) .none .none → ItH k1 h' N l1 0 → ItH k2 h' (N + 1) l2 0 →
      (∀ c o, s.heap.get? c = some o → h'.get? c = some o) → Q (.ref (N + 4)) { s with heap := h' }) : wpAny (model prog w) A (call (.type "zip") [.ref l1, .ref l2]) Q E s := by
  refine callType_new F.called_zip (by decide) (F.typeCall_zip_2 _ _) (F.newCall_zip_2 _ _) (fun obj => F.args_object_init_3 obj _ _) F.entry_zip_new (new_zip k1 k2 l1 l2 xs ys) ⟨q1, q2, ?_⟩
  generalize hN : s.heap.objs.size = N at *
  have y1 : (mH s.heap (clsI k1) l1).objs.size = N + 1 := by rw [Heap.size_push, hN]
  have y2 : (mH (mH s.heap (clsI k1) l1) (clsI k2) l2).objs.size = N + 2 := by rw [Heap.size_push, y1]
  have y3 : (mP s.heap k1 k2 l1 l2).objs.size = N + 3 := by rw [Heap.size_push, y2]
  have y4 : (mA s.heap k1 k2 l1 l2).objs.size = N + 4 := by rw [Heap.size_push, y3]
  have up : ∀ {h : Heap} {o o' : Obj} {c : Addr}, h.get? c = some o → (h.push o').get? c = some o := fun e => Heap.get?_push_of_some _ e
  have g5 : (mAll s.heap k1 k2 l1 l2).get? (mA s.heap k1 k2 l1 l2).objs.size = some _ := Heap.get?_push_size _ rfl
  have g4 : (mAll s.heap k1 k2 l1 l2).get? (mP s.heap k1 k2 l1 l2).objs.size = some _ := up (Heap.get?_push_size _ rfl)
  have g3 : (mAll s.heap k1 k2 l1 l2).get? (mH (mH s.heap (clsI k1) l1) (clsI k2) l2).objs.size = some _ := up (up (Heap.get?_push_size _ rfl))
  have g2 : (mAll s.heap k1 k2 l1 l2).get? (mH s.heap (clsI k1) l1).objs.size = some _ := up (up (up (Heap.get?_push_size _ rfl)))
  have g1 : (mAll s.heap k1 k2 l1 l2).get? s.heap.objs.size = some _ := up (up (up (up (Heap.get?_push_size _ rfl))))
  rw [y2, y3, y4] at g5
  rw [y1, y2, hN] at g3
  rw [y3] at g4
  rw [y1] at g2
  rw [hN] at g1
  show _ ∧ _
  rw [y4]
  exact ⟨⟨_, g5, rfl⟩, n _ N rfl g5 g3 g4 ⟨_, g1, rfl, rfl⟩ ⟨_, g2, rfl, rfl⟩ fun c o x => up (up (up (up (up x))))⟩
end
end MG

set_option Elab.async false
set_option linter.all false
set_option maxRecDepth 100000
set_option maxHeartbeats 4000000
/-! MgZipO: zip of a list and a tuple, as a walk over plain data. -/
namespace MG
open PySem PySem.Spec PyProof.Rows L2
theorem sub4 {z TI TO i1 i2 c : Addr} (m : c ∈ [z, TO, i1, i2]) : c ∈ [z, TI, TO, i1, i2] := by
  simp only [List.mem_cons, List.not_mem_nil, or_false] at m ⊢
  rcases m with m | m | m | m <;> simp [m]
def SqG (k : Bool) (K : PySem.W.Frag) (H : Hp) (a : Addr) (xs : List V) : Prop := match k with
  | true => SqT K H a xs
  | false => SqL K H a xs
section
variable {X : Cx} {pins : List (Addr × Obj)} {σ : L2.St} {H : Hp} {s : Shared} {k : Bool} {a : Addr} {xs ys : List V}
theorem SqG.vals (I : Inv X pins σ H s) (q : SqG k X.K H a xs) : ∃ vs : List Value, Vals xs vs ∧ SqH k s.heap a vs.toArray ∧ a < s.heap.objs.size := by
  cases k
  · obtain ⟨vs, r, p, _⟩ := I.list q
    exact ⟨vs, r, p.isList, p.lt⟩
  · obtain ⟨vs, r, p, _⟩ := I.tuple q
    obtain ⟨o, ho, _⟩ := id p
    exact ⟨vs, r, p, Heap.lt_size ho⟩
theorem SqG.inj (I : Inv X pins σ H s) (q : SqG k X.K H a xs) (q' : SqG k X.K H a ys) : xs = ys := by
  cases k
  · exact I.list_inj q q'
  · exact I.tuple_inj q q'
end
/-- a and b as they stand at each turn, in new pairs -/
def ItG (K : PySem.W.Frag) (k1 k2 : Bool) (a b : Addr) : It where
  go i H := ∃ xs ys x y, SqG k1 K H a xs ∧ SqG k2 K H b ys ∧ xs[i]? = some x ∧ ys[i]? = some y
  yld i H v H' := ∃ T x y, v = .ref T ∧ H T = none ∧ H' = upd H T (.tup [x, y]) ∧ (∀ xs, SqG k1 K H a xs → xs[i]? = some x) ∧ ∀ ys, SqG k2 K H b ys → ys[i]? = some y
  stop i H := ∃ xs ys, SqG k1 K H a xs ∧ SqG k2 K H b ys ∧ (xs.length ≤ i ∨ ys.length ≤ i)
def StG (k1 k2 : Bool) (a b z TI TO i1 i2 : Addr) (i : Nat) (h : Heap) : Prop := IsZip h z TI TO .none ∧ IsPair h TI (.ref i1) (.ref i2) ∧ (∃ x y, IsPair h TO x y) ∧ ItH k1 h i1 a i ∧ ItH k2 h i2 b i
theorem turnG {P : Program} {w : World} {K : PySem.W.Frag} {elts : List Expr} {kk : Nat} {tp : Pos} {k1 k2 : Bool} {a b z TI TO i1 i2 : Addr} (D : ZipApart z TI TO i1 i2 a b) : Turn P w K (.Tuple elts kk tp) (ItG K k1 k2 a b) [z, TI, TO, i1, i2] z (StG k1 k2 a b z TI TO i1 i2) where
  mem := by simp
  self := fun A i s Q E st n => wpAny_pyIter_zip st.1 n
  keep := fun i h h' st f => by
    obtain ⟨g1, g2, ⟨x, y, g3⟩, g4, g5⟩ := st
    exact ⟨f z (by simp) _ g1, f TI (by simp) _ g2, ⟨x, y, f TO (by simp) _ g3⟩, g4.on (f i1 (by simp)), g5.on (f i2 (by simp))⟩
  obj := fun i h st c hc => by
    obtain ⟨g1, g2, ⟨x, y, g3⟩, ⟨o4, g4, -, d4⟩, ⟨o5, g5, -, d5⟩⟩ := st
    simp only [List.mem_cons, List.not_mem_nil, or_false] at hc
    rcases hc with rfl | rfl | rfl | rfl | rfl
    · exact ⟨_, g1, fun v q => by cases q⟩
    · exact ⟨_, g2, fun v q => by cases q⟩
    · exact ⟨_, g3, fun v q => by cases q⟩
    · exact ⟨o4, g4, fun v q => by rw [q] at d4; cases d4⟩
    · exact ⟨o5, g5, fun v q => by rw [q] at d5; cases d5⟩
  item := by
    rintro X rfl rfl rfl hc i pins s σ H E I hf ⟨g1, g2, ⟨x0, y0, g3⟩, g4, g5⟩ ⟨xs, ys, x, y, qx, qy, hx, hy⟩
    obtain ⟨vs, rv, p, _⟩ := SqG.vals I qx
    obtain ⟨ws, rw', p', _⟩ := SqG.vals I qy
    obtain ⟨u, hu, ru⟩ := rv.get hx
    obtain ⟨v, hv, rv'⟩ := rw'.get hy
    have zl : z < s.heap.objs.size := Heap.lt_size g1
    refine nx_zip (I.ok.hd hc) D g1 g2 g3 g4 g5 p p' (fun x1 y1 e1 e2 h' a1 a2 a3 a4 a5 a6 a7 => ?_) (fun en => ?_)
    · have e1 : u = x1 := by
        have : vs[i]? = some x1 := by simpa using e1
        rw [hu] at this; exact Option.some.inj this
      have e2 : v = y1 := by
        have : ws[i]? = some y1 := by simpa using e2
        rw [hv] at this; exact Option.some.inj this
      subst e1; subst e2
      refine ⟨_, rfl, wpAny_letOwnedTupleGo_zip (s := { s with heap := h' }) a1 fun h'' b1 sb => ?_⟩
      have g6 : h''.get? s.heap.objs.size = some { cls := .type "tuple", data := .seq #[u, v] } := (sb.2 _ (Nat.ne_of_gt zl)).trans a5
      have obj : ObjOk X.prog X.w (upd H s.heap.objs.size (.tup [x, y])) h'' s.heap.objs.size (.tup [x, y]) :=
        ⟨by show 2 ≤ sizeLine; rw [sizeLine_eq]; decide, [u, v], .cons ru (.cons rv' .nil), ⟨_, g6, rfl, _, rfl⟩⟩
      have J : Inv X pins σ (upd H s.heap.objs.size (.tup [x, y])) { s with heap := h'' } :=
        I.turnedNew (t' := s.toks) (ch := [z, TI, TO, i1, i2]) (fun c o nc q => (sb.2 c fun e => nc (by simp [e])).trans (a7 c o (fun m => nc (sub4 m)) q)) hf (Nat.le_refl _) obj
      refine ⟨.ref s.heap.objs.size, _, J, rfl, ⟨_, x, y, rfl, I.hok.fresh (Nat.le_refl _), rfl, fun l q => SqG.inj I qx q ▸ hx, fun l q => SqG.inj I qy q ▸ hy⟩, ⟨b1, ?_, ⟨u, v, ?_⟩, ?_, ?_⟩, fun c hm => ?_⟩
      · exact (sb.2 _ D.TIz).trans (a7 _ _ (by simp [D.TIz, D.TITO, D.TIi1, D.TIi2]) g2)
      · exact (sb.2 _ D.TOz).trans a2
      · exact a3.on fun o q => (sb.2 _ D.i1z).trans q
      · exact a4.on fun o q => (sb.2 _ D.i2z).trans q
      · have lt : c < s.heap.objs.size := by
          simp only [List.mem_cons, List.not_mem_nil, or_false] at hm
          rcases hm with rfl | rfl | rfl | rfl | rfl
          · exact zl
          · exact Heap.lt_size g2
          · exact Heap.lt_size g3
          · exact g4.elim fun _ q => Heap.lt_size q.1
          · exact g5.elim fun _ q => Heap.lt_size q.1
        rw [upd_ne (Nat.ne_of_lt lt)]
        exact (hf c hm).1
    · exfalso
      simp [hu, hv] at en
  done := by
    rintro X rfl rfl rfl hc i pins s σ H E I hf ⟨g1, g2, ⟨x0, y0, g3⟩, g4, g5⟩ ⟨xs, ys, qx, qy, en⟩
    obtain ⟨vs, rv, p, _⟩ := SqG.vals I qx
    obtain ⟨ws, rw', p', _⟩ := SqG.vals I qy
    have l1 := rv.length
    have l2 := rw'.length
    refine nx_zip (I.ok.hd hc) D g1 g2 g3 g4 g5 p p' (fun x1 y1 e1 e2 => ?_) fun _ h' kp => ?_
    · exfalso
      have e1 : vs[i]? = some x1 := by simpa using e1
      have e2 : ws[i]? = some y1 := by simpa using e2
      have := (List.getElem?_eq_some_iff.mp e1).1
      have := (List.getElem?_eq_some_iff.mp e2).1
      omega
    · exact ⟨rfl, I.turnedL (t' := s.toks) (ch := [z, TI, TO, i1, i2]) (fun c o nc q => kp c o (fun m => nc (sub4 m)) q) hf⟩
/-- the walk of zip(a, b), of whichever kinds -/
def iZipG (K : PySem.W.Frag) (ta : TA) : TI := fun σ H R => ta σ H fun vs H1 => ∃ a b xs ys k1 k2, vs = [.ref a, .ref b] ∧ SqG k1 K H1 a xs ∧ SqG k2 K H1 b ys ∧ R (ItG K k1 k2 a b) H1
theorem pi_zipG {X : Cx} {e e2 : Expr} {ta : TA} {p pos tp : Pos} {elts : List Expr} {kk : Nat} (hg : Gl X "zip") (hm : X.mg "zip" = none) (ha : PA X [e, e2] ta)
    (hs : starEach [e, e2] X.env = (false, eval e X.env) :: starEach [e2] X.env := by rfl) (hpl : (backTo pos (starEach [e2] X.env)).any (·.1) = false := by rfl) : PI X (.Tuple elts kk tp) (.Call (.Name "zip" p) [e, e2] [] pos) (iZipG X.K ta) := by
  refine ⟨fun pins s σ H R I h => Call_ (ld_blt I hg hm PyProof.Rows.boot_zip (PyProof.Rows.callWith_type1 (thn (ha.run pos pins s σ H _ I h) ?_) hs hpl))⟩
  rintro us s1 ⟨vs, H1, I1, r1, a, b, xs, ys, k1, k2, rfl, qx, qy, q⟩
  obtain ⟨_, _, rfl, ra, rr⟩ : ∃ u us', us = u :: us' ∧ RelV (.ref a) u ∧ Vals [.ref b] us' := by
    cases r1 with
    | cons r rr => exact ⟨_, _, rfl, r, rr⟩
  obtain ⟨_, rfl, rb⟩ := vals1 rr
  cases ra
  cases rb
  obtain ⟨vs, rv, p1, la⟩ := SqG.vals I1 qx
  obtain ⟨ws, rw', p2, lb⟩ := SqG.vals I1 qy
  refine cl_zip p1 p2 fun h' N hN b1 b2 b3 b4 b5 up => wpAny_pyIter_zip b1 ?_
  subst hN
  exact ⟨s1.heap.objs.size + 4, [s1.heap.objs.size + 4, s1.heap.objs.size + 2, s1.heap.objs.size + 3, s1.heap.objs.size, s1.heap.objs.size + 1], _, _, H1, rfl, I1.kept (t' := s1.toks) up, turnG (PySem.W.ktu_apart s1.heap.objs.size a b la lb), ⟨b1, b2, ⟨_, _, b3⟩, b4, b5⟩, fun c hcm => by
    have hle : s1.heap.objs.size ≤ c := by
      simp only [List.mem_cons, List.not_mem_nil, or_false] at hcm
      rcases hcm with rfl | rfl | rfl | rfl | rfl <;> first | exact Nat.le_refl _ | exact Nat.le_add_right _ _
    exact I1.fpOk hle (I1.hok.fresh hle), q⟩
end MG

set_option Elab.async false
set_option linter.all false
set_option maxRecDepth 100000
set_option maxHeartbeats 4000000
/-! MgZip: zip(a, b), walked, over plain data. -/
namespace MG
variable [Tbl]
open PySem PySem.Spec PyProof.Rows L2
def zipD (xs ys : List PyData) : List PyData := List.zipWith (fun a b => .tuple [a, b]) xs ys
def zipOp (d e : PyData) (Φ : List PyData → Prop) : Prop := match d, e with
  | .list xs, .list ys => Φ (zipD xs ys)
  | .tuple xs, .tuple ys => Φ (zipD xs ys)
  | .tuple xs, .list ys => Φ (zipD xs ys)
  | .list xs, .tuple ys => Φ (zipD xs ys)
  | _, _ => False
def wiZip (wa wb : WE) : WI := fun ε Φ => wa ε fun d => wb ε fun e => zipOp d e Φ
section
variable {K : PySem.W.Frag} {T : Option Addr} {F : Hp} {a b : Addr} {xs ys : List V} {ds es : List PyData}
omit [Tbl] in
theorem zipD_len : (zipD ds es).length = min ds.length es.length := by unfold zipD; rw [List.length_zipWith]
theorem zip_step {F2 H2 : Hp} {x : V} {H3 : Hp} {i : Nat} (hi : i < (zipD ds es).length) (r1 : RpAll K F2 xs ds) (r2 : RpAll K F2 ys es) (W : Wd T F2 H2) (y : YPair (fun i => xs[i]?) (fun i => ys[i]?) i H2 x H3) : ∃ F3 d, (zipD ds es)[i]? = some d ∧ Wd T F3 H3 ∧ Ex T F2 H2 F3 H3 ∧ Rp K F3 x d := by
  obtain ⟨t, u, v, rfl, ht, rfl, h1, h2⟩ := y
  obtain ⟨d, d1, d2⟩ := r1.get h1
  obtain ⟨e, e1, e2⟩ := r2.get h2
  obtain ⟨W', X'⟩ := new_fz (o := .tup [u, v]) W ht
  refine ⟨_, .tuple [d, e], ?_, W', X', .tup (SqT.of upd_same) (by show 2 ≤ sizeLine; rw [sizeLine_eq]; decide) (.cons (Rp.up X'.ff _ _ d2) (.cons (Rp.up X'.ff _ _ e2) .nil))⟩
  unfold zipD
  rw [List.getElem?_zipWith, d1, e1]
theorem walk_zipG {k1 k2 : Bool} : Walk (ItG K k1 k2 a b) (min xs.length ys.length) (fun H => SqG k1 K H a xs ∧ SqG k2 K H b ys) (YPair (fun i => xs[i]?) (fun i => ys[i]?)) where
  goes i H hi q := ⟨xs, ys, _, _, q.1, q.2, List.getElem?_eq_getElem (by omega), List.getElem?_eq_getElem (by omega)⟩
  stops H q := ⟨xs, ys, q.1, q.2, by omega⟩
  yields i H v H' _ q y := by
    obtain ⟨t, x, z, h1, h2, h3, h4, h5⟩ := y
    exact ⟨t, x, z, h1, h2, h3, h4 xs q.1, h5 ys q.2⟩
/-- one side of the pairs -/
def SdG (k : Bool) (K : PySem.W.Frag) (T : Option Addr) (F : Hp) (a : Addr) (xs : List V) : Prop := xs.length ≤ sizeLine ∧ ∀ F2 H2, Same F F2 → Wd T F2 H2 → SqG k K H2 a xs
theorem it_zipG {k1 k2 : Bool} (s1 : SdG k1 K T F a xs) (r1 : RpAll K F xs ds) (s2 : SdG k2 K T F b ys) (r2 : RpAll K F ys es) : ItOk K T (ItG K k1 k2 a b) (zipD ds es) F := by
  have hl : (zipD ds es).length = min xs.length ys.length := by rw [zipD_len, r1.length, r2.length]
  refine ⟨by rw [hl]; have := s1.1; omega, _, _, hl ▸ walk_zipG (K := K) (a := a) (b := b) (xs := xs) (ys := ys) (k1 := k1) (k2 := k2), fun F2 H2 f W => ⟨s1.2 F2 H2 f W, s2.2 F2 H2 f W⟩, fun i H2 x H3 F2 hi f W y => ?_⟩
  exact zip_step hi (RpAll.up f _ _ r1) (RpAll.up f _ _ r2) W y
theorem SdG.l (e : F a = some (.lst xs)) (z : xs.length ≤ sizeLine) : SdG false K T F a xs := ⟨z, fun F2 H2 f W => SqL.of (W.fz _ _ (f _ _ e))⟩
theorem SdG.t (e : SqT K F a xs) (z : xs.length ≤ sizeLine) : SdG true K T F a xs := ⟨z, fun F2 H2 f W => same_sqT W.fz (same_sqT f e)⟩
theorem SdG.now {k : Bool} {H : Hp} (s : SdG k K T F a xs) (W : Wd T F H) : SqG k K H a xs := s.2 _ _ (fun _ _ e => e) W
theorem side_l {v : V} (D : Rp K F v (.list ds)) : ∃ a xs, v = .ref a ∧ SdG false K T F a xs ∧ RpAll K F xs ds := by
  cases D with
  | lst e z r => exact ⟨_, _, rfl, SdG.l e z, r⟩
theorem side_t {v : V} (D : Rp K F v (.tuple ds)) : ∃ a xs, v = .ref a ∧ SdG true K T F a xs ∧ RpAll K F xs ds := by
  cases D with
  | tup e z r => exact ⟨_, _, rfl, SdG.t e z, r⟩
end
section
variable {X : Cx} {K : PySem.W.Frag} {T : Option Addr} {a b : Expr} {wa wb : WE} {p pos tpos : Pos} {elts : List Expr} {kk : Nat}
theorem mi_zip (hk : X.K = K) (hm : X.mg "zip" = none) (ha : PE X a (tD K T wa)) (hb : PE X b (tD K T wb)) (hg : Gl X "zip" := by rfl) (hs : starEach [a, b] X.env = (false, eval a X.env) :: starEach [b] X.env := by rfl) (hs2 : starEach [b] X.env = (false, eval b X.env) :: starEach [] X.env := by rfl)
    (hpl : (backTo pos (starEach [b] X.env)).any (·.1) = false := by rfl) : PI X (.Tuple elts kk tpos) (.Call (.Name "zip" p) [a, b] [] pos) (tDI K T (wiZip wa wb)) := by
  subst hk
  refine pi_imp (pi_zipG hg hm (pa_cons ha (pa_cons hb pa_nil hs2) hs) hs hpl) fun σ H R ⟨H0, ε, F, Φ, S, W, hw, k⟩ => ⟨H0, ε, F, _, S, W, hw, fun d v F1 H1 hd W1 X1 D1 => ⟨H0, ε, F1, _, S.ex X1, W1, hd, fun e u F2 H2 he W2 X2 D2 => ?_⟩⟩
  have D1' := Rp.up X2.ff _ _ D1
  have fin : ∀ {k1 k2 : Bool} {a b xs ys ds es}, v = .ref a → u = .ref b → SdG k1 X.K T F2 a xs → SdG k2 X.K T F2 b ys → RpAll X.K F2 xs ds → RpAll X.K F2 ys es → Φ (zipD ds es) → _ := fun {k1 k2 a b xs ys ds es} e1 e2 s1 s2 r1 r2 q => (⟨a, b, xs, ys, k1, k2, by rw [e1, e2], s1.now W2, s2.now W2, k _ _ F2 H2 q W2 (X1.trans X2) (it_zipG s1 r1 s2 r2)⟩ : ∃ a b xs ys k1 k2, [v, u] = [.ref a, .ref b] ∧ SqG k1 X.K H2 a xs ∧ SqG k2 X.K H2 b ys ∧ R (ItG X.K k1 k2 a b) H2)
  unfold zipOp at he
  split at he
  · obtain ⟨a, xs, e1, s1, r1⟩ := side_l (T := T) D1'
    obtain ⟨b, ys, e2, s2, r2⟩ := side_l (T := T) D2
    exact fin e1 e2 s1 s2 r1 r2 he
  · obtain ⟨a, xs, e1, s1, r1⟩ := side_t (T := T) D1'
    obtain ⟨b, ys, e2, s2, r2⟩ := side_t (T := T) D2
    exact fin e1 e2 s1 s2 r1 r2 he
  · obtain ⟨a, xs, e1, s1, r1⟩ := side_t (T := T) D1'
    obtain ⟨b, ys, e2, s2, r2⟩ := side_l (T := T) D2
    exact fin e1 e2 s1 s2 r1 r2 he
  · obtain ⟨a, xs, e1, s1, r1⟩ := side_l (T := T) D1'
    obtain ⟨b, ys, e2, s2, r2⟩ := side_t (T := T) D2
    exact fin e1 e2 s1 s2 r1 r2 he
  · exact he.elim
end
end MG

set_option Elab.async false
set_option linter.all false
set_option maxRecDepth 100000
set_option maxHeartbeats 4000000
/-! MgHead: the head's facts: names, tuples of the module, defs, tables of code objects. -/
namespace MG
open PySem PySem.Spec PyProof.Rows L2 He
section
variable {fa : List Fa} {tb : List Tb} {fn : List DefD} {tf : List Defn} {w : World} {h : Heap} {K : PySem.W.Frag}
theorem SaysM.fact (c : SaysM fa tb fn tf w h K) (i : Nat) {f : Fa} (e : fa[i]? = some f := by rfl) : f.ok K = true := c.t.d.fact i e
theorem SaysM.def_ (c : SaysM fa tb fn tf w h K) (i : Nat) {d : DefD} (e : fn[i]? = some d := by rfl) : ∃ fd, FunD K d.name d.qual d.params d.body d.scope (d.dvs K) (d.kws K) (fAd K d.at_) fd := c.t.d.def_ i e
theorem SaysM.two (c : SaysM fa tb fn tf w h K) : (tb.all fun q => tupB K q.1 q.2) = true ∧ (tf.map fun p => (cT K p).2).Nodup := by
  obtain ⟨h1, h2⟩ := ba (show ((tb.all fun q => tupB K q.1 q.2) && decide ((tf.map fun p => (cT K p).2).Nodup)) = true from c.more)
  exact ⟨h1, of_decide_eq_true h2⟩
theorem SaysM.table (c : SaysM fa tb fn tf w h K) (i : Nat) {q : Tb} (e : tb[i]? = some q := by rfl) : tupB K q.1 q.2 = true := List.all_eq_true.mp c.two.1 q (List.mem_of_getElem? e)
/-- what a def with a lambda wants of its code -/
structure LamD (tb : List (Addr × Str)) (base : Heap) (mg : Str → Option Value) (fd : FuncData) (x : Str) : Prop where
  ex : ∃ c P, fd.code = .ref c ∧ LamX.TabB base mg c P ∧ (P, lamName x) ∈ tb ∧ ∀ q ∈ tb, q.1 = P → q.2 = lamName x
theorem code_at {x qual : Str} {params : Arguments} {body : List Stmt} {scope : Scope} {dvs : List V} {kws : List (Str × V)} {fd : FuncData} {p : Str × Option Str} (F : FunD K x qual params body scope dvs kws (fAd K p) fd) : fd.code = .ref (codeOf K p) := by
  obtain ⟨oc, od, dV, kV, doc, pm, an, cdv, ct, osl, e, lk, hcd, _, _⟩ := F.ex
  obtain ⟨c, rfl⟩ := codeIn_ref hcd
  have e2 : fd.code = .ref c := by rw [e]
  rw [e2, codeOf_eq lk e2]
theorem nodup_snd {tf : List Defn} (nd : (tf.map fun p => (cT K p).2).Nodup) {p q : Defn} (hp : p ∈ tf) (hq : q ∈ tf) (e : (cT K q).2 = (cT K p).2) : q = p := by
  induction tf with
  | nil => cases hp
  | cons a l ih =>
    rw [List.map_cons, List.nodup_cons] at nd
    rcases List.mem_cons.mp hp with e1 | hp
    · rcases List.mem_cons.mp hq with e2 | hq
      · rw [e1, e2]
      · exact absurd (List.mem_map.mpr ⟨q, hq, by rw [e, e1]⟩) nd.1
    · rcases List.mem_cons.mp hq with e2 | hq
      · exact absurd (List.mem_map.mpr ⟨p, hp, by rw [← e, e2]⟩) nd.1
      · exact ih nd.2 hp hq
theorem SaysM.lam (c : SaysM fa tb fn tf w h K) {base : Heap} {mg : Str → Option Value} {fd : FuncData} {p : Defn} (TB : ∀ q ∈ tf.map (cT K), LamX.TabB base mg q.1 q.2) (hp : p ∈ tf) (e : fd.code = .ref (codeOf K p)) : LamD (tbOf tf K) base mg fd p.1 := by
  refine ⟨(cT K p).1, (cT K p).2, e, TB _ (List.mem_map.mpr ⟨p, hp, rfl⟩), List.mem_map.mpr ⟨p, hp, rfl⟩, fun q hq eq => ?_⟩
  obtain ⟨p', hp', rfl⟩ := List.mem_map.mp hq
  have := nodup_snd c.two.2 hp hp' eq
  rw [this]
end
/-- a def with a lambda -/
theorem Df.mkL [Tbl] {P : Program} {w : World} {K : PySem.W.Frag} {mg : Str → Option Value} {base : Heap} {x : Str} {k : Nat} {b : WS} {qual : Str} {params : Arguments} {body : List Stmt} {scope : Scope} {f : Addr} {fd : FuncData} {N ps : List Str} (L : LamD Tbl.tb base mg fd qual) (F : FunD K x qual params body scope [] [] f fd) (g : mg x = some (.ref f)) (S : FnScope N ps scope)
    (hb : ∀ (kV doc pm : Value) (an : Option Addr) (cdv ct : Value) (us : List Value), us.length = ps.length → bindArgs (PySem.W.fnOf x qual params body scope .none kV doc pm an cdv ct) ⟨us, []⟩ = pure (ps.zip us))
    (h : ∀ (c Pt : Addr), LamX.TabB base mg c Pt → (Pt, lamName qual) ∈ Tbl.tb → (∀ q ∈ Tbl.tb, q.1 = Pt → q.2 = lamName qual) → ∀ (A : Around) (outer : List Env) (s : Shared) (H : Hp) (E : XK), Room k (A.deeper (envOfC qual scope s.heap.objs.size f (.ref c))) → PSs (cxOf CX0 P w K mg base N qual scope f (.ref c) A outer s H E).nox body (sD K Option.none b)) :
    Df P w K mg base x (k + 1) ps.length (wRun N.length b) := by
  obtain ⟨c, Pt, ec, TB, hT, hU⟩ := L.ex
  refine ⟨f, fd, ps, ?_, g, F.kp, F.bindsN hb⟩
  obtain ⟨oc, od, dV, kV, doc, pm, an, cdv, ct, osl, rfl, lk, hcd, _, _⟩ := F.ex
  have ec' : cdv = .ref c := ec
  subst ec'
  exact fn_of lk hcd S (fun vs H Q E q => q.1) fun A outer s H vs Q E hr q => ⟨_, PSs.nox (h c Pt TB hT hU A outer s H E hr), fn_start q⟩
/-! ### the module's tuples -/
def dvOk : Dv → Bool
  | .non => true
  | .bl _ => true
  | .int _ => true
  | .str x => sOk x
  | _ => false
def dvD : Dv → PyData
  | .non => .none
  | .bl b => .bool b
  | .int i => .int i
  | .str x => .str x
  | _ => .none
theorem dv_rp {K : PySem.W.Frag} {F : Hp} : ∀ {d : Dv}, dvOk d = true → Rp K F (d.v K) (dvD d)
  | .non, _ => .non
  | .bl b, _ => .bl b
  | .int i, _ => .int i
  | .str x, h => .str h
  | .byt _, h => nomatch h
  | .flt _, h => nomatch h
  | .ty _, h => nomatch h
  | .glo _, h => nomatch h
  | .adr _, h => nomatch h
theorem dvs_rp {K : PySem.W.Frag} {F : Hp} : ∀ {ds : List Dv}, ds.all dvOk = true → RpAll K F (ds.map (Dv.v K)) (ds.map dvD)
  | [], _ => .nil
  | d :: ds, h => by
    rw [List.all_cons, Bool.and_eq_true] at h
    exact .cons (dv_rp h.1) (dvs_rp h.2)
theorem ctT_of {K : PySem.W.Frag} {h : Heap} {mg : Str → Option Value} {x : Str} {dv : List Dv} {ds : List PyData} (X : K.In h) (G : h.Ns mainGlobals mg) (g : (Fa.glo x).ok K = true) (t : tupB K x dv = true) (o : dv.all dvOk = true) (z : dv.length ≤ 1000) (e : ds = dv.map dvD) : CtT K mg x ds := by
  subst e
  exact ⟨ga K x, dv.map (Dv.v K), glo_ok X G g, fun H => tupB_ok t H, by rw [List.length_map, sizeLine_eq]; omega, fun F => dvs_rp o⟩
theorem ctS_of {K : PySem.W.Frag} {h : Heap} {mg : Str → Option Value} {x z : Str} (X : K.In h) (G : h.Ns mainGlobals mg) (g : (Fa.str x z).ok K = true) (o : sOk z = true) : CtS mg x z := ⟨o, str_ok X G g⟩
/-- the law's end -/
theorem law_end {XP : (Str → Option Value) → Heap → Prop} {l : PySem.W.OpenLaw} {k : Nat} {q : Program} {loose : List Str} {d : DefRec} {fa : List Fa} {tb : List Tb} {fn : List DefD} {tf : List Defn} {x nm : Str} (hn : l.most = some 63) (hdf : d.params.defaults = []) (hr : Room k callerA) (hd : d.name = nm)
    (F : ∀ (w : World) (K : PySem.W.Frag) (mg : Str → Option Value) (fA : Addr) (h : Heap), K.In h → h.Ns mainGlobals mg → mg nm = some (.ref fA) → SaysM fa tb fn tf w h K → ∃ fd : FuncData, (∀ (s : Shared) (v : Value), BindsTo s fd ⟨[v], []⟩ [(x, v)]) ∧ ∀ base : Heap, (∀ q ∈ tf.map (cT K), LamX.TabB base mg q.1 q.2) → FnOk l.prog w K mg base CX0 k fA fd [x] (@spLaw ⟨tbOf tf K⟩ K)) :
    PySem.W.WalkO q loose XP (fun w h => ∃ K : PySem.W.Frag, K.In h ∧ SaysM fa tb fn tf w h K) l.row.toRowW d [] (fun f vs => PySem.call f vs) := by
  subst hd
  refine LamX.walk_ofTsE (n := 63) (k := k) (x := x) (CX := fun _ => L2.CX0) hn (by rw [sizeLine_eq]; decide) hdf hr (fun w mg fA h Y G hmg => ?_) (fun _ _ _ _ _ z => z)
  obtain ⟨K, KX, c⟩ := Y
  obtain ⟨fd, hb, hF⟩ := F w K mg fA h KX G hmg c
  refine ⟨K, KX, fd, tf.map (cT K), @spLaw ⟨tbOf tf K⟩ K, fun p hp => ?_, fun p hp => ?_, fun p hp => ?_, hb, fun H a ns hl _ hT hS => ⟨a, ns, rfl, hl, fun p hp => ?_, hS, fun _ => rfl⟩, fun base _ _ TB => hF base TB⟩
  · obtain ⟨p', hp', rfl⟩ := List.mem_map.mp hp
    exact c.empty p' hp'
  · obtain ⟨p', hp', rfl⟩ := List.mem_map.mp hp
    exact c.out p' hp'
  · obtain ⟨p', hp', rfl⟩ := List.mem_map.mp hp
    exact PySem.W.codeHd_of_K KX (c.hd p' hp')
  · obtain ⟨p', hp', rfl⟩ := List.mem_map.mp hp
    exact LamX.TabS.nil (hT _ (List.mem_map.mpr ⟨p', hp', rfl⟩))
end MG

set_option Elab.async false
set_option linter.all false
set_option maxRecDepth 100000
set_option maxHeartbeats 4000000
/-! MgRetN: defs that give a list of the caller's own: some statements, then return of a new list. -/
namespace MG
variable [Tbl]
open PySem PySem.Spec PyProof.Rows L2
abbrev NS := EV → (List PyData → Prop) → Prop
abbrev NF := List PyData → (List PyData → Prop) → Prop
def wRetL (w : WA) : NS := fun ε Φ => w ε Φ
def wSeqL (a : WS) (b : NS) : NS := fun ε Φ => a ε { nx := fun ε1 => b ε1 Φ, rt := fun _ _ => False, bk := fun _ => False, ct := fun _ => False }
def wRunL (N : Nat) (w : NS) : NF := fun ds Φ => w (ds.map SV.val ++ List.replicate (N - ds.length) SV.un) Φ
def wFnL (u : NF) (wa : WA) : WA := fun ε Φ => wa ε fun ds => u ds Φ
def sN (K : PySem.W.Frag) (T : Option Addr) (w : NS) : TS := fun D σ H => ∃ H0 F0 ε F Φ, Sat K T H0 ε σ F H ∧ Wd T F H ∧ Ex T F0 H0 F H ∧ w ε Φ ∧
  ∀ ds a vs F' H', Φ ds → Wd T F' H' → Ex T F0 H0 F' H' → H0 a = none → F' a = none → T ≠ some a → H' a = some (.lst vs) → vs.length ≤ sizeLine → RpAll K F' vs ds → D.rt (.ref a) H'
section
variable {X : Cx} {K : PySem.W.Frag} {T : Option Addr} {pos : Pos} {e : Expr} {st : Stmt} {rest : List Stmt}
theorem sn_ret {w : WA} (he : PE X e (tN K T w)) : PSs X [.Return (some e) pos] (sN K T (wRetL w)) :=
  pss_one (ps_imp (ps_ret he) fun D σ H ⟨H0, F0, ε, F, Φ, S, W, X0, hw, k⟩ => ⟨H0, ε, F, _, S, W, hw, fun ds a vs F1 H1 hd W1 X1 ha hF hT h z r =>
    k ds a vs F1 H1 hd W1 (X0.trans X1) (Classical.byContradiction fun n => X0.dom a n ha) hF hT h z r⟩)
theorem sn_cons {a : WS} {b : NS} (h1 : PS X st (sD K T a)) (h2 : PSs X rest (sN K T b)) : PSs X (st :: rest) (sN K T (wSeqL a b)) :=
  pss_imp (pss_cons h1 h2) fun D σ H ⟨H0, F0, ε, F, Φ, S, W, X0, hw, k⟩ => ⟨H0, F0, ε, F, _, S, W, X0, hw, fun ε1 σ1 F1 H1 h1 S1 W1 X1 => ⟨H0, F0, ε1, F1, Φ, S1, W1, X1, h1, k⟩, fun _ _ _ _ _ _ q => q.elim, fun _ _ _ _ q => q.elim, fun _ _ _ _ q => q.elim⟩
/-- return x, x a list of one's own -/
def wRetO (i : Nat) : NS := fun ε Φ => ∃ ds, ε[i]? = some (SV.own ds) ∧ Φ ds
theorem sn_retO {x : Str} {px : Pos} (i : Nat) (hN : X.N[i]? = some x := by rfl) (hv : Vis X.env.scope x := by first | exact Or.inl rfl | exact Or.inr (Or.inl rfl) | exact Or.inr (Or.inr rfl)) (hd : (x == ("__debug__" : Str)) = false := by decide)
    (hcd : (x == ("__classdict__" : Str)) = false := by decide) : PSs X [.Return (some (.Name x px)) pos] (sN K T (wRetO i)) :=
  pss_one (ps_imp (ps_ret (pe_var hN hv hd hcd)) fun D σ H ⟨H0, F0, ε, F, Φ, S, W, X0, ⟨ds, hε, hw⟩, k⟩ => by
    obtain ⟨a, vs, h1, h2, z, r, hF, h0, hT⟩ := S.own i ds hε
    exact ⟨.ref a, h1, k ds a vs F H hw W X0 h0 hF hT h2 z r⟩)
/-! ### a list of one's own, lent to a test -/
theorem sat_lend {H0 F H : Hp} {ε : EV} {σ : L2.St} (S : Sat K T H0 ε σ F H) (W : Wd T F H) {i : Nat} {ds : List PyData} (hε : ε[i]? = some (SV.own ds)) :
    ∃ F1, Sat K T H0 (ε.set i (.val (.list ds))) σ F1 H ∧ Wd T F1 H ∧ ∀ F' H', Wd T F' H' → Ex T F1 H F' H' → Wd T F H' ∧ Ex T F H F H' := by
  obtain ⟨a, vs, h1, h2, z, r, hF, h0, hT⟩ := S.own i ds hε
  have hi : i < ε.length := by
    rcases Nat.lt_or_ge i ε.length with h | h
    · exact h
    · rw [List.getElem?_eq_none h] at hε; cases hε
  have ff : Same F (upd F a (.lst vs)) := fun b u q => by rw [upd_ne (ne_of_none q hF)]; exact q
  have self : ∀ s : SV, (ε.set i s)[i]? = some s := fun s => List.getElem?_set_self hi
  have other : ∀ {j : Nat} {s : SV}, i ≠ j → (ε.set i s)[j]? = ε[j]? := fun n => List.getElem?_set_ne n
  refine ⟨upd F a (.lst vs), ⟨by rw [List.length_set]; exact S.len, fun j d h => ?_, fun j ds' h => ?_, fun j l b d1 d2 hjl g1 g2 g3 => ?_, fun j o h => ?_, fun j f h => S.fns j f (fn_set (by simp) h).2, (S.dct.see i (by simp)).frz h2 hF⟩, ⟨fun b u q => ?_, ?_, W.tabs, nt_upd W.nt fun _ z => nomatch z⟩, fun F' H' W' X' => ⟨⟨fun b u q => W'.fz _ _ (X'.ff _ _ (ff _ _ q)), ?_, W'.tabs, W.nt⟩, ⟨X'.hh, X'.dom, fun _ _ q => q, fun _ _ => rfl, X'.tl⟩⟩⟩
  · by_cases hij : i = j
    · subst hij; rw [self] at h; cases h
      exact ⟨_, h1, .lst upd_same z (RpAll.up ff _ _ r)⟩
    · rw [other hij] at h
      obtain ⟨v, k1, k2⟩ := S.val j d h
      exact ⟨v, k1, Rp.up ff _ _ k2⟩
  · by_cases hij : i = j
    · subst hij; rw [self] at h; cases h
    · rw [other hij] at h
      obtain ⟨b, ws, k1, k2, k3, k4, k5, k6, k7⟩ := S.own j ds' h
      have ne : b ≠ a := fun q => S.sep i j a ds ds' hij hε h h1 (q ▸ k1)
      exact ⟨b, ws, k1, k2, k3, RpAll.up ff _ _ k4, by rw [upd_ne ne]; exact k5, k6, k7⟩
  · have n1 : i ≠ j := fun q => by subst q; rw [self] at g1; cases g1
    have n2 : i ≠ l := fun q => by subst q; rw [self] at g2; cases g2
    rw [other n1] at g1
    rw [other n2] at g2
    exact S.sep j l b d1 d2 hjl g1 g2 g3
  · by_cases hij : i = j
    · subst hij; rw [self] at h; cases h
    · rw [other hij] at h
      obtain ⟨t, l, p, c, k1, k2, k3, k4⟩ := S.tape j o h
      exact ⟨t, l, p, c, k1, k2, k3, fun ns q => ff _ _ (k4 ns q)⟩
  · by_cases n : b = a
    · subst n; rw [upd_same] at q; rw [h2]; exact q
    · rw [upd_ne n] at q; exact W.fz _ _ q
  · cases T with
    | none => trivial
    | some t =>
      obtain ⟨f, l, ns, p, c, h1, h2, h3⟩ := W.tape
      have ta : t ≠ a := fun q => hT (by rw [q])
      exact ⟨by rw [upd_ne ta]; exact f, l, ns, p, c, h1, ff _ _ h2, h3⟩
  · cases T with
    | none => trivial
    | some t =>
      obtain ⟨f, l, ns, p, c, h1, h2, h3⟩ := W.tape
      obtain ⟨p', c', h4⟩ := X'.tl t l p c rfl h1
      exact ⟨f, l, ns, p', c', h4, h2, h3⟩
/-- the list in slot i is read by the test, and one's own behind it -/
def wLend (i : Nat) (t : WB) : WB := fun ε Φ => ∃ ds, ε[i]? = some (SV.own ds) ∧ t (ε.set i (.val (.list ds))) Φ
theorem mt_lend {c : Expr} {t : WB} (i : Nat) (h : PT X c (tDB K T t)) : PT X c (tDB K T (wLend i t)) :=
  pt_imp h fun σ H Q ⟨H0, ε, F, Φ, S, W, ⟨ds, hε, hw⟩, k⟩ => by
    obtain ⟨F1, S1, W1, back⟩ := sat_lend S W hε
    exact ⟨H0, _, F1, Φ, S1, W1, hw, fun b F' H' hb W' X' => k b F H' hb (back F' H' W' X').1 (back F' H' W' X').2⟩
end
def spN (K : PySem.W.Frag) (n : Nat) (w : NF) : Sp := fun vs H Q _ => vs.length = n ∧ ∃ ds F Φ, Wd none F H ∧ RpAll K F vs ds ∧ w ds Φ ∧
  ∀ es a ws F' H', Φ es → Wd none F' H' → Ex none F H F' H' → H a = none → F' a = none → H' a = some (.lst ws) → ws.length ≤ sizeLine → RpAll K F' ws es → Q (.ref a) H'
theorem fnN_start {K : PySem.W.Frag} {N : List Str} {n : Nat} {w : NS} {vs : List V} {H : Hp} {Q : VK} {E : XK} (h : spN K n (wRunL N.length w) vs H Q E) : sN K none w { nx := fun _ H' => Q .non H', rt := Q } (L2.start N vs) H := by
  obtain ⟨hl, ds, F, Φ, W, r, hw, k⟩ := h
  exact ⟨H, F, _, F, _, sat_start r, W, Ex.refl, hw, fun es a ws F' H' h' W' X' ha hF _ q z r' => k es a ws F' H' h' W' X' ha hF q z r'⟩
/-- the def x of the text gives the caller a list of its own -/
structure DfN (P : Program) (w : World) (K : PySem.W.Frag) (mg : Str → Option Value) (base : Heap) (x : Str) (k n : Nat) (u : NF) : Prop where
  ex : ∃ (f : Addr) (fd : FuncData) (ps : List Str), FnOk P w K mg base CX0 k f fd ps (spN K n u) ∧ mg x = some (.ref f) ∧ PySem.W.keepIn K (.ref f) = true ∧ Binds K fd ps []
theorem DfN.mk' {P : Program} {w : World} {K : PySem.W.Frag} {mg : Str → Option Value} {base : Heap} {x : Str} {k : Nat} {b : NS} {qual : Str} {params : Arguments} {body : List Stmt} {scope : Scope} {f : Addr} {fd : FuncData} {N ps : List Str} (F : FunD K x qual params body scope [] [] f fd) (g : mg x = some (.ref f)) (S : FnScope N ps scope)
    (hb : ∀ (kV doc pm : Value) (an : Option Addr) (cdv ct : Value) (us : List Value), us.length = ps.length → bindArgs (PySem.W.fnOf x qual params body scope .none kV doc pm an cdv ct) ⟨us, []⟩ = pure (ps.zip us))
    (h : ∀ (cdv : Value) (A : Around) (outer : List Env) (s : Shared) (H : Hp) (E : XK), Room k (A.deeper (envOfC qual scope s.heap.objs.size f cdv)) → PSs (cxOf CX0 P w K mg base N qual scope f cdv A outer s H E).nox body (sN K none b)) :
    DfN P w K mg base x (k + 1) ps.length (wRunL N.length b) :=
  ⟨f, fd, ps, F.ok S (fun vs H Q E q => q.1) (fun cdv A outer s H vs Q E hr q => ⟨_, PSs.nox (h cdv A outer s H E hr), fnN_start q⟩), g, F.kp, F.bindsN hb⟩
theorem mn_dn {X : Cx} {K : PySem.W.Frag} {T : Option Addr} {pos p : Pos} {e : Expr} {es : List Expr} {x : Str} {k n : Nat} {u : NF} {wa : WA} (hk : X.K = K) (D : DfN X.prog X.w K X.mg X.base x k n u) (hr : Room k X.A) (ha : PA X (e :: es) (tDA K T n wa))
    (hg : Gl X x := by rfl) (hdb : (x == ("__debug__" : Str)) = false := by decide) (he : starEach (e :: es) X.env = (false, eval e X.env) :: starEach es X.env := by rfl) (hpl : (backTo pos (starEach es X.env)).any (·.1) = false := by rfl) : PE X (.Call (.Name x p) (e :: es) [] pos) (tN K T (wFnL u wa)) := by
  subst hk
  obtain ⟨f, fd, ps, h1, h2, h3, h4⟩ := D.ex
  exact pe_imp (pe_call h1 hr hg h2 h3 h4 .nil pass0 ha hdb he hpl) fun σ H Q ⟨H0, ε, F0, Φ, S, W, hw, k⟩ => ⟨H0, ε, F0, _, S, W, hw, fun ds vs F1 H1 hd hl W1 X1 D1 =>
    ⟨by rw [List.append_nil, D1.length]; exact hl, ds, F1, Φ, W1.weak, by rw [List.append_nil]; exact D1, hd, fun es a ws F' H' hΦ W' X' ha hF q z r => by
      have hT : T ≠ some a := fun q => by
        have tp := W1.tape
        rw [q] at tp
        obtain ⟨_, _, _, _, _, t1, _⟩ := tp
        rw [ha] at t1
        cases t1
      exact k es a ws F' H' hΦ (W1.back W' X') (X1.trans X'.weak) (Classical.byContradiction fun n => X1.dom a n ha) hF hT q z r⟩⟩
end MG

set_option Elab.async false
set_option linter.all false
set_option maxRecDepth 100000
set_option maxHeartbeats 4000000
/-! MgFnV: defs that are handed a def: data first, then a def of the text, which the body calls by the local's name. -/
namespace MG
variable [Tbl]
open PySem PySem.Spec PyProof.Rows L2
/-- data, then the def at f -/
def tDAF (K : PySem.W.Frag) (T : Option Addr) (n : Nat) (f : Addr) (w : WA) : TA := fun σ H Q => ∃ H0 ε F Φ, Sat K T H0 ε σ F H ∧ Wd T F H ∧ w ε Φ ∧ ∀ ds vs F' H', Φ ds → ds.length = n → Wd T F' H' → Ex T F H F' H' → RpAll K F' vs ds → Q (vs ++ [.ref f]) H'
def wRunF (N : Nat) (b : Addr → WS) : WF := fun ds Φ => ∀ f, b f (ds.map SV.val ++ SV.fn f :: List.replicate (N - (ds.length + 1)) SV.un) { nx := fun _ => Φ .none, rt := fun _ => Φ, bk := fun _ => False, ct := fun _ => False }
def wFnS (i : Nat) (f : Addr) (u : WF) (wa : WA) : WE := fun ε Φ => ε[i]? = some (SV.fn f) ∧ wa ε fun ds => u ds Φ
section
variable {X : Cx} {K : PySem.W.Frag} {T : Option Addr} {pos p : Pos} {e : Expr} {es : List Expr} {f : Addr} {we : WE}
theorem maf_nil {x : Str} (hm : X.mg x = some (.ref f)) (hg : Gl X x := by rfl) (hd : (x == ("__debug__" : Str)) = false := by decide) (hs : starEach [.Name x p] X.env = (false, eval (.Name x p) X.env) :: starEach [] X.env := by rfl) : PA X [.Name x p] (tDAF K T 0 f wANil) :=
  pa_imp (pa_cons (pe_glob (v := .ref f) hg hm (show Value.ref f = Value.ref f from rfl) hd) pa_nil hs) fun σ H Q ⟨H0, ε, F, Φ, S, W, hw, k⟩ => k [] [] F H hw rfl W Ex.refl .nil
theorem maf_cons {n : Nat} {wr : WA} (ha : PE X e (tD K T we)) (hr : PA X es (tDAF K T n f wr)) (hs : starEach (e :: es) X.env = (false, eval e X.env) :: starEach es X.env := by rfl) : PA X (e :: es) (tDAF K T (n + 1) f (wACons we wr)) :=
  pa_imp (pa_cons ha hr hs) fun σ H Q ⟨H0, ε, F, Φ, S, W, hw, k⟩ => ⟨H0, ε, F, _, S, W, hw, fun d v F1 H1 hd W1 X1 D1 => ⟨H0, ε, F1, _, S.ex X1, W1, hd, fun ds vs F2 H2 hds hl W2 X2 D2 => k (d :: ds) (v :: vs) F2 H2 hds (congrArg (· + 1) hl) W2 (X1.trans X2) (.cons (Rp.up X2.ff _ _ D1) D2)⟩⟩
end
def spF (K : PySem.W.Frag) (n : Nat) (f : Addr) (w : WF) : Sp := fun vs H Q _ => ∃ us, vs = us ++ [.ref f] ∧ us.length = n ∧ ∃ ds F Φ, Wd none F H ∧ RpAll K F us ds ∧ w ds Φ ∧ ∀ d v F' H', Φ d → Wd none F' H' → Ex none F H F' H' → Rp K F' v d → Q v H'
theorem frameF {ds : List PyData} {f : Addr} {m i : Nat} {s : SV} (h : (ds.map SV.val ++ SV.fn f :: List.replicate m SV.un)[i]? = some s) : (∃ d, ds[i]? = some d ∧ s = .val d) ∨ (i = ds.length ∧ s = .fn f) ∨ s = .un := by
  rcases Nat.lt_trichotomy i ds.length with hi | hi | hi
  · rw [List.getElem?_append_left (by rw [List.length_map]; exact hi), List.getElem?_map] at h
    obtain ⟨d, h1, h2⟩ := Option.map_eq_some_iff.mp h
    exact .inl ⟨d, h1, h2.symm⟩
  · rw [List.getElem?_append_right (by rw [List.length_map]; omega), List.length_map, hi, Nat.sub_self] at h
    exact .inr (.inl ⟨hi, (Option.some.inj h).symm⟩)
  · rw [List.getElem?_append_right (by rw [List.length_map]; omega), List.length_map] at h
    obtain ⟨j, hj⟩ : ∃ j, i - ds.length = j + 1 := ⟨i - ds.length - 1, by omega⟩
    rw [hj, List.getElem?_cons_succ, List.getElem?_replicate] at h
    split at h
    · exact .inr (.inr (Option.some.inj h).symm)
    · cases h
theorem sat_startF {K : PySem.W.Frag} {F H : Hp} {N : List Str} {ds : List PyData} {us : List V} {f : Addr} (r : RpAll K F us ds) : Sat K none H (ds.map SV.val ++ SV.fn f :: List.replicate (N.length - (ds.length + 1)) SV.un) (L2.start N (us ++ [.ref f])) F H where
  len := by
    unfold L2.start
    simp only [List.length_append, List.length_map, List.length_replicate, List.length_cons, List.length_nil, r.length]
    omega
  val := fun i d h => by
    rcases frameF h with ⟨d', h1, h2⟩ | ⟨_, h2⟩ | h2
    · cases h2
      obtain ⟨v, g1, g2⟩ := r.getD h1
      refine ⟨v, ?_, g2⟩
      have hi : i < us.length := (List.getElem?_eq_some_iff.mp g1).1
      unfold L2.start
      rw [List.getElem?_append_left (by rw [List.length_map, List.length_append]; omega), List.getElem?_map, List.getElem?_append_left hi, g1]; rfl
    · cases h2
    · cases h2
  own := fun i ds' h => by rcases frameF h with ⟨d', _, h2⟩ | ⟨_, h2⟩ | h2 <;> cases h2
  sep := fun i j a ds1 ds2 _ h _ _ => by rcases frameF h with ⟨d', _, h2⟩ | ⟨_, h2⟩ | h2 <;> cases h2
  tape := fun i o h => by rcases frameF h with ⟨d', _, h2⟩ | ⟨_, h2⟩ | h2 <;> cases h2
  fns := fun i g h => by
    rcases frameF h with ⟨d', _, h2⟩ | ⟨hi, h2⟩ | h2
    · cases h2
    · cases h2
      have hl : i = us.length := by rw [hi, r.length]
      subst hl
      unfold L2.start
      rw [List.getElem?_append_left (by rw [List.length_map, List.length_append]; simp), List.getElem?_map, List.getElem?_append_right (Nat.le_refl _), Nat.sub_self]; rfl
    · cases h2
  dct := .none fun i ds h => by rcases frameF h with ⟨d', _, h2⟩ | ⟨_, h2⟩ | h2 <;> cases h2
theorem fnF_start {K : PySem.W.Frag} {N : List Str} {n : Nat} {f : Addr} {b : Addr → WS} {vs : List V} {H : Hp} {Q : VK} {E : XK} (h : spF K n f (wRunF N.length b) vs H Q E) : sD K none (b f) { nx := fun _ H' => Q .non H', rt := Q } (L2.start N vs) H := by
  obtain ⟨us, rfl, hl, ds, F, Φ, W, r, hw, k⟩ := h
  exact ⟨H, F, _, F, _, sat_startF r, W, Ex.refl, hw f, fun ε' σ' F' H' h' S' W' X' => k _ _ F' H' h' W' X' .non, fun ε' σ' d v F' H' h' S' W' X' D' => k d v F' H' h' W' X' D', fun _ _ _ _ h' => h'.elim, fun _ _ _ _ h' => h'.elim⟩
/-- the def x of the text, its last argument the def y, does u of its data -/
structure DfF (P : Program) (w : World) (K : PySem.W.Frag) (mg : Str → Option Value) (base : Heap) (x : Str) (k n : Nat) (y : Str) (u : WF) : Prop where
  ex : ∃ (f : Addr) (fd : FuncData) (ps : List Str) (fy : Addr), FnOk P w K mg base CX0 k f fd ps (spF K n fy u) ∧ mg x = some (.ref f) ∧ PySem.W.keepIn K (.ref f) = true ∧ Binds K fd ps [] ∧ mg y = some (.ref fy)
theorem DfF.mk' {P : Program} {w : World} {K : PySem.W.Frag} {mg : Str → Option Value} {base : Heap} {x y : Str} {k n : Nat} {b : Addr → WS} {qual : Str} {params : Arguments} {body : List Stmt} {scope : Scope} {f fy : Addr} {fd : FuncData} {N ps : List Str} (F : FunD K x qual params body scope [] [] f fd) (g : mg x = some (.ref f)) (gy : mg y = some (.ref fy)) (S : FnScope N ps scope) (hn : ps.length = n + 1)
    (hb : ∀ (kV doc pm : Value) (an : Option Addr) (cdv ct : Value) (us : List Value), us.length = ps.length → bindArgs (PySem.W.fnOf x qual params body scope .none kV doc pm an cdv ct) ⟨us, []⟩ = pure (ps.zip us))
    (h : ∀ (cdv : Value) (A : Around) (outer : List Env) (s : Shared) (H : Hp) (E : XK), Room k (A.deeper (envOfC qual scope s.heap.objs.size f cdv)) → PSs (cxOf CX0 P w K mg base N qual scope f cdv A outer s H E).nox body (sD K none (b fy))) :
    DfF P w K mg base x (k + 1) n y (wRunF N.length b) :=
  ⟨f, fd, ps, fy, F.ok S (fun vs H Q E ⟨us, e, hl, _⟩ => by rw [e, List.length_append, hl, hn]; rfl) (fun cdv A outer s H vs Q E hr q => ⟨_, PSs.nox (h cdv A outer s H E hr), fnF_start q⟩), g, F.kp, F.bindsN hb, gy⟩
section
variable {X : Cx} {K : PySem.W.Frag} {T : Option Addr} {pos p : Pos} {e : Expr} {es : List Expr} {k n : Nat} {u : WF} {wa : WA}
/-- a call that hands a def over -/
theorem md_dff {x y : Str} {fy : Addr} (hk : X.K = K) (D : DfF X.prog X.w K X.mg X.base x k n y u) (gy : X.mg y = some (.ref fy)) (hr : Room k X.A) (ha : PA X (e :: es) (tDAF K T n fy wa))
    (hg : Gl X x := by rfl) (hdb : (x == ("__debug__" : Str)) = false := by decide) (he : starEach (e :: es) X.env = (false, eval e X.env) :: starEach es X.env := by rfl) (hpl : (backTo pos (starEach es X.env)).any (·.1) = false := by rfl) : PE X (.Call (.Name x p) (e :: es) [] pos) (tD K T (wFn u wa)) := by
  subst hk
  obtain ⟨f, fd, ps, fy', h1, h2, h3, h4, h5⟩ := D.ex
  rw [gy] at h5
  cases h5
  exact pe_imp (pe_call h1 hr hg h2 h3 h4 .nil pass0 ha hdb he hpl) fun σ H Q ⟨H0, ε, F0, Φ, S, W, hw, k⟩ => ⟨H0, ε, F0, _, S, W, hw, fun ds vs F1 H1 hd hl W1 X1 D1 =>
    ⟨vs, by rw [List.append_nil], by rw [D1.length]; exact hl, ds, F1, Φ, W1.weak, D1, hd, fun d v F' H' hΦ W' X' D' => k d v F' H' hΦ (W1.back W' X') (X1.trans X'.weak) D'⟩⟩
/-- a call by the local's name -/
theorem md_callS {x y : Str} {fy : Addr} (i : Nat) (hk : X.K = K) (D : Df X.prog X.w K X.mg X.base y k n u) (gy : X.mg y = some (.ref fy)) (hr : Room k X.A) (ha : PA X (e :: es) (tDA K T n wa)) (hN : X.N[i]? = some x := by rfl) (hv : Vis X.env.scope x := by first | exact Or.inl rfl | exact Or.inr (Or.inl rfl) | exact Or.inr (Or.inr rfl))
    (hdb : (x == ("__debug__" : Str)) = false := by decide) (hcd : (x == ("__classdict__" : Str)) = false := by decide) (he : starEach (e :: es) X.env = (false, eval e X.env) :: starEach es X.env := by rfl) (hpl : (backTo pos (starEach es X.env)).any (·.1) = false := by rfl) : PE X (.Call (.Name x p) (e :: es) [] pos) (tD K T (wFnS i fy u wa)) := by
  subst hk
  obtain ⟨f, fd, ps, h1, h2, h3, h4⟩ := D.ex
  rw [gy] at h2
  cases h2
  exact pe_imp (pe_callL (i := i) h1 hr hN hv h3 h4 .nil pass0 ha hdb hcd he hpl) fun σ H Q ⟨H0, ε, F0, Φ, S, W, ⟨hε, hw⟩, k⟩ => ⟨S.fns i _ hε, H0, ε, F0, _, S, W, hw, fun ds vs F1 H1 hd hl W1 X1 D1 =>
    ⟨by rw [List.append_nil, D1.length]; exact hl, ds, F1, Φ, W1.weak, by rw [List.append_nil]; exact D1, hd, fun d v F' H' hΦ W' X' D' => k d v F' H' hΦ (W1.back W' X') (X1.trans X'.weak) D'⟩⟩
end
end MG

set_option Elab.async false
set_option linter.all false
set_option maxRecDepth 100000
set_option maxHeartbeats 4000000
/-! MgZip3: the triples of three lists or tuples. -/
namespace MG
open PySem PyProof.Rows L2
abbrev IsTr (h : Heap) (T : Addr) (a b c : Value) : Prop := h.get? T = some { cls := .type "tuple", data := .seq #[a, b, c] }
/-- the things of the zip object, all apart -/
structure Ap3 (z TI TO i1 i2 i3 l1 l2 l3 : Addr) : Prop where
  z1 : TO ≠ z
  z2 : i1 ≠ z
  z3 : i2 ≠ z
  z4 : i3 ≠ z
  t1 : TO ≠ i1
  t2 : TO ≠ i2
  t3 : TO ≠ i3
  i12 : i1 ≠ i2
  i13 : i1 ≠ i3
  i23 : i2 ≠ i3
  ti : TI ∉ [z, TO, i1, i2, i3]
  a1 : l1 ∉ [z, TO, i1, i2, i3]
  a2 : l2 ∉ [z, TO, i1, i2, i3]
  a3 : l3 ∉ [z, TO, i1, i2, i3]
section
variable {prog : Program} {w : World} {A : Around} {E : Value → Shared → Prop} {s : Shared}
theorem up_tr {T : Addr} {a b c x : Value} {k : Nat} {Q : Unit → Shared → Prop} (hT : IsTr s.heap T a b c)
    (n : ∀ h', h'.get? T = some { cls := .type "tuple", data := .seq ((#[a, b, c] : Array Value).setIfInBounds k x) } → Heap.SameBut T s.heap h' → Q () { s with heap := h' }) : wpAny (model prog w) A (updateSeq T (·.setIfInBounds k x)) Q E s := by
  have e := Heap.get?_update_self (Obj.mapSeq (·.setIfInBounds k x)) hT rfl
  exact wpAny_updateSeq hT rfl (n _ (e.trans (by simp [Obj.mapSeq])) (Heap.SameBut.update ..))
/-- one turn -/
theorem zip_go {z TI TO i1 i2 i3 l1 l2 l3 : Addr} {k1 k2 k3 : Bool} {j : Nat} {xs ys ws : Array Value} {x y v a b c : Value} {Q : Fin → Shared → Prop} (D : Ap3 z TI TO i1 i2 i3 l1 l2 l3) (hz : IsZip s.heap z TI TO .none) (hTI : IsTr s.heap TI (.ref i1) (.ref i2) (.ref i3)) (hTO : IsTr s.heap TO a b c)
    (t1 : ItH k1 s.heap i1 l1 j) (t2 : ItH k2 s.heap i2 l2 j) (t3 : ItH k3 s.heap i3 l3 j) (q1 : SqH k1 s.heap l1 xs) (q2 : SqH k2 s.heap l2 ys) (q3 : SqH k3 s.heap l3 ws) (hx : xs[j]? = some x) (hy : ys[j]? = some y) (hv : ws[j]? = some v)
    (item : ∀ h', IsZip h' z TI TO (rawInt s.heap.objs.size) → IsTr h' TO x y v → ItH k1 h' i1 l1 (j + 1) → ItH k2 h' i2 l2 (j + 1) → ItH k3 h' i3 l3 (j + 1) → IsTr h' s.heap.objs.size x y v → h'.objs.size = s.heap.objs.size + 1 →
      Keeps [z, TO, i1, i2, i3] s.heap h' → Q (.done (.ret (.ref s.heap.objs.size))) { s with heap := h' }) :
    wpAny (model prog w) A (Builtin.«zip.__next__» ⟨[.ref z], []⟩) Q E s := by
  have D1 := D.a1
  have D2 := D.a2
  have D3 := D.a3
  simp only [List.mem_cons, List.not_mem_nil, or_false, not_or] at D1 D2 D3
  show wpAny _ _ (field (.ref z) 2 >>= _) _ _ _
  refine bnd (wpAny_field hz rfl (x := .bool false) rfl ?_)
  show wpAny _ _ (field (.ref z) 3 >>= _) _ _ _
  refine bnd (wpAny_field hz rfl (x := .ref TI) rfl ?_)
  refine bnd (wpAny_seqItems hTI rfl ?_)
  show wpAny _ _ (Builtin.SmallTypes.ownedTupleIsFree (.ref z) >>= _) _ _ _
  refine bnd ?_
  unfold Builtin.SmallTypes.ownedTupleIsFree
  refine bnd (wpAny_field hz rfl (x := .none) rfl (wpAny_pure ?_))
  simp only [if_true]
  refine bnd (wpAny_rule ?_)
  refine bnd (wpAny_field hz rfl (x := .ref TO) rfl ?_)
  refine bnd (wpAny_setField_rec hz (by simp) fun h0 Z0 s0 => ?_)
  replace Z0 : IsZip h0 z TI TO .ellipsis := Z0
  refine bnd ?_
  simp only [List.zipIdx_cons, List.zipIdx_nil, List.forIn_cons, List.forIn_nil]
  -- the first
  refine bnd (bnd (wpAny_onRaise ?_))
  show wpAny _ _ (Builtin.SmallTypes.nextOf (.ref i1) >>= _) _ _ _
  refine bnd (nx_item (t1.on fun o e => s0.extBut _ _ D.z2 e) (q1.on fun o e => s0.extBut _ _ D1.1 e) hx fun h1 I1 s1 => wpAny_pure ?_)
  have T1 : IsTr h1 TO a b c := s1.extBut _ _ D.t1 (s0.extBut _ _ D.z1 hTO)
  refine bnd (wpAny_seqItems T1 rfl ?_)
  refine bnd (up_tr T1 fun h2 T2 s2 => ?_)
  replace T2 : IsTr h2 TO x b c := T2
  refine bnd (wpAny_letGo (wpAny_pure ?_))
  have k2' : Keeps [z, TO, i1] s.heap h2 := fun c o nc e => by
    simp only [List.mem_cons, List.not_mem_nil, or_false, not_or] at nc
    exact s2.extBut _ _ nc.2.1 (s1.extBut _ _ nc.2.2 (s0.extBut _ _ nc.1 e))
  -- the second
  refine bnd (bnd (wpAny_onRaise ?_))
  show wpAny _ _ (Builtin.SmallTypes.nextOf (.ref i2) >>= _) _ _ _
  refine bnd (nx_item (t2.on fun o e => k2' _ o (by simp [D.z3, D.t2.symm, D.i12.symm]) e) (q2.on fun o e => k2' _ o (by simp [D2]) e) hy fun h3 I2 s3 => wpAny_pure ?_)
  have T3 : IsTr h3 TO x b c := s3.extBut _ _ D.t2 T2
  refine bnd (wpAny_seqItems T3 rfl ?_)
  refine bnd (up_tr T3 fun h4 T4 s4 => ?_)
  replace T4 : IsTr h4 TO x y c := T4
  refine bnd (wpAny_letGo (wpAny_pure ?_))
  have k4 : Keeps [z, TO, i1, i2] s.heap h4 := fun c o nc e => by
    simp only [List.mem_cons, List.not_mem_nil, or_false, not_or] at nc
    exact s4.extBut _ _ nc.2.1 (s3.extBut _ _ nc.2.2.2 (k2' c o (by simp [nc]) e))
  -- the third
  refine bnd (bnd (wpAny_onRaise ?_))
  show wpAny _ _ (Builtin.SmallTypes.nextOf (.ref i3) >>= _) _ _ _
  refine bnd (nx_item (t3.on fun o e => k4 _ o (by simp [D.z4, D.t3.symm, D.i13.symm, D.i23.symm]) e) (q3.on fun o e => k4 _ o (by simp [D3]) e) hv fun h5 I3 s5 => wpAny_pure ?_)
  have T5 : IsTr h5 TO x y c := s5.extBut _ _ D.t3 T4
  refine bnd (wpAny_seqItems T5 rfl ?_)
  refine bnd (up_tr T5 fun h6 T6 s6 => ?_)
  replace T6 : IsTr h6 TO x y v := T6
  refine bnd (wpAny_letGo (wpAny_pure (wpAny_pure ?_)))
  have k6 : Keeps [z, TO, i1, i2, i3] s.heap h6 := fun c o nc e => by
    simp only [List.mem_cons, List.not_mem_nil, or_false, not_or] at nc
    exact s6.extBut _ _ nc.2.1 (s5.extBut _ _ nc.2.2.2.2 (k4 c o (by simp [nc]) e))
  refine bnd (wpAny_seqItems T6 rfl ?_)
  refine bnd (wpAny_newTuple ?_)
  have sz : h6.objs.size = s.heap.objs.size := by rw [s6.1, s5.1, s4.1, s3.1, s2.1, s1.1, s0.1]
  have Z6 : IsZip h6 z TI TO .ellipsis := s6.extBut _ _ D.z1.symm (s5.extBut _ _ D.z4.symm (s4.extBut _ _ D.z1.symm (s3.extBut _ _ D.z3.symm (s2.extBut _ _ D.z1.symm (s1.extBut _ _ D.z2.symm Z0)))))
  have J1 : ItH k1 h6 i1 l1 (j + 1) := I1.on fun o e => s6.extBut _ _ D.t1.symm (s5.extBut _ _ D.i13 (s4.extBut _ _ D.t1.symm (s3.extBut _ _ D.i12 (s2.extBut _ _ D.t1.symm e))))
  have J2 : ItH k2 h6 i2 l2 (j + 1) := I2.on fun o e => s6.extBut _ _ D.t2.symm (s5.extBut _ _ D.i23 (s4.extBut _ _ D.t2.symm e))
  have J3 : ItH k3 h6 i3 l3 (j + 1) := I3.on fun o e => s6.extBut _ _ D.t3.symm e
  have zl : z < h6.objs.size := Heap.lt_size Z6
  show wpAny _ _ (Builtin.SmallTypes.ownedTupleHandOut (.ref z) (.ref h6.objs.size) >>= _) _ _ _
  refine bnd ?_
  unfold Builtin.SmallTypes.ownedTupleHandOut
  have Z7 : IsZip (h6.push { cls := .type "tuple", data := .seq #[x, y, v] }) z TI TO .ellipsis := Heap.get?_push_of_some _ Z6
  refine bnd (wpAny_setField_rec Z7 (by simp) fun h8 Z8 s8 => ?_)
  replace Z8 : IsZip h8 z TI TO (rawInt h6.objs.size) := Z8
  refine wpAny_setField_rec Z8 (by simp) fun h9 Z9 s9 => ?_
  replace Z9 : IsZip h9 z TI TO (rawInt h6.objs.size) := Z9
  have up : ∀ c o, c ≠ z → h6.get? c = some o → h9.get? c = some o := fun c o n e => s9.extBut _ _ n (s8.extBut _ _ n (Heap.get?_push_of_some _ e))
  have T9 : IsTr h9 h6.objs.size x y v := s9.extBut _ _ (Nat.ne_of_gt zl) (s8.extBut _ _ (Nat.ne_of_gt zl) (Heap.get?_push_size _ rfl))
  have sz9 : h9.objs.size = h6.objs.size + 1 := by rw [s9.1, s8.1, Heap.size_push]
  rw [sz] at Z9 T9 sz9
  refine wpAny_pure ?_
  show Q (.done (.ret (.ref h6.objs.size))) _
  rw [sz]
  exact item h9 Z9 (up _ _ D.z1 T6) (J1.on fun o e => up _ o D.z2 e) (J2.on fun o e => up _ o D.z3 e) (J3.on fun o e => up _ o D.z4 e) T9 sz9 fun c o nc e => up c o (fun q => nc (by simp [q])) (k6 c o nc e)
end
end MG
namespace MG
open PySem PyProof.Rows L2
section
variable {prog : Program} {w : World} {A : Around} {E : Value → Shared → Prop} {s : Shared}
/-- a later turn, the first tuple still out -/
theorem zip_on {z TI TO T i1 i2 i3 l1 l2 l3 : Addr} {f : Bool} {oT : Obj} {k1 k2 k3 : Bool} {j : Nat} {xs ys ws : Array Value} {x y v : Value} {Q : Fin → Shared → Prop} (D : Ap3 z TI TO i1 i2 i3 l1 l2 l3) (hz : IsZipHeld s.heap z TI TO T f) (hT : s.heap.get? T = some oT) (hTI : IsTr s.heap TI (.ref i1) (.ref i2) (.ref i3))
    (t1 : ItH k1 s.heap i1 l1 j) (t2 : ItH k2 s.heap i2 l2 j) (t3 : ItH k3 s.heap i3 l3 j) (q1 : SqH k1 s.heap l1 xs) (q2 : SqH k2 s.heap l2 ys) (q3 : SqH k3 s.heap l3 ws) (hx : xs[j]? = some x) (hy : ys[j]? = some y) (hv : ws[j]? = some v)
    (item : ∀ h', IsZipHeld h' z TI TO T true → ItH k1 h' i1 l1 (j + 1) → ItH k2 h' i2 l2 (j + 1) → ItH k3 h' i3 l3 (j + 1) → IsTr h' s.heap.objs.size x y v → h'.objs.size = s.heap.objs.size + 1 →
      Keeps [z, i1, i2, i3] s.heap h' → Q (.done (.ret (.ref s.heap.objs.size))) { s with heap := h' }) :
    wpAny (model prog w) A (Builtin.«zip.__next__» ⟨[.ref z], []⟩) Q E s := by
  have D1 := D.a1
  have D2 := D.a2
  have D3 := D.a3
  simp only [List.mem_cons, List.not_mem_nil, or_false, not_or] at D1 D2 D3
  show wpAny _ _ (field (.ref z) 2 >>= _) _ _ _
  refine bnd (wpAny_field hz rfl (x := .bool false) rfl ?_)
  show wpAny _ _ (field (.ref z) 3 >>= _) _ _ _
  refine bnd (wpAny_field hz rfl (x := .ref TI) rfl ?_)
  refine bnd (wpAny_seqItems hTI rfl ?_)
  show wpAny _ _ (Builtin.SmallTypes.ownedTupleIsFree (.ref z) >>= _) _ _ _
  refine bnd (wpAny_tupleHeld_zip hz hT fun h0 Z0 s0 => ?_)
  simp only [Bool.false_eq_true, if_false]
  refine bnd ?_
  rw [← Array.forIn_toList]
  simp only [List.forIn_cons, List.forIn_nil]
  refine bnd (bnd (wpAny_holding ?_))
  show wpAny _ _ (Builtin.SmallTypes.nextOf (.ref i1) >>= _) _ _ _
  refine bnd (nx_item (s := { s with heap := h0 }) (t1.on fun o e => s0.extBut _ _ D.z2 e) (q1.on fun o e => s0.extBut _ _ D1.1 e) hx fun h1 I1 s1 => wpAny_pure ?_)
  have g1 : Keeps [z, i1] s.heap h1 := fun c o nc e => by
    simp only [List.mem_cons, List.not_mem_nil, or_false, not_or] at nc
    exact s1.extBut _ _ nc.2 (s0.extBut _ _ nc.1 e)
  refine wpAny_pure ?_
  refine bnd (bnd (wpAny_holding ?_))
  show wpAny _ _ (Builtin.SmallTypes.nextOf (.ref i2) >>= _) _ _ _
  refine bnd (nx_item (s := { s with heap := h1 }) (t2.on fun o e => g1 _ o (by simp [D.z3, D.i12.symm]) e) (q2.on fun o e => g1 _ o (by simp [D2]) e) hy fun h2 I2 s2 => wpAny_pure ?_)
  have g2 : Keeps [z, i1, i2] s.heap h2 := fun c o nc e => by
    simp only [List.mem_cons, List.not_mem_nil, or_false, not_or] at nc
    exact s2.extBut _ _ nc.2.2 (g1 c o (by simp [nc]) e)
  refine wpAny_pure ?_
  refine bnd (bnd (wpAny_holding ?_))
  show wpAny _ _ (Builtin.SmallTypes.nextOf (.ref i3) >>= _) _ _ _
  refine bnd (nx_item (s := { s with heap := h2 }) (t3.on fun o e => g2 _ o (by simp [D.z4, D.i13.symm, D.i23.symm]) e) (q3.on fun o e => g2 _ o (by simp [D3]) e) hv fun h3 I3 s3 => wpAny_pure ?_)
  have g3 : Keeps [z, i1, i2, i3] s.heap h3 := fun c o nc e => by
    simp only [List.mem_cons, List.not_mem_nil, or_false, not_or] at nc
    exact s3.extBut _ _ nc.2.2.2 (g2 c o (by simp [nc]) e)
  refine wpAny_pure (wpAny_pure ?_)
  show wpAny _ _ (newTuple [x, y, v] >>= _) _ _ _
  refine bnd (wpAny_newTuple ?_)
  have sz : h3.objs.size = s.heap.objs.size := by rw [s3.1, s2.1, s1.1, s0.1]
  have Z3 : IsZipHeld h3 z TI TO T true := s3.extBut _ _ D.z4.symm (s2.extBut _ _ D.z3.symm (s1.extBut _ _ D.z2.symm Z0))
  have J1 : ItH k1 h3 i1 l1 (j + 1) := I1.on fun o e => s3.extBut _ _ D.i13 (s2.extBut _ _ D.i12 e)
  have J2 : ItH k2 h3 i2 l2 (j + 1) := I2.on fun o e => s3.extBut _ _ D.i23 e
  refine wpAny_pure ?_
  have up : ∀ {c o}, h3.get? c = some o → (h3.push { cls := .type "tuple", data := .seq #[x, y, v] }).get? c = some o := fun e => Heap.get?_push_of_some _ e
  have T4 : IsTr (h3.push { cls := .type "tuple", data := .seq #[x, y, v] }) h3.objs.size x y v := Heap.get?_push_size _ rfl
  have sz4 : (h3.push { cls := .type "tuple", data := .seq #[x, y, v] }).objs.size = h3.objs.size + 1 := Heap.size_push ..
  show Q (.done (.ret (.ref h3.objs.size))) _
  rw [sz] at T4 sz4 ⊢
  exact item _ (up Z3) (J1.on fun o e => up e) (J2.on fun o e => up e) (I3.on fun o e => up e) T4 sz4 fun c o nc e => up (g3 c o nc e)
/-- the end: the first runs out -/
theorem zip_over {z TI TO T i1 i2 i3 l1 l2 l3 : Addr} {f : Bool} {oT : Obj} {k1 k2 k3 : Bool} {j : Nat} {xs : Array Value} {Q : Fin → Shared → Prop} (hh : A.handled = none) (D : Ap3 z TI TO i1 i2 i3 l1 l2 l3) (hz : IsZipHeld s.heap z TI TO T f) (hT : s.heap.get? T = some oT) (hTI : IsTr s.heap TI (.ref i1) (.ref i2) (.ref i3))
    (t1 : ItH k1 s.heap i1 l1 j) (q1 : SqH k1 s.heap l1 xs) (hx : xs[j]? = none) (stop : ∀ h' e, Keeps [z, i1, i2, i3] s.heap h' → (∃ o, h'.get? e = some o ∧ o.cls = .type "StopIteration") → E (.ref e) { s with heap := h' }) :
    wpAny (model prog w) A (Builtin.«zip.__next__» ⟨[.ref z], []⟩) Q E s := by
  have D1 := D.a1
  simp only [List.mem_cons, List.not_mem_nil, or_false, not_or] at D1
  show wpAny _ _ (field (.ref z) 2 >>= _) _ _ _
  refine bnd (wpAny_field hz rfl (x := .bool false) rfl ?_)
  show wpAny _ _ (field (.ref z) 3 >>= _) _ _ _
  refine bnd (wpAny_field hz rfl (x := .ref TI) rfl ?_)
  refine bnd (wpAny_seqItems hTI rfl ?_)
  show wpAny _ _ (Builtin.SmallTypes.ownedTupleIsFree (.ref z) >>= _) _ _ _
  refine bnd (wpAny_tupleHeld_zip hz hT fun h0 Z0 s0 => ?_)
  simp only [Bool.false_eq_true, if_false]
  refine bnd ?_
  rw [← Array.forIn_toList]
  simp only [List.forIn_cons, List.forIn_nil]
  refine bnd (bnd (wpAny_holding ?_))
  show wpAny _ _ (Builtin.SmallTypes.nextOf (.ref i1) >>= _) _ _ _
  refine bnd (nx_end (s := { s with heap := h0 }) hh (t1.on fun o e => s0.extBut _ _ D.z2 e) (q1.on fun o e => s0.extBut _ _ D1.1 e) hx fun h1 e s1 se => ?_)
  exact stop h1 e (fun c o nc g => by
    simp only [List.mem_cons, List.not_mem_nil, or_false, not_or] at nc
    exact s1 _ _ nc.2.1 (s0.extBut _ _ nc.1 g)) se
end
end MG

set_option Elab.async false
set_option linter.all false
set_option maxRecDepth 100000
set_option maxHeartbeats 4000000
/-! MgZip4: zip(a, b, c) is made, and drawn. -/
namespace MG
open PySem PyProof.Rows L2
abbrev m3P (h : Heap) (k1 k2 k3 : Bool) (l1 l2 l3 : Addr) : Heap := (mH (mH (mH h (clsI k1) l1) (clsI k2) l2) (clsI k3) l3).push { cls := .type "tuple", data := .seq #[.ref h.objs.size, .ref (mH h (clsI k1) l1).objs.size, .ref (mH (mH h (clsI k1) l1) (clsI k2) l2).objs.size] }
abbrev m3A (h : Heap) (k1 k2 k3 : Bool) (l1 l2 l3 : Addr) : Heap := (m3P h k1 k2 k3 l1 l2 l3).push { cls := .type "tuple", data := .seq #[.none, .none, .none] }
abbrev m3All (h : Heap) (k1 k2 k3 : Bool) (l1 l2 l3 : Addr) : Heap := mZ (m3A h k1 k2 k3 l1 l2 l3) (mH (mH (mH h (clsI k1) l1) (clsI k2) l2) (clsI k3) l3).objs.size (m3P h k1 k2 k3 l1 l2 l3).objs.size
theorem new_zip3 (k1 k2 k3 : Bool) (l1 l2 l3 : Addr) (xs ys ws : Array Value) :
    Meets (Builtin.«zip.__new__» ⟨[.type "zip", .ref l1, .ref l2, .ref l3], []⟩) fun _ R s => SqH k1 s.heap l1 xs ∧ SqH k2 s.heap l2 ys ∧ SqH k3 s.heap l3 ws ∧ R (.ok (.ret (.ref (m3A s.heap k1 k2 k3 l1 l2 l3).objs.size))) { s with heap := m3All s.heap k1 k2 k3 l1 l2 l3 } := by
  refine .of_wp fun prog w A R s ⟨q1, q2, q3, r⟩ => ?_
  obtain ⟨hp, g, d, tk, os⟩ := s
  have sub := sub_zip
  have p1 : SqH k1 (Shared.heap ⟨hp, g, d, tk, os⟩) l1 xs := q1
  have p2 : SqH k2 (Shared.heap ⟨mH hp (clsI k1) l1, g, d, tk, os⟩) l2 ys := q2.on fun o e => Heap.get?_push_of_some _ e
  have p3 : SqH k3 (Shared.heap ⟨mH (mH hp (clsI k1) l1) (clsI k2) l2, g, d, tk, os⟩) l3 ws := q3.on fun o e => Heap.get?_push_of_some _ (Heap.get?_push_of_some _ e)
  wp_walk using it_new p1, it_new p2, it_new p3
  exact ⟨_, rfl, r⟩
theorem tcall3 (a b c : Value) : checkTypeCall "zip" ⟨[a, b, c], []⟩ = pure () := by kernel_rfl
theorem ncall3 (a b c : Value) : checkBuiltinCall "zip.__new__" ⟨[.type "zip", a, b, c], []⟩ = pure () := by kernel_rfl
end MG

set_option Elab.async false
set_option linter.all false
set_option maxRecDepth 100000
set_option maxHeartbeats 4000000
/-! MgListIt: list(it), it an iterator without a length; what holds of the items may speak of the heap. -/
namespace MG
open PySem PyProof.Rows L2
/-- n items to be drawn from I; fp: what it stands on, wr: what a turn writes -/
structure DrH (prog : Program) (w : World) (A : Around) (I : Addr) (fp wr : List Addr) (m n : Nat) (St : Nat → Heap → Prop) (P : Nat → Value → Heap → Prop) : Prop where
  sub : ∀ b ∈ wr, b ∈ fp
  mem : I ∈ fp
  low : ∀ b ∈ wr, b < m
  stK : ∀ i h h', St i h → h.objs.size ≤ h'.objs.size → (∀ b o, b ∈ fp ∨ m ≤ b → h.get? b = some o → h'.get? b = some o) → St i h'
  pK : ∀ i v h h', P i v h → (∀ b o, m ≤ b → h.get? b = some o → h'.get? b = some o) → P i v h'
  item : ∀ i (s : Shared) (Q : Option Value → Shared → Prop) (E : Value → Shared → Prop), i < n → St i s.heap → (∀ v h', P i v h' → St (i + 1) h' → Keeps wr s.heap h' → Q (some v) { s with heap := h' }) → wpAny (model prog w) A (pyNext (.ref I)) Q E s
  done : ∀ (s : Shared) (Q : Option Value → Shared → Prop) (E : Value → Shared → Prop), St n s.heap → (∀ h', Keeps wr s.heap h' → Q none { s with heap := h' }) → wpAny (model prog w) A (pyNext (.ref I)) Q E s
  self : ∀ (s : Shared) (Q : Value → Shared → Prop) (E : Value → Shared → Prop), St 0 s.heap → Q (.ref I) s → wpAny (model prog w) A (pyIter (.ref I)) Q E s
theorem notS {fp : List Addr} {m S b : Addr} (nS : S ∉ fp) (lS : S < m) (mb : b ∈ fp ∨ m ≤ b) : b ≠ S := fun e => by
  subst e
  rcases mb with q | q
  · exact nS q
  · exact Nat.lt_irrefl _ (Nat.lt_of_lt_of_le lS q)
theorem Keeps.trans {cs : List Addr} {a b c : Heap} (x : Keeps cs a b) (y : Keeps cs b c) : Keeps cs a c := fun d o n e => y d o n (x d o n e)
theorem Keeps.more {cs ds : List Addr} {a b : Heap} (x : Keeps cs a b) (h : ∀ c ∈ cs, c ∈ ds) : Keeps ds a b := fun d o n e => x d o (fun m => n (h d m)) e
/-- the items so far -/
def Got (P : Nat → Value → Heap → Prop) (acc : Array Value) (i : Nat) (h : Heap) : Prop := acc.size = i ∧ ∀ j v, acc[j]? = some v → P j v h
section
variable {prog : Program} {w : World} {A : Around} {R : Result → Shared → Prop} {I : Addr} {fp wr : List Addr} {m n : Nat} {St : Nat → Heap → Prop} {P : Nat → Value → Heap → Prop}
abbrev lstAt (h : Heap) (S : Addr) (acc : Array Value) (c : Nat) : Prop := h.get? S = some { cls := .type "list", dict := none, data := .seq acc c, slots := #[] }
theorem go_all (W : DrH prog w A.in1 I fp wr m n St P) (hn : n ≤ sizeLine) (S : Addr) (nS : S ∉ fp) (lS : S < m) (res : Value) : ∀ (k i : Nat) (s : Shared) (acc : Array Value) (c : Nat), n - i = k → i ≤ n → St i s.heap → lstAt s.heap S acc c → Got P acc i s.heap →
    (∀ h' acc' c', Keeps (S :: wr) s.heap h' → lstAt h' S acc' c' → Got P acc' n h' → R (.ok (.ret res)) { s with heap := h' }) → codeAny (model prog w) A (.builtin "list.extend.loop" ⟨[.ref S, .ref I, res], []⟩) R s := by
  have nW : S ∉ wr := fun h => nS (W.sub _ h)
  intro k
  induction k with
  | zero =>
    intro i s acc c hk hi hst hS hg r
    have e : i = n := by omega
    subst e
    refine codeAny_builtin F.entry_extend_loop ?_
    rw [Around.under_plainId F.plain_extend_loop _]
    show wpAny _ A.in1 (pyNext (.ref I) >>= _) _ _ s
    exact bnd (W.done s _ _ hst fun h' kp => wpAny_pure (r h' acc c (kp.more fun b m => List.mem_cons_of_mem _ m) (kp S _ nW hS) ⟨hg.1, fun j v q => W.pK _ _ _ _ (hg.2 j v q) fun b o lb e => kp b o (fun mm => Nat.lt_irrefl _ (Nat.lt_of_lt_of_le (W.low b mm) lb)) e⟩))
  | succ k ih =>
    intro i s acc c hk hi hst hS hg r
    refine codeAny_builtin F.entry_extend_loop ?_
    rw [Around.under_plainId F.plain_extend_loop _]
    show wpAny _ A.in1 (pyNext (.ref I) >>= _) _ _ s
    refine bnd (W.item i s _ _ (by omega) hst fun v h' hp hst' kp => ?_)
    have hS' : lstAt h' S acc c := kp S _ nW hS
    show wpAny _ A.in1 (updateSeq S (·.push v) >>= _) _ _ _
    have put : Keeps [S] h' (h'.update S (Obj.mapSeq (·.push v))) := fun b o nb e => (Heap.get?_update_other _ _ fun q : S = b => nb (by simp [q])).trans e
    have nowr : Keeps (S :: wr) s.heap (h'.update S (Obj.mapSeq (·.push v))) := (kp.more fun b m => List.mem_cons_of_mem _ m).trans (put.more fun b m => by rw [List.mem_singleton.mp m]; exact List.mem_cons_self)
    have pk : ∀ {j u}, P j u h' → P j u (h'.update S (Obj.mapSeq (·.push v))) := fun q => W.pK _ _ _ _ q fun b o lb e => put b o (fun mm => by
      rw [List.mem_singleton.mp mm] at lb
      exact Nat.lt_irrefl _ (Nat.lt_of_lt_of_le lS lb)) e
    refine bnd (wpAny_updateSeq hS' rfl (wpAny_pure ⟨plainId_quiet F.plain_extend_loop _, ih (i + 1) { s with heap := h'.update S (Obj.mapSeq (·.push v)) } (acc.push v) _ (by omega) (by omega) (W.stK _ _ _ hst' (by rw [Heap.size_update]; exact Nat.le_refl _) fun b o mb e => put b o (fun q => notS nS lS mb (List.mem_singleton.mp q)) e) (Heap.get?_update_self _ hS' rfl) ⟨by rw [Array.size_push, hg.1], fun j u q => ?_⟩ fun h'' acc' c' kp' hS'' hg' => r h'' acc' c' (nowr.trans kp') hS'' hg'⟩) (by rw [hg.1]; omega) (by show (acc.push v).size ≤ sizeLine + 1; rw [Array.size_push, hg.1]; omega))
    rw [Array.getElem?_push] at q
    split at q
    · rename_i e
      cases q
      rw [e, hg.1]
      exact pk hp
    · exact pk (W.pK _ _ _ _ (hg.2 j u q) fun b o lb e => kp b o (fun mm => Nat.lt_irrefl _ (Nat.lt_of_lt_of_le (W.low b mm) lb)) e)
theorem go_ext (W : DrH prog w A.in1 I fp wr m n St P) (hn : n ≤ sizeLine) {T : String} (hl : typeLookup (.type T) "__len__" = pure none) (hh : typeLookup (.type T) "__length_hint__" = pure none) (e2 : (Value.type T == Value.type "list") = false) (e3 : (Value.type T == Value.type "tuple") = false)
    (hT : ∀ i (s : Shared), St i s.heap → s.TypeIs (.ref I) T) (S : Addr) (nS : S ∉ fp) (lS : S < m) (res : Value) {s : Shared} {c : Nat} (hst : St 0 s.heap) (hS : lstAt s.heap S #[] c)
    (r : ∀ h' acc' c', Keeps (S :: wr) s.heap h' → lstAt h' S acc' c' → Got P acc' n h' → R (.ok (.ret res)) { s with heap := h' }) :
    wpAny (model prog w) A.in1 (Builtin.List.listExtendWith (.ref S) (.ref I) res)
      (fun fin s' => match fin with | .done f => R (.ok f) s' | .again c' => c'.quiet = true ∧ codeAny (model prog w) A c' R s') (fun e s' => R (.error e) s') s := by
  have nSI : S ≠ I := fun e => nS (e ▸ W.mem)
  unfold Builtin.List.listExtendWith
  refine bnd (wpAny_typeOf (hT 0 _ hst) ?_)
  have e1 : Builtin.List.listSameRef (.ref S) (.ref I) = false := by simp [Builtin.List.listSameRef, nSI]
  simp only [e1, e2, e3, Bool.or_false, Bool.false_eq_true, if_false]
  refine bnd (W.self _ _ _ hst ?_)
  refine bnd (wpAny_holding ?_)
  unfold Builtin.List.listLengthHint
  refine bnd (wpAny_specialOf (hT 0 _ hst) hl ?_)
  show wpAny _ A.in1 (specialOf (Value.ref I) (Str.ofString "__length_hint__") >>= _) _ _ _
  refine bnd (wpAny_specialOf (hT 0 _ hst) hh ?_)
  refine wpAny_pure ?_
  show wpAny _ A.in1 (rule "list.extend.makes-room" >>= fun _ => Builtin.List.listTouch (.ref S) >>= fun _ => again (.builtin "list.extend.loop" ⟨[.ref S, .ref I, res], []⟩)) _ _ _
  refine bnd (wpAny_rule ?_)
  refine bnd ?_
  show wpAny _ A.in1 (updateSeq S (·.push .none) >>= fun _ => updateSeq S (·.pop)) _ _ _
  refine bnd (wpAny_updateSeq hS rfl ?_)
  have S2 := Heap.get?_update_self (Obj.mapSeq (·.push Value.none)) hS rfl
  refine wpAny_updateSeq (hz := by seq_fits) S2 rfl ?_
  have S3 := Heap.get?_update_self (Obj.mapSeq (·.pop)) S2 rfl
  have put : Keeps [S] s.heap ((s.heap.update S (Obj.mapSeq (·.push Value.none))).update S (Obj.mapSeq (·.pop))) := fun b o nb e =>
    (Heap.get?_update_other _ _ fun q : S = b => nb (by simp [q])).trans ((Heap.get?_update_other _ _ fun q : S = b => nb (by simp [q])).trans e)
  refine wpAny_pure ⟨plainId_quiet F.plain_extend_loop _, go_all W hn S nS lS res n 0 { s with heap := (s.heap.update S (Obj.mapSeq (·.push Value.none))).update S (Obj.mapSeq (·.pop)) } _ _ rfl (Nat.zero_le _) (W.stK _ _ _ hst (by rw [Heap.size_update, Heap.size_update]; exact Nat.le_refl _) fun b o mb e => put b o (fun q => notS nS lS mb (List.mem_singleton.mp q)) e) S3 ⟨rfl, fun j v q => by simp at q⟩ fun h' acc' c' kp hS' hg => r h' acc' c' ((put.more fun b mb => by rw [List.mem_singleton.mp mb]; exact List.mem_cons_self).trans kp) hS' hg⟩
theorem go_init (W : DrH prog w A.in1 I fp wr m n St P) (hn : n ≤ sizeLine) {T : String} (hl : typeLookup (.type T) "__len__" = pure none) (hh : typeLookup (.type T) "__length_hint__" = pure none) (e2 : (Value.type T == Value.type "list") = false) (e3 : (Value.type T == Value.type "tuple") = false)
    (hT : ∀ i (s : Shared), St i s.heap → s.TypeIs (.ref I) T) (S : Addr) (nS : S ∉ fp) (lS : S < m) {s : Shared} (hst : St 0 s.heap) (hS : s.heap.get? S = some { cls := .type "list", data := .seq #[] })
    (r : ∀ h' acc' c', Keeps (S :: wr) s.heap h' → lstAt h' S acc' c' → Got P acc' n h' → R (.ok (.ret .none)) { s with heap := h' }) :
    wpAny (model prog w) A.in1 (Builtin.«list.__init__» ⟨[.ref S, .ref I], []⟩)
      (fun fin s' => match fin with | .done f => R (.ok f) s' | .again c' => c'.quiet = true ∧ codeAny (model prog w) A c' R s') (fun e s' => R (.error e) s') s := by
  show wpAny _ A.in1 (do let old ← Builtin.List.listItems (.ref S); Builtin.List.listUpdate (.ref S) (fun _ => #[]); letGo old.toList.reverse; Builtin.List.listExtendWith (.ref S) (.ref I) .none) _ _ s
  refine bnd ?_
  unfold Builtin.List.listItems
  refine bnd (wpAny_seqItems hS rfl (wpAny_pure ?_))
  show wpAny _ A.in1 (updateSeq S (fun _ => #[]) >>= fun _ => letGo (#[] : Array Value).toList.reverse >>= fun _ => Builtin.List.listExtendWith (.ref S) (.ref I) .none) _ _ s
  refine bnd (wpAny_updateSeq hS rfl ?_)
  have S2 := Heap.get?_update_self (Obj.mapSeq (fun _ => (#[] : Array Value))) hS rfl
  have put : Keeps [S] s.heap (s.heap.update S (Obj.mapSeq (fun _ => (#[] : Array Value)))) := fun b o nb e => (Heap.get?_update_other _ _ fun q : S = b => nb (by simp [q])).trans e
  refine bnd (wpAny_letGo ?_)
  exact go_ext (s := { s with heap := s.heap.update S (Obj.mapSeq (fun _ => (#[] : Array Value))) }) W hn hl hh e2 e3 hT S nS lS .none (W.stK _ _ _ hst (by rw [Heap.size_update]; exact Nat.le_refl _) fun b o mb e => put b o (fun q => notS nS lS mb (List.mem_singleton.mp q)) e) S2 fun h' acc' c' kp hS' hg => r h' acc' c' ((put.more fun b mb => by rw [List.mem_singleton.mp mb]; exact List.mem_cons_self).trans kp) hS' hg
end
section
variable {prog : Program} {w : World} {A : Around} {E : Value → Shared → Prop} {I : Addr} {fp wr : List Addr} {m n : Nat} {St : Nat → Heap → Prop} {P : Nat → Value → Heap → Prop}
/-- list(it) -/
theorem list_it {s : Shared} (W : DrH prog w A.in1.in1 I fp wr m n St P) (hn : n ≤ sizeLine) {T : String} (hl : typeLookup (.type T) "__len__" = pure none) (hh : typeLookup (.type T) "__length_hint__" = pure none) (e2 : (Value.type T == Value.type "list") = false) (e3 : (Value.type T == Value.type "tuple") = false)
    (hT : ∀ i (s : Shared), St i s.heap → s.TypeIs (.ref I) T) (hst : St 0 (s.heap.push { cls := .type "list", data := .seq #[] })) (hfp : ∀ b ∈ fp, b < s.heap.objs.size) (hm : s.heap.objs.size < m) {Q : Value → Shared → Prop}
    (r : ∀ h' acc c, Keeps wr s.heap h' → lstAt h' s.heap.objs.size acc c → Got P acc n h' → Q (.ref s.heap.objs.size) { s with heap := h' }) : wpAny (model prog w) A (call (.type "list") [.ref I]) Q E s := by
  have nS : s.heap.objs.size ∉ fp := fun q => Nat.lt_irrefl _ (hfp _ q)
  refine callType_codes (Q₁ := fun obj s1 => obj = .ref s.heap.objs.size ∧ s1 = { s with heap := s.heap.push { cls := .type "list", data := .seq #[] } }) F.called_list (F.typeCall_list_1 _) F.entry_list_init (code_list_new _ ⟨rfl, rfl⟩) fun obj s1 h1 => ?_
  obtain ⟨rfl, rfl⟩ := h1
  have hS : (s.heap.push { cls := .type "list", data := .seq #[] }).get? s.heap.objs.size = some { cls := .type "list", data := .seq #[] } := Heap.get?_push_size _ rfl
  refine ⟨⟨_, hS, rfl⟩, F.args_list_init_2 _ _, go_init (s := { s with heap := s.heap.push { cls := .type "list", data := .seq #[] } }) W hn hl hh e2 e3 hT _ nS hm hst hS fun h' acc c kp hS' hg => ?_⟩
  refine ⟨rfl, r h' acc c (fun b o nb e => kp b o (fun q => ?_) (Heap.get?_push_of_some _ e)) hS' hg⟩
  rcases List.mem_cons.mp q with z | z
  · rw [z] at e; exact absurd (Heap.lt_size e) (Nat.lt_irrefl _)
  · exact nb z
end
end MG

set_option Elab.async false
set_option linter.all false
set_option maxRecDepth 100000
set_option maxHeartbeats 4000000
/-! MgZip5: the list of a zip of three. -/
namespace MG
open PySem PyProof.Rows L2
theorem nolen_zip : typeLookup (.type "zip") "__len__" = pure none := by rw [typeLookup_type, builtinLookup_eq_fast]; kernel_rfl
theorem nohint_zip : typeLookup (.type "zip") "__length_hint__" = pure none := by rw [typeLookup_type, builtinLookup_eq_fast]; kernel_rfl
section
variable {prog : Program} {w : World} {A : Around} {E : Value → Shared → Prop} {s : Shared} {z : Addr} {T : String}
/-- next(z), what __next__ does being known -/
theorem nx_of {Q : Option Value → Shared → Prop} (ty : s.TypeIs (.ref z) "zip")
    (h : wpAny (model prog w) A.in1 (Builtin.«zip.__next__» ⟨[.ref z], []⟩) (fun fin t => ∃ v, fin = .done (.ret v) ∧ Q (some v) t) (fun e t => ∃ a, e = .ref a ∧ (∃ o, t.heap.get? a = some o ∧ o.cls = .type "StopIteration") ∧ Q none t) s) : wpAny (model prog w) A (pyNext (.ref z)) Q E s := by
  unfold pyNext
  refine bnd (wpAny_attempt (wpAny_callSpecial?_slot (name := Str.ofString "__next__") ty F.slot_zip_next (wpAny_call_entry F.slot_zip_next ty F.entry_zip_next (wpAny_mono h (fun fin t ⟨v, e, q⟩ => ⟨v, e, wpAny_pure q⟩) fun e t ⟨a, ea, ⟨o, ho, hc⟩, q⟩ => ?_) (F.args_zip_next_1 _))))
  subst ea
  exact bnd (wpAny_isInstance (T := "StopIteration") (b := true) ⟨o, ho, hc⟩ isSubtype_stop (wpAny_pure q))
end
/-- a zip of three at the j-th turn -/
def Z3 (k1 k2 k3 : Bool) (z TI TO i1 i2 i3 l1 l2 l3 : Addr) (xs ys ws : Array Value) (m j : Nat) (h : Heap) : Prop :=
  IsTr h TI (.ref i1) (.ref i2) (.ref i3) ∧ ItH k1 h i1 l1 j ∧ ItH k2 h i2 l2 j ∧ ItH k3 h i3 l3 j ∧ SqH k1 h l1 xs ∧ SqH k2 h l2 ys ∧ SqH k3 h l3 ws ∧ m ≤ h.objs.size ∧
    ((j = 0 ∧ IsZip h z TI TO .none ∧ ∃ a b c, IsTr h TO a b c) ∨ 0 < j ∧ ∃ T f oT, m ≤ T ∧ IsZipHeld h z TI TO T f ∧ h.get? T = some oT)
section
variable {prog : Program} {w : World} {A : Around} {k1 k2 k3 : Bool} {z TI TO i1 i2 i3 l1 l2 l3 : Addr} {xs ys ws : Array Value} {m : Nat}
theorem dr_zip3 (hh : A.handled = none) (D : Ap3 z TI TO i1 i2 i3 l1 l2 l3) (low : ∀ b ∈ [z, TI, TO, i1, i2, i3, l1, l2, l3], b < m) (e2 : xs.size = ys.size) (e3 : xs.size = ws.size) (hn : 0 < xs.size) :
    DrH prog w A z [z, TI, TO, i1, i2, i3, l1, l2, l3] [z, TO, i1, i2, i3] m xs.size (Z3 k1 k2 k3 z TI TO i1 i2 i3 l1 l2 l3 xs ys ws m) (fun j v h => ∃ T x y u, v = .ref T ∧ m ≤ T ∧ IsTr h T x y u ∧ xs[j]? = some x ∧ ys[j]? = some y ∧ ws[j]? = some u) where
  sub := fun b hb => by
    simp only [List.mem_cons, List.not_mem_nil, or_false] at hb ⊢
    rcases hb with h | h | h | h | h <;> simp [h]
  mem := by simp
  low := fun b hb => low b (by
    simp only [List.mem_cons, List.not_mem_nil, or_false] at hb ⊢
    rcases hb with h | h | h | h | h <;> simp [h])
  stK := fun j h h' st sz f => by
    obtain ⟨a1, a2, a3, a4, a5, a6, a7, a8, a9⟩ := st
    have k : ∀ {b}, b ∈ [z, TI, TO, i1, i2, i3, l1, l2, l3] → ∀ o, h.get? b = some o → h'.get? b = some o := fun mb o e => f _ o (.inl mb) e
    refine ⟨k (by simp) _ a1, a2.on (k (by simp)), a3.on (k (by simp)), a4.on (k (by simp)), a5.on (k (by simp)), a6.on (k (by simp)), a7.on (k (by simp)), Nat.le_trans a8 sz, ?_⟩
    rcases a9 with ⟨e, b1, x, y, u, b2⟩ | ⟨e, T, g, oT, b1, b2, b3⟩
    · exact .inl ⟨e, k (by simp) _ b1, x, y, u, k (by simp) _ b2⟩
    · exact .inr ⟨e, T, g, oT, b1, k (by simp) _ b2, f _ _ (.inr b1) b3⟩
  pK := fun j v h h' ⟨T, x, y, u, e, b1, b2, q⟩ f => ⟨T, x, y, u, e, b1, f _ _ b1 b2, q⟩
  self := fun s Q E st q => by
    obtain ⟨-, -, -, -, -, -, -, -, a9⟩ := st
    rcases a9 with ⟨e, b1, x, y, u, b2⟩ | ⟨e, _⟩
    · exact wpAny_pyIter_zip b1 q
    · exact absurd e (Nat.lt_irrefl _)
  item := fun j s Q E hj st q => by
    obtain ⟨a1, a2, a3, a4, a5, a6, a7, a8, a9⟩ := st
    have hx : xs[j]? = some (xs[j]'hj) := by simp [hj]
    have hy : ys[j]? = some (ys[j]'(by omega)) := by simp [show j < ys.size by omega]
    have hu : ws[j]? = some (ws[j]'(by omega)) := by simp [show j < ws.size by omega]
    have D1 := D.ti
    have D2 := D.a1
    have D3 := D.a2
    have D4 := D.a3
    rcases a9 with ⟨e, b1, x, y, u, b2⟩ | ⟨e, T, g, oT, b1, b2, b3⟩
    · refine nx_of ⟨_, b1, rfl⟩ (zip_go D b1 a1 b2 a2 a3 a4 a5 a6 a7 hx hy hu fun h' c1 c2 c3 c4 c5 c6 c7 c8 => ⟨_, rfl, q _ h' ⟨_, _, _, _, rfl, a8, c6, hx, hy, hu⟩ ⟨c8 _ _ D1 a1, c3, c4, c5, a5.on fun o e => c8 _ o D2 e, a6.on fun o e => c8 _ o D3 e, a7.on fun o e => c8 _ o D4 e, by rw [c7]; omega, .inr ⟨by omega, _, _, _, a8, c1, c6⟩⟩ c8⟩)
    · refine nx_of ⟨_, b2, rfl⟩ (zip_on D b2 b3 a1 a2 a3 a4 a5 a6 a7 hx hy hu fun h' c1 c3 c4 c5 c6 c7 c8 => ?_)
      have c9 : Keeps [z, TO, i1, i2, i3] s.heap h' := c8.more fun b hb => by
        simp only [List.mem_cons, List.not_mem_nil, or_false] at hb ⊢
        rcases hb with h | h | h | h <;> simp [h]
      refine ⟨_, rfl, q _ h' ⟨_, _, _, _, rfl, a8, c6, hx, hy, hu⟩ ⟨c9 _ _ D1 a1, c3, c4, c5, a5.on fun o e => c9 _ o D2 e, a6.on fun o e => c9 _ o D3 e, a7.on fun o e => c9 _ o D4 e, by rw [c7]; omega, .inr ⟨by omega, T, true, oT, b1, c1, c8 _ _ (fun hb => ?_) b3⟩⟩ c9⟩
      have : T < m := low T (by
        simp only [List.mem_cons, List.not_mem_nil, or_false] at hb ⊢
        rcases hb with h | h | h | h <;> simp [h])
      exact Nat.lt_irrefl _ (Nat.lt_of_lt_of_le this b1)
  done := fun s Q E st q => by
    obtain ⟨a1, a2, a3, a4, a5, a6, a7, a8, a9⟩ := st
    have hx : xs[xs.size]? = none := by simp
    rcases a9 with ⟨e, _⟩ | ⟨e, T, g, oT, b1, b2, b3⟩
    · omega
    · refine nx_of ⟨_, b2, rfl⟩ (zip_over (k2 := k2) (k3 := k3) hh D b2 b3 a1 a2 a5 hx fun h' e kp ho => ⟨e, rfl, ho, q h' (kp.more fun b hb => ?_)⟩)
      simp only [List.mem_cons, List.not_mem_nil, or_false] at hb ⊢
      rcases hb with h | h | h | h <;> simp [h]
end
end MG

set_option Elab.async false
set_option linter.all false
set_option maxRecDepth 100000
set_option maxHeartbeats 4000000
/-! MgZip6: list(zip(a, b, c)) over plain data. -/
namespace MG
open PySem PySem.Spec PyProof.Rows L2
/-- a tuple's things as they stand -/
def tupOf (o : Option Obj) : HO := match o with
  | some o => (match o.data with | .seq its _ => .tup (its.toList.filterMap absV) | _ => .tup [])
  | none => .tup []
def putM (H : Hp) (as : List Addr) (os : Addr → HO) : Hp := fun b => if b ∈ as then some (os b) else H b
theorem putM_in {H : Hp} {as : List Addr} {os : Addr → HO} {b : Addr} (h : b ∈ as) : putM H as os b = some (os b) := if_pos h
theorem putM_out {H : Hp} {as : List Addr} {os : Addr → HO} {b : Addr} (h : b ∉ as) : putM H as os b = H b := if_neg h
section
variable {X : Cx} {pins : List (Addr × Obj)} {σ : L2.St} {H : Hp} {s : Shared} {h' : Heap} {tk : Nat}
theorem laid_many {as : List Addr} {os : Addr → HO} (I : Inv X pins σ H s) (hk : ∀ b o, s.heap.get? b = some o → h'.get? b = some o) (up : ∀ t ∈ as, s.heap.objs.size ≤ t)
    (ok : ∀ t ∈ as, ObjOk X.prog X.w (putM H as os) h' t (os t)) : Inv X pins σ (putM H as os) { s with heap := h', toks := tk } := by
  have new : ∀ t ∈ as, H t = none := fun t ht => I.hok.fresh (up t ht)
  have low : ∀ b o, s.heap.get? b = some o → b ∉ as := fun b o e z => absurd (Heap.lt_size e) (Nat.not_lt.mpr (up b z))
  have kp : ∀ b u, H b = some u → putM H as os b = some u := fun b u e => by
    rw [putM_out fun z => by rw [new b z] at e; cases e]
    exact e
  refine I.call' (ch := []) rfl ⟨fun b o q _ _ _ => hk b o q, fun b o q _ _ _ => ⟨o.slots, hk b o q⟩, fun b o q n _ => ?_, fun b o q _ => ⟨o, hk b o q⟩, fun b xs q => kp b _ q, fun b o u q => kp b _ q, fun b ps q => ⟨#[], by rw [kp b _ q]; simp⟩⟩ (fun b u q => ?_) I.bare fun b z => by simp at z
  · rw [putM_out (low b o q)]
    exact n
  · by_cases hb : b ∈ as
    · rw [putM_in hb] at q
      cases q
      exact ok b hb
    · rw [putM_out hb] at q
      exact (I.hok b u q).stay (fun d v _ y => hk d v y) (fun d y => kp d _ y) fun d xs y => kp d _ y
end
theorem beg (k : Bool) (l : Addr) (vs : Array Value) : Begins (.ref l) { cls := .type (clsI k), data := .fields #[.ref l, .int 0 0] } (fun h => SqH k h l vs) := by
  cases k
  · exact begins_list l vs
  · exact begins_tuple l vs
theorem Vals.getV : ∀ {xs : List V} {us : List Value} {i : Nat} {u : Value}, Vals xs us → us[i]? = some u → ∃ x, xs[i]? = some x ∧ RelV x u
  | _, _, _, _, .nil, e => by simp at e
  | _, _, 0, _, .cons r _, e => by simp at e; subst e; exact ⟨_, rfl, r⟩
  | _, _, i + 1, u, .cons _ t, e => by
    obtain ⟨x, h1, h2⟩ := Vals.getV (i := i) (u := u) t (by simpa using e)
    exact ⟨x, by simpa using h1, h2⟩
theorem not5 {x a b c d e : Addr} (h1 : x ≠ a) (h2 : x ≠ b) (h3 : x ≠ c) (h4 : x ≠ d) (h5 : x ≠ e) : x ∉ [a, b, c, d, e] := by
  simp [h1, h2, h3, h4, h5]
theorem low9 {N M a b c : Nat} (la : a < N) (lb : b < N) (lc : c < N) (h : M = N + 6) {x : Addr} (hx : x ∈ [N + 5, N + 3, N + 4, N, N + 1, N + 2, a, b, c]) : x < M := by
  rw [h]
  have g : ∀ y : Nat, x = y → y < N + 6 → x < N + 6 := fun y e l => e ▸ l
  rcases List.mem_cons.mp hx with e | hx
  · exact g _ e (by omega)
  rcases List.mem_cons.mp hx with e | hx
  · exact g _ e (by omega)
  rcases List.mem_cons.mp hx with e | hx
  · exact g _ e (by omega)
  rcases List.mem_cons.mp hx with e | hx
  · exact g _ e (by omega)
  rcases List.mem_cons.mp hx with e | hx
  · exact g _ e (by omega)
  rcases List.mem_cons.mp hx with e | hx
  · exact g _ e (by omega)
  rcases List.mem_cons.mp hx with e | hx
  · exact g _ e (by omega)
  rcases List.mem_cons.mp hx with e | hx
  · exact g _ e (by omega)
  rcases List.mem_cons.mp hx with e | hx
  · exact g _ e (by omega)
  · cases hx
theorem notW {N b : Nat} (h : b < N) : b ∉ [N + 5, N + 4, N, N + 1, N + 2] := by
  have g : ∀ x y : Nat, x ≠ y → (show Addr from x) ≠ (show Addr from y) := fun _ _ h => h
  exact not5 (g _ _ (by omega)) (g _ _ (by omega)) (g _ _ (by omega)) (g _ _ (by omega)) (g _ _ (by omega))
theorem ap3_of {N a b c : Nat} (la : a < N) (lb : b < N) (lc : c < N) : Ap3 (N + 5) (N + 3) (N + 4) N (N + 1) (N + 2) a b c := by
  have h : ∀ x y : Nat, x ≠ y → (show Addr from x) ≠ (show Addr from y) := fun _ _ h => h
  refine ⟨h _ _ (by omega), h _ _ (by omega), h _ _ (by omega), h _ _ (by omega), h _ _ (by omega), h _ _ (by omega), h _ _ (by omega), h _ _ (by omega), h _ _ (by omega), h _ _ (by omega), ?_, ?_, ?_, ?_⟩ <;> refine not5 ?_ ?_ ?_ ?_ ?_ <;> (refine h _ _ ?_; omega)
def adr : Value → Addr
  | .ref a => a
  | _ => 0
/-- list(zip(..)) of three of one length -/
def tListZip3 (K : PySem.W.Frag) (ta : TA) : TE := fun σ H Q => ta σ H fun vs H1 => ∃ a b c xs ys zs k1 k2 k3, vs = [.ref a, .ref b, .ref c] ∧ SqG k1 K H1 a xs ∧ SqG k2 K H1 b ys ∧ SqG k3 K H1 c zs ∧ xs.length ≤ sizeLine ∧ xs.length = ys.length ∧ xs.length = zs.length ∧ 0 < xs.length ∧
  ∀ (l : Addr) (ts : List Addr) (os : Addr → HO), H1 l = none → (∀ t ∈ ts, H1 t = none) → l ∉ ts → os l = .lst (ts.map V.ref) → ts.length = xs.length → (∀ (j : Nat) (t : Addr), ts[j]? = some t → ∃ x y z, xs[j]? = some x ∧ ys[j]? = some y ∧ zs[j]? = some z ∧ os t = .tup [x, y, z]) → Q (.ref l) (putM H1 (l :: ts) os)
theorem pe_listzip3 {X : Cx} {e1 e2 e3 : Expr} {ta : TA} {p p2 pos pos2 : Pos} (hc : X.calm = true) (ha : PA X [e1, e2, e3] ta) (hgl : Gl X "list") (hml : X.mg "list" = none) (hgz : Gl X "zip") (hmz : X.mg "zip" = none)
    (hs : starEach [e1, e2, e3] X.env = (false, eval e1 X.env) :: starEach [e2, e3] X.env := by rfl) (hpl : (backTo pos2 (starEach [e2, e3] X.env)).any (·.1) = false := by rfl)
    (hs2 : starEach [.Call (.Name "zip" p2) [e1, e2, e3] [] pos2] X.env = (false, eval (.Call (.Name "zip" p2) [e1, e2, e3] [] pos2) X.env) :: starEach [] X.env := by rfl) :
    PE X (.Call (.Name "list" p) [.Call (.Name "zip" p2) [e1, e2, e3] [] pos2] [] pos) (tListZip3 X.K ta) := by
  refine ⟨fun pins s σ H Q I hq => ?_⟩
  refine wpAny_Call_Name_kw (ld_blt I hgl hml PyProof.Rows.boot_list ?_)
  refine PyProof.Rows.callWith_type1 ?_ hs2 rfl
  rw [hs2]
  show wpAny _ _ (spliced ((false, eval (.Call (.Name "zip" p2) [e1, e2, e3] [] pos2) X.env) :: backTo pos (starEach [] X.env))) _ _ s
  refine Calls.spliced_cons ?_
  refine Call_ (ld_blt I hgz hmz PyProof.Rows.boot_zip (PyProof.Rows.callWith_type1 (thn (ha.run pos2 pins s σ H _ I hq) ?_) hs hpl))
  rintro us s1 ⟨vs, H1, I1, r1, a, b, c, xs, ys, zs, k1, k2, k3, rfl, qx, qy, qz, hz, l2, l3, l0, q⟩
  obtain ⟨u1, u2, u3, rfl, ra, rb, rc⟩ : ∃ u1 u2 u3, us = [u1, u2, u3] ∧ RelV (.ref a) u1 ∧ RelV (.ref b) u2 ∧ RelV (.ref c) u3 := by
    cases r1 with
    | cons r rr => cases rr with
      | cons r' rr' => cases rr' with
        | cons r'' rr'' => cases rr''; exact ⟨_, _, _, rfl, r, r', r''⟩
  cases ra
  cases rb
  cases rc
  obtain ⟨vs, rv, p1, la⟩ := SqG.vals I1 qx
  obtain ⟨ws, rw', p2, lb⟩ := SqG.vals I1 qy
  obtain ⟨ts, rt, p3, lc⟩ := SqG.vals I1 qz
  have n1 : vs.length = xs.length := rv.length.symm
  have n2 : ws.length = xs.length := by rw [← rw'.length, l2]
  have n3 : ts.length = xs.length := by rw [← rt.length, l3]
  refine zip_begins3 (beg k1 a vs.toArray) (beg k2 b ws.toArray) (beg k3 c ts.toArray) p1 p2 p3 fun h2 z1 z2 z3 g1 g2 g3 sz up => ?_
  refine Calls.spliced_nil ?_
  have D := ap3_of la lb lc
  have low : ∀ x ∈ [s1.heap.objs.size + 5, s1.heap.objs.size + 3, s1.heap.objs.size + 4, s1.heap.objs.size, s1.heap.objs.size + 1, s1.heap.objs.size + 2, a, b, c], x < h2.objs.size := fun x hx => low9 la lb lc sz hx
  have W := dr_zip3 (prog := X.prog) (w := X.w) (A := X.A.in1.in1) (k1 := k1) (k2 := k2) (k3 := k3) (m := h2.objs.size + 1) (xs := vs.toArray) (ys := ws.toArray) (ws := ts.toArray) (I1.ok.hd hc) D (fun x hx => Nat.lt_succ_of_lt (low x hx)) (by simp; omega) (by simp; omega) (by simp; omega)
  have ph : ∀ {b o}, h2.get? b = some o → (h2.push { cls := .type "list", data := .seq #[] }).get? b = some o := fun e => Heap.get?_push_of_some _ e
  refine list_it (s := { s1 with heap := h2 }) W (by simp; omega) nolen_zip nohint_zip rfl rfl (fun i s st => ?_) ⟨ph z2, ⟨_, ph g1, rfl, rfl⟩, ⟨_, ph g2, rfl, rfl⟩, ⟨_, ph g3, rfl, rfl⟩, (p1.on (up a)).on fun o e => ph e, (p2.on (up b)).on fun o e => ph e, (p3.on (up c)).on fun o e => ph e, by rw [Heap.size_push]; exact Nat.le_refl _, .inl ⟨rfl, ph z1, _, _, _, ph z3⟩⟩ low (Nat.lt_succ_self _) fun h' acc cc kp hS hg => ?_
  · obtain ⟨-, -, -, -, -, -, -, -, a9⟩ := st
    rcases a9 with ⟨-, b1, -⟩ | ⟨-, T, g, oT, -, b2, -⟩
    · exact ⟨_, b1, rfl⟩
    · exact ⟨_, b2, rfl⟩
  · obtain ⟨hsz, hP⟩ := hg
    have hsz : acc.size = xs.length := by rw [hsz]; exact (by simp; omega : vs.toArray.size = xs.length)
    -- where each lies
    have hat : ∀ j v, acc[j]? = some v → ∃ T x y u, v = Value.ref T ∧ h2.objs.size + 1 ≤ T ∧ IsTr h' T x y u ∧ vs[j]? = some x ∧ ws[j]? = some y ∧ ts[j]? = some u := fun j v e => by
      obtain ⟨T, x, y, u, e1, e2, e3, e4, e5, e6⟩ := hP j v e
      exact ⟨T, x, y, u, e1, e2, e3, by simpa using e4, by simpa using e5, by simpa using e6⟩
    have hadr : ∀ j v, acc[j]? = some v → v = Value.ref (adr v) := fun j v e => by
      obtain ⟨T, x, y, u, e1, -⟩ := hat j v e
      subst e1; rfl
    let rs := acc.toList.map adr
    have hacc : acc.toList = rs.map Value.ref := by
      show acc.toList = (acc.toList.map adr).map Value.ref
      rw [List.map_map]
      refine (List.map_id acc.toList).symm.trans (List.map_congr_left fun v hv => ?_)
      obtain ⟨j, hj⟩ := List.mem_iff_getElem?.mp hv
      exact hadr j v (by rw [← Array.getElem?_toList]; exact hj)
    have hrs : ∀ (j : Nat) (t : Addr), rs[j]? = some t → ∃ v, acc[j]? = some v ∧ v = Value.ref t := fun j t e => by
      have e' : (acc.toList.map adr)[j]? = some t := e
      rw [List.getElem?_map] at e'
      cases q : acc.toList[j]? with
      | none => rw [q] at e'; cases e'
      | some v =>
        rw [q] at e'
        have hv : acc[j]? = some v := by rw [← Array.getElem?_toList]; exact q
        refine ⟨v, hv, (hadr j v hv).trans ?_⟩
        rw [show adr v = t from Option.some.inj e']
    have hup : ∀ t ∈ rs, h2.objs.size + 1 ≤ t := fun t ht => by
      obtain ⟨j, hj⟩ := List.mem_iff_getElem?.mp ht
      obtain ⟨v, hv, ev⟩ := hrs j t hj
      obtain ⟨T, x, y, u, e1, e2, -⟩ := hat j _ hv
      rw [ev] at e1
      have e0 : t = T := Value.ref.inj e1
      subst e0; exact e2
    let os : Addr → HO := fun b => if b = h2.objs.size then .lst (rs.map V.ref) else tupOf (h'.get? b)
    have nl : h2.objs.size ∉ rs := fun z => Nat.lt_irrefl _ (hup _ z)
    have hk : ∀ b o, s1.heap.get? b = some o → h'.get? b = some o := fun b o e => kp b o (notW (Heap.lt_size e)) (up b o e)
    have hrow : ∀ (j : Nat) (t : Addr), rs[j]? = some t → ∃ x y z, xs[j]? = some x ∧ ys[j]? = some y ∧ zs[j]? = some z ∧ os t = .tup [x, y, z] ∧ ∃ u1 u2 u3, RelV x u1 ∧ RelV y u2 ∧ RelV z u3 ∧ IsTr h' t u1 u2 u3 := fun j t e => by
      obtain ⟨v, hv, ev⟩ := hrs j t e
      obtain ⟨T, u1, u2, u3, e1, e2, e3, e4, e5, e6⟩ := hat j _ hv
      rw [ev] at e1
      have e0 : t = T := Value.ref.inj e1
      subst e0
      obtain ⟨x, f1, r1⟩ := Vals.getV rv e4
      obtain ⟨y, f2, r2⟩ := Vals.getV rw' e5
      obtain ⟨z, f3, r3⟩ := Vals.getV rt e6
      refine ⟨x, y, z, f1, f2, f3, ?_, u1, u2, u3, r1, r2, r3, e3⟩
      show (if t = h2.objs.size then _ else _) = _
      rw [if_neg (Nat.ne_of_gt (Nat.lt_of_succ_le e2)), show h'.get? t = _ from e3]
      show HO.tup ([u1, u2, u3].filterMap absV) = _
      simp [List.filterMap, r1.abs, r2.abs, r3.abs]
    have osl : os h2.objs.size = .lst (rs.map V.ref) := if_pos rfl
    have lrs : rs.length = xs.length := by show (acc.toList.map adr).length = _; rw [List.length_map, Array.length_toList, hsz]
    have J : Inv X pins σ (putM H1 (h2.objs.size :: rs) os) { s1 with heap := h', toks := s1.toks } := laid_many I1 hk (fun t ht => by
        rcases List.mem_cons.mp ht with rfl | ht
        · rw [sz]; exact Nat.le_add_right _ _
        · refine Nat.le_trans ?_ (hup t ht); rw [sz]; exact Nat.le_add_right _ 7) fun t ht => by
        rcases List.mem_cons.mp ht with rfl | ht
        · rw [osl]
          refine ⟨by rw [List.length_map]; omega, acc.toList, cc, by rw [hacc]; exact LiI.vals_refs rs, ?_⟩
          rw [Array.toArray_toList]
          exact hS
        · obtain ⟨j, hj⟩ := List.mem_iff_getElem?.mp ht
          obtain ⟨x, y, z, f1, f2, f3, f4, u1, u2, u3, r1, r2, r3, e3⟩ := hrow j t hj
          rw [f4]
          exact ⟨by show 3 ≤ sizeLine; rw [sizeLine_eq]; decide, [u1, u2, u3], .cons r1 (.cons r2 (.cons r3 .nil)), ⟨_, e3, rfl, _, rfl⟩⟩
    have fr : ∀ t, s1.heap.objs.size ≤ t → H1 t = none := fun t ht => I1.hok.fresh ht
    refine ⟨.ref h2.objs.size, _, J, rfl, q h2.objs.size rs os (fr _ (by rw [sz]; exact Nat.le_add_right _ _)) (fun t ht => fr _ (by refine Nat.le_trans ?_ (hup t ht); rw [sz]; exact Nat.le_add_right _ 7)) nl osl lrs fun j t e => ?_⟩
    obtain ⟨x, y, z, f1, f2, f3, f4, -⟩ := hrow j t e
    exact ⟨x, y, z, f1, f2, f3, f4⟩

/-! ### over plain data -/
def zip3D : List PyData → List PyData → List PyData → List PyData
  | x :: xs, y :: ys, z :: zs => .tuple [x, y, z] :: zip3D xs ys zs
  | _, _, _ => []
def sideD : PyData → Option (List PyData)
  | .list xs => some xs
  | .tuple xs => some xs
  | _ => none
def opLZ3 : List PyData → (List PyData → Prop) → Prop
  | [a, b, c], Φ => match sideD a, sideD b, sideD c with
    | some xs, some ys, some zs => xs.length = ys.length ∧ xs.length = zs.length ∧ 0 < xs.length ∧ Φ (zip3D xs ys zs)
    | _, _, _ => False
  | _, _ => False
theorem zip3D_at : ∀ {xs ys zs : List PyData} {j : Nat} {x y z : PyData}, xs[j]? = some x → ys[j]? = some y → zs[j]? = some z → (zip3D xs ys zs)[j]? = some (.tuple [x, y, z])
  | a :: xs, b :: ys, c :: zs, 0, x, y, z, e1, e2, e3 => by simp at e1 e2 e3; subst e1; subst e2; subst e3; rfl
  | a :: xs, b :: ys, c :: zs, j + 1, x, y, z, e1, e2, e3 => by
    show (zip3D xs ys zs)[j]? = _
    exact zip3D_at (by simpa using e1) (by simpa using e2) (by simpa using e3)
  | [], _, _, _, _, _, _, e1, _, _ => by simp at e1
  | _ :: _, [], _, _, _, _, _, _, e2, _ => by simp at e2
  | _ :: _, _ :: _, [], _, _, _, _, _, _, e3 => by simp at e3
theorem zip3D_len : ∀ {xs ys zs : List PyData}, xs.length = ys.length → xs.length = zs.length → (zip3D xs ys zs).length = xs.length
  | [], _, _, _, _ => rfl
  | a :: xs, [], _, e, _ => by simp at e
  | a :: xs, b :: ys, [], _, e => by simp at e
  | a :: xs, b :: ys, c :: zs, e1, e2 => by
    show (zip3D xs ys zs).length + 1 = xs.length + 1
    rw [zip3D_len (by simpa using e1) (by simpa using e2)]
theorem RpAll.of_at {K : PySem.W.Frag} {F : Hp} : ∀ {vs : List V} {ds : List PyData}, vs.length = ds.length → (∀ (j : Nat) (v : V) (d : PyData), vs[j]? = some v → ds[j]? = some d → Rp K F v d) → RpAll K F vs ds
  | [], [], _, _ => .nil
  | [], _ :: _, e, _ => by cases e
  | _ :: _, [], e, _ => by cases e
  | v :: vs, d :: ds, e, h => .cons (h 0 v d rfl rfl) (RpAll.of_at (by simpa using e) fun j u c e1 e2 => h (j + 1) u c (by simpa using e1) (by simpa using e2))
section
variable [Tbl] {T : Option Addr} {F H : Hp}
/-- many new tuples, and a list of them -/
theorem new_many {l : Addr} {ts : List Addr} {os : Addr → HO} (W : Wd T F H) (hl : H l = none) (ht : ∀ t ∈ ts, H t = none) (nl : l ∉ ts) (hos : ∀ t ∈ ts, ∃ vs, os t = .tup vs) :
    Wd T (putM F ts os) (putM H (l :: ts) os) ∧ Ex T F H (putM F ts os) (putM H (l :: ts) os) := by
  have new : ∀ t ∈ l :: ts, H t = none := fun t h => by
    rcases List.mem_cons.mp h with rfl | h
    · exact hl
    · exact ht t h
  have kH : ∀ a o, H a = some o → putM H (l :: ts) os a = some o := fun a o e => by
    rw [putM_out fun z => by rw [new a z] at e; cases e]
    exact e
  have oF : ∀ a, H a ≠ none → putM F ts os a = F a := fun a e => putM_out fun z => e (ht a z)
  have kF : ∀ a o, F a = some o → putM F ts os a = some o := fun a o e => by
    rw [oF a (by rw [W.fz _ _ e]; simp)]
    exact e
  refine ⟨⟨fun a o e => ?_, ?_, W.tabs.ext fun b u q => kH b _ q, fun a ps z => ?_⟩, ⟨fun a o e _ _ => kH a o e, fun a e => ?_, fun a o e => kF a o e, oF, fun a l p c _ e => ⟨p, c, kH a _ e⟩⟩⟩
  · by_cases h : a ∈ ts
    · rw [putM_in h] at e
      rw [putM_in (List.mem_cons_of_mem _ h)]
      exact e
    · rw [putM_out h] at e
      exact kH a o (W.fz _ _ e)
  · cases T with
    | none => trivial
    | some t =>
      obtain ⟨f, l', ns, q, c, h1, h2, h3⟩ := W.tape
      exact ⟨by rw [oF t (by rw [h1]; simp)]; exact f, l', ns, q, c, kH t _ h1, kF _ _ h2, h3⟩
  · by_cases h : a ∈ ts
    · rw [putM_in h] at z
      obtain ⟨vs, e⟩ := hos a h
      rw [e] at z; cases z
    · rw [putM_out h] at z
      exact W.nt a ps z
  · cases q : H a with
    | none => exact absurd q e
    | some o => rw [kH a o q]; simp
end
section
variable [Tbl] {X : Cx} {K : PySem.W.Frag} {T : Option Addr} {e1 e2 e3 : Expr} {wa : WA} {p p2 pos pos2 : Pos}
theorem side_d {F : Hp} {v : V} {d : PyData} {ds : List PyData} (D : Rp K F v d) (e : sideD d = some ds) : ∃ k a xs, v = .ref a ∧ SdG k K T F a xs ∧ RpAll K F xs ds := by
  unfold sideD at e
  split at e
  · cases e; obtain ⟨a, xs, h⟩ := side_l (T := T) D; exact ⟨_, a, xs, h⟩
  · cases e; obtain ⟨a, xs, h⟩ := side_t (T := T) D; exact ⟨_, a, xs, h⟩
  · cases e
theorem mn_listzip3 {n : Nat} (hk : X.K = K) (hc : X.calm = true) (hml : X.mg "list" = none) (hmz : X.mg "zip" = none) (ha : PA X [e1, e2, e3] (tDA K T n wa)) (hgl : Gl X "list" := by rfl) (hgz : Gl X "zip" := by rfl)
    (hs : starEach [e1, e2, e3] X.env = (false, eval e1 X.env) :: starEach [e2, e3] X.env := by rfl) (hpl : (backTo pos2 (starEach [e2, e3] X.env)).any (·.1) = false := by rfl)
    (hs2 : starEach [.Call (.Name "zip" p2) [e1, e2, e3] [] pos2] X.env = (false, eval (.Call (.Name "zip" p2) [e1, e2, e3] [] pos2) X.env) :: starEach [] X.env := by rfl) :
    PE X (.Call (.Name "list" p) [.Call (.Name "zip" p2) [e1, e2, e3] [] pos2] [] pos) (tN K T (wCallN opLZ3 wa)) := by
  subst hk
  refine pe_imp (pe_listzip3 hc ha hgl hml hgz hmz hs hpl hs2) fun σ H Q ⟨H0, ε, F, Φ, S, W, hw, k⟩ => ⟨H0, ε, F, _, S, W, hw, fun ds vs F1 H1 hd _ W1 X1 D1 => ?_⟩
  unfold opLZ3 at hd
  split at hd
  · rename_i d1 d2 d3 Φ'
    split at hd
    · rename_i ds1 ds2 ds3 q1 q2 q3
      obtain ⟨m1, m2, m3, hΦ⟩ := hd
      cases D1 with
      | cons r1 D1 => cases D1 with
        | cons r2 D1 => cases D1 with
          | cons r3 D1 =>
            cases D1
            obtain ⟨k1, a, xs, rfl, s1, w1⟩ := side_d (T := T) r1 q1
            obtain ⟨k2, b, ys, rfl, s2, w2⟩ := side_d (T := T) r2 q2
            obtain ⟨k3, c, zs, rfl, s3, w3⟩ := side_d (T := T) r3 q3
            have y1 := w1.length
            have y2 := w2.length
            have y3 := w3.length
            refine ⟨a, b, c, xs, ys, zs, k1, k2, k3, rfl, s1.now W1, s2.now W1, s3.now W1, s1.1, by omega, by omega, by omega, fun l ts os hl ht nl osl lts hrow => ?_⟩
            obtain ⟨W2, X2⟩ := new_many (l := l) (ts := ts) (os := os) W1 hl ht nl fun t hm => by
              obtain ⟨j, hj⟩ := List.mem_iff_getElem?.mp hm
              obtain ⟨x, y, z, -, -, -, e⟩ := hrow j t hj
              exact ⟨_, e⟩
            have hH : H l = none := by
              cases q : H l with
              | none => rfl
              | some o => exact absurd hl (X1.dom l (by rw [q]; simp))
            refine k _ l (ts.map V.ref) _ _ hΦ W2 (X1.trans X2) hH ?_ (tape_ne W1 hl) ?_ (by rw [List.length_map, lts]; exact s1.1) (RpAll.of_at (by rw [List.length_map, zip3D_len m1 m2]; omega) fun j v d e1 e2 => ?_)
            · rw [putM_out nl]; exact W1.none_of hl
            · rw [putM_in List.mem_cons_self, osl]
            · rw [List.getElem?_map] at e1
              cases q : ts[j]? with
              | none => rw [q] at e1; cases e1
              | some t =>
                rw [q] at e1
                cases e1
                obtain ⟨x, y, z, f1, f2, f3, f4⟩ := hrow j t q
                obtain ⟨c1, g1, t1⟩ := w1.get f1
                obtain ⟨c2, g2, t2⟩ := w2.get f2
                obtain ⟨c3, g3, t3⟩ := w3.get f3
                rw [zip3D_at g1 g2 g3] at e2
                cases e2
                refine .tup (SqT.of (xs := [x, y, z]) ?_) (by show 3 ≤ sizeLine; rw [sizeLine_eq]; decide) (.cons (Rp.up X2.ff _ _ t1) (.cons (Rp.up X2.ff _ _ t2) (.cons (Rp.up X2.ff _ _ t3) .nil)))
                rw [putM_in (List.mem_of_getElem? q), f4]
    · exact hd.elim
  · exact hd.elim
end
end MG

set_option Elab.async false
set_option linter.all false
set_option maxRecDepth 100000
set_option maxHeartbeats 4000000
/-! MgDct: dicts of texts and ints in slots of one's own. -/
namespace MG
variable [Tbl]
open PySem PySem.Spec PyProof.Rows L2
/-! ### plain dicts -/
/-- are two keys one: texts and ints -/
def kEq : PyData → PyData → Bool
  | .int a, .int b => decide (a = b)
  | .str a, .str b => decide (a = b)
  | _, _ => false
def dGet (ds : List (PyData × PyData)) (k : PyData) : Option PyData := (ds.find? fun p => kEq p.1 k).map (·.2)
def dPut (ds : List (PyData × PyData)) (k v : PyData) : List (PyData × PyData) := if (ds.any fun p => kEq p.1 k) = true then ds.map (fun p => if kEq p.1 k = true then (p.1, v) else p) else ds ++ [(k, v)]
def dMerge (ds more : List (PyData × PyData)) : List (PyData × PyData) := more.foldl (fun acc p => dPut acc p.1 p.2) ds
def isKey : PyData → Bool
  | .int _ => true
  | .str _ => true
  | _ => false
def pairsD : List PyData → Option (List (PyData × PyData))
  | [] => some []
  | .tuple [k, v] :: r => if isKey k = true then (pairsD r).map ((k, v) :: ·) else none
  | _ => none
section
omit [Tbl]
theorem kEq_keyD (a b : Key) : kEq (keyD a) (keyD b) = decide (a = b) := by
  cases a <;> cases b <;> simp [keyD, kEq]
variable {K : PySem.W.Frag} {F : Hp}
theorem KvR.get : ∀ {kvs : List (Key × V)} {ds : List (PyData × PyData)} {k : Key} {d : PyData}, KvR K F kvs ds → dGet ds (keyD k) = some d → ∃ v, valV kvs k = some v ∧ Rp K F v d
  | _, _, k, d, .nil, h => by simp [dGet] at h
  | p :: ps, q :: qs, k, d, .cons h1 t, h => by
    obtain ⟨e1, r1⟩ := h1
    by_cases e : p.1 = k
    · rw [valV_pos e]
      have : kEq q.1 (keyD k) = true := by rw [← e1, kEq_keyD]; simp [e]
      simp only [dGet, List.find?_cons, this, Option.map_some, Option.some.injEq] at h
      exact ⟨_, rfl, h ▸ r1⟩
    · rw [valV_neg e]
      have : kEq q.1 (keyD k) = false := by rw [← e1, kEq_keyD]; simp [e]
      simp only [dGet, List.find?_cons, this] at h
      exact KvR.get t h
theorem KvR.any : ∀ {kvs : List (Key × V)} {ds : List (PyData × PyData)} (k : Key), KvR K F kvs ds → (ds.any fun p => kEq p.1 (keyD k)) = kvs.any fun p => decide (p.1 = k)
  | _, _, k, .nil => rfl
  | p :: ps, q :: qs, k, .cons h1 t => by
    simp only [List.any_cons]
    rw [KvR.any k t, ← h1.1, kEq_keyD]
theorem KvR.repl {v : V} {d : PyData} (r : Rp K F v d) : ∀ {kvs : List (Key × V)} {ds : List (PyData × PyData)} (k : Key), KvR K F kvs ds → KvR K F (kvs.map fun p => if p.1 = k then (p.1, v) else p) (ds.map fun p => if kEq p.1 (keyD k) = true then (p.1, d) else p)
  | _, _, k, .nil => .nil
  | p :: ps, q :: qs, k, .cons h1 t => by
    simp only [List.map_cons]
    refine .cons ?_ (KvR.repl r k t)
    by_cases e : p.1 = k
    · have : kEq q.1 (keyD k) = true := by rw [← h1.1, kEq_keyD]; simp [e]
      rw [if_pos e, if_pos this]
      exact ⟨h1.1, r⟩
    · have : kEq q.1 (keyD k) = false := by rw [← h1.1, kEq_keyD]; simp [e]
      rw [if_neg e, this]
      exact h1
theorem KvR.put {kvs : List (Key × V)} {ds : List (PyData × PyData)} {v : V} {d : PyData} (h : KvR K F kvs ds) (k : Key) (r : Rp K F v d) : KvR K F (putK kvs k v) (dPut ds (keyD k) d) := by
  unfold putK dPut
  rw [KvR.any k h]
  split
  · exact h.repl r k
  · exact Paired.snoc h ⟨rfl, r⟩
theorem KvR.merge : ∀ {more : List (Key × V)} {es : List (PyData × PyData)} {kvs : List (Key × V)} {ds : List (PyData × PyData)}, KvR K F more es → KvR K F kvs ds → KvR K F (mergeK kvs more) (dMerge ds es)
  | _, _, kvs, ds, .nil, h => h
  | p :: ps, q :: qs, kvs, ds, .cons h1 t, h => by
    show KvR K F (mergeK (putK kvs p.1 p.2) ps) (dMerge (dPut ds q.1 q.2) qs)
    refine KvR.merge t ?_
    rw [← h1.1]
    exact h.put p.1 h1.2
theorem key_of {v : V} {k : PyData} (r : Rp K F v k) (h : isKey k = true) : ∃ q : Key, v = kV q ∧ k = keyD q := by
  unfold isKey at h
  split at h
  · cases r; exact ⟨.inl _, rfl, rfl⟩
  · cases r; exact ⟨.inr _, rfl, rfl⟩
  · cases h
theorem pairs_rp : ∀ {vs : List V} {ps : List PyData} {es : List (PyData × PyData)}, RpAll K F vs ps → pairsD ps = some es → ∃ (as : List Addr) (kvs : List (Key × V)), vs = as.map V.ref ∧ Paired (fun p (kv : Key × V) => SqT K F p [kV kv.1, kv.2]) as kvs ∧ KvR K F kvs es
  | _, [], es, .nil, h => by
    cases h
    exact ⟨[], [], rfl, .nil, .nil⟩
  | _, p :: ps, es, .cons r t, h => by
    unfold pairsD at h
    split at h
    · rename_i e; cases e
    · rename_i k d rest e
      cases e
      split at h
      · rename_i hk
        obtain ⟨es', h1, h2⟩ := Option.map_eq_some_iff.mp h
        obtain ⟨as, kvs, e1, e2, e3⟩ := pairs_rp t h1
        cases r with
        | @tup a xs _ s z ra =>
          cases ra with
          | cons rk ra => cases ra with
            | cons rv ra =>
              cases ra
              obtain ⟨q, eq1, eq2⟩ := key_of rk hk
              subst eq1; subst eq2; subst h2
              exact ⟨a :: as, (q, _) :: kvs, by rw [e1]; rfl, .cons s e2, .cons ⟨rfl, rv⟩ e3⟩
      · cases h
    · cases h
end
/-! ### expressions that give a dict of their own -/
abbrev WK := EV → (List (PyData × PyData) → Prop) → Prop
def tDc (K : PySem.W.Frag) (T : Option Addr) (w : WK) : TE := fun σ H Q => ∃ H0 ε F Φ, Sat K T H0 ε σ F H ∧ Wd T F H ∧ w ε Φ ∧ ∀ ds a F' H', Φ ds → Wd T F' H' → Ex T F H F' H' → H a = none → F' a = none → T ≠ some a → DctAt K F' H' a ds → Q (.ref a) H'
def opDictP : List PyData → (List (PyData × PyData) → Prop) → Prop
  | [.list ps], Φ => match pairsD ps with
    | some es => Φ (dMerge [] es)
    | none => False
  | _, _ => False
def wDictP (wa : WA) : WK := fun ε Φ => wa ε fun ds => opDictP ds Φ
/-- a slot takes a dict of one's own -/
def wSetK (i : Nat) (w : WK) : WS := fun ε Ψ => w ε fun ds => Ψ.nx (ε.set i (.dct ds))
/-- d[k], d a dict of one's own -/
def wKGet (i : Nat) (w : WE) : WE := fun ε Φ => match ε[i]? with
  | some (SV.dct ds) => w ε fun k => isKey k = true ∧ match dGet ds k with
    | some d => Φ d
    | none => False
  | _ => False
section
variable {X : Cx} {K : PySem.W.Frag} {T : Option Addr} {pos p : Pos} {e : Expr} {we : WE} {wa : WA} {x : Str}
theorem mk_dict {n : Nat} (hk : X.K = K) (hc : X.calm = true) (hm : X.mg "dict" = none) (ha : PA X [e] (tDA K T n wa)) (hg : Gl X "dict" := by rfl) (hdb : (("dict" : Str) == ("__debug__" : Str)) = false := by decide)
    (he : starEach [e] X.env = (false, eval e X.env) :: starEach [] X.env := by rfl) (hpl : (backTo pos (starEach [] X.env)).any (·.1) = false := by rfl) : PE X (.Call (.Name "dict" p) [e] [] pos) (tDc K T (wDictP wa)) := by
  subst hk
  refine pe_imp (pe_callTy (T := "dict") (call_dictP hc) hg hm (by decide +kernel) ha (by decide) hdb he hpl) fun σ H Q ⟨H0, ε, F, Φ, S, W, hw, k⟩ => ⟨H0, ε, F, _, S, W, hw, fun ds vs F1 H1 hd hn W1 X1 D1 => ?_⟩
  unfold opDictP at hd
  split at hd
  · rename_i ps
    split at hd
    · rename_i es hes
      cases D1 with
      | cons d1 d2 =>
        cases d2
        cases d1 with
        | lst hl z r =>
          obtain ⟨as, kvs, e1, e2, e3⟩ := pairs_rp r hes
          subst e1
          refine ⟨_, as, kvs, rfl, SqL.of (W1.fz _ _ hl), Paired.mapP e2 fun _ _ q => same_sqT W1.fz q, fun q hq => ?_⟩
          obtain ⟨W2, X2⟩ := new_raw (o := .dK (mergeK [] kvs)) W1 hq
          have hH : H q = none := by
            cases g : H q with
            | none => rfl
            | some o => exact absurd hq (X1.dom q (by rw [g]; simp))
          exact k _ q _ _ hd W2 (X1.trans X2) hH (W1.none_of hq) (tape_ne W1 hq) ⟨_, upd_same, KvR.merge e3 .nil⟩
    · exact hd.elim
  · exact hd.elim
theorem Sat.newK {H0 F H F1 H1 : Hp} {ε : EV} {σ : L2.St} (S : Sat K T H0 ε σ F H) (X0 : ∀ a, H0 a ≠ none → H a ≠ none) (x : Ex T F H F1 H1) {a : Addr} {ds : List (PyData × PyData)} (i : Nat) (ha : H a = none) (d : DctAt K F1 H1 a ds) (hF : F1 a = none) (hT : T ≠ some a) :
    Sat K T H0 (ε.set i (.dct ds)) (σ.set i (some (.ref a))) F1 H1 := by
  have S1 := S.ex x
  have h0 : H0 a = none := by
    cases q : H0 a with
    | none => rfl
    | some o => exact absurd ha (X0 a (by rw [q]; simp))
  have key : ∀ {j : Nat} {s : SV}, (∀ ds, s ≠ .dct ds) → (ε.set i (.dct ds))[j]? = some s → i ≠ j ∧ ε[j]? = some s := fun {j s} hs h => by
    by_cases n : i = j
    · subst n
      rcases Nat.lt_or_ge i ε.length with hi | hi
      · rw [List.getElem?_set_self hi] at h
        exact absurd (Option.some.inj h).symm (hs _)
      · rw [List.getElem?_eq_none (by rw [List.length_set]; exact hi)] at h; cases h
    · rw [List.getElem?_set_ne n] at h; exact ⟨n, h⟩
  -- no slot held this address before
  have fresh : ∀ (j : Nat) (es : List (PyData × PyData)), ε[j]? = some (SV.dct es) → σ[j]? ≠ some (some (V.ref a)) := fun j es hj q => by
    obtain ⟨b, g1, g2, _⟩ := S.dct.at_ j es hj
    rw [g1] at q
    cases q
    exact g2.at ha
  refine ⟨by rw [List.length_set, List.length_set]; exact S.len, fun j d h => ?_, fun j es h => ?_, fun j l b d1 d2 n g1 g2 g3 => ?_, fun j o h => ?_, fun j f h => ?_, ⟨fun j es h => ?_, fun j l b d1 d2 n g1 g2 g3 => ?_⟩⟩
  · obtain ⟨n, g⟩ := key (by simp) h
    rw [List.getElem?_set_ne n]; exact S1.val j d g
  · obtain ⟨n, g⟩ := key (by simp) h
    rw [List.getElem?_set_ne n]; exact S1.own j es g
  · obtain ⟨n1, q1⟩ := key (by simp) g1
    obtain ⟨n2, q2⟩ := key (by simp) g2
    rw [List.getElem?_set_ne n1] at g3
    rw [List.getElem?_set_ne n2]; exact S1.sep j l b d1 d2 n q1 q2 g3
  · obtain ⟨n, g⟩ := key (by simp) h
    rw [List.getElem?_set_ne n]; exact S1.tape j o g
  · obtain ⟨n, g⟩ := key (by simp) h
    rw [List.getElem?_set_ne n]; exact S1.fns j f g
  · by_cases n : i = j
    · subst n
      rcases Nat.lt_or_ge i ε.length with hi | hi
      · rw [List.getElem?_set_self hi] at h
        cases h
        exact ⟨a, List.getElem?_set_self (by rw [← S.len]; exact hi), d, hF, h0, hT⟩
      · rw [List.getElem?_eq_none (by rw [List.length_set]; exact hi)] at h; cases h
    · rw [List.getElem?_set_ne n] at h ⊢; exact S1.dct.at_ j es h
  · by_cases hi : i < ε.length
    · by_cases n1 : i = j
      · subst n1
        rw [List.getElem?_set_ne n] at g2 ⊢
        rw [List.getElem?_set_self (by rw [← S.len]; exact hi)] at g3
        cases g3
        exact fresh l d2 g2
      · rw [List.getElem?_set_ne n1] at g1 g3
        by_cases n2 : i = l
        · subst n2
          rw [List.getElem?_set_self (by rw [← S.len]; exact hi)]
          intro q
          cases q
          exact fresh j d1 g1 g3
        · rw [List.getElem?_set_ne n2] at g2 ⊢
          exact S1.dct.sep j l b d1 d2 n g1 g2 g3
    · have e1 : ε.set i (.dct ds) = ε := List.set_eq_of_length_le (by omega)
      have e2 : σ.set i (some (.ref a)) = σ := List.set_eq_of_length_le (by have := S.len; omega)
      rw [e1] at g1 g2
      rw [e2] at g3 ⊢
      exact S1.dct.sep j l b d1 d2 n g1 g2 g3
theorem tAsgK_of {i : Nat} {w : WK} : ∀ D σ H, sD K T (wSetK i w) D σ H → tAsg (tDc K T w) (gName i) D σ H :=
  fun D σ H ⟨H0, F0, ε, F, Ψ, S, W, X0, hw, kn, kr, kb, kc⟩ => ⟨H0, ε, F, _, S, W, hw, fun ds a F1 H1 hd W1 X1 ha hF hT d =>
    kn _ _ F1 H1 hd (S.newK X0.dom X1 i ha d hF hT) W1 (X0.trans X1)⟩
/-- name = a dict of one's own -/
theorem ms_setK {pos' : Pos} {w : WK} (i : Nat) (hN : X.N.Nodup) (he : PE X e (tDc K T w)) (hi : X.N[i]? = some x := by rfl) (hx : Loc X.env.scope x := by first | exact Or.inl rfl | exact Or.inr rfl) (hs : swapsWith e (some (.Name x pos')) pos.line X.env = pure false := by rfl)
    (hf : X.fn x = true ∨ X.env.scope.names.lookup x = some .local := by first | exact .inl rfl | exact .inr rfl | assumption) : PS X (.Assign [.Name x pos'] e pos) (sD K T (wSetK i w)) :=
  ps_imp (ps_set hN hi hx he hs hf) tAsgK_of
/-- d[k] -/
theorem md_kget {b : Expr} {wb : WE} {px : Pos} (i : Nat) (hu : X.A.units + 64 < cLine) (hb : PE X b (tD K T wb)) (hN : X.N[i]? = some x := by rfl) (hv : Vis X.env.scope x := by first | exact Or.inl rfl | exact Or.inr (Or.inl rfl) | exact Or.inr (Or.inr rfl)) (hd : (x == ("__debug__" : Str)) = false := by decide)
    (hcd : (x == ("__classdict__" : Str)) = false := by decide) (hs : NoSl b := by intro _ _; rfl) : PE X (.Subscript (.Name x px) b pos) (tD K T (wKGet i wb)) := by
  refine pe_imp (pe_dget (by omega) (pe_var hN hv hd hcd) hb hs) fun σ H Q ⟨H0, ε, F, Φ, S, W, hw, k⟩ => ?_
  unfold wKGet at hw
  split at hw
  · rename_i ds hε
    obtain ⟨a, h1, h2, h3, h4, h5⟩ := S.dct.at_ i ds hε
    refine ⟨.ref a, h1, H0, ε, F, _, S, W, hw, fun d v F1 H1 hd W1 X1 D1 => ?_⟩
    obtain ⟨hk, hd⟩ := hd
    obtain ⟨q, rfl, rfl⟩ := key_of D1 hk
    obtain ⟨kvs, g, r⟩ := h2.up (F' := F1) (H' := H1) X1.ff fun o e n _ => X1.hh a o e h5 n
    split at hd
    · rename_i d' hg
      obtain ⟨v', e1, e2⟩ := r.get hg
      exact ⟨a, v', rfl, e1 ▸ DGet.k g, k _ _ F1 H1 hd W1 X1 e2⟩
    · exact hd.elim
  · exact hw.elim
end
/-! ### things of any kind for slots -/
abbrev WSv := EV → (SV → Prop) → Prop
/-- what an expression may give a slot: H ahead of it, (F, H') behind it -/
def Thing (K : PySem.W.Frag) (T : Option Addr) (H F' H' : Hp) (v : V) : SV → Prop
  | .val d => Rp K F' v d
  | .own ds => ∃ a vs, v = .ref a ∧ H a = none ∧ F' a = none ∧ T ≠ some a ∧ H' a = some (.lst vs) ∧ vs.length ≤ sizeLine ∧ RpAll K F' vs ds
  | .dct ds => ∃ a, v = .ref a ∧ H a = none ∧ F' a = none ∧ T ≠ some a ∧ DctAt K F' H' a ds
  | _ => False
def tSv (K : PySem.W.Frag) (T : Option Addr) (w : WSv) : TE := fun σ H Q => ∃ H0 ε F Φ, Sat K T H0 ε σ F H ∧ Wd T F H ∧ w ε Φ ∧ ∀ s v F' H', Φ s → Wd T F' H' → Ex T F H F' H' → Thing K T H F' H' v s → Q v H'
def wSv (w : WE) : WSv := fun ε Φ => w ε fun d => Φ (.val d)
def wSo (w : WA) : WSv := fun ε Φ => w ε fun ds => Φ (.own ds)
def wSk (w : WK) : WSv := fun ε Φ => w ε fun ds => Φ (.dct ds)
def wParS (i j : Nat) (wa wb : WSv) : WS := fun ε Ψ => wa ε fun s => wb ε fun t => Ψ.nx ((ε.set i s).set j t)
def wPar3S (i j l : Nat) (wa wb wc : WSv) : WS := fun ε Ψ => wa ε fun s => wb ε fun t => wc ε fun u => Ψ.nx (((ε.set i s).set j t).set l u)
section
variable {X : Cx} {K : PySem.W.Frag} {T : Option Addr} {pos p : Pos} {e : Expr}
theorem sv_val {w : WE} (h : PE X e (tD K T w)) : PE X e (tSv K T (wSv w)) :=
  pe_imp h fun σ H Q ⟨H0, ε, F, Φ, S, W, hw, k⟩ => ⟨H0, ε, F, _, S, W, hw, fun d v F' H' hd W' X' D => k _ v F' H' hd W' X' D⟩
theorem sv_own {w : WA} (h : PE X e (tN K T w)) : PE X e (tSv K T (wSo w)) :=
  pe_imp h fun σ H Q ⟨H0, ε, F, Φ, S, W, hw, k⟩ => ⟨H0, ε, F, _, S, W, hw, fun ds a vs F' H' hd W' X' h1 h2 h3 h4 h5 h6 => k _ _ F' H' hd W' X' ⟨a, vs, rfl, h1, h2, h3, h4, h5, h6⟩⟩
theorem sv_dct {w : WK} (h : PE X e (tDc K T w)) : PE X e (tSv K T (wSk w)) :=
  pe_imp h fun σ H Q ⟨H0, ε, F, Φ, S, W, hw, k⟩ => ⟨H0, ε, F, _, S, W, hw, fun ds a F' H' hd W' X' h1 h2 h3 h4 => k _ _ F' H' hd W' X' ⟨a, rfl, h1, h2, h3, h4⟩⟩
theorem Sat.thing {H0 F H F1 H1 : Hp} {ε : EV} {σ : L2.St} {v : V} {s : SV} (S : Sat K T H0 ε σ F H) (X0 : ∀ a, H0 a ≠ none → H a ≠ none) (x : Ex T F H F1 H1) (i : Nat) (t : Thing K T H F1 H1 v s) : Sat K T H0 (ε.set i s) (σ.set i (some v)) F1 H1 := by
  unfold Thing at t
  split at t
  · exact (S.ex x).set i t
  · obtain ⟨a, vs, rfl, h1, h2, h3, h4, h5, h6⟩ := t
    exact S.new X0 x i h1 h4 h5 h6 h2 h3
  · obtain ⟨a, rfl, h1, h2, h3, h4⟩ := t
    exact S.newK X0 x i h1 h4 h2 h3
  · exact t.elim
theorem Thing.ex {H F1 H1 F2 H2 : Hp} {v : V} {s : SV} (t : Thing K T H F1 H1 v s) (x : Ex T F1 H1 F2 H2) : Thing K T H F2 H2 v s := by
  unfold Thing at t ⊢
  split at t
  · exact Rp.up x.ff _ _ t
  · obtain ⟨a, vs, rfl, h1, h2, h3, h4, h5, h6⟩ := t
    exact ⟨a, vs, rfl, h1, by rw [x.old a (by rw [h4]; simp)]; exact h2, h3, x.hl h4 h3, h5, RpAll.up x.ff _ _ h6⟩
  · obtain ⟨a, rfl, h1, h2, h3, h4⟩ := t
    exact ⟨a, rfl, h1, by rw [x.old a h4.at]; exact h2, h3, h4.up x.ff fun o e n _ => x.hh a o e h3 n⟩
  · exact t.elim
theorem ms_parS {x y : Str} {a b : Expr} {px py pt : Pos} {kt k2 pt2} {wa wb : WSv} (i j : Nat) (hc : X.calm = true) (hN : X.N.Nodup) (ha : PE X a (tSv K T wa)) (hb : PE X b (tSv K T wb)) (hij : i ≠ j := by decide) (hi : X.N[i]? = some x := by rfl) (hj : X.N[j]? = some y := by rfl)
    (hx : X.env.scope.names.lookup x = some .local := by rfl) (hy : X.env.scope.names.lookup y = some .local := by rfl) (hw : swappedStores [.Tuple [.Name x px, .Name y py] kt pt] (.Tuple [a, b] k2 pt2) X.env = pure (some [x, y]) := by rfl)
    (hs : swapsWithSole [.Tuple [.Name x px, .Name y py] kt pt] (.Tuple [a, b] k2 pt2) pos.line X.env = pure false := by rfl) (h1 : starEach [a, b] X.env = (false, eval a X.env) :: starEach [b] X.env := by rfl) (h2 : starEach [b] X.env = (false, eval b X.env) :: starEach [] X.env := by rfl) :
    PS X (.Assign [.Tuple [.Name x px, .Name y py] kt pt] (.Tuple [a, b] k2 pt2) pos) (sD K T (wParS i j wa wb)) :=
  ps_imp (ps_par hc hN hi hj hij hx hy (pa_cons ha (pa_cons hb pa_nil h2) h1) hw hs) fun D σ H ⟨H0, F0, ε, F, Ψ, S, W, X0, hw, kn, kr, kb, kc⟩ =>
    ⟨H0, ε, F, _, S, W, hw, fun d v F1 H1 hd W1 X1 D1 => ⟨H0, ε, F1, _, S.ex X1, W1, hd, fun d2 v2 F2 H2 hd2 W2 X2 D2 => ⟨v, v2, rfl, kn _ _ F2 H2 hd2 (((S.thing X0.dom X1 i D1)).thing (X0.trans X1).dom X2 j D2) W2 (X0.trans (X1.trans X2))⟩⟩⟩
theorem ms_par3S {x y z : Str} {a b c : Expr} {px py pz pt : Pos} {kt k2 pt2} {wa wb wc : WSv} (i j l : Nat) (hc : X.calm = true) (hN : X.N.Nodup) (ha : PE X a (tSv K T wa)) (hb : PE X b (tSv K T wb)) (hcc : PE X c (tSv K T wc)) (hij : i ≠ j := by decide) (hil : i ≠ l := by decide) (hjl : j ≠ l := by decide) (hi : X.N[i]? = some x := by rfl) (hj : X.N[j]? = some y := by rfl) (hl : X.N[l]? = some z := by rfl)
    (hx : X.env.scope.names.lookup x = some .local := by rfl) (hy : X.env.scope.names.lookup y = some .local := by rfl) (hz : X.env.scope.names.lookup z = some .local := by rfl) (hw : swappedStores [.Tuple [.Name x px, .Name y py, .Name z pz] kt pt] (.Tuple [a, b, c] k2 pt2) X.env = pure (some [x, y, z]) := by rfl)
    (hs : swapsWithSole [.Tuple [.Name x px, .Name y py, .Name z pz] kt pt] (.Tuple [a, b, c] k2 pt2) pos.line X.env = pure false := by rfl) (h1 : starEach [a, b, c] X.env = (false, eval a X.env) :: starEach [b, c] X.env := by rfl) (h2 : starEach [b, c] X.env = (false, eval b X.env) :: starEach [c] X.env := by rfl) (h3 : starEach [c] X.env = (false, eval c X.env) :: starEach [] X.env := by rfl) :
    PS X (.Assign [.Tuple [.Name x px, .Name y py, .Name z pz] kt pt] (.Tuple [a, b, c] k2 pt2) pos) (sD K T (wPar3S i j l wa wb wc)) :=
  ps_imp (ps_par3 hc hN hi hj hl hij hil hjl hx hy hz (pa_cons ha (pa_cons hb (pa_cons hcc pa_nil h3) h2) h1) hw hs) fun D σ H ⟨H0, F0, ε, F, Ψ, S, W, X0, hw, kn, kr, kb, kc⟩ =>
    ⟨H0, ε, F, _, S, W, hw, fun d v F1 H1 hd W1 X1 D1 => ⟨H0, ε, F1, _, S.ex X1, W1, hd, fun d2 v2 F2 H2 hd2 W2 X2 D2 => ⟨H0, ε, F2, _, (S.ex X1).ex X2, W2, hd2, fun d3 v3 F3 H3 hd3 W3 X3 D3 =>
      ⟨v, v2, v3, rfl, kn _ _ F3 H3 hd3 ((((S.thing X0.dom X1 i D1).thing (X0.trans X1).dom X2 j D2)).thing (X0.trans (X1.trans X2)).dom X3 l D3) W3 (X0.trans (X1.trans (X2.trans X3)))⟩⟩⟩⟩
end
/-! ### a if c else b as a test -/
def wIfB (c t u : WB) : WB := fun ε Φ => c ε fun b => match b with
  | true => t ε Φ
  | false => u ε Φ
section
variable {X : Cx} {K : PySem.W.Frag} {T : Option Addr} {pos : Pos} {c a b : Expr} {wc t u : WB}
theorem mt_if (hc : PT X c (tDB K T wc)) (ha : PT X a (tDB K T t)) (hb : PT X b (tDB K T u)) : PT X (.IfExp c a b pos) (tDB K T (wIfB wc t u)) :=
  ⟨fun pins s σ H Q I ⟨H0, ε, F, Φ, S, W, hw, k⟩ => by
    show wpAny _ _ (isTrue c X.env (eval c X.env) >>= fun z => if z = true then isTrue a X.env (eval a X.env) else isTrue b X.env (eval b X.env)) _ _ s
    refine wpAny_bind (thn (hc.run pins s σ H (fun z H1 => tDB K T (if z = true then t else u) σ H1 Q) I ⟨H0, ε, F, _, S, W, hw, fun z F1 H1 hz W1 X1 => ⟨H0, ε, F1, Φ, S.ex X1, W1, ?_, fun y F2 H2 hy W2 X2 => k y F2 H2 hy W2 (X1.trans X2)⟩⟩) fun z s1 ⟨H1, I1, q1⟩ => ?_)
    · cases z
      · exact hz
      · exact hz
    · cases z
      · exact hb.run pins s1 σ H1 Q I1 q1
      · exact ha.run pins s1 σ H1 Q I1 q1⟩
end
end MG

set_option Elab.async false
set_option linter.all false
set_option maxRecDepth 100000
set_option maxHeartbeats 4000000
/-! MgPairR: defs that give a tuple of a datum and a list of the caller's own; that list written, and forgotten. -/
namespace MG
variable [Tbl]
open PySem PySem.Spec PyProof.Rows L2
abbrev WPr := EV → (PyData → List PyData → Prop) → Prop
abbrev PF := List PyData → (PyData → List PyData → Prop) → Prop
/-- an expression that gives a new tuple of a datum and a new list -/
def tPr (K : PySem.W.Frag) (T : Option Addr) (w : WPr) : TE := fun σ H Q => ∃ H0 ε F Φ, Sat K T H0 ε σ F H ∧ Wd T F H ∧ w ε Φ ∧
  ∀ d ds p a v0 vs F' H', Φ d ds → Wd T F' H' → Ex T F H F' H' → H p = none → F' p = none → H a = none → F' a = none → T ≠ some a → p ≠ a → H' p = some (.tup [v0, .ref a]) → Rp K F' v0 d → H' a = some (.lst vs) → vs.length ≤ sizeLine → RpAll K F' vs ds → Q (.ref p) H'
def wPr (we : WE) (wl : WA) : WPr := fun ε Φ => we ε fun d => wl ε fun ds => Φ d ds
def wRetP (w : WPr) : WPr := fun ε Φ => w ε Φ
def wSeqP (a : WS) (b : WPr) : WPr := fun ε Φ => a ε { nx := fun ε1 => b ε1 Φ, rt := fun _ _ => False, bk := fun _ => False, ct := fun _ => False }
def wRunP (N : Nat) (w : WPr) : PF := fun ds Φ => w (ds.map SV.val ++ List.replicate (N - ds.length) SV.un) Φ
def wFnP (u : PF) (wa : WA) : WPr := fun ε Φ => wa ε fun ds => u ds Φ
def sP (K : PySem.W.Frag) (T : Option Addr) (w : WPr) : TS := fun D σ H => ∃ H0 F0 ε F Φ, Sat K T H0 ε σ F H ∧ Wd T F H ∧ Ex T F0 H0 F H ∧ w ε Φ ∧
  ∀ d ds p a v0 vs F' H', Φ d ds → Wd T F' H' → Ex T F0 H0 F' H' → H0 p = none → F' p = none → H0 a = none → F' a = none → T ≠ some a → p ≠ a → H' p = some (.tup [v0, .ref a]) → Rp K F' v0 d → H' a = some (.lst vs) → vs.length ≤ sizeLine → RpAll K F' vs ds → D.rt (.ref p) H'
theorem none_dom {T : Option Addr} {F H F' H' : Hp} (x : Ex T F H F' H') {a : Addr} (h : H' a = none) : H a = none := by
  cases q : H a with
  | none => rfl
  | some o => exact absurd h (x.dom a (by rw [q]; simp))
section
variable {X : Cx} {K : PySem.W.Frag} {T : Option Addr} {pos : Pos} {e e0 : Expr} {st : Stmt} {rest : List Stmt} {we : WE} {wl : WA}
theorem mp_tup {x1} (h0 : PE X e0 (tD K T we)) (h1 : PE X e (tN K T wl)) (hs1 : starEach [e0, e] X.env = (false, eval e0 X.env) :: starEach [e] X.env := by rfl) (hs2 : starEach [e] X.env = (false, eval e X.env) :: starEach [] X.env := by rfl) : PE X (.Tuple [e0, e] x1 pos) (tPr K T (wPr we wl)) :=
  pe_imp (pe_tup (pa_cons h0 (pa_cons h1 pa_nil hs2) hs1)) fun σ H Q ⟨H0, ε, F, Φ, S, W, hw, k⟩ => ⟨H0, ε, F, _, S, W, hw, fun d v F1 H1 hd W1 X1 D1 =>
    ⟨H0, ε, F1, _, S.ex X1, W1, hd, fun ds a vs F2 H2 hds W2 X2 ha hF hT e z r => by
      refine ⟨by show 2 ≤ sizeLine; rw [sizeLine_eq]; decide, fun p hp => ?_⟩
      obtain ⟨W3, X3⟩ := new_raw (o := .tup [v, .ref a]) W2 hp
      have ne : p ≠ a := fun q => by rw [q, e] at hp; cases hp
      exact k d ds p a v vs _ _ hds W3 ((X1.trans X2).trans X3) (none_dom (X1.trans X2) hp) (W2.none_of hp) (none_dom X1 ha) hF hT ne upd_same (Rp.up X2.ff _ _ D1) (by rw [upd_ne ne.symm]; exact e) z r⟩⟩
theorem sp_ret {w : WPr} (he : PE X e (tPr K T w)) : PSs X [.Return (some e) pos] (sP K T (wRetP w)) :=
  pss_one (ps_imp (ps_ret he) fun D σ H ⟨H0, F0, ε, F, Φ, S, W, X0, hw, k⟩ => ⟨H0, ε, F, _, S, W, hw, fun d ds p a v0 vs F1 H1 hd W1 X1 hp hFp ha hFa hT ne e1 r0 e2 z r =>
    k d ds p a v0 vs F1 H1 hd W1 (X0.trans X1) (none_dom X0 hp) hFp (none_dom X0 ha) hFa hT ne e1 r0 e2 z r⟩)
theorem sp_cons {a : WS} {b : WPr} (h1 : PS X st (sD K T a)) (h2 : PSs X rest (sP K T b)) : PSs X (st :: rest) (sP K T (wSeqP a b)) :=
  pss_imp (pss_cons h1 h2) fun D σ H ⟨H0, F0, ε, F, Φ, S, W, X0, hw, k⟩ => ⟨H0, F0, ε, F, _, S, W, X0, hw, fun ε1 σ1 F1 H1 h1 S1 W1 X1 => ⟨H0, F0, ε1, F1, Φ, S1, W1, X1, h1, k⟩, fun _ _ _ _ _ _ q => q.elim, fun _ _ _ _ q => q.elim, fun _ _ _ _ q => q.elim⟩
end
def spP (K : PySem.W.Frag) (n : Nat) (w : PF) : Sp := fun vs H Q _ => vs.length = n ∧ ∃ ds F Φ, Wd none F H ∧ RpAll K F vs ds ∧ w ds Φ ∧
  ∀ d es p a v0 ws F' H', Φ d es → Wd none F' H' → Ex none F H F' H' → H p = none → F' p = none → H a = none → F' a = none → p ≠ a → H' p = some (.tup [v0, .ref a]) → Rp K F' v0 d → H' a = some (.lst ws) → ws.length ≤ sizeLine → RpAll K F' ws es → Q (.ref p) H'
theorem fnP_start {K : PySem.W.Frag} {N : List Str} {n : Nat} {w : WPr} {vs : List V} {H : Hp} {Q : VK} {E : XK} (h : spP K n (wRunP N.length w) vs H Q E) : sP K none w { nx := fun _ H' => Q .non H', rt := Q } (L2.start N vs) H := by
  obtain ⟨hl, ds, F, Φ, W, r, hw, k⟩ := h
  exact ⟨H, F, _, F, _, sat_start r, W, Ex.refl, hw, fun d es p a v0 ws F' H' h' W' X' hp hFp ha hFa _ ne e1 r0 e2 z r' => k d es p a v0 ws F' H' h' W' X' hp hFp ha hFa ne e1 r0 e2 z r'⟩
/-- the def x of the text gives the caller a tuple with a list of its own -/
structure DfP (P : Program) (w : World) (K : PySem.W.Frag) (mg : Str → Option Value) (base : Heap) (x : Str) (k n : Nat) (u : PF) : Prop where
  ex : ∃ (f : Addr) (fd : FuncData) (ps : List Str), FnOk P w K mg base CX0 k f fd ps (spP K n u) ∧ mg x = some (.ref f) ∧ PySem.W.keepIn K (.ref f) = true ∧ Binds K fd ps []
theorem DfP.mk' {P : Program} {w : World} {K : PySem.W.Frag} {mg : Str → Option Value} {base : Heap} {x : Str} {k : Nat} {b : WPr} {qual : Str} {params : Arguments} {body : List Stmt} {scope : Scope} {f : Addr} {fd : FuncData} {N ps : List Str} (F : FunD K x qual params body scope [] [] f fd) (g : mg x = some (.ref f)) (S : FnScope N ps scope)
    (hb : ∀ (kV doc pm : Value) (an : Option Addr) (cdv ct : Value) (us : List Value), us.length = ps.length → bindArgs (PySem.W.fnOf x qual params body scope .none kV doc pm an cdv ct) ⟨us, []⟩ = pure (ps.zip us))
    (h : ∀ (cdv : Value) (A : Around) (outer : List Env) (s : Shared) (H : Hp) (E : XK), Room k (A.deeper (envOfC qual scope s.heap.objs.size f cdv)) → PSs (cxOf CX0 P w K mg base N qual scope f cdv A outer s H E).nox body (sP K none b)) :
    DfP P w K mg base x (k + 1) ps.length (wRunP N.length b) :=
  ⟨f, fd, ps, F.ok S (fun vs H Q E q => q.1) (fun cdv A outer s H vs Q E hr q => ⟨_, PSs.nox (h cdv A outer s H E hr), fnP_start q⟩), g, F.kp, F.bindsN hb⟩
theorem mp_dp {X : Cx} {K : PySem.W.Frag} {T : Option Addr} {pos p : Pos} {e : Expr} {es : List Expr} {x : Str} {k n : Nat} {u : PF} {wa : WA} (hk : X.K = K) (D : DfP X.prog X.w K X.mg X.base x k n u) (hr : Room k X.A) (ha : PA X (e :: es) (tDA K T n wa))
    (hg : Gl X x := by rfl) (hdb : (x == ("__debug__" : Str)) = false := by decide) (he : starEach (e :: es) X.env = (false, eval e X.env) :: starEach es X.env := by rfl) (hpl : (backTo pos (starEach es X.env)).any (·.1) = false := by rfl) : PE X (.Call (.Name x p) (e :: es) [] pos) (tPr K T (wFnP u wa)) := by
  subst hk
  obtain ⟨f, fd, ps, h1, h2, h3, h4⟩ := D.ex
  exact pe_imp (pe_call h1 hr hg h2 h3 h4 .nil pass0 ha hdb he hpl) fun σ H Q ⟨H0, ε, F0, Φ, S, W, hw, k⟩ => ⟨H0, ε, F0, _, S, W, hw, fun ds vs F1 H1 hd hl W1 X1 D1 =>
    ⟨by rw [List.append_nil, D1.length]; exact hl, ds, F1, Φ, W1.weak, by rw [List.append_nil]; exact D1, hd, fun d es p a v0 ws F' H' hΦ W' X' hp hFp ha hFa ne e1 r0 e2 z r => by
      have hT : T ≠ some a := fun q => by
        have tp := W1.tape
        rw [q] at tp
        obtain ⟨_, _, _, _, _, t1, _⟩ := tp
        rw [ha] at t1
        cases t1
      exact k d es p a v0 ws F' H' hΦ (W1.back W' X') (X1.trans X'.weak) (none_dom X1 hp) hFp (none_dom X1 ha) hFa hT ne e1 r0 e2 z r⟩⟩
/-! ### x = such a tuple; if test: body; x[1].append(None) -/
def wMutP (i : Nat) (w : WPr) (t : WB) (b r : WS) : WS := fun ε Ψ => i < ε.length ∧ w ε fun d ds => t (ε.set i (.val (.tuple [d, .list ds]))) fun c => match c with
  | true => b (ε.set i (.val (.tuple [d, .list ds]))) { Ψ with nx := fun _ => False }
  | false => ds.length < LIM ∧ r (ε.set i .un) Ψ
/-- something new is frozen -/
theorem freezeO {T : Option Addr} {F H F' H' : Hp} {a : Addr} {o : HO} (W : Wd T F' H') (x : Ex T F H F' H') (ha : H a = none) (hF : F' a = none) (hT : T ≠ some a) (e : H' a = some o) (ho : ∀ ps, o ≠ .tbl ps) :
    Wd T (upd F' a o) H' ∧ Ex T F H (upd F' a o) H' := by
  have hne : ∀ b, H b ≠ none → b ≠ a := fun b hb z => hb (by rw [z]; exact ha)
  refine ⟨⟨fun b u q => ?_, ?_, W.tabs, nt_upd W.nt ho⟩, ⟨x.hh, x.dom, fun b u q => ?_, fun b hb => ?_, x.tl⟩⟩
  · by_cases z : b = a
    · subst z; rw [upd_same] at q; rw [e]; exact q
    · rw [upd_ne z] at q; exact W.fz _ _ q
  · cases T with
    | none => trivial
    | some t =>
      obtain ⟨f, l, ns, p, c, h1, h2, h3⟩ := W.tape
      have hta : t ≠ a := fun z => hT (by rw [z])
      refine ⟨by rw [upd_ne hta]; exact f, l, ns, p, c, h1, ?_, h3⟩
      rw [upd_ne (ne_of_none h2 hF)]; exact h2
  · have q' := x.ff _ _ q
    rw [upd_ne (ne_of_none q' hF)]; exact q'
  · rw [upd_ne (hne b hb)]; exact x.old b hb
section
variable {X : Cx} {K : PySem.W.Frag} {T : Option Addr} {pos pos2 pos3 : Pos} {e c : Expr} {body rest : List Stmt} {x : Str}
theorem un_get {ε : EV} {i j : Nat} {s : SV} (hs : s ≠ .un) (h : (ε.set i .un)[j]? = some s) : i ≠ j ∧ ε[j]? = some s := by
  by_cases n : i = j
  · subst n
    rcases Nat.lt_or_ge i ε.length with hi | hi
    · rw [List.getElem?_set_self hi] at h
      exact absurd (Option.some.inj h).symm hs
    · rw [List.getElem?_eq_none (by rw [List.length_set]; exact hi)] at h; cases h
  · rw [List.getElem?_set_ne n] at h; exact ⟨n, h⟩
/-- a slot is forgotten -/
theorem Sat.unset {H0 F H : Hp} {ε : EV} {σ : L2.St} (S : Sat K T H0 ε σ F H) (i : Nat) (o : Option V) : Sat K T H0 (ε.set i .un) (σ.set i o) F H where
  len := by rw [List.length_set, List.length_set, S.len]
  val := fun j d h => by
    obtain ⟨n, g⟩ := un_get (by simp) h
    rw [List.getElem?_set_ne n]; exact S.val j d g
  own := fun j d h => by
    obtain ⟨n, g⟩ := un_get (by simp) h
    rw [List.getElem?_set_ne n]; exact S.own j d g
  sep := fun j l b d1 d2 n g1 g2 g3 => by
    obtain ⟨n1, q1⟩ := un_get (by simp) g1
    obtain ⟨n2, q2⟩ := un_get (by simp) g2
    rw [List.getElem?_set_ne n1] at g3
    rw [List.getElem?_set_ne n2]; exact S.sep j l b d1 d2 n q1 q2 g3
  tape := fun j d h => by
    obtain ⟨n, g⟩ := un_get (by simp) h
    rw [List.getElem?_set_ne n]; exact S.tape j d g
  fns := fun j d h => by
    obtain ⟨n, g⟩ := un_get (by simp) h
    rw [List.getElem?_set_ne n]; exact S.fns j d g
  dct := S.dct.set i (by simp)
/-- a list that no slot holds is written -/
theorem Sat.other {H0 F H F1 H1 : Hp} {ε : EV} {σ : L2.St} (S : Sat K T H0 ε σ F H) (X1 : Ex T F H F1 H1) {a : Addr} {ws : List V} (ha : H a = none) (hT : T ≠ some a) (h1 : ∃ vs, H1 a = some (.lst vs)) : Sat K T H0 ε σ F1 (upd H1 a (.lst ws)) := by
  have S1 := S.ex X1
  obtain ⟨vs, h1⟩ := h1
  refine ⟨S1.len, S1.val, fun i ds h => ?_, S1.sep, fun i o h => ?_, S1.fns, S1.dct.lst h1⟩
  · obtain ⟨b, us, k1, k2, k3, k4, k5, k6, k7⟩ := S1.own i ds h
    obtain ⟨b', us', g1, g2, _⟩ := S.own i ds h
    rw [k1] at g1
    cases g1
    have ne : b ≠ a := fun q => by rw [q, ha] at g2; cases g2
    exact ⟨b, us, k1, by rw [upd_ne ne]; exact k2, k3, k4, k5, k6, k7⟩
  · obtain ⟨t, l, p, c, k1, k2, k3, k4⟩ := S1.tape i o h
    exact ⟨t, l, p, c, k1, k2, by rw [upd_ne fun z => hT (by rw [k1, z])]; exact k3, k4⟩
theorem mss_mutP {w : WPr} {t : WB} {b r : WS} {px py pa pc : Pos} {ka} {pk psu : Pos} {kn} {pn : Pos} (i : Nat) (hk : X.K = K) (hN : X.N.Nodup) (he : PE X e (tPr K T w)) (ht : PT X c (tDB K T t)) (hb : PSs X body (sD K T b)) (hr : PSs X rest (sD K T r))
    (hi : X.N[i]? = some x := by rfl) (hx : Loc X.env.scope x := by first | exact Or.inl rfl | exact Or.inr rfl) (hs : swapsWith e (some (.Name x px)) pos.line X.env = pure false := by rfl)
    (hf : X.fn x = true ∨ X.env.scope.names.lookup x = some .local := by first | exact .inl rfl | exact .inr rfl | assumption)
    (hv : Vis X.env.scope x := by first | exact Or.inl rfl | exact Or.inr (Or.inl rfl) | exact Or.inr (Or.inr rfl)) (hd : (x == ("__debug__" : Str)) = false := by decide) (hcd : (x == ("__classdict__" : Str)) = false := by decide)
    (hpi : PlainIx (.Constant (.int 1) ka pk) := by intro _ _; rfl)
    (hbase : attributeBase (.Subscript (.Name x py) (.Constant (.int 1) ka pk) psu) "append" X.env (eval (.Subscript (.Name x py) (.Constant (.int 1) ka pk) psu) X.env) = eval (.Subscript (.Name x py) (.Constant (.int 1) ka pk) psu) X.env := by rfl)
    (hfew : ((backTo pc (starEach [Expr.Constant .none kn pn] X.env)).all (fun x => !x.1) && (backToKw pc (keywordEach [] X.env)).all (fun x => x.1.isSome) && decide (([Expr.Constant .none kn pn] : List Expr).length + ([] : List Keyword).length + (if ([] : List Keyword).isEmpty then 0 else 1) < 30)) = true := by rfl)
    (hline : (pa.endLine == pc.line) = true := by rfl) (h1 : starEach [Expr.Constant .none kn pn] X.env = (false, eval (.Constant .none kn pn) X.env) :: starEach [] X.env := by rfl) (hplain : (backTo pc (starEach [] X.env)).any (·.1) = false := by rfl)
    (hse : swapsWith (.Call (.Attribute (.Subscript (.Name x py) (.Constant (.int 1) ka pk) psu) "append" pa) [.Constant .none kn pn] [] pc) none pos3.line X.env = pure false := by rfl) :
    PSs X (.Assign [.Name x px] e pos :: .If c body [] pos2 :: .Expr (.Call (.Attribute (.Subscript (.Name x py) (.Constant (.int 1) ka pk) psu) "append" pa) [.Constant .none kn pn] [] pc) pos3 :: rest) (sD K T (wMutP i w t b r)) := by
  subst hk
  refine pss_imp (pss_cons (ps_set hN hi hx he hs hf) (pss_cons (ps_if ht hb pss_nil) (pss_cons (ps_expr (pe_bm PySem.F.plainAttrs_list PySem.F.slot_list_append PySem.F.type_list_append mt_append (pe_ix ix_seq (pe_var hi hv hd hcd) pe_int hpi) (pa_cons pe_non pa_nil h1) hbase hfew hline h1 hplain) hse) hr)))
    fun D σ H ⟨H0, F0, ε, F, Ψ, S, W, X0, ⟨hil, hw⟩, kn, kr, kb, kc⟩ => ⟨H0, ε, F, _, S, W, hw, fun d ds p a v0 vs F1 H1 hd W1 X1 hp hFp ha hFa hT ne e1 r0 e2 z r1 => ?_⟩
  have hTp : T ≠ some p := fun q => by
    have tp := W1.tape
    rw [q] at tp
    obtain ⟨_, _, _, _, _, t1, _⟩ := tp
    rw [e1] at t1
    cases t1
  obtain ⟨Wa, Xa⟩ := freezeO W1 X1 ha hFa hT e2 fun _ q => nomatch q
  have hFp' : upd F1 a (.lst vs) p = none := by rw [upd_ne ne]; exact hFp
  obtain ⟨Wp, Xp⟩ := freezeO Wa Xa hp hFp' hTp e1 fun _ q => nomatch q
  have f1 : Same F1 (upd (upd F1 a (.lst vs)) p (.tup [v0, .ref a])) := fun b u q => by
    rw [upd_ne (ne_of_none q hFp), upd_ne (ne_of_none q hFa)]; exact q
  have rep : Rp X.K (upd (upd F1 a (.lst vs)) p (.tup [v0, .ref a])) (.ref p) (.tuple [d, .list ds]) :=
    .tup (SqT.of upd_same) (by show 2 ≤ sizeLine; rw [sizeLine_eq]; decide) (.cons (Rp.up f1 _ _ r0) (.cons (.lst (by rw [upd_ne ne.symm]; exact upd_same) z (RpAll.up f1 _ _ r1)) .nil))
  have S' := (S.ex Xp).set i rep
  refine ⟨H0, _, _, _, S', Wp, hd, fun bb F2 H2 hbb W2 X2 => ?_⟩
  cases bb with
  | true => exact iteT ⟨H0, F0, _, F2, _, S'.ex X2, W2, X0.trans (Xp.trans X2), hbb, fun _ _ _ _ q => q.elim, kr, kb, kc⟩
  | false =>
    obtain ⟨hlen, hr'⟩ := hbb
    have g1 : H2 p = some (.tup [v0, .ref a]) := X2.hh p _ e1 hTp fun _ q => nomatch q
    have g2 : H2 a = some (.lst vs) := X2.hl e2 hT
    have hlt : vs.length < sizeLine := by rw [r1.length]; exact Nat.lt_of_lt_of_le hlen (lim_line (Nat.le_refl _))
    have X12 : Ex T F H F1 H2 := ⟨fun b o q t n => X2.hh b o (X1.hh b o q t n) t n, fun b q => X2.dom b (X1.dom b q), X1.ff, X1.old, fun b l p' c' q w => by
      obtain ⟨p2, c2, w2⟩ := X1.tl b l p' c' q w
      exact X2.tl b l p2 c2 q w2⟩
    have h0a : H0 a = none := none_dom X0 ha
    have X02 := X0.trans X12
    refine iteF ⟨.ref p, List.getElem?_set_self (by rw [← S.len]; exact hil), .inr (.inl ⟨p, [v0, .ref a], 1, .ref a, rfl, rfl, SqT.of g1, rfl, .inl ⟨rfl, _, SqL.of g2⟩, a, vs, .non, rfl, rfl, g2, hlt, ?_⟩)⟩
    refine ⟨H0, F0, _, F1, Ψ, (S.other X12 (ws := vs ++ [.non]) ha hT ⟨vs, g2⟩).unset i (some (.ref p)), ⟨fun b u q => ?_, ?_, tabs_lst W2.tabs g2, W1.nt⟩, ⟨fun b u q t n => ?_, fun b q => ?_, X02.ff, X02.old, fun b l p' c' q w => ?_⟩, hr', kn, kr, kb, kc⟩
    · rw [upd_ne (ne_of_none q hFa)]
      exact W2.fz _ _ (X2.ff _ _ (f1 _ _ q))
    · cases T with
      | none => trivial
      | some t =>
        obtain ⟨f, l, ns, p', c', q1, q2, q3⟩ := W1.tape
        obtain ⟨p2, c2, w2⟩ := X2.tl t l p' c' rfl q1
        exact ⟨f, l, ns, p2, c2, by rw [upd_ne fun z => hT (by rw [z])]; exact w2, q2, q3⟩
    · rw [upd_ne (ne_of_none q h0a)]; exact X02.hh b u q t n
    · by_cases z : b = a
      · subst z; rw [upd_same]; simp
      · rw [upd_ne z]; exact X02.dom b q
    · obtain ⟨p2, c2, w2⟩ := X02.tl b l p' c' q w
      exact ⟨p2, c2, by rw [upd_ne fun z => hT (by rw [q, z])]; exact w2⟩
/-- such a tuple as a datum -/
def wPt (w : WPr) : WE := fun ε Φ => w ε fun d ds => Φ (.tuple [d, .list ds])
theorem md_ofP {w : WPr} (h : PE X e (tPr K T w)) : PE X e (tD K T (wPt w)) :=
  pe_imp h fun σ H Q ⟨H0, ε, F, Φ, S, W, hw, k⟩ => ⟨H0, ε, F, _, S, W, hw, fun d ds p a v0 vs F1 H1 hd W1 X1 hp hFp ha hFa hT ne e1 r0 e2 z r1 => by
    have hTp : T ≠ some p := fun q => by
      have tp := W1.tape
      rw [q] at tp
      obtain ⟨_, _, _, _, _, t1, _⟩ := tp
      rw [e1] at t1
      cases t1
    obtain ⟨Wa, Xa⟩ := freezeO W1 X1 ha hFa hT e2 fun _ q => nomatch q
    have hFp' : upd F1 a (.lst vs) p = none := by rw [upd_ne ne]; exact hFp
    obtain ⟨Wp, Xp⟩ := freezeO Wa Xa hp hFp' hTp e1 fun _ q => nomatch q
    have f1 : Same F1 (upd (upd F1 a (.lst vs)) p (.tup [v0, .ref a])) := fun b u q => by
      rw [upd_ne (ne_of_none q hFp), upd_ne (ne_of_none q hFa)]; exact q
    exact k _ _ _ _ hd Wp Xp (.tup (SqT.of upd_same) (by show 2 ≤ sizeLine; rw [sizeLine_eq]; decide) (.cons (Rp.up f1 _ _ r0) (.cons (.lst (by rw [upd_ne ne.symm]; exact upd_same) z (RpAll.up f1 _ _ r1)) .nil)))⟩
end
/-! ### a list of one's own frozen ahead of the return -/
section
variable {X : Cx} {K : PySem.W.Frag} {T : Option Addr}
theorem sat_frz {H0 F0 F H : Hp} {ε : EV} {σ : L2.St} (S : Sat K T H0 ε σ F H) (W : Wd T F H) (X0 : Ex T F0 H0 F H) {i : Nat} {ds : List PyData} (hε : ε[i]? = some (SV.own ds)) :
    ∃ F1, Sat K T H0 (ε.set i (.val (.list ds))) σ F1 H ∧ Wd T F1 H ∧ Ex T F0 H0 F1 H := by
  obtain ⟨a, vs, h1, h2, z, r, hF, h0, hT⟩ := S.own i ds hε
  have hi : i < ε.length := by
    rcases Nat.lt_or_ge i ε.length with h | h
    · exact h
    · rw [List.getElem?_eq_none h] at hε; cases hε
  obtain ⟨W2, X2⟩ := freeze (a := a) W X0 h0 hF hT h2
  have ff : Same F (upd F a (.lst vs)) := fun b u q => by rw [upd_ne (ne_of_none q hF)]; exact q
  refine ⟨_, ⟨by rw [List.length_set]; exact S.len, fun j d h => ?_, fun j ds' h => ?_, fun j l b ds1 ds2 hjl g1 g2 g3 => ?_, fun j o h => ?_, fun j f h => S.fns j f (fn_set (by simp) h).2, (S.dct.see i (by simp)).frz h2 hF⟩, W2, X2⟩
  · by_cases hij : i = j
    · subst hij
      rw [List.getElem?_set_self hi] at h
      cases h
      exact ⟨_, h1, .lst upd_same z (RpAll.up ff _ _ r)⟩
    · rw [List.getElem?_set_ne hij] at h
      obtain ⟨v, k1, k2⟩ := S.val j d h
      exact ⟨v, k1, Rp.up ff _ _ k2⟩
  · by_cases hij : i = j
    · subst hij; rw [List.getElem?_set_self hi] at h; cases h
    · rw [List.getElem?_set_ne hij] at h
      obtain ⟨b, us, k1, k2, k3, k4, k5, k6, k7⟩ := S.own j ds' h
      exact ⟨b, us, k1, k2, k3, RpAll.up ff _ _ k4, by rw [upd_ne fun q => S.sep i j a ds ds' hij hε h h1 (by rw [k1, q])]; exact k5, k6, k7⟩
  · have key : ∀ j ds', (ε.set i (.val (.list ds)))[j]? = some (SV.own ds') → ε[j]? = some (SV.own ds') := fun j ds' h => by
      by_cases hij : i = j
      · subst hij; rw [List.getElem?_set_self hi] at h; cases h
      · rw [List.getElem?_set_ne hij] at h; exact h
    exact S.sep j l b _ _ hjl (key _ _ g1) (key _ _ g2) g3
  · by_cases hij : i = j
    · subst hij; rw [List.getElem?_set_self hi] at h; cases h
    · rw [List.getElem?_set_ne hij] at h
      obtain ⟨t, l, p, c, k1, k2, k3, k4⟩ := S.tape j o h
      exact ⟨t, l, p, c, k1, k2, k3, fun ns q => ff _ _ (k4 ns q)⟩
def wFrzN (i : Nat) (w : NS) : NS := fun ε Φ => ∃ ds, ε[i]? = some (SV.own ds) ∧ w (ε.set i (.val (.list ds))) Φ
theorem sn_frz {sts : List Stmt} {w : NS} (i : Nat) (h : PSs X sts (sN K T w)) : PSs X sts (sN K T (wFrzN i w)) :=
  pss_imp h fun D σ H ⟨H0, F0, ε, F, Φ, S, W, X0, ⟨ds, hε, hw⟩, k⟩ => by
    obtain ⟨F1, S1, W1, X1⟩ := sat_frz S W X0 hε
    exact ⟨H0, F0, _, F1, Φ, S1, W1, X1, hw, k⟩
end
end MG

set_option Elab.async false
set_option linter.all false
set_option maxRecDepth 100000
set_option maxHeartbeats 4000000
/-! MgEval: evaluation of what defs do. -/
namespace MG
open PySem PySem.Spec PyProof.Rows L2
/-- no lemma by rfl: simp then leaves a step for each use -/
theorem nr {α : Sort _} {a b : α} (h : a = b) : a = b := h
section
variable {ε : EV} {Φ : PyData → Prop} {Ψ : WEnds}
@[simp] theorem e_C (d : PyData) : wC d ε Φ = Φ d := nr rfl
@[simp] theorem e_Bin (op) (a b : WE) : wBin op a b ε Φ = a ε fun x => b ε fun y => op x y Φ := nr rfl
@[simp] theorem e_Un (op) (a : WE) : wUn op a ε Φ = a ε fun x => op x Φ := nr rfl
/-- the datum as a truth -/
def asB (d : PyData) (Φ : Bool → Prop) : Prop := match d with
  | .bool b => Φ b
  | _ => False
@[simp] theorem asB_b (b : Bool) (Φ : Bool → Prop) : asB (.bool b) Φ = Φ b := nr rfl
@[simp] theorem e_Test (w : WE) (Φ : Bool → Prop) : wTest w ε Φ = w ε fun d => asB d Φ := nr rfl
@[simp] theorem e_And (t u : WB) (Φ : Bool → Prop) : wAnd t u ε Φ = t ε fun b => if b = true then u ε Φ else Φ false := by
  unfold wAnd; congr 1; funext b; cases b <;> simp
@[simp] theorem e_Or (t u : WB) (Φ : Bool → Prop) : wOr t u ε Φ = t ε fun b => if b = true then Φ true else u ε Φ := by
  unfold wOr; congr 1; funext b; cases b <;> simp
@[simp] theorem e_Not (t : WB) (Φ : Bool → Prop) : wNot t ε Φ = t ε fun b => Φ (!b) := nr rfl
@[simp] theorem e_OfB (t : WB) : wOfB t ε Φ = t ε fun b => Φ (.bool b) := nr rfl
@[simp] theorem e_AndV (a b : WE) : wAndV a b ε Φ = a ε fun d => asB d fun c => if c = true then b ε Φ else Φ (.bool false) := by
  unfold wAndV; congr 1; funext d
  cases d <;> first | rfl | (rename_i c; cases c <;> simp)
@[simp] theorem e_OrV (a b : WE) : wOrV a b ε Φ = a ε fun d => asB d fun c => if c = true then Φ (.bool true) else b ε Φ := by
  unfold wOrV; congr 1; funext d
  cases d <;> first | rfl | (rename_i c; cases c <;> simp)
@[simp] theorem e_NotV (a : WE) : wNotV a ε Φ = a ε fun d => asB d fun c => Φ (.bool (!c)) := by
  unfold wNotV; congr 1
@[simp] theorem e_If (t : WB) (a b : WE) : wIf t a b ε Φ = t ε fun c => if c = true then a ε Φ else b ε Φ := by
  unfold wIf; congr 1; funext c; cases c <;> simp
@[simp] theorem e_ANil (Φ : List PyData → Prop) : wANil ε Φ = Φ [] := nr rfl
@[simp] theorem e_ACons (w : WE) (r : WA) (Φ : List PyData → Prop) : wACons w r ε Φ = w ε fun d => r ε fun ds => Φ (d :: ds) := nr rfl
@[simp] theorem e_L (w : WA) : wL w ε Φ = w ε fun ds => Φ (.list ds) := nr rfl
@[simp] theorem e_Call (op) (w : WA) : wCall op w ε Φ = w ε fun ds => op ds Φ := nr rfl
@[simp] theorem e_CallN (op) (w : WA) (Φ : List PyData → Prop) : wCallN op w ε Φ = w ε fun ds => op ds Φ := nr rfl
@[simp] theorem e_Tup (w : WA) : wTup w ε Φ = w ε fun ds => ds.length ≤ LIM ∧ Φ (.tuple ds) := nr rfl
@[simp] theorem e_Lst (w : WA) (Φ : List PyData → Prop) : wLst w ε Φ = w ε fun ds => ds.length ≤ LIM ∧ Φ ds := nr rfl
@[simp] theorem e_Fn (u : WF) (w : WA) : wFn u w ε Φ = w ε fun ds => u ds Φ := nr rfl
@[simp] theorem e_TA (i : Nat) (w : WA) (Φ : List PyData → Prop) : wTA i w ε Φ = (isTp ε[i]? ∧ w ε Φ) := nr rfl
@[simp] theorem isTp_tp (o) : isTp (some (SV.tp o)) = True := nr rfl
@[simp] theorem e_Chain (op op') (a b c : WE) : wChain op op' a b c ε Φ = a ε fun x => b ε fun y => op x y fun z => asB z fun t => if t = true then c ε fun u => op' y u Φ else Φ (.bool false) := by
  unfold wChain; congr 1; funext x; congr 1; funext y; congr 1; funext z
  cases z <;> first | rfl | (rename_i t; cases t <;> simp)
/-- what a slot says -/
def asV (s : Option SV) (Φ : PyData → Prop) : Prop := match s with
  | some (SV.val d) => Φ d
  | _ => False
@[simp] theorem asV_v (d : PyData) : asV (some (SV.val d)) Φ = Φ d := nr rfl
@[simp] theorem e_V (i : Nat) : wV i ε Φ = asV ε[i]? Φ := nr rfl
@[simp] theorem e_Next : wNext ε Ψ = Ψ.nx ε := nr rfl
@[simp] theorem e_Seq (a b : WS) : wSeq a b ε Ψ = a ε { Ψ with nx := fun ε1 => b ε1 Ψ } := nr rfl
@[simp] theorem e_IfS (t : WB) (a b : WS) : wIfS t a b ε Ψ = t ε fun c => if c = true then a ε Ψ else b ε Ψ := by
  unfold wIfS; congr 1; funext c; cases c <;> simp
@[simp] theorem e_Ret (w : WE) : wRet w ε Ψ = w ε (Ψ.rt ε) := nr rfl
@[simp] theorem e_RetN : wRetN ε Ψ = Ψ.rt ε .none := nr rfl
@[simp] theorem e_Drop (w : WE) : wDrop w ε Ψ = w ε fun _ => Ψ.nx ε := nr rfl
@[simp] theorem e_Set (i : Nat) (w : WE) : wSet i w ε Ψ = w ε fun d => Ψ.nx (ε.set i (.val d)) := nr rfl
@[simp] theorem e_SetN (i : Nat) (w : WA) : wSetN i w ε Ψ = w ε fun ds => Ψ.nx (ε.set i (.own ds)) := nr rfl
@[simp] theorem e_Asg (g : WG) (w : WE) : wAsg g w ε Ψ = w ε fun d => g d ε Ψ.nx := nr rfl
@[simp] theorem e_Par (i j : Nat) (a b : WE) : wPar i j a b ε Ψ = a ε fun d => b ε fun e => Ψ.nx ((ε.set i (.val d)).set j (.val e)) := nr rfl
@[simp] theorem e_Par3 (i j l : Nat) (a b c : WE) : wPar3 i j l a b c ε Ψ = a ε fun d => b ε fun e => c ε fun f => Ψ.nx (((ε.set i (.val d)).set j (.val e)).set l (.val f)) := nr rfl
@[simp] theorem e_Never : wNever ε Ψ = False := nr rfl
@[simp] theorem e_Break : wBreak ε Ψ = Ψ.bk ε := nr rfl
@[simp] theorem e_Cont : wCont ε Ψ = Ψ.ct ε := nr rfl
@[simp] theorem e_For (wi : WI) (g : WG) (b : WS) : wFor wi g b ε Ψ = wi ε fun ds => wForL g b ds ε Ψ := nr rfl
@[simp] theorem e_Comp (wi : WI) (is : List Nat) (g : WG) (c : WB) (w : WE) (Φ : List PyData → Prop) : wComp wi is g c w ε Φ = wi ε fun ds => wLc g c w ds (unS ε is) Φ := nr rfl
@[simp] theorem e_Comp2 (wi : WI) (vs : List Nat) (g : WG) (c : WB) (wi1 : WI) (vs1 : List Nat) (g1 : WG) (c1 : WB) (w : WE) (Φ : List PyData → Prop) : wComp2 wi vs g c wi1 vs1 g1 c1 w ε Φ = wi ε fun ds => wLcO g c wi1 vs1 g1 c1 w ds (unS ε vs) [] Φ := nr rfl
@[simp] theorem e_gV (i : Nat) (d : PyData) (k : EV → Prop) : wgV i d ε k = k (ε.set i (.val d)) := nr rfl
@[simp] theorem e_gTup (gs : WGs) (ds : List PyData) (k : EV → Prop) : wgTup gs (.tuple ds) ε k = gs ds ε k := nr rfl
@[simp] theorem e_gNil (k : EV → Prop) : wgNil [] ε k = k ε := nr rfl
@[simp] theorem e_gCons (g : WG) (gs : WGs) (d : PyData) (r : List PyData) (k : EV → Prop) : wgCons g gs (d :: r) ε k = g d ε fun ε1 => gs r ε1 k := nr rfl
@[simp] theorem e_Yes (Φ : Bool → Prop) : wYes ε Φ = Φ true := nr rfl
/-- the items -/
def asI (d : PyData) (Φ : List PyData → Prop) : Prop := match itemsOf d with
  | some ds => Φ ds
  | none => False
@[simp] theorem asI_l (ds : List PyData) (Φ : List PyData → Prop) : asI (.list ds) Φ = Φ ds := nr rfl
@[simp] theorem asI_t (ds : List PyData) (Φ : List PyData → Prop) : asI (.tuple ds) Φ = Φ ds := nr rfl
@[simp] theorem asI_s (z : Str) (Φ : List PyData → Prop) : asI (.str z) Φ = Φ (signs z) := nr rfl
@[simp] theorem e_iSeq (w : WE) (Φ : List PyData → Prop) : wiSeq w ε Φ = w ε fun d => asI d Φ := nr rfl
def asN (d : PyData) (Φ : Int → Prop) : Prop := match d with
  | .int i => Φ i
  | _ => False
@[simp] theorem asN_i (i : Int) (Φ : Int → Prop) : asN (.int i) Φ = Φ i := nr rfl
@[simp] theorem e_iR1 (w : WE) (Φ : List PyData → Prop) : wiR1 w ε Φ = w ε fun d => asN d fun j => (-(2 ^ 62) ≤ j ∧ j ≤ LIM) ∧ Φ (wiRng 0 j.toNat) := by
  unfold wiR1; congr 1
@[simp] theorem e_ONo (Φ : Option Int → Prop) : wONo ε Φ = Φ none := nr rfl
@[simp] theorem e_OSo (w : WE) (Φ : Option Int → Prop) : wOSo w ε Φ = w ε fun d => asN d fun i => Φ (some i) := nr rfl
@[simp] theorem e_Sl (w : WE) (l h : WO) : wSl w l h ε Φ = w ε fun d => l ε fun lo => h ε fun hi => opSl d lo hi Φ := nr rfl
@[simp] theorem e_SSet (w : WE) (Φ : List PyData → Prop) : wSSet w ε Φ = w ε fun d => match d with
  | .list ds => sortD ds Φ
  | .tuple ds => sortD ds Φ
  | _ => False := nr rfl
end
section
variable {ε : EV}
@[simp] theorem e_RetL (w : WA) (ε : EV) (Φ : List PyData → Prop) : wRetL w ε Φ = w ε Φ := nr rfl
@[simp] theorem e_SeqL (a : WS) (b : NS) (ε : EV) (Φ : List PyData → Prop) : wSeqL a b ε Φ = a ε { nx := fun ε1 => b ε1 Φ, rt := fun _ _ => False, bk := fun _ => False, ct := fun _ => False } := nr rfl
@[simp] theorem e_FnL (u : NF) (wa : WA) (ε : EV) (Φ : List PyData → Prop) : wFnL u wa ε Φ = wa ε fun ds => u ds Φ := nr rfl
@[simp] theorem e_FnS (i : Nat) (f : Addr) (u : WF) (wa : WA) (ε : EV) (Φ : PyData → Prop) : wFnS i f u wa ε Φ = (ε[i]? = some (SV.fn f) ∧ wa ε fun ds => u ds Φ) := nr rfl
@[simp] theorem e_iZip (a b : WE) (Φ : List PyData → Prop) : wiZip a b ε Φ = a ε fun d => b ε fun e => zipOp d e Φ := nr rfl
@[simp] theorem zipOp_l (xs ys : List PyData) (Φ : List PyData → Prop) : zipOp (.list xs) (.list ys) Φ = Φ (zipD xs ys) := nr rfl
@[simp] theorem zipOp_tl (xs ys : List PyData) (Φ : List PyData → Prop) : zipOp (.tuple xs) (.list ys) Φ = Φ (zipD xs ys) := nr rfl
@[simp] theorem zipOp_lt (xs ys : List PyData) (Φ : List PyData → Prop) : zipOp (.list xs) (.tuple ys) Φ = Φ (zipD xs ys) := nr rfl
@[simp] theorem zipOp_t (xs ys : List PyData) (Φ : List PyData → Prop) : zipOp (.tuple xs) (.tuple ys) Φ = Φ (zipD xs ys) := nr rfl
@[simp] theorem e_SortK (ok : PyData → Bool) (k : PyData → PyData) (w : WE) (Φ : List PyData → Prop) : wSortK ok k w ε Φ = w ε fun d => match d with
  | .list ds => ((∀ d ∈ ds, ok d = true) ∧ noLs ds = true ∧ Srt k ds) ∧ Φ (srtK k ds)
  | _ => False := nr rfl
@[simp] theorem o_sorted (ds : List PyData) (Φ : List PyData → Prop) : opSorted [.list ds] Φ = (Srt id ds ∧ Φ (srtK id ds)) := nr rfl
end
section
variable {ε : EV} {Ψ : WEnds}
@[simp] theorem e_SetK (i : Nat) (w : WK) : wSetK i w ε Ψ = w ε fun ds => Ψ.nx (ε.set i (.dct ds)) := nr rfl
@[simp] theorem e_DictP (w : WA) (Φ : List (PyData × PyData) → Prop) : wDictP w ε Φ = w ε fun ds => opDictP ds Φ := nr rfl
@[simp] theorem e_sv (w : WE) (Φ : SV → Prop) : wSv w ε Φ = w ε fun d => Φ (.val d) := nr rfl
@[simp] theorem e_so (w : WA) (Φ : SV → Prop) : wSo w ε Φ = w ε fun d => Φ (.own d) := nr rfl
@[simp] theorem e_sk (w : WK) (Φ : SV → Prop) : wSk w ε Φ = w ε fun d => Φ (.dct d) := nr rfl
@[simp] theorem e_ParS (i j : Nat) (a b : WSv) : wParS i j a b ε Ψ = a ε fun s => b ε fun t => Ψ.nx ((ε.set i s).set j t) := nr rfl
@[simp] theorem e_Par3S (i j l : Nat) (a b c : WSv) : wPar3S i j l a b c ε Ψ = a ε fun s => b ε fun t => c ε fun u => Ψ.nx (((ε.set i s).set j t).set l u) := nr rfl
@[simp] theorem e_IfB (c t u : WB) (Φ : Bool → Prop) : wIfB c t u ε Φ = c ε fun b => if b = true then t ε Φ else u ε Φ := by
  unfold wIfB; congr 1; funext b; cases b <;> simp
@[simp] theorem e_FrzN (i : Nat) (w : NS) (Φ : List PyData → Prop) : wFrzN i w ε Φ = ∃ ds, ε[i]? = some (SV.own ds) ∧ w (ε.set i (.val (.list ds))) Φ := nr rfl
@[simp] theorem e_Pr (w : WE) (l : WA) (Φ : PyData → List PyData → Prop) : wPr w l ε Φ = w ε fun d => l ε fun ds => Φ d ds := nr rfl
@[simp] theorem e_RetP (w : WPr) (Φ : PyData → List PyData → Prop) : wRetP w ε Φ = w ε Φ := nr rfl
@[simp] theorem e_SeqP (a : WS) (b : WPr) (Φ : PyData → List PyData → Prop) : wSeqP a b ε Φ = a ε { nx := fun ε1 => b ε1 Φ, rt := fun _ _ => False, bk := fun _ => False, ct := fun _ => False } := nr rfl
@[simp] theorem e_FnP (u : PF) (wa : WA) (Φ : PyData → List PyData → Prop) : wFnP u wa ε Φ = wa ε fun ds => u ds Φ := nr rfl
@[simp] theorem e_Pt (w : WPr) (Φ : PyData → Prop) : wPt w ε Φ = w ε fun d ds => Φ (.tuple [d, .list ds]) := nr rfl
@[simp] theorem e_MutP (i : Nat) (w : WPr) (t : WB) (b r : WS) : wMutP i w t b r ε Ψ = (i < ε.length ∧ w ε fun d ds => t (ε.set i (.val (.tuple [d, .list ds]))) fun c => if c = true then b (ε.set i (.val (.tuple [d, .list ds]))) { Ψ with nx := fun _ => False } else ds.length < LIM ∧ r (ε.set i .un) Ψ) := by
  unfold wMutP; congr 1; congr 1; funext d ds; congr 1; funext c; cases c <;> simp
/-- what a slot's dict says -/
def asK (s : Option SV) (Φ : List (PyData × PyData) → Prop) : Prop := match s with
  | some (SV.dct ds) => Φ ds
  | _ => False
@[simp] theorem asK_d (ds : List (PyData × PyData)) (Φ : List (PyData × PyData) → Prop) : asK (some (SV.dct ds)) Φ = Φ ds := nr rfl
@[simp] theorem e_KGet (i : Nat) (w : WE) (Φ : PyData → Prop) : wKGet i w ε Φ = asK ε[i]? fun ds => w ε fun k => isKey k = true ∧ match dGet ds k with
    | some d => Φ d
    | none => False := by
  unfold wKGet asK
  cases ε[i]? with
  | none => rfl
  | some s => cases s <;> rfl
end
/-! ### operators -/
section
variable {Φ : PyData → Prop}
@[simp] theorem o_cmp (f : Int → Int → Bool) (a b : Int) : opCmpI f (.int a) (.int b) Φ = Φ (.bool (f a b)) := nr rfl
@[simp] theorem o_eq (d e : PyData) : opEq d e Φ = (min d.depth e.depth ≤ 60 ∧ Φ (.bool (PyData.eqv d e))) := nr rfl
@[simp] theorem o_ne (d e : PyData) : opNe d e Φ = (min d.depth e.depth ≤ 60 ∧ Φ (.bool (!PyData.eqv d e))) := nr rfl
@[simp] theorem o_isN (d : PyData) : opIsN d .none Φ = Φ (.bool (isNone d)) := nr rfl
@[simp] theorem o_notN (d : PyData) : opNotN d .none Φ = Φ (.bool (!isNone d)) := nr rfl
@[simp] theorem o_isB (a b : Bool) : opIsB (.bool a) (.bool b) Φ = Φ (.bool (decide (a = b))) := nr rfl
@[simp] theorem o_inL (neg : Bool) (d : PyData) (ds : List PyData) : inD neg d (.list ds) Φ = (d.depth ≤ 60 ∧ Φ (.bool (neg ^^ (ds.any fun z => PyData.eqv z d)))) := nr rfl
@[simp] theorem o_inT (neg : Bool) (d : PyData) (ds : List PyData) : inD neg d (.tuple ds) Φ = (d.depth ≤ 60 ∧ Φ (.bool (neg ^^ (ds.any fun z => PyData.eqv z d)))) := nr rfl
@[simp] theorem o_inS (neg : Bool) (c : Nat) (z : Str) : inD neg (.str ⟨#[c]⟩) (.str z) Φ = Φ (.bool (neg ^^ decide (c ∈ z.cps.toList))) := nr rfl
@[simp] theorem o_addI (a b : Int) : opAdd (.int a) (.int b) Φ = Φ (.int (a + b)) := nr rfl
@[simp] theorem o_addS (a b : Str) : opAdd (.str a) (.str b) Φ = (a.length + b.length ≤ LIM ∧ Φ (.str (a ++ b))) := nr rfl
@[simp] theorem o_addL (a b : List PyData) : opAdd (.list a) (.list b) Φ = (a.length + b.length ≤ LIM ∧ Φ (.list (a ++ b))) := nr rfl
@[simp] theorem o_addT (a b : List PyData) : opAdd (.tuple a) (.tuple b) Φ = (a.length + b.length ≤ LIM ∧ Φ (.tuple (a ++ b))) := nr rfl
@[simp] theorem o_sub (a b : Int) : opSub (.int a) (.int b) Φ = Φ (.int (a - b)) := nr rfl
@[simp] theorem o_fdiv (a b : Int) : opFdiv (.int a) (.int b) Φ = ((0 < b ∧ b < 340282366920938463463374607431768211456) ∧ Φ (.int (a / b))) := nr rfl
@[simp] theorem o_mod (a b : Int) : opMod (.int a) (.int b) Φ = (0 < b ∧ Φ (.int (a % b))) := nr rfl
@[simp] theorem o_mulI (a b : Int) : opMul (.int a) (.int b) Φ = (((-(2 ^ 64) < a ∧ a < 2 ^ 64) ∨ (-(2 ^ 64) < b ∧ b < 2 ^ 64)) ∧ Φ (.int (a * b))) := nr rfl
@[simp] theorem o_mulT (a : List PyData) (k : Int) : opMul (.tuple a) (.int k) Φ = ((a ≠ [] ∧ 2 ≤ k ∧ k ≤ 1000 ∧ a.length ≤ 1000) ∧ Φ (.tuple (List.replicate k.toNat a).flatten)) := nr rfl
@[simp] theorem o_pow (a b : Int) : opPow (.int a) (.int b) Φ = ((0 ≤ b ∧ b ≤ 1000 ∧ a.natAbs < 2 ^ 64) ∧ Φ (.int (a ^ b.toNat))) := nr rfl
def asO (o : Option PyData) (Φ : PyData → Prop) : Prop := match o with
  | some d => Φ d
  | none => False
@[simp] theorem asO_s (d : PyData) : asO (some d) Φ = Φ d := nr rfl
@[simp] theorem o_ixL (ds : List PyData) (i : Int) : opIx (.list ds) (.int i) Φ = asO (atI ds i) Φ := nr rfl
@[simp] theorem o_ixT (ds : List PyData) (i : Int) : opIx (.tuple ds) (.int i) Φ = asO (atI ds i) Φ := nr rfl
@[simp] theorem o_isi (t : Ty) (d : PyData) : opIsi t d Φ = Φ (.bool (isTy t d)) := nr rfl
@[simp] theorem o_isi2 (t u : Ty) (d : PyData) : opIsi2 t u d Φ = Φ (.bool (isTy t d || isTy u d)) := nr rfl
@[simp] theorem o_lenL (ds : List PyData) : opLen [.list ds] Φ = Φ (.int ds.length) := nr rfl
@[simp] theorem o_lenT (ds : List PyData) : opLen [.tuple ds] Φ = Φ (.int ds.length) := nr rfl
@[simp] theorem o_lenS (z : Str) : opLen [.str z] Φ = Φ (.int z.length) := nr rfl
@[simp] theorem o_intI (i : Int) : opInt [.int i] Φ = Φ (.int i) := nr rfl
@[simp] theorem o_intB (b : Bool) : opInt [.bool b] Φ = Φ (.int (if b then 1 else 0)) := nr rfl
@[simp] theorem o_tupL (ds : List PyData) : opTuple [.list ds] Φ = Φ (.tuple ds) := nr rfl
@[simp] theorem o_tupT (ds : List PyData) : opTuple [.tuple ds] Φ = Φ (.tuple ds) := nr rfl
@[simp] theorem o_lstL (ds : List PyData) (Φ : List PyData → Prop) : opList [.list ds] Φ = Φ ds := nr rfl
@[simp] theorem o_lstT (ds : List PyData) (Φ : List PyData → Prop) : opList [.tuple ds] Φ = Φ ds := nr rfl
@[simp] theorem o_slL (ds : List PyData) (lo hi : Option Int) : opSl (.list ds) lo hi Φ = Φ (.list (cutP ds lo hi)) := nr rfl
@[simp] theorem o_slT (ds : List PyData) (lo hi : Option Int) : opSl (.tuple ds) lo hi Φ = Φ (.tuple (cutP ds lo hi)) := nr rfl
@[simp] theorem o_slS (z : Str) (lo hi : Option Int) : opSl (.str z) lo hi Φ = Φ (.str (cutS z lo hi)) := nr rfl
@[simp] theorem o_neg (i : Int) : opNeg (.int i) Φ = Φ (.int (-i)) := nr rfl
@[simp] theorem o_max (i j : Int) : opMax2 [.int i, .int j] Φ = Φ (.int (if j > i then j else i)) := nr rfl
end
/-! ### loops -/
/-- a comprehension whose items each give something or nothing -/
theorem lc_eval {g : WG} {c : WB} {w : WE} {ε : EV} (f : PyData → Option PyData) : ∀ {ds : List PyData} {Φ : List PyData → Prop},
    (∀ d ∈ ds, ∀ k : Option PyData → Prop, k (f d) → g d ε fun ε1 => c ε1 fun b => if b = true then w ε1 (fun r => k (some r)) else k none) → Φ (ds.filterMap f) → wLc g c w ds ε Φ
  | [], Φ, _, h => h
  | d :: ds, Φ, h1, h => by
    have hd := h1 d List.mem_cons_self fun o => match o with
      | some r => wLc g c w ds ε fun rs => Φ (r :: rs)
      | none => wLc g c w ds ε Φ
    have rest : ∀ {Φ : List PyData → Prop}, Φ (ds.filterMap f) → wLc g c w ds ε Φ := fun h => lc_eval f (fun d z => h1 d (List.mem_cons_of_mem _ z)) h
    have e : wLc g c w (d :: ds) ε Φ = g d ε fun ε1 => c ε1 fun b => if b = true then w ε1 (fun r => wLc g c w ds ε fun rs => Φ (r :: rs)) else wLc g c w ds ε Φ := by
      rw [wLc]; congr 1; funext ε1; congr 1; funext b; cases b <;> simp
    rw [e]
    refine hd ?_
    cases q : f d with
    | none => rw [List.filterMap_cons_none q] at h; exact rest h
    | some r => rw [List.filterMap_cons_some q] at h; exact rest h
/-- a comprehension that only keeps some -/
theorem lc_filter {g : WG} {c : WB} {w : WE} {ε : EV} (p : PyData → Bool) {ds : List PyData} {Φ : List PyData → Prop}
    (h1 : ∀ d ∈ ds, ∀ k : Option PyData → Prop, k (if p d = true then some d else none) → g d ε fun ε1 => c ε1 fun b => if b = true then w ε1 (fun r => k (some r)) else k none) (h : Φ (ds.filter p)) : wLc g c w ds ε Φ := by
  refine lc_eval (fun d => if p d = true then some d else none) h1 ?_
  have e : ds.filterMap (fun d => if p d = true then some d else none) = ds.filter p := by
    rw [← List.filterMap_eq_filter]; congr 1
  rw [e]; exact h
theorem eqv_nil (ds : List PyData) : PyData.eqv (.list ds) (.list []) = ds.isEmpty := by
  cases ds <;> simp [PyData.eqv, PyData.eqvAll]
theorem filter_none {α : Type} (p : α → Bool) (ds : List α) : (ds.filter p).isEmpty = ds.all fun d => !p d := by
  induction ds with
  | nil => rfl
  | cons d ds ih =>
    rw [List.filter_cons, List.all_cons]
    cases p d <;> simp [ih]
theorem lc_E {g : WG} {c : WB} {w : WE} {ε : EV} (f : PyData → Option PyData) : ∀ {ds : List PyData} {Φ : List PyData → Prop},
    (∀ d ∈ ds, ∀ k : Option PyData → Prop, (g d ε fun ε1 => c ε1 fun b => if b = true then w ε1 (fun r => k (some r)) else k none) = k (f d)) → wLc g c w ds ε Φ = Φ (ds.filterMap f)
  | [], Φ, _ => rfl
  | d :: ds, Φ, h1 => by
    have hd := h1 d List.mem_cons_self fun o => match o with
      | some r => wLc g c w ds ε fun rs => Φ (r :: rs)
      | none => wLc g c w ds ε Φ
    have rest : ∀ {Φ : List PyData → Prop}, wLc g c w ds ε Φ = Φ (ds.filterMap f) := lc_E f fun d z => h1 d (List.mem_cons_of_mem _ z)
    have e : wLc g c w (d :: ds) ε Φ = g d ε fun ε1 => c ε1 fun b => if b = true then w ε1 (fun r => wLc g c w ds ε fun rs => Φ (r :: rs)) else wLc g c w ds ε Φ := by
      rw [wLc]; congr 1; funext ε1; congr 1; funext b; cases b <;> simp
    rw [e]
    refine hd.trans ?_
    cases q : f d with
    | none => rw [List.filterMap_cons_none q]; exact rest
    | some r => rw [List.filterMap_cons_some q]; exact rest
theorem lc_F {g : WG} {c : WB} {w : WE} {ε : EV} (p : PyData → Bool) {ds : List PyData} {Φ : List PyData → Prop}
    (h1 : ∀ d ∈ ds, ∀ k : Option PyData → Prop, (g d ε fun ε1 => c ε1 fun b => if b = true then w ε1 (fun r => k (some r)) else k none) = k (if p d = true then some d else none)) : wLc g c w ds ε Φ = Φ (ds.filter p) := by
  rw [lc_E (fun d => if p d = true then some d else none) h1]
  congr 1
  rw [← List.filterMap_eq_filter]; congr 1
/-! ### data -/
@[simp] theorem dp_none : PyData.depth .none = 0 := by simp [PyData.depth]
@[simp] theorem dp_bool (b : Bool) : PyData.depth (.bool b) = 0 := by simp [PyData.depth]
@[simp] theorem dp_int (i : Int) : PyData.depth (.int i) = 0 := by simp [PyData.depth]
@[simp] theorem dp_str (x : Str) : PyData.depth (.str x) = 0 := by simp [PyData.depth]
@[simp] theorem dp_list (ds : List PyData) : PyData.depth (.list ds) = PyData.depthAll ds + 1 := by simp [PyData.depth]
@[simp] theorem dp_tup (ds : List PyData) : PyData.depth (.tuple ds) = PyData.depthAll ds + 1 := by simp [PyData.depth]
@[simp] theorem dpa_nil : PyData.depthAll [] = 0 := by simp [PyData.depthAll]
@[simp] theorem dpa_cons (d : PyData) (ds : List PyData) : PyData.depthAll (d :: ds) = max d.depth (PyData.depthAll ds) := by simp [PyData.depthAll]
@[simp] theorem eqv_ss (x y : Str) : PyData.eqv (.str x) (.str y) = decide (x = y) := by
  simp [PyData.eqv]
  by_cases h : x = y <;> simp [h]
@[simp] theorem eqv_ii (x y : Int) : PyData.eqv (.int x) (.int y) = decide (x = y) := by
  simp [PyData.eqv]
  by_cases h : x = y <;> simp [h]
@[simp] theorem eqv_bb (x y : Bool) : PyData.eqv (.bool x) (.bool y) = decide (x = y) := by
  cases x <;> cases y <;> simp [PyData.eqv]
@[simp] theorem eqv_tt (xs ys : List PyData) : PyData.eqv (.tuple xs) (.tuple ys) = PyData.eqvAll xs ys := by simp [PyData.eqv]
@[simp] theorem eqv_ll (xs ys : List PyData) : PyData.eqv (.list xs) (.list ys) = PyData.eqvAll xs ys := by simp [PyData.eqv]
@[simp] theorem eqa_nn : PyData.eqvAll [] [] = true := by simp [PyData.eqvAll]
@[simp] theorem eqa_nc (y : PyData) (ys : List PyData) : PyData.eqvAll [] (y :: ys) = false := by simp [PyData.eqvAll]
@[simp] theorem eqa_cn (x : PyData) (xs : List PyData) : PyData.eqvAll (x :: xs) [] = false := by simp [PyData.eqvAll]
@[simp] theorem eqa_cc (x y : PyData) (xs ys : List PyData) : PyData.eqvAll (x :: xs) (y :: ys) = (PyData.eqv x y && PyData.eqvAll xs ys) := by simp [PyData.eqvAll]
theorem eqa_n (xs : List PyData) : PyData.eqvAll xs [] = xs.isEmpty := by cases xs <;> simp
@[simp] theorem at_0 (x : PyData) (xs : List PyData) : atI (x :: xs) 0 = some x := by
  unfold atI ixN
  rw [if_pos (by omega), if_pos (by simp)]; rfl
@[simp] theorem at_1 (x y : PyData) (xs : List PyData) : atI (x :: y :: xs) 1 = some y := by
  unfold atI ixN
  rw [if_pos (by omega), if_pos (by simp; omega)]; rfl
@[simp] theorem at_2 (x y z : PyData) (xs : List PyData) : atI (x :: y :: z :: xs) 2 = some z := by
  unfold atI ixN
  rw [if_pos (by omega), if_pos (by simp; omega)]; rfl
@[simp] theorem at_3 (x y z u : PyData) (xs : List PyData) : atI (x :: y :: z :: u :: xs) 3 = some u := by
  unfold atI ixN
  rw [if_pos (by omega), if_pos (by simp; omega)]; rfl
@[simp] theorem at_4 (x y z u v : PyData) (xs : List PyData) : atI (x :: y :: z :: u :: v :: xs) 4 = some v := by
  unfold atI ixN
  rw [if_pos (by omega), if_pos (by simp; omega)]; rfl
theorem at_nat {ds : List PyData} {n : Nat} {d : PyData} (h : ds[n]? = some d) : atI ds n = some d := by
  unfold atI ixN
  have hn := (List.getElem?_eq_some_iff.mp h).1
  rw [if_pos (by omega), if_pos (by omega)]
  exact h
@[simp] theorem cut_tail (x : PyData) (xs : List PyData) : cutP (x :: xs) (some 1) none = xs := by
  unfold cutP HT.sIx
  simp
@[simp] theorem cut_head (x : PyData) (xs : List PyData) : cutP (x :: xs) none (some 1) = [x] := by
  unfold cutP HT.sIx
  simp
@[simp] theorem ty_int_none  : isTy .int .none = false := nr rfl
@[simp] theorem ty_int_bool (b : Bool) : isTy .int (.bool b) = true := nr rfl
@[simp] theorem ty_int_int (i : Int) : isTy .int (.int i) = true := nr rfl
@[simp] theorem ty_int_str (z : Str) : isTy .int (.str z) = false := nr rfl
@[simp] theorem ty_int_list (ds : List PyData) : isTy .int (.list ds) = false := nr rfl
@[simp] theorem ty_int_tuple (ds : List PyData) : isTy .int (.tuple ds) = false := nr rfl
@[simp] theorem ty_bool_none  : isTy .bool .none = false := nr rfl
@[simp] theorem ty_bool_bool (b : Bool) : isTy .bool (.bool b) = true := nr rfl
@[simp] theorem ty_bool_int (i : Int) : isTy .bool (.int i) = false := nr rfl
@[simp] theorem ty_bool_str (z : Str) : isTy .bool (.str z) = false := nr rfl
@[simp] theorem ty_bool_list (ds : List PyData) : isTy .bool (.list ds) = false := nr rfl
@[simp] theorem ty_bool_tuple (ds : List PyData) : isTy .bool (.tuple ds) = false := nr rfl
@[simp] theorem ty_str_none  : isTy .str .none = false := nr rfl
@[simp] theorem ty_str_bool (b : Bool) : isTy .str (.bool b) = false := nr rfl
@[simp] theorem ty_str_int (i : Int) : isTy .str (.int i) = false := nr rfl
@[simp] theorem ty_str_str (z : Str) : isTy .str (.str z) = true := nr rfl
@[simp] theorem ty_str_list (ds : List PyData) : isTy .str (.list ds) = false := nr rfl
@[simp] theorem ty_str_tuple (ds : List PyData) : isTy .str (.tuple ds) = false := nr rfl
@[simp] theorem ty_tuple_none  : isTy .tuple .none = false := nr rfl
@[simp] theorem ty_tuple_bool (b : Bool) : isTy .tuple (.bool b) = false := nr rfl
@[simp] theorem ty_tuple_int (i : Int) : isTy .tuple (.int i) = false := nr rfl
@[simp] theorem ty_tuple_str (z : Str) : isTy .tuple (.str z) = false := nr rfl
@[simp] theorem ty_tuple_list (ds : List PyData) : isTy .tuple (.list ds) = false := nr rfl
@[simp] theorem ty_tuple_tuple (ds : List PyData) : isTy .tuple (.tuple ds) = true := nr rfl
@[simp] theorem ty_list_none  : isTy .list .none = false := nr rfl
@[simp] theorem ty_list_bool (b : Bool) : isTy .list (.bool b) = false := nr rfl
@[simp] theorem ty_list_int (i : Int) : isTy .list (.int i) = false := nr rfl
@[simp] theorem ty_list_str (z : Str) : isTy .list (.str z) = false := nr rfl
@[simp] theorem ty_list_list (ds : List PyData) : isTy .list (.list ds) = true := nr rfl
@[simp] theorem ty_list_tuple (ds : List PyData) : isTy .list (.tuple ds) = false := nr rfl
@[simp] theorem ty_int_dict (k) : isTy .int (.dict k) = false := nr rfl
@[simp] theorem ty_bool_dict (k) : isTy .bool (.dict k) = false := nr rfl
@[simp] theorem ty_str_dict (k) : isTy .str (.dict k) = false := nr rfl
@[simp] theorem ty_tuple_dict (k) : isTy .tuple (.dict k) = false := nr rfl
@[simp] theorem ty_list_dict (k) : isTy .list (.dict k) = false := nr rfl
theorem ite_P (Φ : PyData → Prop) (c : Prop) [Decidable c] (a b : PyData) : (if c then Φ a else Φ b) = Φ (if c then a else b) := by
  by_cases h : c <;> simp [h]
theorem ite_B (c : Prop) [Decidable c] (a b : Bool) : (if c then PyData.bool a else PyData.bool b) = PyData.bool (if c then a else b) := by
  by_cases h : c <;> simp [h]
theorem phi_B (Φ : PyData → Prop) {a b : Bool} (h : a = b) : Φ (.bool a) = Φ (.bool b) := by rw [h]
theorem lcA_E {g : WG} {c : WB} {w : WE} {ε : EV} (f : PyData → Option PyData) : ∀ {ds acc : List PyData} {Φ : List PyData → Prop},
    (∀ d ∈ ds, ∀ k : Option PyData → Prop, (g d ε fun ε1 => c ε1 fun b => if b = true then w ε1 (fun r => k (some r)) else k none) = k (f d)) → acc.length + ds.length ≤ LIM → wLcA g c w ds ε acc Φ = Φ (acc ++ ds.filterMap f)
  | [], acc, Φ, _, _ => by rw [List.filterMap_nil, List.append_nil]; rfl
  | d :: ds, acc, Φ, h1, hl => by
    have hl' : acc.length + (ds.length + 1) ≤ LIM := hl
    have hd := h1 d List.mem_cons_self fun o => match o with
      | some r => acc.length < LIM ∧ wLcA g c w ds ε (acc ++ [r]) Φ
      | none => wLcA g c w ds ε acc Φ
    have e : wLcA g c w (d :: ds) ε acc Φ = g d ε fun ε1 => c ε1 fun b => if b = true then w ε1 (fun r => acc.length < LIM ∧ wLcA g c w ds ε (acc ++ [r]) Φ) else wLcA g c w ds ε acc Φ := by
      rw [wLcA]; congr 1; funext ε1; congr 1; funext b; cases b <;> simp
    rw [e]
    refine hd.trans ?_
    have h2 : ∀ d ∈ ds, ∀ k : Option PyData → Prop, (g d ε fun ε1 => c ε1 fun b => if b = true then w ε1 (fun r => k (some r)) else k none) = k (f d) := fun d z => h1 d (List.mem_cons_of_mem _ z)
    cases q : f d with
    | none => rw [List.filterMap_cons_none q]; exact lcA_E f h2 (by omega)
    | some r =>
      rw [List.filterMap_cons_some q]
      have := lcA_E (acc := acc ++ [r]) (Φ := Φ) f h2 (by rw [List.length_append, List.length_singleton]; omega)
      simp only [this, List.append_assoc, List.singleton_append]
      have lt : acc.length < LIM := by omega
      simp [lt]
theorem lcO_E {g g1 : WG} {c c1 : WB} {wi1 : WI} {vs1 : List Nat} {w : WE} {ε : EV} (G : PyData → List PyData) (m : Nat) : ∀ {ds acc : List PyData} {Φ : List PyData → Prop},
    (∀ d ∈ ds, (G d).length ≤ m ∧ ∀ (acc : List PyData) (k : List PyData → Prop), acc.length + m ≤ LIM → (g d ε fun ε1 => c ε1 fun b => if b = true then wi1 ε1 fun es => wLcA g1 c1 w es (unS ε1 vs1) acc k else k acc) = k (acc ++ G d)) →
    acc.length + ds.length * m ≤ LIM → wLcO g c wi1 vs1 g1 c1 w ds ε acc Φ = Φ (acc ++ ds.flatMap G)
  | [], acc, Φ, _, _ => by rw [List.flatMap_nil, List.append_nil]; rfl
  | d :: ds, acc, Φ, h1, hl => by
    have hl' : acc.length + (ds.length + 1) * m ≤ LIM := hl
    rw [Nat.succ_mul] at hl'
    obtain ⟨hm, hd⟩ := h1 d List.mem_cons_self
    have hd := hd acc (fun acc' => wLcO g c wi1 vs1 g1 c1 w ds ε acc' Φ) (by omega)
    have e : wLcO g c wi1 vs1 g1 c1 w (d :: ds) ε acc Φ = g d ε fun ε1 => c ε1 fun b => if b = true then wi1 ε1 fun es => wLcA g1 c1 w es (unS ε1 vs1) acc fun acc' => wLcO g c wi1 vs1 g1 c1 w ds ε acc' Φ else wLcO g c wi1 vs1 g1 c1 w ds ε acc Φ := by
      rw [wLcO]; congr 1; funext ε1; congr 1; funext b; cases b <;> simp
    rw [e]
    refine hd.trans ?_
    have := lcO_E (acc := acc ++ G d) (Φ := Φ) G m (fun d z => h1 d (List.mem_cons_of_mem _ z)) (by rw [List.length_append]; omega)
    simp only [this, List.append_assoc, List.flatMap_cons]
/-! ### sets -/
theorem ins_len {α : Type} (lt : α → α → Bool) (x : α) : ∀ l : List α, (insO lt x l).length ≤ l.length + 1
  | [] => Nat.le_refl _
  | y :: l => by
    unfold insO
    split
    · exact Nat.le_refl _
    · split
      · exact Nat.succ_le_succ (ins_len lt x l)
      · exact Nat.le_succ _
theorem sset_len {α : Type} (lt : α → α → Bool) : ∀ l : List α, (sset lt l).length ≤ l.length
  | [] => Nat.le_refl _
  | x :: l => Nat.le_trans (ins_len lt x _) (Nat.succ_le_succ (sset_len lt l))
theorem sset_same {α : Type} {lt : α → α → Bool} (o : LO lt) {l m : List α} (h : ∀ x, x ∈ l ↔ x ∈ m) : sset lt l = sset lt m :=
  asc_uniq o (asc_sset o l) (asc_sset o m) fun x => (mem_sset o).trans ((h x).trans (mem_sset o).symm)
theorem sortD_tups {ks : List (List Str)} (ne : ∀ k ∈ ks, k ≠ []) (few : (sset ltT ks).length < 64) (Φ : List PyData → Prop) : sortD (ks.map tupS) Φ = Φ ((sset ltT ks).map tupS) := by
  unfold sortD
  cases ks with
  | nil =>
    rw [show strsOf (([] : List (List Str)).map tupS) = some [] from rfl]
    simp [sset]
  | cons k ks =>
    rw [show strsOf ((k :: ks).map tupS) = none from rfl]
    simp only
    rw [tupsOf_map ne]
    simp [few]
theorem sortD_strs {ks : List Str} (few : (sset ltS ks).length < 64) (Φ : List PyData → Prop) : sortD (ks.map .str) Φ = Φ ((sset ltS ks).map .str) := by
  unfold sortD
  rw [strsOf_map]
  simp [few]
/-! ### for -/
/-- a for statement with a state -/
theorem for_E {g : WG} {b : WS} {Ψ : WEnds} (st : List PyData → EV) (P : List PyData → Prop) : ∀ {ds done : List PyData}, P done →
    (∀ d done' rest, done ++ ds = done' ++ d :: rest → P done' → P (done' ++ [d]) ∧ ∀ Ψ' : WEnds, Ψ'.nx (st (done' ++ [d])) → g d (st done') fun ε1 => b ε1 Ψ') → Ψ.nx (st (done ++ ds)) → wForL g b ds (st done) Ψ
  | [], done, _, _, h => by rw [List.append_nil] at h; exact h
  | d :: ds, done, hp, h1, h => by
    obtain ⟨p2, hd⟩ := h1 d done ds rfl hp
    refine hd { nx := fun ε2 => wForL g b ds ε2 Ψ, ct := fun ε2 => wForL g b ds ε2 Ψ, bk := Ψ.nx, rt := Ψ.rt } ?_
    refine for_E st P p2 (fun d' done' rest e p => h1 d' done' rest ?_ p) ?_
    · rw [← e, List.append_assoc]; rfl
    · rw [List.append_assoc]; exact h
/-- a for statement with what stands of the frame -/
theorem for_I {g : WG} {b : WS} {Ψ : WEnds} (I : List PyData → EV → Prop) : ∀ {ds done : List PyData} {ε : EV}, I done ε →
    (∀ d done' rest ε, done ++ ds = done' ++ d :: rest → I done' ε → ∀ Ψ' : WEnds, Ψ'.rt = Ψ.rt → (∀ ε', I (done' ++ [d]) ε' → Ψ'.nx ε') → g d ε fun ε1 => b ε1 Ψ') → (∀ ε', I (done ++ ds) ε' → Ψ.nx ε') → wForL g b ds ε Ψ
  | [], done, ε, hp, _, h => h ε (by rw [List.append_nil]; exact hp)
  | d :: ds, done, ε, hp, h1, h => by
    refine h1 d done ds ε rfl hp { nx := fun ε2 => wForL g b ds ε2 Ψ, ct := fun ε2 => wForL g b ds ε2 Ψ, bk := Ψ.nx, rt := Ψ.rt } rfl fun ε' hp' => ?_
    refine for_I I hp' (fun d' done' rest ε'' e p => h1 d' done' rest ε'' ?_ p) fun ε'' p => h ε'' ?_
    · rw [← e, List.append_assoc]; rfl
    · rw [List.append_assoc] at p; exact p
end MG

set_option Elab.async false
set_option linter.all false
set_option maxRecDepth 100000
set_option maxHeartbeats 4000000
/-! MgTxt: methods of texts, over plain data. -/
namespace MG
variable [Tbl]
open PySem PySem.Spec PyProof.Rows L2
def wBM (op : Str → List PyData → (PyData → Prop) → Prop) (wo : WE) (wa : WA) : WE := fun ε Φ => wo ε fun d => match d with
  | .str a => wa ε fun ds => op a ds Φ
  | _ => False
def wBMN (op : Str → List PyData → (List PyData → Prop) → Prop) (wo : WE) (wa : WA) : WA := fun ε Φ => wo ε fun d => match d with
  | .str a => wa ε fun ds => op a ds Φ
  | _ => False
def BmD (K : PySem.W.Frag) (T : Option Addr) (r : V → List V → Hp → VK → Prop) (op : Str → List PyData → (PyData → Prop) → Prop) : Prop :=
  ∀ (a : Str) ds vs F H Q Φ, Wd T F H → RpAll K F vs ds → op a ds Φ → (∀ d v F' H', Φ d → Wd T F' H' → Ex T F H F' H' → Rp K F' v d → Q v H') → r (.str a) vs H Q
def BmN (K : PySem.W.Frag) (T : Option Addr) (r : V → List V → Hp → VK → Prop) (op : Str → List PyData → (List PyData → Prop) → Prop) : Prop :=
  ∀ (a : Str) ds vs F H Q Φ, Wd T F H → RpAll K F vs ds → op a ds Φ → (∀ es p ws F' H', Φ es → Wd T F' H' → Ex T F H F' H' → H p = none → F' p = none → T ≠ some p → H' p = some (.lst ws) → ws.length ≤ sizeLine → RpAll K F' ws es → Q (.ref p) H') → r (.str a) vs H Q
section
variable {X : Cx} {K : PySem.W.Frag} {T : Option Addr} {o e : Expr} {es : List Expr} {name : Str} {apos cpos : Pos} {id : String} {r : V → List V → Hp → VK → Prop} {wo : WE} {wa : WA} {n : Nat}
theorem md_bm {op : Str → List PyData → (PyData → Prop) → Prop} (slot : Slot "str" name id) (hty : typeOf (.builtin id) = pure (.type "method_descriptor")) (hm : MtR X id r) (h : BmD K T r op) (ho : PE X o (tD K T wo)) (ha : PA X (e :: es) (tDA K T n wa))
    (hbase : attributeBase o name X.env (eval o X.env) = eval o X.env := by rfl)
    (hfew : ((backTo cpos (starEach (e :: es) X.env)).all (fun x => !x.1) && (backToKw cpos (keywordEach [] X.env)).all (fun x => x.1.isSome)
      && decide ((e :: es).length + ([] : List Keyword).length + (if ([] : List Keyword).isEmpty then 0 else 1) < 30)) = true := by rfl)
    (hline : (apos.endLine == cpos.line) = true := by rfl) (hs : starEach (e :: es) X.env = (false, eval e X.env) :: starEach es X.env := by rfl) (hplain : (backTo cpos (starEach es X.env)).any (·.1) = false := by rfl) :
    PE X (.Call (.Attribute o name apos) (e :: es) [] cpos) (tD K T (wBM op wo wa)) :=
  pe_imp (pe_bm PySem.F.plainAttrs_str slot hty hm ho ha hbase hfew hline hs hplain) fun σ H Q ⟨H0, ε, F, Φ, S, W, hw, k⟩ => ⟨H0, ε, F, _, S, W, hw, fun d v F1 H1 hd W1 X1 D1 => by
    split at hd
    · rename_i a
      cases D1
      exact ⟨rfl, H0, ε, F1, _, S.ex X1, W1, hd, fun ds vs F2 H2 hds hl W2 X2 D2 => h a ds vs F2 H2 Q Φ W2 D2 hds fun d' v' F3 H3 hd' W3 X3 D3 => k d' v' F3 H3 hd' W3 ((X1.trans X2).trans X3) D3⟩
    · exact hd.elim⟩
theorem mn_bm {op : Str → List PyData → (List PyData → Prop) → Prop} (slot : Slot "str" name id) (hty : typeOf (.builtin id) = pure (.type "method_descriptor")) (hm : MtR X id r) (h : BmN K T r op) (ho : PE X o (tD K T wo)) (ha : PA X (e :: es) (tDA K T n wa))
    (hbase : attributeBase o name X.env (eval o X.env) = eval o X.env := by rfl)
    (hfew : ((backTo cpos (starEach (e :: es) X.env)).all (fun x => !x.1) && (backToKw cpos (keywordEach [] X.env)).all (fun x => x.1.isSome)
      && decide ((e :: es).length + ([] : List Keyword).length + (if ([] : List Keyword).isEmpty then 0 else 1) < 30)) = true := by rfl)
    (hline : (apos.endLine == cpos.line) = true := by rfl) (hs : starEach (e :: es) X.env = (false, eval e X.env) :: starEach es X.env := by rfl) (hplain : (backTo cpos (starEach es X.env)).any (·.1) = false := by rfl) :
    PE X (.Call (.Attribute o name apos) (e :: es) [] cpos) (tN K T (wBMN op wo wa)) :=
  pe_imp (pe_bm PySem.F.plainAttrs_str slot hty hm ho ha hbase hfew hline hs hplain) fun σ H Q ⟨H0, ε, F, Φ, S, W, hw, k⟩ => ⟨H0, ε, F, _, S, W, hw, fun d v F1 H1 hd W1 X1 D1 => by
    split at hd
    · rename_i a
      cases D1
      exact ⟨rfl, H0, ε, F1, _, S.ex X1, W1, hd, fun ds vs F2 H2 hds hl W2 X2 D2 => h a ds vs F2 H2 Q Φ W2 D2 hds fun es p ws F3 H3 hd' W3 X3 hp hF hT e3 z3 r3 => k es p ws F3 H3 hd' W3 ((X1.trans X2).trans X3) (none_dom (X1.trans X2) hp) hF hT e3 z3 r3⟩
    · exact hd.elim⟩
end
/-! ### join, split, ljust -/
theorem txts_rp {K : PySem.W.Frag} {F : Hp} : ∀ {vs : List V} {ds : List PyData} {ys : List Str}, RpAll K F vs ds → strsOf ds = some ys → vs = ys.map V.str
  | _, [], ys, .nil, h => by cases h; rfl
  | _, d :: ds, ys, .cons r t, h => by
    cases d with
    | str x =>
      unfold strsOf at h
      obtain ⟨zs, h1, h2⟩ := Option.map_eq_some_iff.mp h
      subst h2
      cases r
      rw [txts_rp t h1]
      rfl
    | _ => cases h
theorem txts_all {K : PySem.W.Frag} {F : Hp} : ∀ {ys : List Str}, (∀ y ∈ ys, sOk y = true) → RpAll K F (ys.map V.str) (ys.map .str)
  | [], _ => .nil
  | y :: ys, h => .cons (.str (h y List.mem_cons_self)) (txts_all fun z hz => h z (List.mem_cons_of_mem _ hz))
def opJoin (a : Str) : List PyData → (PyData → Prop) → Prop
  | [.list ds], Φ => match strsOf ds with
    | some ys => ((ys.map (·.length)).sum + ys.length * a.length ≤ 16777216 ∧ sOk (Txt.join a ys) = true) ∧ Φ (.str (Txt.join a ys))
    | none => False
  | [.tuple ds], Φ => match strsOf ds with
    | some ys => ((ys.map (·.length)).sum + ys.length * a.length ≤ 16777216 ∧ sOk (Txt.join a ys) = true) ∧ Φ (.str (Txt.join a ys))
    | none => False
  | _, _ => False
def opSplit (a : Str) : List PyData → (List PyData → Prop) → Prop
  | [.str b], Φ => ((b.length == 0) = false ∧ a.length + 2 ≤ 16777216 ∧ (Txt.split a b).length ≤ 16777216 ∧ ∀ y ∈ Txt.split a b, sOk y = true) ∧ Φ ((Txt.split a b).map .str)
  | _, _ => False
def opLjust (a : Str) : List PyData → (PyData → Prop) → Prop
  | [.int i], Φ => (PadOk i = true ∧ sOk (Txt.ljust a i) = true) ∧ Φ (.str (Txt.ljust a i))
  | _, _ => False
section
variable {X : Cx} {K : PySem.W.Frag} {T : Option Addr}
theorem bm_join : BmD K T (fun x xs H Q => ∃ a p, ∃ ys : List Str, x = .str a ∧ xs = [.ref p] ∧ (SqL K H p (ys.map V.str) ∨ SqT K H p (ys.map V.str)) ∧ (ys.map (·.length)).sum + ys.length * a.length ≤ 16777216 ∧ Q (.str (Txt.join a ys)) H) opJoin := fun a ds vs F H Q Φ W D h k => by
  unfold opJoin at h
  split at h
  · rename_i es
    split at h
    · rename_i ys hy
      cases D with
      | cons d1 d2 =>
        cases d2
        cases d1 with
        | lst e z r =>
          have := txts_rp r hy
          subst this
          exact ⟨a, _, ys, rfl, rfl, .inl (SqL.of (W.fz _ _ e)), h.1.1, k _ _ F H h.2 W Ex.refl (.str h.1.2)⟩
    · exact h.elim
  · rename_i es
    split at h
    · rename_i ys hy
      cases D with
      | cons d1 d2 =>
        cases d2
        cases d1 with
        | tup e z r =>
          have := txts_rp r hy
          subst this
          exact ⟨a, _, ys, rfl, rfl, .inr (same_sqT W.fz e), h.1.1, k _ _ F H h.2 W Ex.refl (.str h.1.2)⟩
    · exact h.elim
  · exact h.elim
theorem mt_joinM (hk : X.K = K) : MtR X "str.join" (fun x xs H Q => ∃ a p, ∃ ys : List Str, x = .str a ∧ xs = [.ref p] ∧ (SqL K H p (ys.map V.str) ∨ SqT K H p (ys.map V.str)) ∧ (ys.map (·.length)).sum + ys.length * a.length ≤ 16777216 ∧ Q (.str (Txt.join a ys)) H) := by
  subst hk; exact mt_join
theorem bm_split : BmN K T (fun x xs H Q => ∃ a b, x = .str a ∧ xs = [.str b] ∧ (b.length == 0) = false ∧ a.length + 2 ≤ sizeLine ∧ rNewStrs (Txt.split a b) H Q) opSplit := fun a ds vs F H Q Φ W D h k => by
  unfold opSplit at h
  split at h
  · rename_i b
    cases D with
    | cons d1 d2 =>
      cases d2
      cases d1
      refine ⟨a, b, rfl, rfl, h.1.1, by rw [sizeLine_eq]; exact h.1.2.1, fun p hp => ?_⟩
      obtain ⟨W', X'⟩ := new_raw (o := .lst ((Txt.split a b).map V.str)) W hp
      exact k _ p _ F _ h.2 W' X' hp (W.none_of hp) (tape_ne W hp) upd_same (by rw [List.length_map, sizeLine_eq]; exact h.1.2.2.1) (txts_all h.1.2.2.2)
  · exact h.elim
theorem bm_ljust : BmD K T (fun x xs H Q => ∃ (a : Str) (i : Int), x = .str a ∧ xs = [.int i] ∧ PadOk i = true ∧ Q (.str (Txt.ljust a i)) H) opLjust := fun a ds vs F H Q Φ W D h k => by
  unfold opLjust at h
  split at h
  · rename_i i
    cases D with
    | cons d1 d2 =>
      cases d2
      cases d1
      exact ⟨a, i, rfl, rfl, h.1.1, k _ _ F H h.2 W Ex.refl (.str h.1.2)⟩
  · exact h.elim
end
end MG

set_option Elab.async false
set_option linter.all false
set_option maxRecDepth 100000
set_option maxHeartbeats 4000000
/-! MgFmt: f-strings with padded texts, over plain data. -/
namespace MG
open PySem PySem.Spec PyProof.Rows L2 PySem.Builtin PySem.Builtin.Str PySem.Builtin.Float
/-- `<n`: the spec's reading -/
def padF (n : Nat) : FormatSpec := { align := 60, width := some n }
theorem meets_fmt {x sp : PySem.Str} {t : Tok} {n : Nat} (h1 : (sp.length == 0) = false) (h2 : ((sp.cps.toList.drop 1).any (· ≥ 128) || (sp.cps.getD 0 0 ≥ 128 && !([60, 62, 61, 94] : List Nat).contains (sp.cps.getD 1 0))) = false) (h3 : (sp.cps.back? == some 0) = false)
    (hp : parseFormatSpec sp.cps.toList "str" 60 = .ok (padF n)) (hn : Builtin.Str.tooLong n = false) (hz : (Txt.ljust x n).length ≤ sizeLine) (u : Tok) :
    Meets (Builtin.«str.__format__» ⟨[.str x t, .str sp u], []⟩) (fun _ R s => ∀ t' k, R (.ok (.ret (.str (Txt.ljust x n) t'))) { s with toks := k }) := by
  apply PySem.W.KPc.meets_of
  intro _ _ _ _ _ _ hR
  unfold Builtin.«str.__format__»
  refine wpAny_bind (wpAny_of_eq (a := (_, _, _)) rfl ?_)
  refine wpAny_bind (wpAny_of_eq (a := some _) rfl ?_)
  simp only [h1, h2, Bool.false_eq_true, if_false]
  refine wpAny_bind (PySem.W.KXf.cut_str ?_)
  have hf : strField x (padF n) "str" = .ok (if (n : Int) ≤ x.length then none else some (padded x 0 (n - x.length) 32)) := by
    unfold strField padF
    simp only [Option.isSome, Bool.false_eq_true, if_false, Option.all, Option.getD, strSub_whole, show ((60 : Nat) == 61) = false from rfl, show ((60 : Nat) == 62) = false from rfl, show ((60 : Nat) == 94) = false from rfl, show ((none : Option Nat) == some 32) = false from rfl]
    by_cases hl : n ≤ x.length
    · simp [hl, bind, Except.bind, pure, Except.pure]
    · simp [hl, bind, Except.bind, pure, Except.pure]
  have e : (do
      let f ← parseFormatSpec sp.cps.toList "str" 60
      let f := if f.type.isNone && sp.cps.back? == some 0 then { f with type := some 0 } else f
      if tooLong (f.width.getD 0) then return none
      return some (← strField x f "str") : Except String (Option (Option PySem.Str))) = .ok (some (if (n : Int) ≤ x.length then none else some (padded x 0 (n - x.length) 32))) := by
    rw [hp]
    show (do
      let f := if (padF n).type.isNone && sp.cps.back? == some 0 then { (padF n) with type := some 0 } else (padF n)
      if tooLong (f.width.getD 0) then return none
      return some (← strField x f "str") : Except String (Option (Option PySem.Str))) = _
    simp only [h3, Bool.and_false, Bool.false_eq_true, if_false]
    rw [show tooLong ((padF n).width.getD 0) = false from hn, hf]
    rfl
  simp only [bind, pure] at e ⊢
  simp only [e]
  unfold Txt.ljust at hz hR
  split at hz
  · rename_i hl
    simp only [if_pos hl] at hR ⊢
    refine wpAny_bind (wpAny_rule ?_)
    exact PySem.W.KXf.ret_same rfl hR
  · rename_i hl
    simp only [if_neg hl] at hR ⊢
    exact PySem.W.KXf.ret_text rfl hz hR
/-! ### the field and the whole -/
/-- what a spec must be -/
structure PadOkS (sp : PySem.Str) (n : Nat) : Prop where
  h1 : (sp.length == 0) = false
  h2 : ((sp.cps.toList.drop 1).any (· ≥ 128) || (sp.cps.getD 0 0 ≥ 128 && !([60, 62, 61, 94] : List Nat).contains (sp.cps.getD 1 0))) = false
  h3 : (sp.cps.back? == some 0) = false
  hp : parseFormatSpec sp.cps.toList "str" 60 = .ok (padF n)
  hn : Builtin.Str.tooLong n = false
  hz : sp.length ≤ sizeLine
def wPad (n : Nat) (w : WE) : WE := fun ε Φ => w ε fun d => match d with
  | .str x => sOk (Txt.ljust x n) = true ∧ Φ (.str (Txt.ljust x n))
  | _ => False
def wFmt (w : WE) : WE := fun ε Φ => w ε fun d => match d with
  | .str x => Φ (.str x)
  | _ => False
def wJs : List WE → PySem.Str → WE
  | [], acc, _, Φ => Φ (.str acc)
  | w :: ws, acc, ε, Φ => w ε fun d => match d with
    | .str y => sOk (acc ++ y) = true ∧ wJs ws (acc ++ y) ε Φ
    | _ => False
section
variable [Tbl] {X : Cx} {K : PySem.W.Frag} {T : Option Addr} {e sp : Expr} {w : WE} {pos spos cpos : Pos}
theorem pe_pad {te : L2.TE} {c : PySem.Str} {n : Nat} (hc : PadOkS c n) (he : PE X e te) (hs : PE X sp (fun σ H Q => Q (V.str c) H)) :
    PE X (.FormattedValue e (-1) (some sp) pos) (fun σ H Q => te σ H fun x H1 => ∃ y : PySem.Str, x = V.str y ∧ (Txt.ljust y n).length ≤ sizeLine ∧ Q (V.str (Txt.ljust y n)) H1) := by
  refine ⟨fun pins s σ H Q I h => ?_⟩
  refine wpAny_FormattedValue_spec (thn (he.run pins s σ H _ I h) fun v s1 hv => ?_)
  obtain ⟨x, H1, I1, r1, y, rfl, hz, q⟩ := hv
  obtain ⟨t, rfl⟩ := r1
  refine thn (hs.run pins s1 σ H1 (fun x H2 => x = V.str c ∧ H2 = H1) I1 ⟨rfl, rfl⟩) fun u s2 hu => ?_
  obtain ⟨x2, H2, I2, r2, rfl, rfl⟩ := hu
  obtain ⟨t2, rfl⟩ := r2
  refine ⟨c, t2, rfl, PySem.W.KXf.field_str rfl rfl hc.h1 hc.hz (fun u => meets_fmt hc.h1 hc.h2 hc.h3 hc.hp hc.hn hz u) fun t' k => ?_⟩
  exact ⟨.str (Txt.ljust y n), H2, I2.tok _, ⟨_, rfl⟩, q⟩
theorem md_pad {c : PySem.Str} {n : Nat} (hc : PadOkS c n) (he : PE X e (tD K T w)) (hs : PE X sp (fun σ H Q => Q (V.str c) H)) : PE X (.FormattedValue e (-1) (some sp) pos) (tD K T (wPad n w)) :=
  pe_imp (pe_pad hc he hs) fun σ H Q ⟨H0, ε, F, Φ, S, W, h, k⟩ => ⟨H0, ε, F, _, S, W, h, fun d v F1 H1 hd W1 X1 D1 => by
    split at hd
    · cases D1
      exact ⟨_, rfl, sOk_len hd.1, k _ _ F1 H1 hd.2 W1 X1 (.str hd.1)⟩
    · exact hd.elim⟩
theorem md_fmt (he : PE X e (tD K T w)) : PE X (.FormattedValue e (-1) none pos) (tD K T (wFmt w)) :=
  pe_imp (pe_fmt he) fun σ H Q ⟨H0, ε, F, Φ, S, W, h, k⟩ => ⟨H0, ε, F, _, S, W, h, fun d v F1 H1 hd W1 X1 D1 => by
    split at hd
    · cases D1 with
      | str hx => exact .inl ⟨_, rfl, sOk_len hx, k _ _ F1 H1 hd W1 X1 (.str hx)⟩
    · exact hd.elim⟩
/-- the parts -/
inductive MJ (X : Cx) (K : PySem.W.Frag) (T : Option Addr) : List Expr → List WE → Prop where
  | nil : MJ X K T [] []
  | cons {e : Expr} {w : WE} {es : List Expr} {ws : List WE} (h : PE X e (tD K T w)) (r : MJ X K T es ws) : MJ X K T (e :: es) (w :: ws)
theorem MJ.pj {es : List Expr} {ws : List WE} (h : MJ X K T es ws) : PJ X es (ws.map (tD K T)) := by
  induction h with
  | nil => exact .nil
  | cons h r ih => exact .cons h ih
theorem js_le : ∀ {ws : List WE} {acc : PySem.Str} {σ : L2.St} {H F H0 : Hp} {ε : EV} {Q : PySem.Str → Hp → Prop} {Φ : PyData → Prop}, Sat K T H0 ε σ F H → Wd T F H → sOk acc = true → wJs ws acc ε Φ →
    (∀ y F' H', sOk y = true → Φ (.str y) → Wd T F' H' → Ex T F H F' H' → Q y H') → tJs (ws.map (tD K T)) acc σ H Q
  | [], acc, σ, H, F, H0, ε, Q, Φ, S, W, ha, h, k => k acc F H ha h W Ex.refl
  | w :: ws, acc, σ, H, F, H0, ε, Q, Φ, S, W, ha, h, k => ⟨H0, ε, F, _, S, W, h, fun d v F1 H1 hd W1 X1 D1 => by
    split at hd
    · cases D1
      exact ⟨_, rfl, sOk_len hd.1, js_le (S.ex X1) W1 hd.1 hd.2 fun y F2 H2 hy hΦ W2 X2 => k y F2 H2 hy hΦ W2 (X1.trans X2)⟩
    · exact hd.elim⟩
theorem md_joined {v1 v2 : Expr} {rest : List Expr} {ws : List WE} (h : MJ X K T (v1 :: v2 :: rest) ws) : PE X (.JoinedStr (v1 :: v2 :: rest) pos) (tD K T (wJs ws Str.empty)) :=
  pe_imp (pe_joined h.pj) fun σ H Q ⟨H0, ε, F, Φ, S, W, hw, k⟩ => js_le S W (by decide +kernel) hw fun y F' H' hy hΦ W' X' => k _ _ F' H' hΦ W' X' (.str hy)
theorem md_joined1 (he : PE X e (tD K T w)) : PE X (.JoinedStr [e] pos) (tD K T w) := pe_joined1 he
theorem pad18 : PadOkS ("<18" : PySem.Str) 18 := ⟨by decide +kernel, by decide +kernel, by decide +kernel, by kernel_rfl, by decide +kernel, by decide +kernel⟩
theorem pad7 : PadOkS ("<7" : PySem.Str) 7 := ⟨by decide +kernel, by decide +kernel, by decide +kernel, by kernel_rfl, by decide +kernel, by decide +kernel⟩
theorem pad5 : PadOkS ("<5" : PySem.Str) 5 := ⟨by decide +kernel, by decide +kernel, by decide +kernel, by kernel_rfl, by decide +kernel, by decide +kernel⟩
end
end MG

set_option Elab.async false
set_option linter.all false
set_option maxRecDepth 100000
set_option maxHeartbeats 4000000
/-! MgSide: what zip and enumerate draw from: a list, a tuple, a text. -/
namespace MG
open PySem PySem.Spec PyProof.Rows L2
inductive Sd where
  | sq (k : Bool) (a : Addr)
  | tx (z : Str)
def Sd.v : Sd → V
  | .sq _ a => .ref a
  | .tx z => .str z
def txV (z : Str) : List V := z.cps.toList.map fun c => V.str ⟨#[c]⟩
def SdAt (K : PySem.W.Frag) (H : Hp) : Sd → List V → Prop
  | .sq k a, xs => SqG k K H a xs
  | .tx z, xs => xs = txV z
def ItD (h : Heap) (c : Addr) (i : Nat) : Sd → Prop
  | .sq k a => ItH k h c a i
  | .tx z => ∃ t, h.IsStrIter c (strIterType z) z t i
/-- the side's own object, if it is one, is not at b -/
def Sd.off : Sd → Addr → Prop
  | .sq _ a, b => a ≠ b
  | .tx _, _ => True
theorem txV_len (z : Str) : (txV z).length = z.cps.size := by unfold txV; rw [List.length_map, Array.length_toList]
theorem ItD.on {h h' : Heap} {c : Addr} {i : Nat} : ∀ {d : Sd}, ItD h c i d → (∀ o, h.get? c = some o → h'.get? c = some o) → ItD h' c i d
  | .sq _ _, x, f => ItH.on x f
  | .tx _, ⟨t, o, h1, h2, h3⟩, f => ⟨t, o, f o h1, h2, h3⟩
theorem ItD.ob {h : Heap} {c : Addr} {i : Nat} : ∀ {d : Sd}, ItD h c i d → ∃ o, h.get? c = some o ∧ ∀ v, o.data ≠ .cell v
  | .sq _ _, ⟨o, g, _, d⟩ => ⟨o, g, fun v q => by rw [q] at d; cases d⟩
  | .tx _, ⟨t, o, g, _, d⟩ => ⟨o, g, fun v q => by rw [q] at d; cases d⟩
theorem vals_getR : ∀ {xs : List V} {us : List Value} {j : Nat} {u : Value}, Vals xs us → us[j]? = some u → ∃ x, xs[j]? = some x ∧ RelV x u
  | _, _, _, _, .nil, e => by simp at e
  | _, _, 0, _, .cons r _, e => by simp at e; subst e; exact ⟨_, rfl, r⟩
  | _, _, j + 1, u, .cons _ t, e => by
    obtain ⟨x, h1, h2⟩ := vals_getR (j := j) (u := u) t (by simpa using e)
    exact ⟨x, by simpa using h1, h2⟩
section
variable {X : Cx} {pins : List (Addr × Obj)} {σ : L2.St} {H : Hp} {s : Shared} {d : Sd} {xs ys : List V}
theorem SdAt.inj (I : Inv X pins σ H s) : ∀ {d : Sd}, SdAt X.K H d xs → SdAt X.K H d ys → xs = ys
  | .sq _ _, q, q' => SqG.inj I q q'
  | .tx _, q, q' => (show xs = _ from q).trans (show ys = _ from q').symm
/-- what the iterator draws now -/
theorem SdAt.draws (I : Inv X pins σ H s) (hh : X.A.in1.handled = none) {it : Addr} {i : Nat} : ∀ {d : Sd}, SdAt X.K H d xs → ItD s.heap it i d → d.off it → ∃ fp P St, Draws X.prog X.w X.A.in1 it fp xs.length P St ∧ St i s.heap ∧
    (∀ j u, P j u → ∃ x, xs[j]? = some x ∧ RelV x u) ∧ (∀ j h, St j h → ItD h it j d) ∧ it ∈ fp ∧ ∀ b ∈ fp, b = it ∨ ¬ d.off b
  | .sq false a, q, st, o => by
    obtain ⟨vs, rv, p, la⟩ := SqG.vals (k := false) (a := a) I (show SqG false X.K H a xs from q)
    have hl : vs.toArray.size = xs.length := by rw [rv.length]; simp
    refine ⟨[it, a], _, _, hl ▸ Draws.list hh it a o vs.toArray, ⟨show ItH _ _ _ _ _ from st, p⟩, fun j u e => ?_, fun j h g => g.1, by simp, fun b hb => ?_⟩
    · have e : vs[j]? = some u := by simpa using e
      exact vals_getR rv e
    · have hb' : b = it ∨ b = a := by simpa using hb
      rcases hb' with rfl | rfl
      · exact .inl rfl
      · exact .inr fun z => z rfl
  | .sq true a, q, st, o => by
    obtain ⟨vs, rv, p, la⟩ := SqG.vals (k := true) (a := a) I (show SqG true X.K H a xs from q)
    have hl : vs.toArray.size = xs.length := by rw [rv.length]; simp
    refine ⟨[it, a], _, _, hl ▸ Draws.tuple hh it a o vs.toArray, ⟨show ItH _ _ _ _ _ from st, p⟩, fun j u e => ?_, fun j h g => g.1, by simp, fun b hb => ?_⟩
    · have e : vs[j]? = some u := by simpa using e
      exact vals_getR rv e
    · have hb' : b = it ∨ b = a := by simpa using hb
      rcases hb' with rfl | rfl
      · exact .inl rfl
      · exact .inr fun z => z rfl
  | .tx z, q, ⟨t, st⟩, o => by
    cases (show xs = txV z from q)
    refine ⟨[it], _, _, txV_len z ▸ Draws.text hh it z t, st, fun j u e => ?_, fun j h g => ⟨t, g⟩, by simp, fun b hb => .inl (by simpa using hb)⟩
    obtain ⟨c, w, hc, rfl⟩ := e
    refine ⟨.str ⟨#[c]⟩, ?_, ⟨w, rfl⟩⟩
    unfold txV
    rw [List.getElem?_map, Array.getElem?_toList, hc]; rfl
/-- the side as a value: what its iterator is -/
theorem SdAt.begins (I : Inv X pins σ H s) : ∀ {d : Sd} {u : Value}, SdAt X.K H d xs → RelV d.v u → ∃ o C, Begins u o C ∧ C s.heap ∧ (∀ h b, h.get? b = some o → ItD h b 0 d) ∧ ∀ b, s.heap.objs.size ≤ b → d.off b
  | .sq false a, u, q, r => by
    cases r
    obtain ⟨vs, rv, p, la⟩ := SqG.vals (k := false) (a := a) I (show SqG false X.K H a xs from q)
    exact ⟨_, _, begins_list a vs.toArray, p, fun h b e => ⟨_, e, rfl, rfl⟩, fun b hb z => Nat.lt_irrefl _ (Nat.lt_of_lt_of_le la (by rw [z]; exact hb))⟩
  | .sq true a, u, q, r => by
    cases r
    obtain ⟨vs, rv, p, la⟩ := SqG.vals (k := true) (a := a) I (show SqG true X.K H a xs from q)
    exact ⟨_, _, begins_tuple a vs.toArray, p, fun h b e => ⟨_, e, rfl, rfl⟩, fun b hb z => Nat.lt_irrefl _ (Nat.lt_of_lt_of_le la (by rw [z]; exact hb))⟩
  | .tx z, u, q, r => by
    obtain ⟨t, rfl⟩ := r
    exact ⟨_, _, begins_text z t, trivial, fun h b e => ⟨t, _, e, rfl, rfl⟩, fun _ _ => trivial⟩
end
/-! ### a side over plain data -/
section
variable {K : PySem.W.Frag} {T : Option Addr} {F : Hp} {a b : Addr} {xs ys : List V} {ds es : List PyData}
def SdOk [Tbl] (K : PySem.W.Frag) (T : Option Addr) (F : Hp) (d : Sd) (xs : List V) : Prop := xs.length ≤ sizeLine ∧ ∀ F2 H2, Same F F2 → Wd T F2 H2 → SdAt K H2 d xs
theorem tx_rp [Tbl] {z : Str} (g : sOk z = true) : RpAll K F (txV z) (signs z) := by
  have key : ∀ l : List Nat, (∀ c ∈ l, sOk ⟨#[c]⟩ = true) → RpAll K F (l.map fun c => V.str ⟨#[c]⟩) (l.map fun c => PyData.str ⟨#[c]⟩) := fun l h => by
    induction l with
    | nil => exact .nil
    | cons c l ih => exact .cons (.str (h c (by simp))) (ih fun x hx => h x (by simp [hx]))
  refine key _ fun c hc => ?_
  obtain ⟨i, hi⟩ := List.mem_iff_getElem?.mp hc
  exact strOk_sign (i := i) g (by rw [← Array.getElem?_toList]; exact hi)
variable [Tbl]
theorem side_any {v : V} {d : PyData} {ds : List PyData} (D : Rp K F v d) (hi : itemsOf d = some ds) : ∃ e xs, v = Sd.v e ∧ SdOk K T F e xs ∧ RpAll K F xs ds := by
  cases D with
  | non => cases hi
  | bl => cases hi
  | int => cases hi
  | @str z g =>
    cases hi
    exact ⟨.tx z, txV z, rfl, ⟨by rw [txV_len]; exact sOk_len g, fun _ _ _ _ => rfl⟩, tx_rp g⟩
  | @lst p xs ds' e1 z r =>
    cases hi
    exact ⟨.sq false p, xs, rfl, ⟨z, fun F2 H2 f W => SqL.of (W.fz _ _ (f _ _ e1))⟩, r⟩
  | @tup p xs ds' e1 z r =>
    cases hi
    exact ⟨.sq true p, xs, rfl, ⟨z, fun F2 H2 f W => same_sqT W.fz (same_sqT f e1)⟩, r⟩
theorem SdOk.now {e : Sd} {H : Hp} (s : SdOk K T F e xs) (W : Wd T F H) : SdAt K H e xs := s.2 _ _ (fun _ _ e => e) W
end
end MG

set_option Elab.async false
set_option linter.all false
set_option maxRecDepth 100000
set_option maxHeartbeats 4000000
/-! MgZipT: zip of two sources of any kind (list, tuple, text), walked, over plain data. -/
namespace MG
open PySem PySem.Spec PyProof.Rows L2
/-- the two sides as they stand at each turn, in new pairs -/
def ItZ (K : PySem.W.Frag) (a b : Sd) : It where
  go i H := ∃ xs ys x y, SdAt K H a xs ∧ SdAt K H b ys ∧ xs[i]? = some x ∧ ys[i]? = some y
  yld i H v H' := ∃ T x y, v = .ref T ∧ H T = none ∧ H' = upd H T (.tup [x, y]) ∧ (∀ xs, SdAt K H a xs → xs[i]? = some x) ∧ ∀ ys, SdAt K H b ys → ys[i]? = some y
  stop i H := ∃ xs ys, SdAt K H a xs ∧ SdAt K H b ys ∧ i ≤ xs.length ∧ i ≤ ys.length ∧ (i = xs.length ∨ i = ys.length)
def StZ (a b : Sd) (N : Nat) (i : Nat) (h : Heap) : Prop := IsZip h (N + 4) (N + 2) (N + 3) .none ∧ IsTupOf2 h (N + 2) (.ref N) (.ref (N + 1)) ∧ (∃ x y, IsTupOf2 h (N + 3) x y) ∧ ItD h N i a ∧ ItD h (N + 1) i b
abbrev five (N : Nat) : List Addr := [N + 4, N + 2, N + 3, N, N + 1]
theorem five_ge {N : Nat} {c : Addr} (m : c ∈ five N) : N ≤ c := by
  simp only [List.mem_cons, List.not_mem_nil, or_false] at m
  rcases m with rfl | rfl | rfl | rfl | rfl <;> first | exact Nat.le_refl _ | exact Nat.le_add_right _ _
theorem sep5 {a b : Sd} {N : Nat} {fp1 fp2 : List Addr} (oa : ∀ c, N ≤ c → a.off c) (ob : ∀ c, N ≤ c → b.off c) (m1 : N ∈ fp1) (m2 : N + 1 ∈ fp2) (f1 : ∀ c ∈ fp1, c = N ∨ ¬ a.off c) (f2 : ∀ c ∈ fp2, c = N + 1 ∨ ¬ b.off c) : ZipSep2 (N + 4) (N + 2) (N + 3) N (N + 1) fp1 fp2 := by
  have q1 : ∀ k : Nat, k ≠ 0 → N + k ∉ fp1 := fun k hk m => (f1 _ m).elim (fun e => hk (by have e : N + k = N := e; omega)) fun n => n (oa _ (Nat.le_add_right N k))
  have q2 : ∀ k : Nat, k ≠ 1 → N + k ∉ fp2 := fun k hk m => (f2 _ m).elim (fun e => hk (by have e : N + k = N + 1 := e; omega)) fun n => n (ob _ (Nat.le_add_right N k))
  have ne : ∀ j k : Nat, j ≠ k → N + j ≠ N + k := fun j k h e => h (by omega)
  exact ⟨ne 2 4 (by decide), ne 3 4 (by decide), ne 2 3 (by decide), ne 2 0 (by decide), m1, q1 4 (by decide), q1 3 (by decide), ne 2 1 (by decide), m2, q2 4 (by decide), q2 3 (by decide), q2 0 (by decide), q1 1 (by decide)⟩
theorem turnZ {P : Program} {w : World} {K : PySem.W.Frag} {elts : List Expr} {kk : Nat} {tp : Pos} {a b : Sd} {N : Nat} (oa : ∀ c, N ≤ c → a.off c) (ob : ∀ c, N ≤ c → b.off c) : Turn P w K (.Tuple elts kk tp) (ItZ K a b) (five N) (N + 4) (StZ a b N) where
  mem := by simp
  self := fun A i s Q E st n => wpAny_pyIter_zip st.1 n
  keep := fun i h h' st f => by
    obtain ⟨g1, g2, ⟨x, y, g3⟩, g4, g5⟩ := st
    exact ⟨f (N + 4) (by simp) _ g1, f (N + 2) (by simp) _ g2, ⟨x, y, f (N + 3) (by simp) _ g3⟩, g4.on (f N (by simp)), g5.on (f (N + 1) (by simp))⟩
  obj := fun i h st c hc => by
    obtain ⟨g1, g2, ⟨x, y, g3⟩, g4, g5⟩ := st
    simp only [List.mem_cons, List.not_mem_nil, or_false] at hc
    rcases hc with rfl | rfl | rfl | rfl | rfl
    · exact ⟨_, g1, fun v q => by cases q⟩
    · exact ⟨_, g2, fun v q => by cases q⟩
    · exact ⟨_, g3, fun v q => by cases q⟩
    · exact g4.ob
    · exact g5.ob
  item := by
    rintro X rfl rfl rfl hc i pins s σ H E I hf ⟨g1, g2, ⟨x0, y0, g3⟩, g4, g5⟩ ⟨xs, ys, x, y, qx, qy, hx, hy⟩
    have hh : X.A.in1.handled = none := I.ok.hd hc
    obtain ⟨fp1, P1, St1, D1, s1, p1, b1, m1, f1⟩ := SdAt.draws I hh qx g4 (oa _ (Nat.le_refl _))
    obtain ⟨fp2, P2, St2, D2, s2, p2, b2, m2, f2⟩ := SdAt.draws I hh qy g5 (ob _ (Nat.le_add_right _ _))
    have S := sep5 oa ob m1 m2 f1 f2
    have zl : N + 4 < s.heap.objs.size := Heap.lt_size g1
    have l1 := (List.getElem?_eq_some_iff.mp hx).1
    have l2 := (List.getElem?_eq_some_iff.mp hy).1
    refine wpAny_pyNext_zipD2_item S D1 D2 g1 g2 g3 s1 s2 l1 l2 fun u v h' tk e1 e2 a1 a2 a3 a4 a5 a6 a7 => ?_
    obtain ⟨x', hx', ru⟩ := p1 _ _ e1
    obtain ⟨y', hy', rv⟩ := p2 _ _ e2
    cases hx.symm.trans hx'
    cases hy.symm.trans hy'
    refine ⟨_, rfl, wpAny_letOwnedTupleGo_zip (s := { s with heap := h', toks := tk }) a1 fun h'' z1 sb => ?_⟩
    have g6 : h''.get? s.heap.objs.size = some { cls := .type "tuple", data := .seq #[u, v] } := (sb.2 _ (Nat.ne_of_gt zl)).trans a5
    have obj : ObjOk X.prog X.w (upd H s.heap.objs.size (.tup [x, y])) h'' s.heap.objs.size (.tup [x, y]) :=
      ⟨by show 2 ≤ sizeLine; rw [sizeLine_eq]; decide, [u, v], .cons ru (.cons rv .nil), ⟨_, g6, rfl, _, rfl⟩⟩
    have J : Inv X pins σ (upd H s.heap.objs.size (.tup [x, y])) { s with heap := h'', toks := tk } :=
      I.turnedNew (t' := tk) (ch := five N) (fun c o nc q => (sb.2 c fun e => nc (by simp [e])).trans (a7 c o (fun e => nc (by simp [e])) (fun e => nc (by simp [e])) (fun e => nc (by simp [e])) (fun e => nc (by simp [e])) q)) hf (Nat.le_refl _) obj
    refine ⟨.ref s.heap.objs.size, _, J, rfl, ⟨_, x, y, rfl, I.hok.fresh (Nat.le_refl _), rfl, fun l q => SdAt.inj I qx q ▸ hx, fun l q => SdAt.inj I qy q ▸ hy⟩, ⟨z1, ?_, ⟨u, v, ?_⟩, ?_, ?_⟩, fun c hm => ?_⟩
    · exact (sb.2 _ S.TIz).trans (a7 _ _ S.TIz S.TITO S.TIi1 S.TIi2 g2)
    · exact (sb.2 _ S.TOz).trans a2
    · exact (b1 _ _ a3).on fun o q => (sb.2 _ (Ne.symm S.zi1)).trans q
    · exact (b2 _ _ a4).on fun o q => (sb.2 _ (Ne.symm S.zi2)).trans q
    · have lt : c < s.heap.objs.size := by
        simp only [List.mem_cons, List.not_mem_nil, or_false] at hm
        rcases hm with rfl | rfl | rfl | rfl | rfl
        · exact zl
        · exact Heap.lt_size g2
        · exact Heap.lt_size g3
        · exact g4.ob.elim fun _ q => Heap.lt_size q.1
        · exact g5.ob.elim fun _ q => Heap.lt_size q.1
      rw [upd_ne (Nat.ne_of_lt lt)]
      exact (hf c hm).1
  done := by
    rintro X rfl rfl rfl hc i pins s σ H E I hf ⟨g1, g2, ⟨x0, y0, g3⟩, g4, g5⟩ ⟨xs, ys, qx, qy, l1, l2, en⟩
    have hh : X.A.in1.handled = none := I.ok.hd hc
    obtain ⟨fp1, P1, St1, D1, s1, p1, b1, m1, f1⟩ := SdAt.draws I hh qx g4 (oa _ (Nat.le_refl _))
    obtain ⟨fp2, P2, St2, D2, s2, p2, b2, m2, f2⟩ := SdAt.draws I hh qy g5 (ob _ (Nat.le_add_right _ _))
    have S := sep5 oa ob m1 m2 f1 f2
    exact wpAny_pyNext_zipD2_end S D1 D2 g1 g2 g3 s1 s2 l1 l2 en fun h' tk a7 =>
      ⟨rfl, I.turnedL (t' := tk) (ch := five N) (fun c o nc q => a7 c o (fun e => nc (by simp [e])) (fun e => nc (by simp [e])) (fun e => nc (by simp [e])) (fun e => nc (by simp [e])) q) hf⟩
/-- the walk of zip(a, b), of whichever kinds -/
def iZipZ (K : PySem.W.Frag) (ta : TA) : TI := fun σ H R => ta σ H fun vs H1 => ∃ a b xs ys, vs = [Sd.v a, Sd.v b] ∧ SdAt K H1 a xs ∧ SdAt K H1 b ys ∧ R (ItZ K a b) H1
theorem pi_zipZ {X : Cx} {e e2 : Expr} {ta : TA} {p pos tp : Pos} {elts : List Expr} {kk : Nat} (hg : Gl X "zip") (hm : X.mg "zip" = none) (ha : PA X [e, e2] ta)
    (hs : starEach [e, e2] X.env = (false, eval e X.env) :: starEach [e2] X.env := by rfl) (hpl : (backTo pos (starEach [e2] X.env)).any (·.1) = false := by rfl) : PI X (.Tuple elts kk tp) (.Call (.Name "zip" p) [e, e2] [] pos) (iZipZ X.K ta) := by
  refine ⟨fun pins s σ H R I h => Call_ (ld_blt I hg hm PyProof.Rows.boot_zip (PyProof.Rows.callWith_type1 (thn (ha.run pos pins s σ H _ I h) ?_) hs hpl))⟩
  rintro us s1 ⟨vs, H1, I1, r1, a, b, xs, ys, rfl, qx, qy, q⟩
  obtain ⟨u, us', rfl, ra, rr⟩ : ∃ u us', us = u :: us' ∧ RelV a.v u ∧ Vals [b.v] us' := by
    cases r1 with
    | cons r rr => exact ⟨_, _, rfl, r, rr⟩
  obtain ⟨v, rfl, rb⟩ := vals1 rr
  obtain ⟨o1, C1, B1, c1, i1, f1⟩ := SdAt.begins I1 qx ra
  obtain ⟨o2, C2, B2, c2, i2, f2⟩ := SdAt.begins I1 qy rb
  refine zip_begins2 B1 B2 c1 c2 fun h' a1 a2 a3 a4 a5 a6 up => wpAny_pyIter_zip a1 ?_
  exact ⟨s1.heap.objs.size + 4, five s1.heap.objs.size, _, _, H1, rfl, I1.kept (t' := s1.toks) up, turnZ f1 f2, ⟨a1, a2, ⟨_, _, a3⟩, i1 _ _ a4, i2 _ _ a5⟩, fun c hcm => by
    have hle : s1.heap.objs.size ≤ c := five_ge hcm
    exact I1.fpOk hle (I1.hok.fresh hle), q⟩
theorem walk_zipZ {K : PySem.W.Frag} {a b : Sd} {xs ys : List V} : Walk (ItZ K a b) (min xs.length ys.length) (fun H => SdAt K H a xs ∧ SdAt K H b ys) (YPair (fun i => xs[i]?) (fun i => ys[i]?)) where
  goes i H hi q := ⟨xs, ys, _, _, q.1, q.2, List.getElem?_eq_getElem (by omega), List.getElem?_eq_getElem (by omega)⟩
  stops H q := ⟨xs, ys, q.1, q.2, by omega, by omega, by omega⟩
  yields i H v H' _ q y := by
    obtain ⟨t, x, z, h1, h2, h3, h4, h5⟩ := y
    exact ⟨t, x, z, h1, h2, h3, h4 xs q.1, h5 ys q.2⟩
def zipAny (d e : PyData) (Φ : List PyData → Prop) : Prop := match itemsOf d, itemsOf e with
  | some xs, some ys => Φ (zipD xs ys)
  | _, _ => False
def wiZipT (wa wb : WE) : WI := fun ε Φ => wa ε fun d => wb ε fun e => zipAny d e Φ
variable [Tbl]
theorem it_zipZ {K : PySem.W.Frag} {T : Option Addr} {F : Hp} {a b : Sd} {xs ys : List V} {ds es : List PyData} (s1 : SdOk K T F a xs) (r1 : RpAll K F xs ds) (s2 : SdOk K T F b ys) (r2 : RpAll K F ys es) : ItOk K T (ItZ K a b) (zipD ds es) F := by
  have hl : (zipD ds es).length = min xs.length ys.length := by rw [zipD_len, r1.length, r2.length]
  refine ⟨by rw [hl]; have := s1.1; omega, _, _, hl ▸ walk_zipZ (K := K) (a := a) (b := b) (xs := xs) (ys := ys), fun F2 H2 f W => ⟨s1.2 F2 H2 f W, s2.2 F2 H2 f W⟩, fun i H2 x H3 F2 hi f W y => ?_⟩
  exact zip_step hi (RpAll.up f _ _ r1) (RpAll.up f _ _ r2) W y
section
variable {X : Cx} {K : PySem.W.Frag} {T : Option Addr} {a b : Expr} {wa wb : WE} {p pos tpos : Pos} {elts : List Expr} {kk : Nat}
theorem mi_zipT (hk : X.K = K) (hm : X.mg "zip" = none) (ha : PE X a (tD K T wa)) (hb : PE X b (tD K T wb)) (hg : Gl X "zip" := by rfl) (hs : starEach [a, b] X.env = (false, eval a X.env) :: starEach [b] X.env := by rfl) (hs2 : starEach [b] X.env = (false, eval b X.env) :: starEach [] X.env := by rfl)
    (hpl : (backTo pos (starEach [b] X.env)).any (·.1) = false := by rfl) : PI X (.Tuple elts kk tpos) (.Call (.Name "zip" p) [a, b] [] pos) (tDI K T (wiZipT wa wb)) := by
  subst hk
  refine pi_imp (pi_zipZ hg hm (pa_cons ha (pa_cons hb pa_nil hs2) hs) hs hpl) fun σ H R ⟨H0, ε, F, Φ, S, W, hw, k⟩ => ⟨H0, ε, F, _, S, W, hw, fun d v F1 H1 hd W1 X1 D1 => ⟨H0, ε, F1, _, S.ex X1, W1, hd, fun e u F2 H2 he W2 X2 D2 => ?_⟩⟩
  have D1' := Rp.up X2.ff _ _ D1
  unfold zipAny at he
  split at he
  · rename_i xs ys e1 e2
    obtain ⟨a, vs, rfl, o1, r1⟩ := side_any (T := T) D1' e1
    obtain ⟨b, us, rfl, o2, r2⟩ := side_any (T := T) D2 e2
    exact ⟨a, b, vs, us, rfl, o1.now W2, o2.now W2, k _ _ F2 H2 he W2 (X1.trans X2) (it_zipZ o1 r1 o2 r2)⟩
  · exact he.elim
end
end MG

set_option Elab.async false
set_option linter.all false
set_option maxRecDepth 100000
set_option maxHeartbeats 4000000
/-! MgEnumZ: enumerate of a list, a tuple, a text, walked, over plain data. -/
namespace MG
open PySem PySem.Spec PyProof.Rows L2
theorem meets_enum1 {v : Value} {o : Obj} {C : Heap → Prop} (B : Begins v o C) :
    Meets (Builtin.«enumerate.__new__» ⟨[.type "enumerate", v], []⟩) (fun _ R s => C s.heap ∧
      R (.ok (.ret (.ref (s.heap.push o).objs.size))) { s with heap := (s.heap.push o).push { cls := .type "enumerate", data := .fields #[.none, .bool false, .ref s.heap.objs.size, rawInt 0, .none, .none] } }) :=
  .of_wp fun prog w A R s h => by
    obtain ⟨hp, g, d, tk, os⟩ := s; obtain ⟨h1, h⟩ := h
    have hsub := sub_enumerate
    have q1 : ∀ {A' : Around} {E : Value → Shared → Prop} {Q : Value → Shared → Prop}, Q (.ref hp.objs.size) ⟨hp.push o, g, d, tk, os⟩ → wpAny (model prog w) A' (pyIter v) Q E ⟨hp, g, d, tk, os⟩ :=
      fun q => B.iter prog w _ _ ⟨hp, g, d, tk, os⟩ _ h1 q
    wp_walk using q1
    refine wpAny_stack_any fun st => wpAny_pure ?_
    split
    · rename_i c _ _ _ _ _
      cases (c == Value.type "enumerate")
      · wp_walk using q1
        exact ⟨_, rfl, h⟩
      · wp_walk using q1
        exact ⟨_, rfl, h⟩
    · wp_walk using q1
      exact ⟨_, rfl, h⟩
section
variable {prog : Program} {w : World} {A : Around} {E : Value → Shared → Prop} {s : Shared}
theorem call_enum1 {v : Value} {o : Obj} {C : Heap → Prop} {Q : Value → Shared → Prop} (B : Begins v o C) (h1 : C s.heap)
    (h : ∀ h', IsEnum h' (s.heap.objs.size + 1) s.heap.objs.size 0 .none → h'.get? s.heap.objs.size = some o → (∀ b o, s.heap.get? b = some o → h'.get? b = some o) → Q (.ref (s.heap.objs.size + 1)) { s with heap := h' }) :
    wpAny (model prog w) A (call (.type "enumerate") [v]) Q E s := by
  refine callType_new F.called_enumerate (by decide) (F.typeCall_enumerate_1 _) (F.newCall_enumerate_1 _) (fun obj => F.args_object_init_2 obj _) F.entry_enumerate_new (meets_enum1 B) ⟨h1, ?_⟩
  have hz : (s.heap.push o).objs.size = s.heap.objs.size + 1 := Heap.size_push ..
  show _ ∧ _
  rw [hz]
  have he : IsEnum ((s.heap.push o).push { cls := .type "enumerate", data := .fields #[.none, .bool false, .ref s.heap.objs.size, rawInt 0, .none, .none] }) (s.heap.objs.size + 1) s.heap.objs.size 0 .none := by
    have := Heap.get?_push_size (s.heap.push o) (o := { cls := .type "enumerate", data := .fields #[.none, .bool false, .ref s.heap.objs.size, rawInt 0, .none, .none] }) rfl
    rw [hz] at this; exact this
  exact ⟨⟨_, he, rfl⟩, h _ he (Heap.get?_push_of_some _ (Heap.get?_push_size _ B.free)) fun b o x => Heap.get?_push_of_some _ (Heap.get?_push_of_some _ x)⟩
end
/-- the side as it stands at each turn, each item in a new pair -/
def ItE (K : PySem.W.Frag) (a : Sd) : It where
  go i H := ∃ xs x, SdAt K H a xs ∧ xs[i]? = some x
  yld i H v H' := ∃ T x, v = .ref T ∧ H T = none ∧ H' = upd H T (.tup [.int (i : Nat), x]) ∧ ∀ xs, SdAt K H a xs → xs[i]? = some x
  stop i H := ∃ xs, SdAt K H a xs ∧ i = xs.length
def StE (a : Sd) (N : Nat) (i : Nat) (h : Heap) : Prop := (∃ old, IsEnum h (N + 1) N ((i : Nat) : Int) old) ∧ ItD h N i a
abbrev both (N : Nat) : List Addr := [N + 1, N]
theorem turnE {P : Program} {w : World} {K : PySem.W.Frag} {elts : List Expr} {kk : Nat} {tp : Pos} {a : Sd} {N : Nat} (oa : ∀ c, N ≤ c → a.off c) : Turn P w K (.Tuple elts kk tp) (ItE K a) (both N) (N + 1) (StE a N) where
  mem := by simp
  self := fun A i s Q E ⟨⟨_, st⟩, _⟩ n => wpAny_pyIter_enum st n
  keep := fun i h h' ⟨⟨old, g1⟩, g2⟩ f => ⟨⟨old, f (N + 1) (by simp) _ g1⟩, g2.on (f N (by simp))⟩
  obj := fun i h ⟨⟨old, g1⟩, g2⟩ c hc => by
    simp only [List.mem_cons, List.not_mem_nil, or_false] at hc
    rcases hc with rfl | rfl
    · exact ⟨_, g1, fun v q => by cases q⟩
    · exact g2.ob
  item := by
    rintro X rfl rfl rfl hc i pins s σ H E I hf ⟨⟨old, g1⟩, g2⟩ ⟨xs, x, qx, hx⟩
    have hh : X.A.in1.handled = none := I.ok.hd hc
    obtain ⟨fp1, P1, St1, D1, s1, p1, b1, m1, f1⟩ := SdAt.draws I hh qx g2 (oa _ (Nat.le_refl _))
    have l1 := (List.getElem?_eq_some_iff.mp hx).1
    have zl : N + 1 < s.heap.objs.size := Heap.lt_size g1
    have ni : N + 1 ∉ fp1 := fun m => (f1 _ m).elim (fun e => Nat.succ_ne_self N e) fun n => n (oa _ (Nat.le_succ N))
    refine wpAny_pyNext_enum_itemC D1 g1 s1 l1 (Nat.succ_ne_self N) ni fun u h' tk e1 a1 a3 a5 a6 a7 => ?_
    obtain ⟨x', hx', ru⟩ := p1 _ _ e1
    cases hx.symm.trans hx'
    refine ⟨_, rfl, wpAny_letOwnedTupleGo_enum (s := { s with heap := h', toks := tk + 1 }) a1 fun h'' z1 sb => ?_⟩
    have g6 : h''.get? s.heap.objs.size = some { cls := .type "tuple", data := .seq #[.int i tk, u] } := (sb.2 _ (Nat.ne_of_gt zl)).trans a5
    have obj : ObjOk X.prog X.w (upd H s.heap.objs.size (.tup [.int (i : Nat), x])) h'' s.heap.objs.size (.tup [.int (i : Nat), x]) :=
      ⟨by show 2 ≤ sizeLine; rw [sizeLine_eq]; decide, [.int i tk, u], .cons ⟨_, rfl⟩ (.cons ru .nil), ⟨_, g6, rfl, _, rfl⟩⟩
    have J : Inv X pins σ (upd H s.heap.objs.size (.tup [.int (i : Nat), x])) { s with heap := h'', toks := tk + 1 } :=
      I.turnedNew (t' := tk + 1) (ch := both N) (fun c o nc q => (sb.2 c fun e => nc (by simp [e])).trans (a7 c o (fun e => nc (by simp [e])) (fun e => nc (by simp [e])) q)) hf (Nat.le_refl _) obj
    refine ⟨.ref s.heap.objs.size, _, J, rfl, ⟨_, x, rfl, I.hok.fresh (Nat.le_refl _), rfl, fun l q => SdAt.inj I qx q ▸ hx⟩, ⟨⟨u, ?_⟩, ?_⟩, fun c hm => ?_⟩
    · have e1 : ((i + 1 : Nat) : Int) = (i : Int) + 1 := by omega
      rw [e1]; exact z1
    · exact (b1 _ _ a3).on fun o q => (sb.2 _ (Nat.ne_of_lt (Nat.lt_succ_self N))).trans q
    · have lt : c < s.heap.objs.size := by
        simp only [List.mem_cons, List.not_mem_nil, or_false] at hm
        rcases hm with rfl | rfl
        · exact zl
        · exact g2.ob.elim fun _ q => Heap.lt_size q.1
      rw [upd_ne (Nat.ne_of_lt lt)]
      exact (hf c hm).1
  done := by
    rintro X rfl rfl rfl hc i pins s σ H E I hf ⟨⟨old, g1⟩, g2⟩ ⟨xs, qx, l1⟩
    have hh : X.A.in1.handled = none := I.ok.hd hc
    obtain ⟨fp1, P1, St1, D1, s1, p1, b1, m1, f1⟩ := SdAt.draws I hh qx g2 (oa _ (Nat.le_refl _))
    subst l1
    exact wpAny_pyNext_enum_endD D1 g1 s1 fun h' a7 =>
      ⟨rfl, I.turnedL (t' := s.toks) (ch := both N) (fun c o nc q => a7 c o (fun e => nc (by simp [e])) q) hf⟩
def iEnumZ (K : PySem.W.Frag) (ta : TA) : TI := fun σ H R => ta σ H fun vs H1 => ∃ a xs, vs = [Sd.v a] ∧ SdAt K H1 a xs ∧ R (ItE K a) H1
theorem pi_enumZ {X : Cx} {e : Expr} {ta : TA} {p pos tpos : Pos} {elts : List Expr} {kk : Nat} (hg : Gl X "enumerate") (hm : X.mg "enumerate" = none) (ha : PA X [e] ta) (hs : starEach [e] X.env = [(false, eval e X.env)] := by rfl) :
    PI X (.Tuple elts kk tpos) (.Call (.Name "enumerate" p) [e] [] pos) (iEnumZ X.K ta) := by
  refine ⟨fun pins s σ H R I h => Call_ (ld_blt I hg hm boot_enumerate (PyProof.Rows.callWith_type1 (thn (ha.run pos pins s σ H _ I h) ?_) hs rfl))⟩
  rintro us s1 ⟨vs, H1, I1, r1, a, xs, rfl, qx, q⟩
  obtain ⟨u, rfl, ra⟩ := vals1 r1
  obtain ⟨o1, C1, B1, c1, i1, f1⟩ := SdAt.begins I1 qx ra
  refine call_enum1 B1 c1 fun h' a1 a4 up => wpAny_pyIter_enum a1 ?_
  exact ⟨s1.heap.objs.size + 1, both s1.heap.objs.size, _, _, H1, rfl, I1.kept (t' := s1.toks) up, turnE f1, ⟨⟨_, a1⟩, i1 _ _ a4⟩, fun c hcm => by
    have hle : s1.heap.objs.size ≤ c := by
      simp only [List.mem_cons, List.not_mem_nil, or_false] at hcm
      rcases hcm with rfl | rfl
      · exact Nat.le_succ _
      · exact Nat.le_refl _
    exact I1.fpOk hle (I1.hok.fresh hle), q⟩
theorem walk_enumZ {K : PySem.W.Frag} {a : Sd} {xs : List V} : Walk (ItE K a) xs.length (fun H => SdAt K H a xs) (YPair (fun i => some (.int (i : Nat))) (fun i => xs[i]?)) where
  goes i H hi q := ⟨xs, _, q, List.getElem?_eq_getElem hi⟩
  stops H q := ⟨xs, q, rfl⟩
  yields i H v H' _ q y := by
    obtain ⟨t, x, h1, h2, h3, h4⟩ := y
    exact ⟨t, _, x, h1, h2, h3, rfl, h4 xs q⟩
def enumD (xs : List PyData) : List PyData := xs.mapIdx fun i d => .tuple [.int (i : Nat), d]
def enumAny (d : PyData) (Φ : List PyData → Prop) : Prop := match itemsOf d with
  | some xs => Φ (enumD xs)
  | none => False
def wiEnum (wa : WE) : WI := fun ε Φ => wa ε fun d => enumAny d Φ
theorem enumD_len {ds : List PyData} : (enumD ds).length = ds.length := by unfold enumD; rw [List.length_mapIdx]
variable [Tbl]
section
variable {K : PySem.W.Frag} {T : Option Addr} {F : Hp} {a : Sd} {xs : List V} {ds : List PyData}
theorem enum_step {F2 H2 : Hp} {x : V} {H3 : Hp} {i : Nat} (r1 : RpAll K F2 xs ds) (W : Wd T F2 H2) (y : YPair (fun i => some (.int (i : Nat))) (fun i => xs[i]?) i H2 x H3) : ∃ F3 d, (enumD ds)[i]? = some d ∧ Wd T F3 H3 ∧ Ex T F2 H2 F3 H3 ∧ Rp K F3 x d := by
  obtain ⟨t, u, v, rfl, ht, rfl, h1, h2⟩ := y
  cases h1
  obtain ⟨e, e1, e2⟩ := r1.get h2
  obtain ⟨W', X'⟩ := new_fz (o := .tup [.int (i : Nat), v]) W ht
  refine ⟨_, .tuple [.int (i : Nat), e], ?_, W', X', .tup (SqT.of upd_same) (by show 2 ≤ sizeLine; rw [sizeLine_eq]; decide) (.cons (.int _) (.cons (Rp.up X'.ff _ _ e2) .nil))⟩
  unfold enumD
  rw [List.getElem?_mapIdx, e1]
  rfl
theorem it_enumZ (s1 : SdOk K T F a xs) (r1 : RpAll K F xs ds) : ItOk K T (ItE K a) (enumD ds) F := by
  have hl : (enumD ds).length = xs.length := by rw [enumD_len, r1.length]
  refine ⟨by rw [hl]; exact s1.1, _, _, hl ▸ walk_enumZ (K := K) (a := a) (xs := xs), fun F2 H2 f W => s1.2 F2 H2 f W, fun i H2 x H3 F2 hi f W y => ?_⟩
  exact enum_step (RpAll.up f _ _ r1) W y
end
section
variable {X : Cx} {K : PySem.W.Frag} {T : Option Addr} {a : Expr} {wa : WE} {p pos tpos : Pos} {elts : List Expr} {kk : Nat}
theorem mi_enum (hk : X.K = K) (hm : X.mg "enumerate" = none) (ha : PE X a (tD K T wa)) (hg : Gl X "enumerate" := by rfl) (hs : starEach [a] X.env = (false, eval a X.env) :: starEach [] X.env := by rfl) (hs2 : starEach [a] X.env = [(false, eval a X.env)] := by rfl) :
    PI X (.Tuple elts kk tpos) (.Call (.Name "enumerate" p) [a] [] pos) (tDI K T (wiEnum wa)) := by
  subst hk
  refine pi_imp (pi_enumZ hg hm (pa_cons ha pa_nil hs) hs2) fun σ H R ⟨H0, ε, F, Φ, S, W, hw, k⟩ => ⟨H0, ε, F, _, S, W, hw, fun d v F1 H1 hd W1 X1 D1 => ?_⟩
  unfold enumAny at hd
  split at hd
  · rename_i xs e1
    obtain ⟨a, vs, rfl, o1, r1⟩ := side_any (T := T) D1 e1
    exact ⟨a, vs, rfl, o1.now W1, k _ _ F1 H1 hd W1 X1 (it_enumZ o1 r1)⟩
  · exact hd.elim
end
end MG

set_option Elab.async false
set_option linter.all false
set_option maxRecDepth 100000
set_option maxHeartbeats 4000000
/-! MgEvalT: evaluation, texts. -/
namespace MG
open PySem PySem.Spec PyProof.Rows L2
section
variable {ε : EV} {Φ : PyData → Prop}
/-- the datum as a text -/
def asS (d : PyData) (Ψ : PySem.Str → Prop) : Prop := match d with
  | .str a => Ψ a
  | _ => False
@[simp] theorem asS_s (x : PySem.Str) (Ψ : PySem.Str → Prop) : asS (.str x) Ψ = Ψ x := nr rfl
@[simp] theorem e_BM (op) (wo : WE) (wa : WA) : wBM op wo wa ε Φ = wo ε fun d => asS d fun a => wa ε fun ds => op a ds Φ := nr rfl
@[simp] theorem e_BMN (op) (wo : WE) (wa : WA) (Ψ : List PyData → Prop) : wBMN op wo wa ε Ψ = wo ε fun d => asS d fun a => wa ε fun ds => op a ds Ψ := nr rfl
@[simp] theorem e_Pad (n : Nat) (w : WE) : wPad n w ε Φ = w ε fun d => asS d fun x => sOk (Txt.ljust x n) = true ∧ Φ (.str (Txt.ljust x n)) := nr rfl
@[simp] theorem e_Fmt (w : WE) : wFmt w ε Φ = w ε fun d => asS d fun x => Φ (.str x) := nr rfl
@[simp] theorem e_JsN (acc : PySem.Str) : wJs [] acc ε Φ = Φ (.str acc) := nr rfl
@[simp] theorem e_JsC (w : WE) (ws : List WE) (acc : PySem.Str) : wJs (w :: ws) acc ε Φ = w ε fun d => asS d fun y => sOk (acc ++ y) = true ∧ wJs ws (acc ++ y) ε Φ := nr rfl
@[simp] theorem e_iEnum (a : WE) (Ψ : List PyData → Prop) : wiEnum a ε Ψ = a ε fun d => asI d fun ds => Ψ (enumD ds) := nr rfl
@[simp] theorem e_iZipT (a b : WE) (Ψ : List PyData → Prop) : wiZipT a b ε Ψ = a ε fun d => b ε fun e => asI d fun xs => asI e fun ys => Ψ (zipD xs ys) := by
  unfold wiZipT; congr 1; funext d; congr 1; funext e
  unfold zipAny asI
  cases itemsOf d <;> cases itemsOf e <;> rfl
@[simp] theorem opLjust_i (a : PySem.Str) (i : Int) : opLjust a [.int i] Φ = ((PadOk i = true ∧ sOk (Txt.ljust a i) = true) ∧ Φ (.str (Txt.ljust a i))) := nr rfl
@[simp] theorem opSplit_s (a b : PySem.Str) (Ψ : List PyData → Prop) : opSplit a [.str b] Ψ = (((b.length == 0) = false ∧ a.length + 2 ≤ 16777216 ∧ (Txt.split a b).length ≤ 16777216 ∧ ∀ y ∈ Txt.split a b, sOk y = true) ∧ Ψ ((Txt.split a b).map .str)) := nr rfl
@[simp] theorem opJoin_l (a : PySem.Str) (ys : List PySem.Str) : opJoin a [.list (ys.map .str)] Φ = (((ys.map (·.length)).sum + ys.length * a.length ≤ 16777216 ∧ sOk (Txt.join a ys) = true) ∧ Φ (.str (Txt.join a ys))) := by
  simp only [opJoin, strsOf_map]
@[simp] theorem opJoin_t (a : PySem.Str) (ys : List PySem.Str) : opJoin a [.tuple (ys.map .str)] Φ = (((ys.map (·.length)).sum + ys.length * a.length ≤ 16777216 ∧ sOk (Txt.join a ys) = true) ∧ Φ (.str (Txt.join a ys))) := by
  simp only [opJoin, strsOf_map]
end
end MG

set_option Elab.async false
set_option linter.all false
set_option maxRecDepth 100000
set_option maxHeartbeats 4000000
/-! MgSetL: len(set(e)), e a list of texts, over plain data. -/
namespace MG
open PySem PySem.Spec PyProof.Rows L2
open PySem.W (EachIs)
section
variable {P : Program} {w : World} {A : Around} {E : Value → Shared → Prop} {s : Shared}
theorem lenset_strs {l : Addr} {items : Array Value} {ks : List Str} {Q : Value → Shared → Prop} (hh : A.handled = none) (hu : A.units + 64 < cLine) (hl : IsSeq s.heap l items) (hi : EachIs StrV items.toList ks) (few : (sset ltS ks).length < 64)
    (fin : ∀ h' tk t, Kept s.heap h' → Q (.int (sset ltS ks).length t) { s with heap := h', toks := tk }) :
    wpAny (model P w) A (call (.type "set") [.ref l]) (fun v s1 => wpAny (model P w) A (call (.builtin "len") [v]) Q E s1) E s := by
  have at_ : ∀ (i : Nat) (v : Value), items[i]? = some v → ∃ k u, ks[i]? = some k ∧ v = Value.str k u := by
    have key : ∀ {us : List Value} {ks : List Str}, EachIs StrV us ks → ∀ (i : Nat) (v : Value), us[i]? = some v → ∃ k u, ks[i]? = some k ∧ v = Value.str k u := by
      intro us ks e
      induction e with
      | nil => intro i v q; simp at q
      | cons h1 _ ih =>
        intro i v q
        cases i with
        | zero => obtain ⟨u, e⟩ := h1; simp at q; exact ⟨_, u, rfl, by rw [← q, e]⟩
        | succ i => obtain ⟨k, u, a1, a2⟩ := ih i v (by simpa using q); exact ⟨k, u, by simpa using a1, a2⟩
    intro i v q
    exact key hi i v (by rw [Array.getElem?_toList]; exact q)
  have szi : items.size = ks.length := by rw [← Array.length_toList, hi.length]
  refine set_of_seq (TxIv P w s.heap.objs.size ks) hh hl (fun h e => tx_beg e) tx_steady (tx_adds at_ fun l nd sub => Nat.lt_of_le_of_lt (few_of lo_S nd sub) few) fun h' tk ⟨D, l2, ho, G, nd, ri, ld, mem⟩ kp => ?_
  rw [szi, List.take_length] at mem
  have fewl : l2.length < 64 := Nat.lt_of_le_of_lt (few_of lo_S nd fun x z => (mem x).mp z) few
  have e1 : l2.length ≤ (sset ltS ks).length := few_of lo_S nd fun x z => (mem x).mp z
  have e2 : (sset ltS ks).length ≤ l2.length := by
    have : (sset ltS l2).length ≤ l2.length := sset_len ltS l2
    rw [sset_same lo_S (l := ks) (m := l2) fun x => (mem x).symm]
    exact this
  have sz : D.1.size = (sset ltS ks).length := by rw [G.sz]; omega
  refine call_len_set (s := { s with heap := h', toks := tk }) ho ⟨rfl, rfl, rfl⟩ rfl G.fit (by rw [sz]; omega) ?_
  rw [sz]
  exact fin _ _ _ kp
end
def tLenSetT (K : PySem.W.Frag) (ta : TE) : TE := fun σ H Q => ta σ H fun x H1 => ∃ l ks, x = V.ref l ∧ (SqL K H1 l (ks.map V.str) ∨ SqT K H1 l (ks.map V.str)) ∧ (sset ltS ks).length < 64 ∧ Q (.int (sset ltS ks).length) H1
section
variable {X : Cx}
theorem pe_lensetT {a : Expr} {ta : TE} {p p2 q pos : Pos} (hc : X.calm = true) (hu : X.A.units + 64 < cLine) (hm : X.mg "len" = none) (hm2 : X.mg "set" = none) (ha : PE X a ta) (hg : Gl X "len" := by rfl) (hg2 : Gl X "set" := by rfl)
    (na : starEach [a] X.env = (false, eval a X.env) :: starEach [] X.env := by rfl) : PE X (.Call (.Name "len" p) [.Call (.Name "set" p2) [a] [] q] [] pos) (tLenSetT X.K ta) := by
  refine ⟨fun pins s σ H Q I h => ?_⟩
  refine Call_ (ld_blt I hg hm PySem.boot_len ?_)
  refine PyProof.Rows.callWith_builtin1 (PyProof.Rows.args_cons ?_ rfl) rfl rfl
  refine Call_ (ld_blt I hg2 hm2 PyProof.Rows.boot_set ?_)
  refine PyProof.Rows.callWith_type1 (PyProof.Rows.args_cons (thn (ha.run pins s σ H _ I h) fun v s1 ⟨x, H1, I1, r1, l, ks, ev, hs, few, q1⟩ => PyProof.Rows.args_nil ?_) na) na rfl
  subst ev
  have hh := I1.ok.hd hc
  cases r1
  obtain ⟨its, rv, isq⟩ := seq_of I1 hs
  exact thn (lenset_strs (Q := EP X pins σ Q) hh hu isq (by simpa using vals_StrV rv) few fun h' tk t kp => ⟨.int _, H1, I1.kept kp, ⟨t, rfl⟩, q1⟩) fun v s2 h2 => PyProof.Rows.args_nil h2
end
def wLenSet (we : WE) : WE := fun ε Φ => we ε fun d => match d with
  | .list ds => (match strsOf ds with
    | some ks => (sset ltS ks).length < 64 ∧ Φ (.int (sset ltS ks).length)
    | none => False)
  | _ => False
section
variable [Tbl] {X : Cx} {K : PySem.W.Frag} {T : Option Addr}
theorem md_lenset {a : Expr} {we : WE} {p p2 q pos : Pos} (hk : X.K = K) (hc : X.calm = true) (hu : X.A.units + 64 < cLine) (hm : X.mg "len" = none) (hm2 : X.mg "set" = none) (ha : PE X a (tD K T we)) (hg : Gl X "len" := by rfl) (hg2 : Gl X "set" := by rfl)
    (na : starEach [a] X.env = (false, eval a X.env) :: starEach [] X.env := by rfl) : PE X (.Call (.Name "len" p) [.Call (.Name "set" p2) [a] [] q] [] pos) (tD K T (wLenSet we)) := by
  subst hk
  refine pe_imp (pe_lensetT hc hu hm hm2 ha hg hg2 na) fun σ H Q ⟨H0, ε, F, Φ, S, W, hw, k⟩ => ⟨H0, ε, F, _, S, W, hw, fun d v F1 H1 hd W1 X1 D1 => ?_⟩
  cases D1 with
  | @lst a xs ds e z r =>
    cases e2 : strsOf ds with
    | none =>
      simp only [e2] at hd
    | some ks =>
      simp only [e2] at hd
      have e' := strsOf_eq e2
      subst e'
      obtain ⟨e3, ok⟩ := rp_strs r
      subst e3
      exact ⟨a, ks, rfl, .inl (SqL.of (W1.fz _ _ e)), hd.1, k _ _ F1 H1 hd.2 W1 X1 (.int _)⟩
  | _ => exact hd.elim
end
end MG

set_option Elab.async false
set_option linter.all false
set_option maxRecDepth 100000
set_option maxHeartbeats 4000000
/-! MgExc: what is raised, over plain data: an exception is told, in the place of what is returned, as exD (its class's name) (its field). -/
namespace MG
variable [Tbl]
open PySem PySem.Spec PyProof.Rows L2
/-- an exception of the class named c: no value stands for it -/
def exD (c : Str) (arg : PyData) : PyData := .dict [(.str c, arg)]
def exF (f : Str) (d : PyData) : PyData := .tuple [.str f, d]
def isEx : PyData → Bool
  | .dict _ => true
  | _ => false
/-- its fields, if it has any -/
def XF (K : PySem.W.Frag) (F H : Hp) (d : Option Addr) (arg : PyData) : Prop :=
  (arg = .none ∧ d = none) ∨ ∃ (f : Str) (x : PyData) (dx : Addr) (v : V), arg = exF f x ∧ d = some dx ∧ H dx = some (.xd [(f, v)]) ∧ F dx = none ∧ Rp K F v x
theorem rp_dict {K : PySem.W.Frag} {F : Hp} {v : V} {d : PyData} (h : Rp K F v d) : isEx d = false := by cases h <;> rfl
/-- a statement that may raise -/
def sX (K : PySem.W.Frag) (T : Option Addr) (mg : Str → Option Value) (W : WX) (w : WS) : TS := fun D σ H => ∃ H0 F0 ε F Ψ, Sat K T H0 ε σ F H ∧ Wd T F H ∧ Ex T F0 H0 F H ∧ w ε Ψ ∧
  (∀ ε' σ' F' H', Ψ.nx ε' → Sat K T H0 ε' σ' F' H' → Wd T F' H' → Ex T F0 H0 F' H' → D.nx σ' H') ∧
  (∀ ε' σ' d v F' H', Ψ.rt ε' d → Sat K T H0 ε' σ' F' H' → Wd T F' H' → Ex T F0 H0 F' H' → Rp K F' v d → D.rt v H') ∧
  (∀ ε' σ' F' H', Ψ.bk ε' → Sat K T H0 ε' σ' F' H' → Wd T F' H' → Ex T F0 H0 F' H' → D.bk σ' H') ∧
  (∀ ε' σ' F' H', Ψ.ct ε' → Sat K T H0 ε' σ' F' H' → Wd T F' H' → Ex T F0 H0 F' H' → D.ct σ' H') ∧
  (∀ ε' σ' c C arg d F' H', Ψ.rt ε' (exD c arg) → mg c = some (.ref C) → Sat K T H0 ε' σ' F' H' → Wd T F' H' → Ex T F0 H0 F' H' → XF K F' H' d arg → W (.ref C) d σ' H')
section
variable {X : Cx} {K : PySem.W.Frag} {T : Option Addr} {mg : Str → Option Value} {W : WX} {pos : Pos} {e : Expr} {we : WE} {st : Stmt} {rest : List Stmt}
/-- what raises nothing -/
theorem mx_of {w : WS} (h : PS X st (sD K T w)) : PS X st (sX K T mg W w) := ps_imp h fun D σ H ⟨H0, F0, ε, F, Ψ, S, Wd, X0, hw, kn, kr, kb, kc, _⟩ => ⟨H0, F0, ε, F, Ψ, S, Wd, X0, hw, kn, kr, kb, kc⟩
theorem mxs_of {w : WS} (h : PSs X rest (sD K T w)) : PSs X rest (sX K T mg W w) := pss_imp h fun D σ H ⟨H0, F0, ε, F, Ψ, S, Wd, X0, hw, kn, kr, kb, kc, _⟩ => ⟨H0, F0, ε, F, Ψ, S, Wd, X0, hw, kn, kr, kb, kc⟩
theorem mxs_cons {a b : WS} (h1 : PS X st (sX K T mg W a)) (h2 : PSs X rest (sX K T mg W b)) : PSs X (st :: rest) (sX K T mg W (wSeq a b)) :=
  pss_imp (pss_cons h1 h2) fun D σ H ⟨H0, F0, ε, F, Ψ, S, Wd, X0, hw, kn, kr, kb, kc, kx⟩ => ⟨H0, F0, ε, F, _, S, Wd, X0, hw, fun ε1 σ1 F1 H1 h1 S1 W1 X1 => ⟨H0, F0, ε1, F1, Ψ, S1, W1, X1, h1, kn, kr, kb, kc, kx⟩, kr, kb, kc, kx⟩
theorem mxs_one {a : WS} (h1 : PS X st (sX K T mg W a)) : PSs X [st] (sX K T mg W a) := pss_one h1
theorem mx_if {c : Expr} {a b : List Stmt} {t : WB} {u w : WS} (hc : PT X c (tDB K T t)) (ha : PSs X a (sX K T mg W u)) (hb : PSs X b (sX K T mg W w)) : PS X (.If c a b pos) (sX K T mg W (wIfS t u w)) :=
  ps_imp (ps_if hc ha hb) fun D σ H ⟨H0, F0, ε, F, Ψ, S, Wd, X0, hw, kn, kr, kb, kc, kx⟩ => ⟨H0, ε, F, _, S, Wd, hw, fun b F1 H1 hb W1 X1 => by
    cases b with
    | true => exact iteT ⟨H0, F0, ε, F1, Ψ, S.ex X1, W1, X0.trans X1, hb, kn, kr, kb, kc, kx⟩
    | false => exact iteF ⟨H0, F0, ε, F1, Ψ, S.ex X1, W1, X0.trans X1, hb, kn, kr, kb, kc, kx⟩⟩
theorem mx_for {tg iter : Expr} {body : List Stmt} {wi : WI} {is : List Nat} {g : WG} {b : WS} (hp : PassesOwn (model X.prog X.w) X.A X.env X.xe) (hc : X.calm = true) (hi : PI X tg iter (tDI K T wi)) (hg : PG X tg (tDG K T is g)) (hb : PSs X body (sX K T mg W b)) (hs : ∀ x, foldedSetIterable iter X.env x = pure x := by intro _; rfl) :
    PS X (.For tg iter body [] pos) (sX K T mg W (wFor wi g b)) :=
  ps_imp (ps_for hp hc hi hg hb hs) fun D σ H ⟨H0, F0, ε, F, Ψ, S, Wd', X0, hw, kn, kr, kb, kc, kx⟩ => ⟨H0, ε, F, _, S, Wd', hw, fun ds J F1 H1 hd W1 X1 hit => by
    obtain ⟨hz, G, Y, walk, hG, hY⟩ := hit
    refine for_it walk (fun i σ2 H2 => ∃ ε2 F2, Sat K T H0 ε2 σ2 F2 H2 ∧ Wd T F2 H2 ∧ Ex T F0 H0 F2 H2 ∧ Same F1 F2 ∧ wForL g b (ds.drop i) ε2 Ψ) ⟨ε, F1, S.ex X1, W1, X0.trans X1, Same.refl _, hd⟩ ?_ ?_ ?_
    · rintro i σ2 H2 hi ⟨ε2, F2, S2, W2, X2, f2, _⟩
      exact hG F2 H2 f2 W2
    · rintro i x σ2 H2 H3 hi ⟨ε2, F2, S2, W2, X2, f2, hl⟩ y
      obtain ⟨F3, d, hdi, W3, X3, r3⟩ := hY i H2 x H3 F2 hi f2 W2 y
      have hdrop : ds.drop i = d :: ds.drop (i + 1) := by
        rw [List.drop_eq_getElem_cons hi]
        congr 1
        rw [List.getElem?_eq_getElem hi] at hdi
        exact Option.some.inj hdi
      rw [hdrop] at hl
      refine ⟨H0, ε2, F3, d, _, S2.ex X3, W3, r3, hl, fun ε4 σ4 h4 S4 _ _ => ?_⟩
      have X23 := X2.trans X3
      have f13 := f2.trans X3.ff
      exact ⟨H0, F3, ε4, F3, _, S4, W3, X23.rebase, h4, fun ε5 σ5 F5 H5 h5 S5 W5 X5 => ⟨ε5, F5, S5, W5, X23.unbase X5, f13.trans X5.ff, h5⟩, fun ε5 σ5 d v F5 H5 h5 S5 W5 X5 D5 => kr ε5 σ5 d v F5 H5 h5 S5 W5 (X23.unbase X5) D5,
        fun ε5 σ5 F5 H5 h5 S5 W5 X5 => kn ε5 σ5 F5 H5 h5 S5 W5 (X23.unbase X5), fun ε5 σ5 F5 H5 h5 S5 W5 X5 => ⟨ε5, F5, S5, W5, X23.unbase X5, f13.trans X5.ff, h5⟩,
        fun ε5 σ5 c C arg d F5 H5 h5 hm S5 W5 X5 D5 => kx ε5 σ5 c C arg d F5 H5 h5 hm S5 W5 (X23.unbase X5) D5⟩
    · rintro σ2 H2 ⟨ε2, F2, S2, W2, X2, f2, hl⟩
      rw [List.drop_length] at hl
      exact kn ε2 σ2 F2 H2 hl S2 W2 X2⟩
theorem frzX_of {i : Nat} {w : WS} : ∀ D σ H, sX K T mg W (wFrz i w) D σ H → sX K T mg W w D σ H := fun D σ H ⟨H0, F0, ε, F, Ψ, S, Wd', X0, hw, kn, kr, kb, kc, kx⟩ => by
  unfold wFrz at hw
  split at hw
  · rename_i ds hε
    obtain ⟨F1, S1, W1, X1⟩ := sat_frz S Wd' X0 hε
    exact ⟨H0, F0, _, F1, Ψ, S1, W1, X1, hw, kn, kr, kb, kc, kx⟩
  · exact hw.elim
theorem mx_frz {w : WS} (i : Nat) (h : PS X st (sX K T mg W w)) : PS X st (sX K T mg W (wFrz i w)) := ps_imp h frzX_of
theorem mxs_frz {w : WS} (i : Nat) (h : PSs X rest (sX K T mg W w)) : PSs X rest (sX K T mg W (wFrz i w)) := pss_imp h frzX_of
/-! ### raise -/
/-- the class named c, told by its facts: made with one text -/
structure Xc0 (K : PySem.W.Frag) (mg : Str → Option Value) (c : Str) : Prop where
  ex : ∃ C : Addr, mg c = some (.ref C) ∧ PySem.W.excIn K C [.type "ValueError", .type "Exception", .type "BaseException", .type "object"] "ValueError.__new__" = true ∧ PySem.W.keepIn K (.ref C) = true ∧
    PySem.W.subIn K (.ref C) (.type "BaseException") = some true ∧ PySem.W.typeIn K (.ref C) = some (.type "type")
def wRaise0 (c : Str) : WS := fun ε Ψ => Ψ.rt ε (exD c .none)
theorem mx_raise0 {x m : Str} {j : Nat} {p p2 p3 : Pos} (hk : X.K = K) (hm : X.mg = mg) (hc : X.calm = true) (tk : Takes X W) (c : Xc0 X.K X.mg x) (hg : Gl X x := by rfl) (hdb : (x == ("__debug__" : Str)) = false := by decide) :
    PS X (.Raise (some (.Call (.Name x p) [.Constant (.str m) j p2] [] p3)) none pos) (sX K T mg W (wRaise0 x)) := by
  subst hk hm
  obtain ⟨C, gC, q, kC, s1, t1⟩ := c.ex
  refine ps_imp (ps_raise hc tk (pmk_own PySem.F.excBase_ValueError q gC kC (raises_own s1 t1) hg hdb)) fun D σ H ⟨H0, F0, ε, F, Ψ, S, Wd', X0, hw, kn, kr, kb, kc, kx⟩ => ?_
  exact kx ε σ x C .none none F H hw gC S Wd' X0 (.inl ⟨rfl, rfl⟩)
/-- what C.__init__(self, e) does that keeps e in the field f -/
def spIni (K : PySem.W.Frag) (C : Addr) (f : Str) : Sp := fun vs H Q _ => ∃ (a : Addr) (y : V), vs = [.ref a, y] ∧ H a = some (exo a C none) ∧ ∀ dx, H dx = none → dx ≠ a → Q .non (upd (upd H dx (exd dx [(f, y)])) a (exo a C (some dx)))
/-- the class named c, told by its facts: made with one value, kept in the field f -/
structure XcF (P : Program) (w : World) (K : PySem.W.Frag) (mg : Str → Option Value) (base : Heap) (c f : Str) (k : Nat) : Prop where
  ex : ∃ (C fI : Addr) (fd : FuncData) (ps : List Str), mg c = some (.ref C) ∧ OexC K C ∧ PySem.W.findIn K (.ref C) "__init__" = some (some (.ref fI)) ∧ PySem.W.typeIn K (.ref fI) = some (.type "function") ∧
    FnOk P w K mg base CX0 k fI fd ps (spIni K C f) ∧ Binds K fd ps [] ∧ XfC K C ∧ PySem.W.findIn K (.ref C) f = some none
def wRaiseF (c f : Str) (wa : WE) : WS := fun ε Ψ => wa ε fun d => Ψ.rt ε (exD c (exF f d))
theorem mx_raiseF {x f : Str} {k : Nat} {p p3 : Pos} (hk : X.K = K) (hm : X.mg = mg) (hc : X.calm = true) (tk : Takes X W) (c : XcF X.prog X.w X.K X.mg X.base x f k) (hr : Room (k + 1) X.A) (he : PE X e (tD K T we)) (hg : Gl X x := by rfl) (hdb : (x == ("__debug__" : Str)) = false := by decide)
    (hs : starEach [e] X.env = (false, eval e X.env) :: starEach [] X.env := by rfl) (hpl : (backTo p3 (starEach [] X.env)).any (·.1) = false := by rfl) :
    PS X (.Raise (some (.Call (.Name x p) [e] [] p3)) none pos) (sX K T mg W (wRaiseF x f we)) := by
  subst hk hm
  obtain ⟨C, fI, fd, ps, gC, o, iC, tI, FI, hb, xf, nf⟩ := c.ex
  refine ps_imp (ps_raise hc tk (pmk_oex o iC tI FI hr hb .nil pass0 hg gC (pa_cons he pa_nil hs) hdb hs hpl)) fun D σ H ⟨H0, F0, ε, F, Ψ, S, Wd', X0, hw, kn, kr, kb, kc, kx⟩ => ?_
  refine ⟨H0, ε, F, _, S, Wd', hw, fun d v F1 H1 hd W1 X1 D1 => ?_⟩
  refine ⟨by simp, fun a na => ⟨a, v, rfl, upd_same, fun dx ndx ne => ⟨rfl, dx, [(f, v)], upd_same, ?_, ?_, ?_⟩⟩⟩
  · rw [upd_ne ne, upd_same]
  · rw [upd_ne ne] at ndx; exact ndx
  · have n1 : H1 dx = none := by rw [upd_ne ne] at ndx; exact ndx
    have eH : upd (L2.del (upd (upd (upd H1 a (exo a C none)) dx (exd dx [(f, v)])) a (exo a C (some dx))) a) dx (.xd [(f, v)]) = upd H1 dx (.xd [(f, v)]) := by
      funext b
      by_cases h1 : b = dx
      · subst h1; rw [upd_same, upd_same]
      · rw [upd_ne h1, upd_ne h1]
        by_cases h2 : b = a
        · subst h2; rw [del_same]; exact na.symm
        · rw [del_ne h2, upd_ne h2, upd_ne h1, upd_ne h2]
    rw [eH]
    obtain ⟨W2, X2⟩ := new_raw (o := .xd [(f, v)]) W1 n1
    exact kx ε σ x C (exF f d) (some dx) F1 _ hd gC ((S.ex X1).ex X2) W2 ((X0.trans X1).trans X2) (.inr ⟨f, d, dx, v, rfl, rfl, upd_same, W1.none_of n1, D1⟩)
end
end MG

set_option Elab.async false
set_option linter.all false
set_option maxRecDepth 100000
set_option maxHeartbeats 4000000
/-! MgExcB: defs that may raise, their calls, try; over plain data. -/
namespace MG
variable [Tbl]
open PySem PySem.Spec PyProof.Rows L2
def spDX (K : PySem.W.Frag) (mg : Str → Option Value) (n : Nat) (u : WF) : Sp := fun vs H Q E => vs.length = n ∧ ∃ ds F Φ, Wd none F H ∧ RpAll K F vs ds ∧ u ds Φ ∧ (∀ d v F' H', Φ d → Wd none F' H' → Ex none F H F' H' → Rp K F' v d → Q v H') ∧
  ∀ c C arg d F' H', Φ (exD c arg) → mg c = some (.ref C) → Wd none F' H' → Ex none F H F' H' → XF K F' H' d arg → E (.ref C) d H'
/-- the def x of the text, which may raise, does u -/
structure DfX (P : Program) (w : World) (K : PySem.W.Frag) (mg : Str → Option Value) (base : Heap) (x : Str) (k n : Nat) (u : WF) : Prop where
  ex : ∃ (f : Addr) (fd : FuncData) (ps : List Str), FnOk P w K mg base (L2.CX P w) k f fd ps (spDX K mg n u) ∧ mg x = some (.ref f) ∧ PySem.W.keepIn K (.ref f) = true ∧ Binds K fd ps []
theorem fnX_start {K : PySem.W.Frag} {mg : Str → Option Value} {N : List Str} {n : Nat} {w : WS} {vs : List V} {H : Hp} {Q : VK} {E : XK} (h : spDX K mg n (wRun N.length w) vs H Q E) : sX K none mg (fun cls d _ H => E cls d H) w { nx := fun _ H' => Q .non H', rt := Q } (L2.start N vs) H := by
  obtain ⟨hl, ds, F, Φ, W, r, hw, k, kx⟩ := h
  exact ⟨H, F, _, F, _, sat_start r, W, Ex.refl, hw, fun ε' σ' F' H' h' S' W' X' => k _ _ F' H' h' W' X' .non, fun ε' σ' d v F' H' h' S' W' X' D' => k d v F' H' h' W' X' D', fun _ _ _ _ h' => h'.elim, fun _ _ _ _ h' => h'.elim,
    fun ε' σ' c C arg d F' H' h' hm S' W' X' D' => kx c C arg d F' H' h' hm W' X' D'⟩
theorem DfX.mk' {P : Program} {w : World} {K : PySem.W.Frag} {mg : Str → Option Value} {base : Heap} {x : Str} {k : Nat} {b : WS} {qual : Str} {params : Arguments} {body : List Stmt} {scope : Scope} {f : Addr} {fd : FuncData} {N ps : List Str} (F : FunD K x qual params body scope [] [] f fd) (g : mg x = some (.ref f)) (S : FnScope N ps scope)
    (hb : ∀ (kV doc pm : Value) (an : Option Addr) (cdv ct : Value) (us : List Value), us.length = ps.length → bindArgs (PySem.W.fnOf x qual params body scope .none kV doc pm an cdv ct) ⟨us, []⟩ = pure (ps.zip us))
    (h : ∀ (cdv : Value) (A : Around) (outer : List Env) (s : Shared) (H : Hp) (E : XK), Room k (A.deeper (envOfC qual scope s.heap.objs.size f cdv)) → PSs (cxOf (L2.CX P w) P w K mg base N qual scope f cdv A outer s H E) body (sX K none mg (fun cls d _ H => E cls d H) b)) :
    DfX P w K mg base x (k + 1) ps.length (wRun N.length b) :=
  ⟨f, fd, ps, F.ok S (fun vs H Q E q => q.1) fun cdv A outer s H vs Q E hr q => ⟨_, h cdv A outer s H E hr, fnX_start q⟩, g, F.kp, F.bindsN hb⟩
/-! ### calls that may raise, each a statement of its own -/
def wDropX (u : WF) (wa : WA) : WS := fun ε Ψ => wa ε fun ds => u ds fun d => match isEx d with
  | true => Ψ.rt ε d
  | false => Ψ.nx ε
def wRetX (u : WF) (wa : WA) : WS := fun ε Ψ => wa ε fun ds => u ds (Ψ.rt ε)
def wSetX (i : Nat) (u : WF) (wa : WA) : WS := fun ε Ψ => wa ε fun ds => u ds fun d => match isEx d with
  | true => Ψ.rt ε d
  | false => Ψ.nx (ε.set i (.val d))
section
variable {X : Cx} {K : PySem.W.Frag} {T : Option Addr} {mg : Str → Option Value} {W : WX} {pos p : Pos} {e : Expr} {es : List Expr} {x : Str} {k n : Nat} {u : WF} {wa : WA}
theorem pe_dfX (hk : X.K = K) (hm : X.mg = mg) (D : DfX X.prog X.w X.K X.mg X.base x k n u) (hr : Room k X.A) (tk : Takes X W) (ha : PA X (e :: es) (tDA K T n wa)) (hg : Gl X x := by rfl) (hdb : (x == ("__debug__" : Str)) = false := by decide)
    (he : starEach (e :: es) X.env = (false, eval e X.env) :: starEach es X.env := by rfl) (hpl : (backTo pos (starEach es X.env)).any (·.1) = false := by rfl) :
    PE X (.Call (.Name x p) (e :: es) [] pos) (fun σ H Q => tDA K T n wa σ H fun vs H1 => spDX K mg n u vs H1 Q (fun cls d H' => W cls d σ H')) := by
  subst hk hm
  obtain ⟨f, fd, ps, h1, h2, h3, h4⟩ := D.ex
  exact pe_callS h1 hr hg h2 h3 h4 (fun σ => passAt tk σ) ha hdb he hpl
theorem mx_drop (hk : X.K = K) (hm : X.mg = mg) (D : DfX X.prog X.w X.K X.mg X.base x k n u) (hr : Room k X.A) (tk : Takes X W) (ha : PA X (e :: es) (tDA K T n wa)) (hg : Gl X x := by rfl) (hdb : (x == ("__debug__" : Str)) = false := by decide)
    (he : starEach (e :: es) X.env = (false, eval e X.env) :: starEach es X.env := by rfl) {pos' : Pos} (hpl : (backTo pos (starEach es X.env)).any (·.1) = false := by rfl) (hs : swapsWith (.Call (.Name x p) (e :: es) [] pos) none pos'.line X.env = pure false := by rfl) :
    PS X (.Expr (.Call (.Name x p) (e :: es) [] pos) pos') (sX K T mg W (wDropX u wa)) :=
  ps_imp (ps_expr (pe_dfX hk hm D hr tk ha hg hdb he hpl) hs) fun D σ H ⟨H0, F0, ε, F, Ψ, S, Wd', X0, hw, kn, kr, kb, kc, kx⟩ => ⟨H0, ε, F, _, S, Wd', hw, fun ds vs F1 H1 hd hl W1 X1 D1 =>
    ⟨D1.length.trans hl, ds, F1, _, W1.weak, D1, hd, fun d v F' H' hΦ W' X' D' => by
      rw [rp_dict D'] at hΦ
      exact kn ε σ F' H' hΦ ((S.ex X1).ex X'.weak) (W1.back W' X') ((X0.trans X1).trans X'.weak), fun c C arg d F' H' hΦ hm W' X' D' =>
      kx ε σ c C arg d F' H' hΦ hm ((S.ex X1).ex X'.weak) (W1.back W' X') ((X0.trans X1).trans X'.weak) D'⟩⟩
theorem mx_ret (hk : X.K = K) (hm : X.mg = mg) (D : DfX X.prog X.w X.K X.mg X.base x k n u) (hr : Room k X.A) (tk : Takes X W) (ha : PA X (e :: es) (tDA K T n wa)) (hg : Gl X x := by rfl) (hdb : (x == ("__debug__" : Str)) = false := by decide)
    (he : starEach (e :: es) X.env = (false, eval e X.env) :: starEach es X.env := by rfl) {pos' : Pos} (hpl : (backTo pos (starEach es X.env)).any (·.1) = false := by rfl) :
    PS X (.Return (some (.Call (.Name x p) (e :: es) [] pos)) pos') (sX K T mg W (wRetX u wa)) :=
  ps_imp (ps_ret (pe_dfX hk hm D hr tk ha hg hdb he hpl)) fun D σ H ⟨H0, F0, ε, F, Ψ, S, Wd', X0, hw, kn, kr, kb, kc, kx⟩ => ⟨H0, ε, F, _, S, Wd', hw, fun ds vs F1 H1 hd hl W1 X1 D1 =>
    ⟨D1.length.trans hl, ds, F1, _, W1.weak, D1, hd, fun d v F' H' hΦ W' X' D' => kr ε σ d v F' H' hΦ ((S.ex X1).ex X'.weak) (W1.back W' X') ((X0.trans X1).trans X'.weak) D', fun c C arg d F' H' hΦ hm W' X' D' =>
      kx ε σ c C arg d F' H' hΦ hm ((S.ex X1).ex X'.weak) (W1.back W' X') ((X0.trans X1).trans X'.weak) D'⟩⟩
theorem mx_set {y : Str} {py : Pos} (i : Nat) (hN : X.N.Nodup) (hk : X.K = K) (hm : X.mg = mg) (D : DfX X.prog X.w X.K X.mg X.base x k n u) (hr : Room k X.A) (tk : Takes X W) (ha : PA X (e :: es) (tDA K T n wa)) (hg : Gl X x := by rfl) (hdb : (x == ("__debug__" : Str)) = false := by decide)
    (he : starEach (e :: es) X.env = (false, eval e X.env) :: starEach es X.env := by rfl) {pos' : Pos} (hpl : (backTo pos (starEach es X.env)).any (·.1) = false := by rfl)
    (hi : X.N[i]? = some y := by rfl) (hx : Loc X.env.scope y := by first | exact Or.inl rfl | exact Or.inr rfl) (hs : swapsWith (.Call (.Name x p) (e :: es) [] pos) (some (.Name y py)) pos'.line X.env = pure false := by rfl)
    (hf : X.fn y = true ∨ X.env.scope.names.lookup y = some .local := by first | exact .inl rfl | exact .inr rfl | assumption) :
    PS X (.Assign [.Name y py] (.Call (.Name x p) (e :: es) [] pos) pos') (sX K T mg W (wSetX i u wa)) :=
  ps_imp (ps_set hN hi hx (pe_dfX hk hm D hr tk ha hg hdb he hpl) hs hf) fun D σ H ⟨H0, F0, ε, F, Ψ, S, Wd', X0, hw, kn, kr, kb, kc, kx⟩ => ⟨H0, ε, F, _, S, Wd', hw, fun ds vs F1 H1 hd hl W1 X1 D1 =>
    ⟨D1.length.trans hl, ds, F1, _, W1.weak, D1, hd, fun d v F' H' hΦ W' X' D' => by
      rw [rp_dict D'] at hΦ
      exact kn _ _ F' H' hΦ (((S.ex X1).ex X'.weak).set i D') (W1.back W' X') ((X0.trans X1).trans X'.weak), fun c C arg d F' H' hΦ hm W' X' D' =>
      kx ε σ c C arg d F' H' hΦ hm ((S.ex X1).ex X'.weak) (W1.back W' X') ((X0.trans X1).trans X'.weak) D'⟩⟩
/-! ### try: body, except c as n: y = n.f -/
def wTryF (i j : Nat) (c f : Str) (b : WS) : WS := fun ε Ψ => b ε { Ψ with rt := fun ε' d => match isEx d with
  | true => ∃ x, d = exD c (exF f x) ∧ i < ε'.length ∧ Ψ.nx ((ε'.set i .un).set j (.val x))
  | false => Ψ.rt ε' d }
theorem exD_inj {c c' : Str} {a a' : PyData} (h : exD c a = exD c' a') : c = c' ∧ a = a' := by
  unfold exD at h
  injection h with h
  injection h with h _
  injection h with h1 h2
  injection h1 with h1
  exact ⟨h1, h2⟩
theorem exF_inj {f f' : Str} {a a' : PyData} (h : exF f a = exF f' a') : f = f' ∧ a = a' := by
  unfold exF at h
  injection h with h
  injection h with h1 h2
  injection h2 with h2 _
  injection h1 with h1
  exact ⟨h1, h2⟩
theorem takes_none {X : Cx} : Takes X (fun _ _ _ _ => False) := fun u s' ⟨a, B, sI, pins, σ, H, cls, d, e, I, nb, up, sky, na, os, ag, h⟩ => h.elim
theorem ms_tryF {c f n y : Str} {np pos' p1 p2 p3 p4 : Pos} {body : List Stmt} {b : WS} (i j : Nat) (hij : i ≠ j) (hk : X.K = K) (hm : X.mg = mg) (hc : XcF X.prog X.w X.K X.mg X.base c f k) (hself : ∀ C, X.mg c = some (.ref C) → PySem.W.exmOne X.K (.ref C) (.ref C) = some true)
    (hb : ∀ (W : WX) (pn : List (Addr × Obj)) (xe : Value → Shared → Prop), Takes (X.tr pn xe) W → PassesOwn (model X.prog X.w) X.A X.env xe → PSs (X.tr pn xe) body (sX K T mg W b))
    (hs : X.stack = X.env :: X.outer) (hf : X.env.frame = some X.env.locals) (hN : X.N.Nodup) (hi : X.N[i]? = some n := by rfl) (hj : X.N[j]? = some y := by rfl) (hln : X.env.kindOf n = some .local := by rfl) (hln' : X.env.scope.names.lookup n = some .local := by rfl) (hly : X.env.scope.names.lookup y = some .local := by rfl)
    (hg : Gl X c := by rfl) (hdb : (c == ("__debug__" : Str)) = false := by decide) (hd : (n == ("__debug__" : Str)) = false := by decide) (hcd : (n == ("__classdict__" : Str)) = false := by decide)
    (hat : attributeBase (.Name n p1) f X.env (eval (.Name n p1) X.env) = eval (.Name n p1) X.env := by rfl) (hsw : swapsWith (.Attribute (.Name n p1) f p2) (some (.Name y p3)) p4.line X.env = pure false := by rfl) :
    PS X (.Try body [.ExceptHandler (some (.Name c np)) (some n) [.Assign [.Name y p3] (.Attribute (.Name n p1) f p2) p4] pos'] [] [] pos) (sD K T (wTryF i j c f b)) := by
  subst hk hm
  obtain ⟨C, fI, fd, ps, gC, o, iC, tI, FI, hbi, xf, nf⟩ := hc.ex
  have hex := hself C gC
  refine ps_imp (ps_try_as (i := i) (Wout := fun _ _ _ _ => False) hs hf hN hi hln ⟨hg, hdb, .inl gC⟩ takes_none (fun W pn xe tk po => hb W pn xe tk po)
    (ts := fun a cls d => tAsg (tXf a cls d C f (fun σ H Q => ∃ v, σ[i]? = some (some v) ∧ Q v H)) (gName j)) (fun a oe cls d pn hz hfl => ?_)) fun D σ H ⟨H0, F0, ε, F, Ψ, S, Wd', X0, hw, kn, kr, kb, kc⟩ => ?_
  · exact pss_one (ps_set (X := X.suite a ((a, oe) :: pn)) hN hj (.inl hly) (pe_xf (X := X) xf nf hz hfl (pe_var (X := X.suite a ((a, oe) :: pn)) hi (.inl hln') hd hcd) hat) hsw (.inr hly))
  · refine ⟨H0, F0, ε, F, _, S, Wd', X0, hw, kn, fun ε' σ' d v F' H' h S' W' X' D' => ?_, kb, kc, fun ε' σ' c' C' arg d F' H' h hm S' W' X' D' => ?_⟩
    · have h : (match isEx d with
        | true => ∃ x, d = exD c (exF f x) ∧ i < ε'.length ∧ Ψ.nx ((ε'.set i .un).set j (.val x))
        | false => Ψ.rt ε' d) := h
      rw [rp_dict D'] at h
      exact kr ε' σ' d v F' H' h S' W' X' D'
    · obtain ⟨x, e1, li, h⟩ : ∃ x, exD c' arg = exD c (exF f x) ∧ i < ε'.length ∧ Ψ.nx ((ε'.set i .un).set j (.val x)) := h
      obtain ⟨rfl, rfl⟩ := exD_inj e1
      rw [gC] at hm
      cases hm
      refine ⟨true, hex, fun _ a na => ?_, fun z => by cases z⟩
      rcases D' with ⟨e2, _⟩ | ⟨f', x', dx, v, e2, rfl, hx, hF, r⟩
      · cases e2
      · obtain ⟨rfl, rfl⟩ := exF_inj e2
        rw [S'.len] at li
        refine ⟨.ref a, List.getElem?_set_self li, rfl, rfl, dx, [(f, v)], v, rfl, hx, by simp, ?_⟩
        show D.nx ((((σ'.set i (some (V.ref a))).set j (some v)).set i none)) H'
        have es : (((σ'.set i (some (V.ref a))).set j (some v)).set i none) = (σ'.set i none).set j (some v) := by
          rw [List.set_comm _ _ hij, List.set_set, List.set_comm _ _ (Ne.symm hij)]
        rw [es]
        exact kn _ _ F' H' h ((S'.wipe [i]).set j r) W' X'
end
end MG

set_option Elab.async false
set_option linter.all false
set_option maxRecDepth 100000
set_option maxHeartbeats 4000000
/-! MgExcC: the facts of exception classes; an own __init__ that calls the base's. -/
namespace MG
open PySem PySem.Spec PyProof.Rows L2 He
theorem oexB_cls {K : PySem.W.Frag} {C : Addr} (q : oexB K C = true) : ∃ nm q N bs bm sn sub ab col dd k0 k1 k2 k3 k5, K.lookup C = some (excClassObj nm q C N bs bm true sn sub ab col dd k0 k1 k2 k3 k5 "ValueError.__new__") ∧ PySem.HandSPX.refsVE bm = true := by
  unfold oexB at q
  split at q
  · rename_i dd cd sl ho
    split at q
    · rename_i C' bm k0 k1 k2 k3 n k5 hm hs
      simp only [Bool.and_eq_true, beq_iff_eq, Bool.not_eq_true'] at q
      obtain ⟨⟨⟨⟨rfl, rfl⟩, hdel⟩, hdct⟩, hr⟩ := q
      obtain ⟨nm, bs, mro, ns, qn, hd, sn, sub, ab, col, del⟩ := cd
      dsimp only at hm hdel hdct
      subst hm hdel hdct
      have hsl : sl = #[k0, k1, k2, k3, some (.builtin "ValueError.__new__"), k5] := by
        obtain ⟨l⟩ := sl
        simp only at hs
        rw [hs]
      subst hsl
      exact ⟨nm, qn, ns, bs, bm, sn, sub, ab, col, dd, k0, k1, k2, k3, k5, ho, hr⟩
    · cases q
  · cases q
structure GI (K : PySem.W.Frag) (mg : Str → Option Value) (g : Str) : Prop where
  ex : ∃ G : Addr, mg g = some (.ref G) ∧ ClX.CRead K G (.type "type") ∧ PySem.W.findCls K (.ref G) (.type "type") "__init__" = some (.val (.builtin "ValueError.__init__"))
theorem gi_of {K : PySem.W.Frag} {h : Heap} {mg : Str → Option Value} {g : Str} (X : K.In h) (G : h.Ns mainGlobals mg) (fa : (Fa.glo g).ok K = true) (b : giB K g = true) : GI K mg g := by
  unfold giB at b
  obtain ⟨b1, b⟩ := Bool.and_eq_true_iff.mp b
  obtain ⟨b2, b3⟩ := Bool.and_eq_true_iff.mp b
  refine ⟨ga K g, glo_ok X G fa, ⟨b1, of_decide_eq_true b2⟩, ?_⟩
  revert b3
  cases q : PySem.W.findCls K (.ref (ga K g)) (.type "type") "__init__" with
  | none => intro b; cases b
  | some r =>
    cases r <;> intro b3 <;> try cases b3
    rename_i v
    cases v <;> try cases b3
    rename_i n
    have : n = "ValueError.__init__" := beq_iff_eq.mp b3
    rw [this]
/-! ### G.__init__(self, ..) -/
section
variable {X : Cx} {e : Expr} {es : List Expr} {ta : TA} {g : Str} {p1 p2 pos : Pos}
theorem pe_gi {pl : Sem Bool} (hk : GI X.K X.mg g) (ha : PA X (e :: es) ta) (hg : Gl X g := by rfl) (hdb : (g == ("__debug__" : Str)) = false := by decide)
    (hc : eval (.Call (.Attribute (.Name g p1) "__init__" p2) (e :: es) [] pos) X.env = (do
      let ov ← eval (.Name g p1) X.env
      standAt p2.atName
      let (f, first) ← holding [ov] (getMethod ov "__init__" pl)
      callWith pos f first (backTo pos (starEach (e :: es) X.env)) (backToKw pos (keywordEach [] X.env))) := by rfl)
    (he : starEach (e :: es) X.env = (false, eval e X.env) :: starEach es X.env := by rfl) (hpl : (backTo pos (starEach es X.env)).any (·.1) = false := by rfl) :
    PE X (.Call (.Attribute (.Name g p1) "__init__" p2) (e :: es) [] pos) (tVeI X.K ta) := by
  obtain ⟨G, gG, r, at_⟩ := hk.ex
  refine ⟨fun pins s σ H Q I h => ?_⟩
  refine PySem.W.methodCall_KW (ld_glob I hg gG ?_ hdb) hc
  refine PySem.W.method_cls I.kIn r.ga (PySem.W.cls_value I.kIn r.rd at_ (by decide +kernel) ?_)
  show wpAny _ _ (callWith pos (Value.builtin "ValueError.__init__") [] (backTo pos (starEach (e :: es) X.env)) []) _ _ _
  refine PyProof.Rows.callWith_method1 (thn (ha.run pos pins _ σ H _ (I.tok _) h) fun us s1 ⟨vs, H1, I1, r1, a, C, ws, ev, hl, T, ea, q⟩ => ?_) he hpl
  subst ev
  cases r1 with
  | @cons _ u0 _ ur ra rw' =>
    obtain rfl : u0 = Value.ref a := ra
    have hlen : ur.length ≤ sizeLine := by
      rw [← Paired.length rw', sizeLine_eq]
      omega
    exact oinit_ok T I1 ea hlen fun s' J => ⟨.non, H1, J, rfl, q⟩
end
section
variable {P : Program} {w : World} {K : PySem.W.Frag} {mg : Str → Option Value} {base : Heap}
/-- the def C.__init__ of the text -/
theorem xcF_of {h : Heap} {c f qual : Str} {params : Arguments} {body : List Stmt} {scope : Scope} {fd : FuncData} {ps : List Str} {g : Str} {x l m : Str} (X : K.In h) (G : h.Ns mainGlobals mg) (fa : (Fa.glo c).ok K = true) (b : xcB K c f = true) (gi : GI K mg g)
    (F : FunD K "__init__" qual params body scope [] [] (ma K (ga K c) "__init__") fd) (S : FnScope [x, l] [x, l] scope)
    (hb : ∀ (kV doc pm : Value) (an : Option Addr) (cdv ct : Value) (us : List Value), us.length = [x, l].length → bindArgs (PySem.W.fnOf "__init__" qual params body scope .none kV doc pm an cdv ct) ⟨us, []⟩ = pure ([x, l].zip us))
    (hbd : ∀ (cdv : Value) (A : Around) (outer : List Env) (s : Shared) (H : Hp) (E : XK), PSs (cxOf CX0 P w K mg base [x, l] qual scope (ma K (ga K c) "__init__") cdv A outer s H E) body
      (fun D σ H => (fun D σ H => tVeI K (tCons (fun σ H Q => ∃ v, σ[0]? = some (some v) ∧ Q v H) (tCons (tC (.str m)) tNil)) σ H fun _ H' => D.nx σ H') { D with nx := fun σ H => tOst K f (fun σ H Q => ∃ v, σ[0]? = some (some v) ∧ Q v H) (fun σ H Q => ∃ v, σ[1]? = some (some v) ∧ Q v H) D σ H } σ H)) :
    XcF P w K mg base c f 1 ∧ ∀ C, mg c = some (.ref C) → PySem.W.exmOne K (.ref C) (.ref C) = some true := by
  unfold xcB at b
  obtain ⟨b0, b⟩ := Bool.and_eq_true_iff.mp b
  obtain ⟨b1, b⟩ := Bool.and_eq_true_iff.mp b
  obtain ⟨b2, b⟩ := Bool.and_eq_true_iff.mp b
  obtain ⟨b3, b⟩ := Bool.and_eq_true_iff.mp b
  obtain ⟨b4, b⟩ := Bool.and_eq_true_iff.mp b
  obtain ⟨b5, b⟩ := Bool.and_eq_true_iff.mp b
  obtain ⟨b6, b⟩ := Bool.and_eq_true_iff.mp b
  obtain ⟨b7, b⟩ := Bool.and_eq_true_iff.mp b
  obtain ⟨b8, b9⟩ := Bool.and_eq_true_iff.mp b
  have gC := glo_ok X G fa
  have O : OexC K (ga K c) := ⟨oexB_cls b0, of_decide_eq_true b1, of_decide_eq_true b2, of_decide_eq_true b3, b4⟩
  have nf := of_decide_eq_true b8
  refine ⟨⟨ga K c, _, fd, [x, l], gC, O, of_decide_eq_true b5, of_decide_eq_true b6, ?_, F.bindsN hb, xfB_ok b7, nf⟩, fun C e => by
    rw [gC] at e
    cases e
    exact of_decide_eq_true b9⟩
  refine F.ok S (fun vs H Q E q => by obtain ⟨a, y, rfl, _⟩ := q; rfl) fun cdv A outer s H vs Q E hr q => ⟨_, hbd cdv A outer s H E, ?_⟩
  obtain ⟨a, y, rfl, ea, q⟩ := q
  refine ⟨.ref a, rfl, ?_⟩
  show ∃ a_1 C ws, _
  refine ⟨a, ga K c, [.str m], rfl, by simp, O, ea, ?_⟩
  refine ⟨y, rfl, .ref a, rfl, a, ga K c, rfl, O, nf, .inl ⟨ea, fun dx hx ne => q dx hx ne⟩⟩
theorem xc0_of {h : Heap} {c : Str} (X : K.In h) (G : h.Ns mainGlobals mg) (g : (Fa.glo c).ok K = true) (b : (Fa.exc c).ok K = true) : Xc0 K mg c := by
  obtain ⟨b1, b⟩ := Bool.and_eq_true_iff.mp b
  obtain ⟨b2, b⟩ := Bool.and_eq_true_iff.mp b
  obtain ⟨b3, b4⟩ := Bool.and_eq_true_iff.mp b
  exact ⟨ga K c, glo_ok X G g, b1, b2, of_decide_eq_true b3, of_decide_eq_true b4⟩
end
abbrev exE (tb : List Tb) (tf : List Defn) (ex : PySem.W.Frag → Bool) (K : PySem.W.Frag) : Bool := exM tb tf K && ex K
theorem says_m {fa : List Fa} {tb : List Tb} {fn : List DefD} {tf : List Defn} {ex : PySem.W.Frag → Bool} {w : World} {h : Heap} {K : PySem.W.Frag} (c : SaysX fa fn [] tf (exE tb tf ex) w h K) : SaysM fa tb fn tf w h K ∧ ex K = true :=
  ⟨⟨c.t, (ba c.more).1, c.hd, c.out, c.empty⟩, (ba c.more).2⟩
/-- the law's end, with any further test ex of the written part -/
theorem law_endE {XP : (Str → Option Value) → Heap → Prop} {l : PySem.W.OpenLaw} {k : Nat} {q : Program} {loose : List Str} {d : DefRec} {fa : List Fa} {fn : List DefD} {tf : List Defn} {ex : PySem.W.Frag → Bool} {x nm : Str} (hn : l.most = some 63) (hdf : d.params.defaults = []) (hr : Room k callerA) (hd : d.name = nm)
    (F : ∀ (w : World) (K : PySem.W.Frag) (mg : Str → Option Value) (fA : Addr) (h : Heap), K.In h → h.Ns mainGlobals mg → mg nm = some (.ref fA) → SaysX fa fn [] tf ex w h K → ∃ fd : FuncData, (∀ (s : Shared) (v : Value), BindsTo s fd ⟨[v], []⟩ [(x, v)]) ∧ ∀ base : Heap, (∀ q ∈ tf.map (cT K), LamX.TabB base mg q.1 q.2) → FnOk l.prog w K mg base CX0 k fA fd [x] (@spLaw ⟨tbOf tf K⟩ K)) :
    PySem.W.WalkO q loose XP (fun w h => ∃ K : PySem.W.Frag, K.In h ∧ SaysX fa fn [] tf ex w h K) l.row.toRowW d [] (fun f vs => PySem.call f vs) := by
  subst hd
  refine LamX.walk_ofTsE (n := 63) (k := k) (x := x) (CX := fun _ => L2.CX0) hn (by rw [sizeLine_eq]; decide) hdf hr (fun w mg fA h Y G hmg => ?_) (fun _ _ _ _ _ z => z)
  obtain ⟨K, KX, c⟩ := Y
  obtain ⟨fd, hb, hF⟩ := F w K mg fA h KX G hmg c
  refine ⟨K, KX, fd, tf.map (cT K), @spLaw ⟨tbOf tf K⟩ K, fun p hp => ?_, fun p hp => ?_, fun p hp => ?_, hb, fun H a ns hl _ hT hS => ⟨a, ns, rfl, hl, fun p hp => ?_, hS, fun _ => rfl⟩, fun base _ _ TB => hF base TB⟩
  · obtain ⟨p', hp', rfl⟩ := List.mem_map.mp hp
    exact c.empty p' hp'
  · obtain ⟨p', hp', rfl⟩ := List.mem_map.mp hp
    exact c.out p' hp'
  · obtain ⟨p', hp', rfl⟩ := List.mem_map.mp hp
    exact PySem.W.codeHd_of_K KX (c.hd p' hp')
  · obtain ⟨p', hp', rfl⟩ := List.mem_map.mp hp
    exact LamX.TabS.nil (hT _ (List.mem_map.mpr ⟨p', hp', rfl⟩))
end MG

set_option Elab.async false
set_option linter.all false
set_option maxRecDepth 100000
set_option maxHeartbeats 4000000
namespace Lw
open PySem PySem.Spec PyProof.Rows L2 MG
structure Bt (mg : Str → Option Value) : Prop where
  b_bool : mg "bool" = none
  b_enumerate : mg "enumerate" = none
  b_int : mg "int" = none
  b_isinstance : mg "isinstance" = none
  b_len : mg "len" = none
  b_list : mg "list" = none
  b_range : mg "range" = none
  b_set : mg "set" = none
  b_sorted : mg "sorted" = none
  b_str : mg "str" = none
  b_sum : mg "sum" = none
  b_tuple : mg "tuple" = none
  b_zip : mg "zip" = none
section
variable [Tbl] {P : Program} {w : World} {K : PySem.W.Frag} {mg : Str → Option Value} {base : Heap}
theorem sc_law_draw : FnScope ["_law_tape", "_law_many_here", "_law_prime", "_law_cell", "_law_my_found"] ["_law_tape", "_law_many_here"] (defScope s_law_draw) := ⟨rfl, rfl, rfl, by decide +kernel, rfl, by decide +kernel, by decide +kernel⟩
@[simp] def t_law_draw_0 : WS :=
  (wSet 3 (wBin opMod (wCall opInt (wACons (wBin opAdd (wBin opMul (wV 3) (wV 3)) (wC (.int 1442695040888963407))) wANil)) (wV 2)))
@[simp] def t_law_draw_1 : WS :=
  (wSeq (wSet 3 (wBin opMod (wCall opInt (wACons (wBin opAdd (wBin opAdd (wBin opMul (wV 3) (wV 3)) (wBin opMul (wC (.int 1181783497276652981)) (wV 3))) (wC (.int 2049848353892358983))) wANil)) (wV 2)))
  t_law_draw_0)
@[simp] def t_law_draw_2 : WS :=
  (wTSet 0 (wV 3))
@[simp] def t_law_draw_3 : WS :=
  (wSeq (wTSet 0 (wBin opAdd (wTk 0) (wC (.int 1))))
  t_law_draw_2)
@[simp] def t_law_draw_4 : WS :=
  (wSeq (wIfS (wOr (wTest (wBin opGe (wTk 0) (wCall opLen (wACons (wT0 0) wANil)))) (wTest (wBin opLt (wV 3) (wBin opPow (wC (.int 10)) (wC (.int 18)))))) (wSeq (wSet 3 (wBin opMod (wCall opInt (wACons (wBin opAdd (wV 3) (wBin opMul (wC (.int 1000003)) (wTk 0))) wANil)) (wV 2)))
  t_law_draw_1) wNext)
  t_law_draw_3)
@[simp] def t_law_draw_5 : WS :=
  (wSeq (wIfS (wTest (wBin opGt (wCall opLen (wACons (wT0 0) wANil)) (wC (.int 0)))) (wSet 3 (wBin opIx (wT0 0) (wBin opMod (wCall opInt (wACons (wTk 0) wANil)) (wCall opLen (wACons (wT0 0) wANil))))) wNext)
  t_law_draw_4)
@[simp] def t_law_draw_6 : WS :=
  (wRet (wV 4))
@[simp] def t_law_draw_7 : WS :=
  (wSeq (wTSet 0 (wBin opFdiv (wTk 0) (wV 1)))
  t_law_draw_6)
@[simp] def t_law_draw_8 : WS :=
  (wSeq (wSet 4 (wBin opMod (wCall opInt (wACons (wTk 0) wANil)) (wV 1)))
  t_law_draw_7)
@[simp] def t_law_draw_9 : WS :=
  (wSeq (wIfS (wTest (wBin opLt (wTk 0) (wV 1))) (wSeq (wSet 3 (wC (.int 0)))
  t_law_draw_5) wNext)
  t_law_draw_8)
def w_law_draw : WF := fun ds Φ => ∀ ns : List Int, ns.length ≤ 1000 → wRunTn 5 (some ns)
  (wSeq (wSet 2 (wC (.int 2305843009213693951)))
  t_law_draw_9) ds Φ
theorem df_law_draw0 {f : Addr} {fd : FuncData} (F : FunD K "_law_draw" "_law_draw" (defArgs s_law_draw) (defBody s_law_draw) (defScope s_law_draw) [] [] f fd) (g : mg "_law_draw" = some (.ref f)) (B : Bt mg) : Dt P w K mg base "_law_draw" 1 1 w_law_draw :=
  Dt.mkn F g sc_law_draw rfl (fun _ _ _ _ _ _ us hl => match us, hl with | [_, _], _ => rfl) fun tp cdv A outer s H E hr =>
    (mss_cons (ms_set 2 sc_law_draw.nd md_int)
    (mss_cons (ms_if (mt_cmp op_lt od_cmpI (md_tk 0 (.inr rfl) rfl) (md_v 1) (nomark _)) (mss_cons (ms_set 3 sc_law_draw.nd md_int)
    (mss_cons (ms_if (mt_cmp op_gt od_cmpI (md_callB (call_lenM rfl) cd_len B.b_len PySem.boot_len (ma_cons (md_t0 0 rfl) ma_nil)) md_int (nomark _)) (mss_one (ms_set 3 sc_law_draw.nd (md_ix rfl (md_t0 0 rfl) (md_bin op_mod od_mod (md_callTy call_intM cd_int B.b_int PyProof.Rows.boot_int (ma_cons (md_tk 0 (.inl rfl) rfl) ma_nil)) (md_callB (call_lenM rfl) cd_len B.b_len PySem.boot_len (ma_cons (md_t0 0 rfl) ma_nil)))))) mss_nil)
    (mss_cons (ms_if (PW.pt (mw_or (mt_cmp op_ge od_cmpI (md_tk 0 (.inl rfl) rfl) (md_callB (call_lenM rfl) cd_len B.b_len PySem.boot_len (ma_cons (md_t0 0 rfl) ma_nil)) (nomark _)) (mw_or1 (mt_cmp op_lt od_cmpI (md_v 3) (md_bin op_pow od_pow md_int md_int) (nomark _))))) (mss_cons (ms_set 3 sc_law_draw.nd (md_bin op_mod od_mod (md_callTy call_intM cd_int B.b_int PyProof.Rows.boot_int (ma_cons (md_bin (op_addM rfl) od_add (md_v 3) (md_bin (op_mulM rfl) od_mul md_int (md_tk 0 (.inl rfl) rfl))) ma_nil)) (md_v 2)))
    (mss_cons (ms_set 3 sc_law_draw.nd (md_bin op_mod od_mod (md_callTy call_intM cd_int B.b_int PyProof.Rows.boot_int (ma_cons (md_bin (op_addM rfl) od_add (md_bin (op_addM rfl) od_add (md_bin (op_mulM rfl) od_mul (md_v 3) (md_v 3)) (md_bin (op_mulM rfl) od_mul md_int (md_v 3))) md_int) ma_nil)) (md_v 2)))
    (mss_one (ms_set 3 sc_law_draw.nd (md_bin op_mod od_mod (md_callTy call_intM cd_int B.b_int PyProof.Rows.boot_int (ma_cons (md_bin (op_addM rfl) od_add (md_bin (op_mulM rfl) od_mul (md_v 3) (md_v 3)) md_int) ma_nil)) (md_v 2)))))) mss_nil)
    (mss_cons (ms_tset 0 (.inl rfl) rfl (md_bin (op_addM rfl) od_add (md_tk 0 (.inl rfl) rfl) md_int))
    (mss_one (ms_tset 0 (.inr rfl) rfl (md_v 3))))))) mss_nil)
    (mss_cons (ms_set 4 sc_law_draw.nd (md_bin op_mod od_mod (md_callTy call_intM cd_int B.b_int PyProof.Rows.boot_int (ma_cons (md_tk 0 (.inr rfl) rfl) ma_nil)) (md_v 1)))
    (mss_cons (ms_tset 0 (.inr rfl) rfl (md_bin op_fdivW od_fdiv (md_tk 0 (.inr rfl) rfl) (md_v 1)))
    (mss_one (ms_ret (md_v 4)))))))
theorem sc_law_of : FnScope ["_law_tape", "_law_some"] ["_law_tape", "_law_some"] (defScope s_law_of) := ⟨rfl, rfl, rfl, by decide +kernel, rfl, by decide +kernel, by decide +kernel⟩
def w_law_of : WF := wRunT 2
  (wRet (wBin opIx (wV 1) (wFn wDraw (wTA 0 (wACons (wCall opLen (wACons (wV 1) wANil)) wANil)))))
theorem df_law_of {f : Addr} {fd : FuncData} (F : FunD K "_law_of" "_law_of" (defArgs s_law_of) (defBody s_law_of) (defScope s_law_of) [] [] f fd) (g : mg "_law_of" = some (.ref f)) (B : Bt mg) (d_law_draw : Dt P w K mg base "_law_draw" 1 1 wDraw) : Dt P w K mg base "_law_of" 2 1 w_law_of :=
  Dt.mk' F g sc_law_of rfl (fun _ _ _ _ _ _ us hl => match us, hl with | [_, _], _ => rfl) fun tp cdv A outer s H E hr =>
    (mss_one (ms_ret (md_ix rfl (md_v 1) (md_dt rfl d_law_draw (hr.mono (by decide)) (ma_tape 0 (ma_cons (md_callB (call_lenM rfl) cd_len B.b_len PySem.boot_len (ma_cons (md_v 1) ma_nil)) ma_nil))))))
theorem sc_law_rights : FnScope ["_law_tape", "_law_some"] ["_law_tape"] (defScope s_law_rights) := ⟨rfl, rfl, rfl, by decide +kernel, rfl, by decide +kernel, by decide +kernel⟩
def w_law_rights : WF := wRunT 2
  (wSeq (wSet 1 (wL (wLst (wACons (wTup (wACons (wC (.int 6)) (wACons (wC (.int 4)) wANil))) (wACons (wTup (wACons (wC (.int 0)) (wACons (wC (.int 0)) wANil))) (wACons (wTup (wACons (wC (.int 7)) (wACons (wC (.int 7)) wANil))) (wACons (wTup (wACons (wC (.int 6)) (wACons (wC (.int 6)) wANil))) (wACons (wTup (wACons (wC (.int 7)) (wACons (wC (.int 5)) wANil))) (wACons (wTup (wACons (wC (.int 6)) (wACons (wC (.int 0)) wANil))) (wACons (wTup (wACons (wC (.int 4)) (wACons (wC (.int 0)) wANil))) (wACons (wTup (wACons (wC (.int 7)) (wACons (wC (.int 0)) wANil))) wANil)))))))))))
  (wRet (wIf (wTest (wBin opGt (wFn wDraw (wTA 0 (wACons (wC (.int 3)) wANil))) (wC (.int 0)))) (wFn w_law_of (wTA 0 (wACons (wV 1) wANil))) (wTup (wACons (wFn wDraw (wTA 0 (wACons (wC (.int 8)) wANil))) (wACons (wFn wDraw (wTA 0 (wACons (wC (.int 8)) wANil))) wANil))))))
theorem df_law_rights {f : Addr} {fd : FuncData} (F : FunD K "_law_rights" "_law_rights" (defArgs s_law_rights) (defBody s_law_rights) (defScope s_law_rights) [] [] f fd) (g : mg "_law_rights" = some (.ref f)) (B : Bt mg) (d_law_draw : Dt P w K mg base "_law_draw" 1 1 wDraw) (d_law_of : Dt P w K mg base "_law_of" 2 1 w_law_of) : Dt P w K mg base "_law_rights" 3 0 w_law_rights :=
  Dt.mk' F g sc_law_rights rfl (fun _ _ _ _ _ _ us hl => match us, hl with | [_], _ => rfl) fun tp cdv A outer s H E hr =>
    (mss_cons (ms_set 1 sc_law_rights.nd (md_ofN (mn_lst (ma_cons (md_tup (ma_cons md_int (ma_cons md_int ma_nil))) (ma_cons (md_tup (ma_cons md_int (ma_cons md_int ma_nil))) (ma_cons (md_tup (ma_cons md_int (ma_cons md_int ma_nil))) (ma_cons (md_tup (ma_cons md_int (ma_cons md_int ma_nil))) (ma_cons (md_tup (ma_cons md_int (ma_cons md_int ma_nil))) (ma_cons (md_tup (ma_cons md_int (ma_cons md_int ma_nil))) (ma_cons (md_tup (ma_cons md_int (ma_cons md_int ma_nil))) (ma_cons (md_tup (ma_cons md_int (ma_cons md_int ma_nil))) ma_nil)))))))))))
    (mss_one (ms_ret (md_if (mt_cmp op_gt od_cmpI (md_dt rfl d_law_draw (hr.mono (by decide)) (ma_tape 0 (ma_cons md_int ma_nil))) md_int (nomark _)) (md_dt rfl d_law_of (hr.mono (by decide)) (ma_tape 0 (ma_cons (md_v 1) ma_nil))) (md_tup (ma_cons (md_dt rfl d_law_draw (hr.mono (by decide)) (ma_tape 0 (ma_cons md_int ma_nil))) (ma_cons (md_dt rfl d_law_draw (hr.mono (by decide)) (ma_tape 0 (ma_cons md_int ma_nil))) ma_nil)))))))
theorem sc_law_step_of : FnScope ["_law_tape", "_law_menu", "_law_my_made", "_law_sorts", "_law_path", "_law_sort", "_law_other", "_law_word", "_law_fresh", "_law_one"] ["_law_tape", "_law_menu", "_law_my_made", "_law_sorts"] (defScope s_law_step_of) := ⟨rfl, rfl, rfl, by decide +kernel, rfl, by decide +kernel, by decide +kernel⟩
@[simp] def t_law_step_of_0 : WS :=
  (wSet 5 (wIf (wTest (wBin opEq (wV 4) (wTup (wACons (wC (.str "d")) wANil)))) (wC (.str "folder")) (wC (.str "make"))))
@[simp] def t_law_step_of_1 : WS :=
  (wRet (wIf (wTest (wBin opEq (wV 5) (wC (.str "out")))) (wTup (wACons (wC (.str "out")) (wACons (wV 4) wANil))) (wTup (wACons (wC (.str "write")) (wACons (wV 4) (wACons (wV 7) wANil))))))
@[simp] def t_law_step_of_2 : WS :=
  (wSeq (wIfS (wAnd (wTest (wBin (inD false) (wV 5) (wTup (wACons (wC (.str "move")) (wACons (wC (.str "copy")) wANil))))) (wTest (wBin opNe (wV 6) (wV 4)))) (wRet (wTup (wACons (wV 5) (wACons (wV 4) (wACons (wV 6) wANil))))) wNext)
  t_law_step_of_1)
@[simp] def t_law_step_of_3 : WS :=
  (wSeq (wIfS (wTest (wBin opEq (wV 5) (wC (.str "group")))) (wRet (wTup (wACons (wV 5) (wACons (wV 4) (wACons (wFn w_law_of (wTA 0 (wACons (wL (wLst (wACons (wC (.str "own")) (wACons (wC (.str "team")) wANil)))) wANil))) wANil))))) wNext)
  t_law_step_of_2)
@[simp] def t_law_step_of_4 : WS :=
  (wSeq (wIfS (wTest (wBin opEq (wV 5) (wC (.str "mask")))) (wRet (wTup (wACons (wV 5) (wACons (wFn w_law_rights (wTA 0 wANil)) wANil)))) wNext)
  t_law_step_of_3)
@[simp] def t_law_step_of_5 : WS :=
  (wSeq (wIfS (wTest (wBin opEq (wV 5) (wC (.str "use")))) (wRet (wTup (wACons (wV 5) (wACons (wV 4) (wACons (wV 7) wANil))))) wNext)
  t_law_step_of_4)
@[simp] def t_law_step_of_6 : WS :=
  (wSeq (wIfS (wOr (wTest (wBin (inD false) (wV 5) (wTup (wACons (wC (.str "make")) (wACons (wC (.str "rights")) wANil))))) (wAnd (wTest (wBin opEq (wV 5) (wC (.str "folder")))) (wTest (wBin opEq (wCall opLen (wACons (wV 4) wANil)) (wC (.int 1)))))) (wRet (wTup (wACons (wV 5) (wACons (wV 4) (wACons (wFn w_law_rights (wTA 0 wANil)) wANil))))) wNext)
  t_law_step_of_5)
@[simp] def t_law_step_of_7 : WS :=
  (wSeq (wIfS (wAnd (wTest (wBin opNe (wV 8) (wL (wLst wANil)))) (wOr (wTest (wBin opEq (wV 2) (wL (wLst wANil)))) (wTest (wBin opEq (wV 5) (wC (.str "make")))))) (wSeq (wSet 4 (wIf (wTest (wBin opGt (wFn wDraw (wTA 0 (wACons (wC (.int 3)) wANil))) (wC (.int 0)))) (wBin opIx (wV 8) (wC (.int 0))) (wFn w_law_of (wTA 0 (wACons (wV 8) wANil)))))
  t_law_step_of_0) wNext)
  t_law_step_of_6)
@[simp] def t_law_step_of_8 : WS :=
  (wSeq (wSet 8 (wL (wComp (wiSeq (wV 1)) (([("_law_one", 9)] : List (Str × Nat)).map (·.2)) (wgV 9) (wTest (wBin (inD true) (wV 9) (wV 2))) (wV 9))))
  t_law_step_of_7)
@[simp] def t_law_step_of_9 : WS :=
  (wSeq (wPar 6 7 (wFn w_law_of (wTA 0 (wACons (wV 1) wANil))) (wFn w_law_of (wTA 0 (wACons (wL (wLst (wACons (wC (.str "key")) (wACons (wC (.str "go")) wANil)))) wANil))))
  t_law_step_of_8)
def w_law_step_of : WF := wRunT 10
  (wSeq (wPar 4 5 (wFn w_law_of (wTA 0 (wACons (wIf (wAnd (wTest (wBin opNe (wV 2) (wL (wLst wANil)))) (wTest (wBin opGt (wFn wDraw (wTA 0 (wACons (wC (.int 3)) wANil))) (wC (.int 0))))) (wV 2) (wV 1)) wANil))) (wFn w_law_of (wTA 0 (wACons (wV 3) wANil))))
  t_law_step_of_9)
theorem df_law_step_of {f : Addr} {fd : FuncData} (F : FunD K "_law_step_of" "_law_step_of" (defArgs s_law_step_of) (defBody s_law_step_of) (defScope s_law_step_of) [] [] f fd) (g : mg "_law_step_of" = some (.ref f)) (B : Bt mg) (d_law_of : Dt P w K mg base "_law_of" 2 1 w_law_of) (d_law_draw : Dt P w K mg base "_law_draw" 1 1 wDraw) (d_law_rights : Dt P w K mg base "_law_rights" 3 0 w_law_rights) : Dt P w K mg base "_law_step_of" 4 3 w_law_step_of :=
  Dt.mk' F g sc_law_step_of rfl (fun _ _ _ _ _ _ us hl => match us, hl with | [_, _, _, _], _ => rfl) fun tp cdv A outer s H E hr =>
    (mss_cons (ms_par 4 5 rfl sc_law_step_of.nd (md_dt rfl d_law_of (hr.mono (by decide)) (ma_tape 0 (ma_cons (md_if (PW.pt (mw_and (mt_cmp (op_neM rfl hr.units) od_ne (md_v 2) (md_ofN (mn_lst ma_nil)) (nomark _)) (mw_and1 (mt_cmp op_gt od_cmpI (md_dt rfl d_law_draw (hr.mono (by decide)) (ma_tape 0 (ma_cons md_int ma_nil))) md_int (nomark _))))) (md_v 2) (md_v 1)) ma_nil))) (md_dt rfl d_law_of (hr.mono (by decide)) (ma_tape 0 (ma_cons (md_v 3) ma_nil))))
    (mss_cons (ms_par 6 7 rfl sc_law_step_of.nd (md_dt rfl d_law_of (hr.mono (by decide)) (ma_tape 0 (ma_cons (md_v 1) ma_nil))) (md_dt rfl d_law_of (hr.mono (by decide)) (ma_tape 0 (ma_cons (md_ofN (mn_lst (ma_cons md_str (ma_cons md_str ma_nil)))) ma_nil))))
    (mss_cons (ms_lc 8 (ms_lcRaw 8 rfl sc_law_step_of.nd (mi_seq rfl (md_v 1)) (blkOk_by (own := [("_law_one", 9)]) (N := ["_law_tape", "_law_menu", "_law_my_made", "_law_sorts", "_law_path", "_law_sort", "_law_other", "_law_word", "_law_fresh", "_law_one"]) (sc := (defScope s_law_step_of)) (by decide +kernel)) (fun _ _ _ _ _ => (mg_v 9 sc_law_step_of.nd)) (fun _ _ _ _ _ => (mts_one (mt_cmp (op_notInM rfl hr.units) od_in (md_v 9) (md_v 2) (by with_unfolding_all rfl)))) (fun _ _ _ _ _ => (md_v 9))))
    (mss_cons (ms_if (PW.pt (mw_and (mt_cmp (op_neM rfl hr.units) od_ne (md_v 8) (md_ofN (mn_lst ma_nil)) (nomark _)) (mw_and1 (PW.pt (mw_or (mt_cmp (op_eqM rfl hr.units) od_eq (md_v 2) (md_ofN (mn_lst ma_nil)) (nomark _)) (mw_or1 (mt_cmp (op_eqM rfl hr.units) od_eq (md_v 5) md_str (nomark _)))))))) (mss_cons (ms_set 4 sc_law_step_of.nd (md_if (mt_cmp op_gt od_cmpI (md_dt rfl d_law_draw (hr.mono (by decide)) (ma_tape 0 (ma_cons md_int ma_nil))) md_int (nomark _)) (md_ix rfl (md_v 8) md_int) (md_dt rfl d_law_of (hr.mono (by decide)) (ma_tape 0 (ma_cons (md_v 8) ma_nil)))))
    (mss_one (ms_set 5 sc_law_step_of.nd (md_if (mt_cmp (op_eqM rfl hr.units) od_eq (md_v 4) (md_tup (ma_cons md_str ma_nil)) (nomark _)) md_str md_str)))) mss_nil)
    (mss_cons (ms_if (PW.pt (mw_or (mt_cmp (op_inM rfl hr.units) od_in (md_v 5) (md_tup (ma_cons md_str (ma_cons md_str ma_nil))) (by with_unfolding_all rfl)) (mw_or1 (PW.pt (mw_and (mt_cmp (op_eqM rfl hr.units) od_eq (md_v 5) md_str (nomark _)) (mw_and1 (mt_cmp (op_eqM rfl hr.units) od_eq (md_callB (call_lenM rfl) cd_len B.b_len PySem.boot_len (ma_cons (md_v 4) ma_nil)) md_int (nomark _)))))))) (mss_one (ms_ret (md_tup (ma_cons (md_v 5) (ma_cons (md_v 4) (ma_cons (md_dt rfl d_law_rights (hr.mono (by decide)) (ma_tape 0 ma_nil)) ma_nil)))))) mss_nil)
    (mss_cons (ms_if (mt_cmp (op_eqM rfl hr.units) od_eq (md_v 5) md_str (nomark _)) (mss_one (ms_ret (md_tup (ma_cons (md_v 5) (ma_cons (md_v 4) (ma_cons (md_v 7) ma_nil)))))) mss_nil)
    (mss_cons (ms_if (mt_cmp (op_eqM rfl hr.units) od_eq (md_v 5) md_str (nomark _)) (mss_one (ms_ret (md_tup (ma_cons (md_v 5) (ma_cons (md_dt rfl d_law_rights (hr.mono (by decide)) (ma_tape 0 ma_nil)) ma_nil))))) mss_nil)
    (mss_cons (ms_if (mt_cmp (op_eqM rfl hr.units) od_eq (md_v 5) md_str (nomark _)) (mss_one (ms_ret (md_tup (ma_cons (md_v 5) (ma_cons (md_v 4) (ma_cons (md_dt rfl d_law_of (hr.mono (by decide)) (ma_tape 0 (ma_cons (md_ofN (mn_lst (ma_cons md_str (ma_cons md_str ma_nil)))) ma_nil))) ma_nil)))))) mss_nil)
    (mss_cons (ms_if (PW.pt (mw_and (mt_cmp (op_inM rfl hr.units) od_in (md_v 5) (md_tup (ma_cons md_str (ma_cons md_str ma_nil))) (by with_unfolding_all rfl)) (mw_and1 (mt_cmp (op_neM rfl hr.units) od_ne (md_v 6) (md_v 4) (nomark _))))) (mss_one (ms_ret (md_tup (ma_cons (md_v 5) (ma_cons (md_v 4) (ma_cons (md_v 6) ma_nil)))))) mss_nil)
    (mss_one (ms_ret (md_if (mt_cmp (op_eqM rfl hr.units) od_eq (md_v 5) md_str (nomark _)) (md_tup (ma_cons md_str (ma_cons (md_v 4) ma_nil))) (md_tup (ma_cons md_str (ma_cons (md_v 4) (ma_cons (md_v 7) ma_nil))))))))))))))))
theorem sc_law_script : FnScope ["_law_tape", "_law_most", "_law_sorts", "_law_menu", "_law_my_made", "_law_my_found", "_law_turn", "_law_step"] ["_law_tape", "_law_most", "_law_sorts", "_law_menu"] (defScope s_law_script) := ⟨rfl, rfl, rfl, by decide +kernel, rfl, by decide +kernel, by decide +kernel⟩
@[simp] def t_law_script_0 : WS :=
  (wIfS (wAnd (wTest (wBin (inD false) (wBin opIx (wV 7) (wC (.int 0))) (wTup (wACons (wC (.str "make")) (wACons (wC (.str "folder")) (wACons (wC (.str "write")) wANil)))))) (wTest (wBin (inD true) (wBin opIx (wV 7) (wC (.int 1))) (wV 4)))) (wSet 4 (wBin opAdd (wV 4) (wL (wLst (wACons (wBin opIx (wV 7) (wC (.int 1))) wANil))))) wNext)
@[simp] def t_law_script_1 : WS :=
  (wSeq (wSet 5 (wBin opAdd (wV 5) (wTup (wACons (wV 7) wANil))))
  t_law_script_0)
@[simp] def t_law_script_2 : WS :=
  (wRet (wV 5))
@[simp] def t_law_script_3 : WS :=
  (wSeq (wFor (wiR1 (wBin opAdd (wC (.int 1)) (wFn wDraw (wTA 0 (wACons (wV 1) wANil))))) (wgV 6) (wSeq (wSet 7 (wFn w_law_step_of (wTA 0 (wACons (wV 3) (wACons (wV 4) (wACons (wV 2) wANil))))))
  t_law_script_1))
  t_law_script_2)
def w_law_script : WF := wRunT 8
  (wSeq (wPar 4 5 (wL (wLst wANil)) (wTup wANil))
  t_law_script_3)
theorem df_law_script {f : Addr} {fd : FuncData} (F : FunD K "_law_script" "_law_script" (defArgs s_law_script) (defBody s_law_script) (defScope s_law_script) [] [] f fd) (g : mg "_law_script" = some (.ref f)) (B : Bt mg) (d_law_draw : Dt P w K mg base "_law_draw" 1 1 wDraw) (d_law_step_of : Dt P w K mg base "_law_step_of" 4 3 w_law_step_of) : Dt P w K mg base "_law_script" 5 3 w_law_script :=
  Dt.mk' F g sc_law_script rfl (fun _ _ _ _ _ _ us hl => match us, hl with | [_, _, _, _], _ => rfl) fun tp cdv A outer s H E hr =>
    (mss_cons (ms_par 4 5 rfl sc_law_script.nd (md_ofN (mn_lst ma_nil)) (md_tup ma_nil))
    (mss_cons (ms_for PassesOwn.never rfl (mi_range1 B.b_range (md_bin (op_addM rfl) od_add md_int (md_dt rfl d_law_draw (hr.mono (by decide)) (ma_tape 0 (ma_cons (md_v 1) ma_nil))))) (mg_v 6 sc_law_script.nd) (mss_cons (ms_set 7 sc_law_script.nd (md_dt rfl d_law_step_of (hr.mono (by decide)) (ma_tape 0 (ma_cons (md_v 3) (ma_cons (md_v 4) (ma_cons (md_v 2) ma_nil))))))
    (mss_cons (ms_set 5 sc_law_script.nd (md_bin (op_addM rfl) od_add (md_v 5) (md_tup (ma_cons (md_v 7) ma_nil))))
    (mss_one (ms_if (PW.pt (mw_and (mt_cmp (op_inM rfl hr.units) od_in (md_ix rfl (md_v 7) md_int) (md_tup (ma_cons md_str (ma_cons md_str (ma_cons md_str ma_nil)))) (by with_unfolding_all rfl)) (mw_and1 (mt_cmp (op_notInM rfl hr.units) od_in (md_ix rfl (md_v 7) md_int) (md_v 4) (by with_unfolding_all rfl))))) (mss_one (ms_set 4 sc_law_script.nd (md_bin (op_addM rfl) od_add (md_v 4) (md_ofN (mn_lst (ma_cons (md_ix rfl (md_v 7) md_int) ma_nil)))))) mss_nil)))))
    (mss_one (ms_ret (md_v 5)))))
theorem sc_is_name : FnScope ["value", "sign"] ["value"] (defScope s_is_name) := ⟨rfl, rfl, rfl, by decide +kernel, rfl, by decide +kernel, by decide +kernel⟩
def w_is_name : WF := wRun 2
  (wSeq (wIfS (wOr (wNot (wTest (wUn (opIsi .str) (wV 0)))) (wNot (wTest (wChain opLe opLe (wC (.int 1)) (wCall opLen (wACons (wV 0) wANil)) (wC (.int 8)))))) (wRet (wC (.bool false))) wNext)
  (wRet (wBin opEq (wL (wComp (wiSeq (wV 0)) (([("sign", 1)] : List (Str × Nat)).map (·.2)) (wgV 1) (wTest (wBin (inD true) (wV 1) (wC (.str "abcdefghijklmnopqrstuvwxyz")))) (wV 1))) (wL (wLst wANil)))))
theorem df_is_name {f : Addr} {fd : FuncData} (F : FunD K "is_name" "is_name" (defArgs s_is_name) (defBody s_is_name) (defScope s_is_name) [] [] f fd) (g : mg "is_name" = some (.ref f)) (B : Bt mg) : Df P w K mg base "is_name" 1 1 w_is_name :=
  Df.mk' F g sc_is_name (fun _ _ _ _ _ _ us hl => match us, hl with | [_], _ => rfl) fun cdv A outer s H E hr =>
    (mss_cons (ms_if (PW.pt (mw_or (mt_not (mt_val (md_isi .str rfl B.b_isinstance boot_isinstance (md_v 0) (pe_bltn (v := .ty "str") (by rfl) B.b_str (by decide +kernel) (show Value.type "str" = Value.type "str" from rfl))))) (mw_or1 (mt_not (mt_chain op_le od_cmpI op_le od_cmpI md_int (md_callB (call_lenM rfl) cd_len B.b_len PySem.boot_len (ma_cons (md_v 0) ma_nil)) md_int))))) (mss_one (ms_ret md_bl)) mss_nil)
    (mss_one (ms_ret (md_cmp (op_eqM rfl hr.units) od_eq (md_ofN (mn_lc rfl sc_is_name.nd (mi_seq rfl (md_v 0)) (blkOk_by (own := [("sign", 1)]) (N := ["value", "sign"]) (sc := (defScope s_is_name)) (by decide +kernel)) (fun _ _ _ _ _ => (mg_v 1 sc_is_name.nd)) (fun _ _ _ _ _ => (mts_one (mt_cmp (op_notInM rfl hr.units) od_in (md_v 1) md_str (by with_unfolding_all rfl)))) (fun _ _ _ _ _ => (md_v 1)))) (md_ofN (mn_lst ma_nil)) (nomark _)))))
theorem sc_is_path : FnScope ["value", "name"] ["value"] (defScope s_is_path) := ⟨rfl, rfl, rfl, by decide +kernel, rfl, by decide +kernel, by decide +kernel⟩
def w_is_path : WF := wRun 2
  (wSeq (wIfS (wOr (wNot (wTest (wUn (opIsi .tuple) (wV 0)))) (wNot (wTest (wChain opLe opLe (wC (.int 1)) (wCall opLen (wACons (wV 0) wANil)) (wC (.int 2)))))) (wRet (wC (.bool false))) wNext)
  (wRet (wBin opEq (wL (wComp (wiSeq (wV 0)) (([("name", 1)] : List (Str × Nat)).map (·.2)) (wgV 1) (wNot (wTest (wFn w_is_name (wACons (wV 1) wANil)))) (wV 1))) (wL (wLst wANil)))))
theorem df_is_path {f : Addr} {fd : FuncData} (F : FunD K "is_path" "is_path" (defArgs s_is_path) (defBody s_is_path) (defScope s_is_path) [] [] f fd) (g : mg "is_path" = some (.ref f)) (B : Bt mg) (d_is_name : Df P w K mg base "is_name" 1 1 w_is_name) : Df P w K mg base "is_path" 2 1 w_is_path :=
  Df.mk' F g sc_is_path (fun _ _ _ _ _ _ us hl => match us, hl with | [_], _ => rfl) fun cdv A outer s H E hr =>
    (mss_cons (ms_if (PW.pt (mw_or (mt_not (mt_val (md_isi .tuple rfl B.b_isinstance boot_isinstance (md_v 0) (pe_bltn (v := .ty "tuple") (by rfl) B.b_tuple (by decide +kernel) (show Value.type "tuple" = Value.type "tuple" from rfl))))) (mw_or1 (mt_not (mt_chain op_le od_cmpI op_le od_cmpI md_int (md_callB (call_lenM rfl) cd_len B.b_len PySem.boot_len (ma_cons (md_v 0) ma_nil)) md_int))))) (mss_one (ms_ret md_bl)) mss_nil)
    (mss_one (ms_ret (md_cmp (op_eqM rfl hr.units) od_eq (md_ofN (mn_lc rfl sc_is_path.nd (mi_seq rfl (md_v 0)) (blkOk_by (own := [("name", 1)]) (N := ["value", "name"]) (sc := (defScope s_is_path)) (by decide +kernel)) (fun _ _ _ _ _ => (mg_v 1 sc_is_path.nd)) (fun _ _ _ _ _ => (mts_one (mt_not (mt_val (md_df rfl d_is_name (hr.mono (by decide)) (ma_cons (md_v 1) ma_nil)))))) (fun _ _ _ _ _ => (md_v 1)))) (md_ofN (mn_lst ma_nil)) (nomark _)))))
theorem sc_paths_of : FnScope ["script", "found", "step", "item", "path"] ["script"] (defScope s_paths_of) := ⟨rfl, rfl, rfl, by decide +kernel, rfl, by decide +kernel, by decide +kernel⟩
def w_paths_of : WF := wRun 5
  (wSeq (wSet 1 (wL (wComp2 (wiSeq (wV 0)) (([("step", 2), ("item", 3)] : List (Str × Nat)).map (·.2)) (wgV 2) wYes (wiSeq (wSl (wV 2) (wOSo (wC (.int 1))) wONo)) [3] (wgV 3) (wTest (wFn w_is_path (wACons (wV 3) wANil))) (wV 3))))
  (wRet (wL (wSSet (wBin opAdd (wV 1) (wL (wComp (wiSeq (wV 1)) (([("path", 4)] : List (Str × Nat)).map (·.2)) (wgV 4) wYes (wSl (wV 4) wONo (wOSo (wC (.int 1)))))))))))
theorem df_paths_of {f : Addr} {fd : FuncData} (F : FunD K "paths_of" "paths_of" (defArgs s_paths_of) (defBody s_paths_of) (defScope s_paths_of) [] [] f fd) (g : mg "paths_of" = some (.ref f)) (B : Bt mg) (d_is_path : Df P w K mg base "is_path" 2 1 w_is_path) : Df P w K mg base "paths_of" 3 1 w_paths_of :=
  Df.mk' F g sc_paths_of (fun _ _ _ _ _ _ us hl => match us, hl with | [_], _ => rfl) fun cdv A outer s H E hr =>
    (mss_cons (ms_lc 1 (ms_lc2Raw (vs1 := [3]) 1 rfl sc_paths_of.nd (mi_seq rfl (md_v 0)) (blkOk_by (own := [("step", 2), ("item", 3)]) (N := ["script", "found", "step", "item", "path"]) (sc := (defScope s_paths_of)) (by decide +kernel)) (fun _ _ _ _ _ => (mg_v 2 sc_paths_of.nd)) (fun _ _ _ _ _ => mts_nil) (fun _ _ _ _ _ => (mi_seq rfl (md_sl rfl (md_v 2) (mo_some md_int) mo_none))) (fun _ _ _ _ _ => (mg_v 3 sc_paths_of.nd)) (fun _ _ _ _ _ => (mts_one (mt_val (md_df rfl d_is_path (hr.mono (by decide)) (ma_cons (md_v 3) ma_nil))))) (fun _ _ _ _ _ => (md_v 3))))
    (mss_one (ms_ret (md_ofN (mn_sortset rfl rfl hr.units B.b_sorted B.b_set (md_bin (op_addM rfl) od_add (md_v 1) (md_ofN (mn_lc rfl sc_paths_of.nd (mi_seq rfl (md_v 1)) (blkOk_by (own := [("path", 4)]) (N := ["script", "found", "step", "item", "path"]) (sc := (defScope s_paths_of)) (by decide +kernel)) (fun _ _ _ _ _ => (mg_v 4 sc_paths_of.nd)) (fun _ _ _ _ _ => mts_nil) (fun _ _ _ _ _ => (md_sl rfl (md_v 4) mo_none (mo_some md_int)))))))))))
theorem sc_is_number : FnScope ["value", "low", "high"] ["value", "low", "high"] (defScope s_is_number) := ⟨rfl, rfl, rfl, by decide +kernel, rfl, by decide +kernel, by decide +kernel⟩
def w_is_number : WF := wRun 3
  (wRet (wAndV (wUn (opIsi .int) (wV 0)) (wAndV (wNotV (wUn (opIsi .bool) (wV 0))) (wChain opLe opLe (wV 1) (wV 0) (wV 2)))))
theorem df_is_number {f : Addr} {fd : FuncData} (F : FunD K "is_number" "is_number" (defArgs s_is_number) (defBody s_is_number) (defScope s_is_number) [] [] f fd) (g : mg "is_number" = some (.ref f)) (B : Bt mg) : Df P w K mg base "is_number" 1 3 w_is_number :=
  Df.mk' F g sc_is_number (fun _ _ _ _ _ _ us hl => match us, hl with | [_, _, _], _ => rfl) fun cdv A outer s H E hr =>
    (mss_one (ms_ret (md_and (md_isi .int rfl B.b_isinstance boot_isinstance (md_v 0) (pe_bltn (v := .ty "int") (by rfl) B.b_int (by decide +kernel) (show Value.type "int" = Value.type "int" from rfl))) (md_and (md_not (md_isi .bool rfl B.b_isinstance boot_isinstance (md_v 0) (pe_bltn (v := .ty "bool") (by rfl) B.b_bool (by decide +kernel) (show Value.type "bool" = Value.type "bool" from rfl)))) (md_one (md_chain op_le od_cmpI op_le od_cmpI (md_v 1) (md_v 0) (md_v 2)))))))
theorem sc_is_rights : FnScope ["value"] ["value"] (defScope s_is_rights) := ⟨rfl, rfl, rfl, by decide +kernel, rfl, by decide +kernel, by decide +kernel⟩
def w_is_rights : WF := wRun 1
  (wRet (wAndV (wUn (opIsi .tuple) (wV 0)) (wAndV (wBin opEq (wCall opLen (wACons (wV 0) wANil)) (wC (.int 2))) (wAndV (wFn w_is_number (wACons (wBin opIx (wV 0) (wC (.int 0))) (wACons (wC (.int 0)) (wACons (wC (.int 7)) wANil)))) (wFn w_is_number (wACons (wBin opIx (wV 0) (wC (.int 1))) (wACons (wC (.int 0)) (wACons (wC (.int 7)) wANil))))))))
theorem df_is_rights {f : Addr} {fd : FuncData} (F : FunD K "is_rights" "is_rights" (defArgs s_is_rights) (defBody s_is_rights) (defScope s_is_rights) [] [] f fd) (g : mg "is_rights" = some (.ref f)) (B : Bt mg) (d_is_number : Df P w K mg base "is_number" 1 3 w_is_number) : Df P w K mg base "is_rights" 2 1 w_is_rights :=
  Df.mk' F g sc_is_rights (fun _ _ _ _ _ _ us hl => match us, hl with | [_], _ => rfl) fun cdv A outer s H E hr =>
    (mss_one (ms_ret (md_and (md_isi .tuple rfl B.b_isinstance boot_isinstance (md_v 0) (pe_bltn (v := .ty "tuple") (by rfl) B.b_tuple (by decide +kernel) (show Value.type "tuple" = Value.type "tuple" from rfl))) (md_and (md_cmp (op_eqM rfl hr.units) od_eq (md_callB (call_lenM rfl) cd_len B.b_len PySem.boot_len (ma_cons (md_v 0) ma_nil)) md_int (nomark _)) (md_and (md_df rfl d_is_number (hr.mono (by decide)) (ma_cons (md_ix rfl (md_v 0) md_int) (ma_cons md_int (ma_cons md_int ma_nil)))) (md_one (md_df rfl d_is_number (hr.mono (by decide)) (ma_cons (md_ix rfl (md_v 0) md_int) (ma_cons md_int (ma_cons md_int ma_nil))))))))))
theorem sc_is_group : FnScope ["value"] ["value"] (defScope s_is_group) := ⟨rfl, rfl, rfl, by decide +kernel, rfl, by decide +kernel, by decide +kernel⟩
def w_is_group : WF := wRun 1
  (wRet (wAndV (wUn (opIsi .str) (wV 0)) (wBin (inD false) (wV 0) (wC (.tuple [(.str "own"), (.str "team")])))))
theorem df_is_group {f : Addr} {fd : FuncData} (F : FunD K "is_group" "is_group" (defArgs s_is_group) (defBody s_is_group) (defScope s_is_group) [] [] f fd) (g : mg "is_group" = some (.ref f)) (B : Bt mg) (c_GROUPS : CtT K mg "GROUPS" [(.str "own"), (.str "team")]) : Df P w K mg base "is_group" 1 1 w_is_group :=
  Df.mk' F g sc_is_group (fun _ _ _ _ _ _ us hl => match us, hl with | [_], _ => rfl) fun cdv A outer s H E hr =>
    (mss_one (ms_ret (md_and (md_isi .str rfl B.b_isinstance boot_isinstance (md_v 0) (pe_bltn (v := .ty "str") (by rfl) B.b_str (by decide +kernel) (show Value.type "str" = Value.type "str" from rfl))) (md_one (md_cmp (op_inM rfl hr.units) od_in (md_v 0) (md_ct c_GROUPS) (by with_unfolding_all rfl))))))
theorem sc_is_step : FnScope ["value", "word", "rest"] ["value"] (defScope s_is_step) := ⟨rfl, rfl, rfl, by decide +kernel, rfl, by decide +kernel, by decide +kernel⟩
@[simp] def t_is_step_0 : WS :=
  (wRet (wOrV (wBin opEq (wV 1) (wC (.str "out"))) (wAndV (wFn w_is_path (wACons (wBin opIx (wV 2) (wC (.int 1))) wANil)) (wBin opNe (wBin opIx (wV 2) (wC (.int 1))) (wBin opIx (wV 2) (wC (.int 0)))))))
@[simp] def t_is_step_1 : WS :=
  (wSeq (wIfS (wTest (wBin opEq (wV 1) (wC (.str "group")))) (wRet (wFn w_is_group (wACons (wBin opIx (wV 2) (wC (.int 1))) wANil))) wNext)
  t_is_step_0)
@[simp] def t_is_step_2 : WS :=
  (wSeq (wIfS (wTest (wBin (inD false) (wV 1) (wTup (wACons (wC (.str "write")) (wACons (wC (.str "use")) wANil))))) (wRet (wFn w_is_name (wACons (wBin opIx (wV 2) (wC (.int 1))) wANil))) wNext)
  t_is_step_1)
@[simp] def t_is_step_3 : WS :=
  (wSeq (wIfS (wTest (wBin (inD false) (wV 1) (wTup (wACons (wC (.str "make")) (wACons (wC (.str "folder")) (wACons (wC (.str "rights")) wANil)))))) (wRet (wFn w_is_rights (wACons (wBin opIx (wV 2) (wC (.int 1))) wANil))) wNext)
  t_is_step_2)
@[simp] def t_is_step_4 : WS :=
  (wSeq (wIfS (wOr (wNot (wTest (wFn w_is_path (wACons (wBin opIx (wV 2) (wC (.int 0))) wANil)))) (wAnd (wTest (wBin opEq (wV 1) (wC (.str "folder")))) (wTest (wBin opEq (wCall opLen (wACons (wBin opIx (wV 2) (wC (.int 0))) wANil)) (wC (.int 2)))))) (wRet (wC (.bool false))) wNext)
  t_is_step_3)
@[simp] def t_is_step_5 : WS :=
  (wSeq (wIfS (wTest (wBin opEq (wV 1) (wC (.str "mask")))) (wRet (wFn w_is_rights (wACons (wBin opIx (wV 2) (wC (.int 0))) wANil))) wNext)
  t_is_step_4)
@[simp] def t_is_step_6 : WS :=
  (wSeq (wIfS (wOr (wTest (wBin (inD true) (wV 1) (wBin opAdd (wC (.tuple [(.str "mask"), (.str "out")])) (wC (.tuple [(.str "make"), (.str "folder"), (.str "write"), (.str "rights"), (.str "group"), (.str "move"), (.str "copy"), (.str "use")]))))) (wTest (wBin opNe (wCall opLen (wACons (wV 2) wANil)) (wIf (wTest (wBin (inD false) (wV 1) (wC (.tuple [(.str "mask"), (.str "out")])))) (wC (.int 1)) (wC (.int 2)))))) (wRet (wC (.bool false))) wNext)
  t_is_step_5)
@[simp] def t_is_step_7 : WS :=
  (wSeq (wPar 1 2 (wBin opIx (wV 0) (wC (.int 0))) (wSl (wV 0) (wOSo (wC (.int 1))) wONo))
  t_is_step_6)
def w_is_step : WF := wRun 3
  (wSeq (wIfS (wOr (wNot (wTest (wUn (opIsi .tuple) (wV 0)))) (wOr (wTest (wBin opEq (wV 0) (wTup wANil))) (wNot (wTest (wUn (opIsi .str) (wBin opIx (wV 0) (wC (.int 0)))))))) (wRet (wC (.bool false))) wNext)
  t_is_step_7)
theorem df_is_step {f : Addr} {fd : FuncData} (F : FunD K "is_step" "is_step" (defArgs s_is_step) (defBody s_is_step) (defScope s_is_step) [] [] f fd) (g : mg "is_step" = some (.ref f)) (B : Bt mg) (c_ONE : CtT K mg "ONE" [(.str "mask"), (.str "out")]) (c_TWO : CtT K mg "TWO" [(.str "make"), (.str "folder"), (.str "write"), (.str "rights"), (.str "group"), (.str "move"), (.str "copy"), (.str "use")]) (d_is_rights : Df P w K mg base "is_rights" 2 1 w_is_rights) (d_is_path : Df P w K mg base "is_path" 2 1 w_is_path) (d_is_name : Df P w K mg base "is_name" 1 1 w_is_name) (d_is_group : Df P w K mg base "is_group" 1 1 w_is_group) : Df P w K mg base "is_step" 3 1 w_is_step :=
  Df.mk' F g sc_is_step (fun _ _ _ _ _ _ us hl => match us, hl with | [_], _ => rfl) fun cdv A outer s H E hr =>
    (mss_cons (ms_if (PW.pt (mw_or (mt_not (mt_val (md_isi .tuple rfl B.b_isinstance boot_isinstance (md_v 0) (pe_bltn (v := .ty "tuple") (by rfl) B.b_tuple (by decide +kernel) (show Value.type "tuple" = Value.type "tuple" from rfl))))) (mw_or (mt_cmp (op_eqM rfl hr.units) od_eq (md_v 0) (md_tup ma_nil) (nomark _)) (mw_or1 (mt_not (mt_val (md_isi .str rfl B.b_isinstance boot_isinstance (md_ix rfl (md_v 0) md_int) (pe_bltn (v := .ty "str") (by rfl) B.b_str (by decide +kernel) (show Value.type "str" = Value.type "str" from rfl))))))))) (mss_one (ms_ret md_bl)) mss_nil)
    (mss_cons (ms_par 1 2 rfl sc_is_step.nd (md_ix rfl (md_v 0) md_int) (md_sl rfl (md_v 0) (mo_some md_int) mo_none))
    (mss_cons (ms_if (PW.pt (mw_or (mt_cmp (op_notInM rfl hr.units) od_in (md_v 1) (md_bin (op_addM rfl) od_add (md_ct c_ONE) (md_ct c_TWO)) (by with_unfolding_all rfl)) (mw_or1 (mt_cmp (op_neM rfl hr.units) od_ne (md_callB (call_lenM rfl) cd_len B.b_len PySem.boot_len (ma_cons (md_v 2) ma_nil)) (md_if (mt_cmp (op_inM rfl hr.units) od_in (md_v 1) (md_ct c_ONE) (by with_unfolding_all rfl)) md_int md_int) (nomark _))))) (mss_one (ms_ret md_bl)) mss_nil)
    (mss_cons (ms_if (mt_cmp (op_eqM rfl hr.units) od_eq (md_v 1) md_str (nomark _)) (mss_one (ms_ret (md_df rfl d_is_rights (hr.mono (by decide)) (ma_cons (md_ix rfl (md_v 2) md_int) ma_nil)))) mss_nil)
    (mss_cons (ms_if (PW.pt (mw_or (mt_not (mt_val (md_df rfl d_is_path (hr.mono (by decide)) (ma_cons (md_ix rfl (md_v 2) md_int) ma_nil)))) (mw_or1 (PW.pt (mw_and (mt_cmp (op_eqM rfl hr.units) od_eq (md_v 1) md_str (nomark _)) (mw_and1 (mt_cmp (op_eqM rfl hr.units) od_eq (md_callB (call_lenM rfl) cd_len B.b_len PySem.boot_len (ma_cons (md_ix rfl (md_v 2) md_int) ma_nil)) md_int (nomark _)))))))) (mss_one (ms_ret md_bl)) mss_nil)
    (mss_cons (ms_if (mt_cmp (op_inM rfl hr.units) od_in (md_v 1) (md_tup (ma_cons md_str (ma_cons md_str (ma_cons md_str ma_nil)))) (by with_unfolding_all rfl)) (mss_one (ms_ret (md_df rfl d_is_rights (hr.mono (by decide)) (ma_cons (md_ix rfl (md_v 2) md_int) ma_nil)))) mss_nil)
    (mss_cons (ms_if (mt_cmp (op_inM rfl hr.units) od_in (md_v 1) (md_tup (ma_cons md_str (ma_cons md_str ma_nil))) (by with_unfolding_all rfl)) (mss_one (ms_ret (md_df rfl d_is_name (hr.mono (by decide)) (ma_cons (md_ix rfl (md_v 2) md_int) ma_nil)))) mss_nil)
    (mss_cons (ms_if (mt_cmp (op_eqM rfl hr.units) od_eq (md_v 1) md_str (nomark _)) (mss_one (ms_ret (md_df rfl d_is_group (hr.mono (by decide)) (ma_cons (md_ix rfl (md_v 2) md_int) ma_nil)))) mss_nil)
    (mss_one (ms_ret (md_or (md_cmp (op_eqM rfl hr.units) od_eq (md_v 1) md_str (nomark _)) (md_one (md_and (md_df rfl d_is_path (hr.mono (by decide)) (ma_cons (md_ix rfl (md_v 2) md_int) ma_nil)) (md_one (md_cmp (op_neM rfl hr.units) od_ne (md_ix rfl (md_v 2) md_int) (md_ix rfl (md_v 2) md_int) (nomark _))))))))))))))))
theorem sc_is_script : FnScope ["value", "step"] ["value"] (defScope s_is_script) := ⟨rfl, rfl, rfl, by decide +kernel, rfl, by decide +kernel, by decide +kernel⟩
def w_is_script : WF := wRun 2
  (wSeq (wIfS (wOr (wNot (wTest (wUn (opIsi .tuple) (wV 0)))) (wOr (wTest (wBin opGt (wCall opLen (wACons (wV 0) wANil)) (wC (.int 8)))) (wTest (wBin opNe (wL (wComp (wiSeq (wV 0)) (([("step", 1)] : List (Str × Nat)).map (·.2)) (wgV 1) (wNot (wTest (wFn w_is_step (wACons (wV 1) wANil)))) (wV 1))) (wL (wLst wANil)))))) (wRet (wC (.bool false))) wNext)
  (wRet (wBin opLe (wCall opLen (wACons (wFn w_paths_of (wACons (wV 0) wANil)) wANil)) (wC (.int 5)))))
theorem df_is_script {f : Addr} {fd : FuncData} (F : FunD K "is_script" "is_script" (defArgs s_is_script) (defBody s_is_script) (defScope s_is_script) [] [] f fd) (g : mg "is_script" = some (.ref f)) (B : Bt mg) (d_is_step : Df P w K mg base "is_step" 3 1 w_is_step) (d_paths_of : Df P w K mg base "paths_of" 3 1 w_paths_of) : Df P w K mg base "is_script" 4 1 w_is_script :=
  Df.mk' F g sc_is_script (fun _ _ _ _ _ _ us hl => match us, hl with | [_], _ => rfl) fun cdv A outer s H E hr =>
    (mss_cons (ms_if (PW.pt (mw_or (mt_not (mt_val (md_isi .tuple rfl B.b_isinstance boot_isinstance (md_v 0) (pe_bltn (v := .ty "tuple") (by rfl) B.b_tuple (by decide +kernel) (show Value.type "tuple" = Value.type "tuple" from rfl))))) (mw_or (mt_cmp op_gt od_cmpI (md_callB (call_lenM rfl) cd_len B.b_len PySem.boot_len (ma_cons (md_v 0) ma_nil)) md_int (nomark _)) (mw_or1 (mt_cmp (op_neM rfl hr.units) od_ne (md_ofN (mn_lc rfl sc_is_script.nd (mi_seq rfl (md_v 0)) (blkOk_by (own := [("step", 1)]) (N := ["value", "step"]) (sc := (defScope s_is_script)) (by decide +kernel)) (fun _ _ _ _ _ => (mg_v 1 sc_is_script.nd)) (fun _ _ _ _ _ => (mts_one (mt_not (mt_val (md_df rfl d_is_step (hr.mono (by decide)) (ma_cons (md_v 1) ma_nil)))))) (fun _ _ _ _ _ => (md_v 1)))) (md_ofN (mn_lst ma_nil)) (nomark _)))))) (mss_one (ms_ret md_bl)) mss_nil)
    (mss_one (ms_ret (md_cmp op_le od_cmpI (md_callB (call_lenM rfl) cd_len B.b_len PySem.boot_len (ma_cons (md_df rfl d_paths_of (hr.mono (by decide)) (ma_cons (md_v 0) ma_nil)) ma_nil)) md_int (nomark _)))))
theorem sc_check_script : FnScope ["script"] ["script"] (defScope s_check_script) := ⟨rfl, rfl, rfl, by decide +kernel, rfl, by decide +kernel, by decide +kernel⟩
def w_check_script : WF := wRun 1
  (wIfS (wNot (wTest (wFn w_is_script (wACons (wV 0) wANil)))) wNever wNext)
theorem df_check_script {f : Addr} {fd : FuncData} (F : FunD K "check_script" "check_script" (defArgs s_check_script) (defBody s_check_script) (defScope s_check_script) [] [] f fd) (g : mg "check_script" = some (.ref f)) (B : Bt mg) (d_is_script : Df P w K mg base "is_script" 4 1 w_is_script) : Df P w K mg base "check_script" 5 1 w_check_script :=
  Df.mk' F g sc_check_script (fun _ _ _ _ _ _ us hl => match us, hl with | [_], _ => rfl) fun cdv A outer s H E hr =>
    (mss_one (ms_if (mt_not (mt_val (md_df rfl d_is_script (hr.mono (by decide)) (ma_cons (md_v 0) ma_nil)))) (mss_one ms_never) mss_nil))
theorem sc_rights_text : FnScope ["rights", "flags", "number", "bit", "sign", "flag"] ["rights"] (defScope s_rights_text) := ⟨rfl, rfl, rfl, by decide +kernel, rfl, by decide +kernel, by decide +kernel⟩
def w_rights_text : WF := wRun 6
  (wSeq (wSet 1 (wL (wComp2 (wiSeq (wV 0)) (([("number", 2), ("bit", 3)] : List (Str × Nat)).map (·.2)) (wgV 2) wYes (wiSeq (wTup (wACons (wC (.int 4)) (wACons (wC (.int 2)) (wACons (wC (.int 1)) wANil))))) [3] (wgV 3) wYes (wBin opMod (wBin opFdiv (wV 2) (wV 3)) (wC (.int 2))))))
  (wRet (wBM opJoin (wC (.str "")) (wACons (wL (wComp (wiZipT (wC (.str "rwxrwx")) (wV 1)) (([("sign", 4), ("flag", 5)] : List (Str × Nat)).map (·.2)) (wgTup (wgCons (wgV 4) (wgCons (wgV 5) wgNil))) wYes (wIf (wTest (wBin opEq (wV 5) (wC (.int 1)))) (wV 4) (wC (.str "-"))))) wANil))))
theorem df_rights_text {f : Addr} {fd : FuncData} (F : FunD K "rights_text" "rights_text" (defArgs s_rights_text) (defBody s_rights_text) (defScope s_rights_text) [] [] f fd) (g : mg "rights_text" = some (.ref f)) (B : Bt mg) (c_SIGNS : CtS mg "SIGNS" "rwxrwx") : Df P w K mg base "rights_text" 1 1 w_rights_text :=
  Df.mk' F g sc_rights_text (fun _ _ _ _ _ _ us hl => match us, hl with | [_], _ => rfl) fun cdv A outer s H E hr =>
    (mss_cons (ms_lc 1 (ms_lc2Raw (vs1 := [3]) 1 rfl sc_rights_text.nd (mi_seq rfl (md_v 0)) (blkOk_by (own := [("number", 2), ("bit", 3)]) (N := ["rights", "flags", "number", "bit", "sign", "flag"]) (sc := (defScope s_rights_text)) (by decide +kernel)) (fun _ _ _ _ _ => (mg_v 2 sc_rights_text.nd)) (fun _ _ _ _ _ => mts_nil) (fun _ _ _ _ _ => (mi_seq rfl (md_tup (ma_cons md_int (ma_cons md_int (ma_cons md_int ma_nil)))))) (fun _ _ _ _ _ => (mg_v 3 sc_rights_text.nd)) (fun _ _ _ _ _ => mts_nil) (fun _ _ _ _ _ => (md_bin op_mod od_mod (md_bin op_fdivW od_fdiv (md_v 2) (md_v 3)) md_int))))
    (mss_one (ms_ret (md_bm PySem.F.slot_str_join PySem.F.type_str_join (mt_joinM rfl) bm_join md_str (ma_cons (md_ofN (mn_lc rfl sc_rights_text.nd (mi_zipT rfl B.b_zip (md_cs c_SIGNS) (md_v 1)) (blkOk_by (own := [("sign", 4), ("flag", 5)]) (N := ["rights", "flags", "number", "bit", "sign", "flag"]) (sc := (defScope s_rights_text)) (by decide +kernel)) (fun _ _ _ _ _ => (mg_tup rfl rfl (mgs_cons (mg_v 4 sc_rights_text.nd) (mgs_cons (mg_v 5 sc_rights_text.nd) mgs_nil)) (wgl_v (wgl_v wgl_nil)))) (fun _ _ _ _ _ => mts_nil) (fun _ _ _ _ _ => (md_if (mt_cmp (op_eqM rfl hr.units) od_eq (md_v 5) md_int (nomark _)) (md_v 4) md_str)))) ma_nil)))))
theorem sc_item_text : FnScope ["item"] ["item"] (defScope s_item_text) := ⟨rfl, rfl, rfl, by decide +kernel, rfl, by decide +kernel, by decide +kernel⟩
def w_item_text : WF := wRun 1
  (wSeq (wIfS (wTest (wUn (opIsi .str) (wV 0))) (wRet (wV 0)) wNext)
  (wRet (wIf (wTest (wUn (opIsi .int) (wBin opIx (wV 0) (wC (.int 0))))) (wFn w_rights_text (wACons (wV 0) wANil)) (wBM opJoin (wC (.str "/")) (wACons (wV 0) wANil)))))
theorem df_item_text {f : Addr} {fd : FuncData} (F : FunD K "item_text" "item_text" (defArgs s_item_text) (defBody s_item_text) (defScope s_item_text) [] [] f fd) (g : mg "item_text" = some (.ref f)) (B : Bt mg) (d_rights_text : Df P w K mg base "rights_text" 1 1 w_rights_text) : Df P w K mg base "item_text" 2 1 w_item_text :=
  Df.mk' F g sc_item_text (fun _ _ _ _ _ _ us hl => match us, hl with | [_], _ => rfl) fun cdv A outer s H E hr =>
    (mss_cons (ms_if (mt_val (md_isi .str rfl B.b_isinstance boot_isinstance (md_v 0) (pe_bltn (v := .ty "str") (by rfl) B.b_str (by decide +kernel) (show Value.type "str" = Value.type "str" from rfl)))) (mss_one (ms_ret (md_v 0))) mss_nil)
    (mss_one (ms_ret (md_if (mt_val (md_isi .int rfl B.b_isinstance boot_isinstance (md_ix rfl (md_v 0) md_int) (pe_bltn (v := .ty "int") (by rfl) B.b_int (by decide +kernel) (show Value.type "int" = Value.type "int" from rfl)))) (md_df rfl d_rights_text (hr.mono (by decide)) (ma_cons (md_v 0) ma_nil)) (md_bm PySem.F.slot_str_join PySem.F.type_str_join (mt_joinM rfl) bm_join md_str (ma_cons (md_v 0) ma_nil))))))
theorem sc_step_text : FnScope ["step", "item"] ["step"] (defScope s_step_text) := ⟨rfl, rfl, rfl, by decide +kernel, rfl, by decide +kernel, by decide +kernel⟩
def w_step_text : WF := wRun 2
  (wRet (wBM opJoin (wC (.str " ")) (wACons (wBin opAdd (wL (wLst (wACons (wBin opIx (wV 0) (wC (.int 0))) wANil))) (wL (wComp (wiSeq (wSl (wV 0) (wOSo (wC (.int 1))) wONo)) (([("item", 1)] : List (Str × Nat)).map (·.2)) (wgV 1) wYes (wFn w_item_text (wACons (wV 1) wANil))))) wANil)))
theorem df_step_text {f : Addr} {fd : FuncData} (F : FunD K "step_text" "step_text" (defArgs s_step_text) (defBody s_step_text) (defScope s_step_text) [] [] f fd) (g : mg "step_text" = some (.ref f)) (B : Bt mg) (d_item_text : Df P w K mg base "item_text" 2 1 w_item_text) : Df P w K mg base "step_text" 3 1 w_step_text :=
  Df.mk' F g sc_step_text (fun _ _ _ _ _ _ us hl => match us, hl with | [_], _ => rfl) fun cdv A outer s H E hr =>
    (mss_one (ms_ret (md_bm PySem.F.slot_str_join PySem.F.type_str_join (mt_joinM rfl) bm_join md_str (ma_cons (md_bin (op_addM rfl) od_add (md_ofN (mn_lst (ma_cons (md_ix rfl (md_v 0) md_int) ma_nil))) (md_ofN (mn_lc rfl sc_step_text.nd (mi_seq rfl (md_sl rfl (md_v 0) (mo_some md_int) mo_none)) (blkOk_by (own := [("item", 1)]) (N := ["step", "item"]) (sc := (defScope s_step_text)) (by decide +kernel)) (fun _ _ _ _ _ => (mg_v 1 sc_step_text.nd)) (fun _ _ _ _ _ => mts_nil) (fun _ _ _ _ _ => (md_df rfl d_item_text (hr.mono (by decide)) (ma_cons (md_v 1) ma_nil)))))) ma_nil))))
theorem sc_script_text : FnScope ["script", "step"] ["script"] (defScope s_script_text) := ⟨rfl, rfl, rfl, by decide +kernel, rfl, by decide +kernel, by decide +kernel⟩
def w_script_text : WF := wRun 2
  (wSeq (wDrop (wFn w_check_script (wACons (wV 0) wANil)))
  (wRet (wBM opJoin (wC (.str "\n")) (wACons (wL (wComp (wiSeq (wV 0)) (([("step", 1)] : List (Str × Nat)).map (·.2)) (wgV 1) wYes (wFn w_step_text (wACons (wV 1) wANil)))) wANil))))
theorem df_script_text {f : Addr} {fd : FuncData} (F : FunD K "script_text" "script_text" (defArgs s_script_text) (defBody s_script_text) (defScope s_script_text) [] [] f fd) (g : mg "script_text" = some (.ref f)) (B : Bt mg) (d_check_script : Df P w K mg base "check_script" 5 1 w_check_script) (d_step_text : Df P w K mg base "step_text" 3 1 w_step_text) : Df P w K mg base "script_text" 6 1 w_script_text :=
  Df.mk' F g sc_script_text (fun _ _ _ _ _ _ us hl => match us, hl with | [_], _ => rfl) fun cdv A outer s H E hr =>
    (mss_cons (ms_drop (md_df rfl d_check_script (hr.mono (by decide)) (ma_cons (md_v 0) ma_nil)))
    (mss_one (ms_ret (md_bm PySem.F.slot_str_join PySem.F.type_str_join (mt_joinM rfl) bm_join md_str (ma_cons (md_ofN (mn_lc rfl sc_script_text.nd (mi_seq rfl (md_v 0)) (blkOk_by (own := [("step", 1)]) (N := ["script", "step"]) (sc := (defScope s_script_text)) (by decide +kernel)) (fun _ _ _ _ _ => (mg_v 1 sc_script_text.nd)) (fun _ _ _ _ _ => mts_nil) (fun _ _ _ _ _ => (md_df rfl d_step_text (hr.mono (by decide)) (ma_cons (md_v 1) ma_nil))))) ma_nil)))))
theorem sc_law_wide_menu : FnScope ["_law_tape", "_law_menus"] ["_law_tape"] (defScope s_law_wide_menu) := ⟨rfl, rfl, rfl, by decide +kernel, rfl, by decide +kernel, by decide +kernel⟩
def w_law_wide_menu : WF := wRunT 2
  (wSeq (wSet 1 (wL (wLst (wACons (wL (wLst (wACons (wTup (wACons (wC (.str "f")) wANil)) (wACons (wTup (wACons (wC (.str "g")) wANil)) (wACons (wTup (wACons (wC (.str "h")) wANil)) wANil))))) (wACons (wL (wLst (wACons (wTup (wACons (wC (.str "d")) wANil)) (wACons (wTup (wACons (wC (.str "d")) (wACons (wC (.str "f")) wANil))) (wACons (wTup (wACons (wC (.str "g")) wANil)) wANil))))) (wACons (wL (wLst (wACons (wTup (wACons (wC (.str "d")) wANil)) (wACons (wTup (wACons (wC (.str "d")) (wACons (wC (.str "f")) wANil))) (wACons (wTup (wACons (wC (.str "d")) (wACons (wC (.str "g")) wANil))) wANil))))) wANil))))))
  (wRet (wFn w_law_of (wTA 0 (wACons (wV 1) wANil)))))
theorem df_law_wide_menu {f : Addr} {fd : FuncData} (F : FunD K "_law_wide_menu" "_law_wide_menu" (defArgs s_law_wide_menu) (defBody s_law_wide_menu) (defScope s_law_wide_menu) [] [] f fd) (g : mg "_law_wide_menu" = some (.ref f)) (B : Bt mg) (d_law_of : Dt P w K mg base "_law_of" 2 1 w_law_of) : Dt P w K mg base "_law_wide_menu" 3 0 w_law_wide_menu :=
  Dt.mk' F g sc_law_wide_menu rfl (fun _ _ _ _ _ _ us hl => match us, hl with | [_], _ => rfl) fun tp cdv A outer s H E hr =>
    (mss_cons (ms_set 1 sc_law_wide_menu.nd (md_ofN (mn_lst (ma_cons (md_ofN (mn_lst (ma_cons (md_tup (ma_cons md_str ma_nil)) (ma_cons (md_tup (ma_cons md_str ma_nil)) (ma_cons (md_tup (ma_cons md_str ma_nil)) ma_nil))))) (ma_cons (md_ofN (mn_lst (ma_cons (md_tup (ma_cons md_str ma_nil)) (ma_cons (md_tup (ma_cons md_str (ma_cons md_str ma_nil))) (ma_cons (md_tup (ma_cons md_str ma_nil)) ma_nil))))) (ma_cons (md_ofN (mn_lst (ma_cons (md_tup (ma_cons md_str ma_nil)) (ma_cons (md_tup (ma_cons md_str (ma_cons md_str ma_nil))) (ma_cons (md_tup (ma_cons md_str (ma_cons md_str ma_nil))) ma_nil))))) ma_nil))))))
    (mss_one (ms_ret (md_dt rfl d_law_of (hr.mono (by decide)) (ma_tape 0 (ma_cons (md_v 1) ma_nil))))))
theorem sc_law_bent : FnScope ["_law_tape", "_law_text", "_law_lines", "_law_at", "_law_course", "_law_parts", "_law_place", "_law_some", "_law_begin"] ["_law_tape", "_law_text"] (defScope s_law_bent) := ⟨rfl, rfl, rfl, by decide +kernel, rfl, by decide +kernel, by decide +kernel⟩
@[simp] def t_law_bent_0 : WS :=
  (wFrz 5 wNext)
@[simp] def t_law_bent_1 : WS :=
  (wFrz 5 wNext)
@[simp] def t_law_bent_2 : WS :=
  (wFrz 5 (wOSet 2 (wV 3) (wBM opJoin (wC (.str " ")) (wACons (wV 5) wANil))))
@[simp] def t_law_bent_3 : WS :=
  (wSeq (wOSet 5 (wV 6) (wFn w_law_of (wTA 0 (wACons (wV 7) wANil))))
  t_law_bent_2)
@[simp] def t_law_bent_4 : WS :=
  (wRet (wBin opAdd (wBin opAdd (wSl (wV 1) wONo (wOSo (wV 8))) (wFn w_law_of (wTA 0 (wACons (wL (wLst (wACons (wC (.str "")) (wACons (wC (.str " ")) (wACons (wC (.str "/")) (wACons (wC (.str "-")) (wACons (wC (.str "\n")) (wACons (wC (.str "q")) wANil)))))))) wANil)))) (wSl (wV 1) (wOSo (wBin opAdd (wV 8) (wFn wDraw (wTA 0 (wACons (wC (.int 2)) wANil))))) wONo)))
@[simp] def t_law_bent_5 : WS :=
  (wFrz 2 wNext)
@[simp] def t_law_bent_6 : WS :=
  (wRet (wBM opJoin (wC (.str "\n")) (wACons (wV 2) wANil)))
@[simp] def t_law_bent_7 : WS :=
  (wSeq (wIfS (wTest (wBin opEq (wV 4) (wC (.int 0)))) (wSeq (wFrz 2 (wSet 2 (wBin opAdd (wSl (wV 2) wONo (wOSo (wV 3))) (wSl (wV 2) (wOSo (wBin opAdd (wV 3) (wC (.int 1)))) wONo))))
  t_law_bent_0) (wIfS (wTest (wBin opEq (wV 4) (wC (.int 1)))) (wSeq (wFrz 2 (wSet 2 (wBin opAdd (wBin opAdd (wSl (wV 2) wONo (wOSo (wV 3))) (wL (wLst (wACons (wFn w_law_of (wTA 0 (wACons (wV 2) wANil))) (wACons (wBin opAdd (wC (.str "out ")) (wFn w_law_of (wTA 0 (wACons (wL (wLst (wACons (wC (.str "x/y")) (wACons (wC (.str "z")) (wACons (wC (.str "f")) (wACons (wC (.str "d/f")) wANil)))))) wANil)))) wANil))))) (wSl (wV 2) (wOSo (wV 3)) wONo))))
  t_law_bent_1) (wSeq (wIfS (wTest (wBin opLt (wV 4) (wC (.int 4)))) (wSeq (wSet 7 (wL (wLst (wACons (wC (.str "")) (wACons (wC (.str "f")) (wACons (wC (.str "d/f")) (wACons (wC (.str "a/b/c")) (wACons (wC (.str "rwxrwx")) (wACons (wC (.str "rw-r--")) (wACons (wC (.str "xwr---")) (wACons (wC (.str "make")) (wACons (wC (.str "use")) (wACons (wC (.str "team")) (wACons (wC (.str "F")) (wACons (wC (.str "abcdefghi")) (wACons (wC (.str "out")) wANil))))))))))))))))
  t_law_bent_3) (wIfS (wTest (wBin opEq (wV 4) (wC (.int 4)))) (wFrz 5 (wOSet 2 (wV 3) (wBM opJoin (wC (.str " ")) (wACons (wBin opAdd (wBin opAdd (wSl (wV 5) wONo (wOSo (wV 6))) (wL (wLst (wACons (wFn w_law_of (wTA 0 (wACons (wL (wLst (wACons (wC (.str "")) (wACons (wC (.str "f")) (wACons (wC (.str "x")) wANil))))) wANil))) wANil)))) (wSl (wV 5) (wOSo (wV 6)) wONo)) wANil)))) (wSeq (wSet 8 (wFn wDraw (wTA 0 (wACons (wBin opAdd (wCall opLen (wACons (wV 1) wANil)) (wC (.int 1))) wANil))))
  t_law_bent_4)))
  t_law_bent_5)))
  t_law_bent_6)
@[simp] def t_law_bent_8 : WS :=
  (wSeq (wSet 6 (wFn wDraw (wTA 0 (wACons (wOLen 5) wANil))))
  t_law_bent_7)
@[simp] def t_law_bent_9 : WS :=
  (wSeq (wSetN 5 (wBMN opSplit (wOIx 2 (wV 3)) (wACons (wC (.str " ")) wANil)))
  t_law_bent_8)
@[simp] def t_law_bent_10 : WS :=
  (wSeq (wPar 3 4 (wFn wDraw (wTA 0 (wACons (wOLen 2) wANil))) (wFn wDraw (wTA 0 (wACons (wC (.int 7)) wANil))))
  t_law_bent_9)
def w_law_bent : WF := wRunT 9
  (wSeq (wSetN 2 (wBMN opSplit (wV 1) (wACons (wC (.str "\n")) wANil)))
  t_law_bent_10)
theorem df_law_bent {f : Addr} {fd : FuncData} (F : FunD K "_law_bent" "_law_bent" (defArgs s_law_bent) (defBody s_law_bent) (defScope s_law_bent) [] [] f fd) (g : mg "_law_bent" = some (.ref f)) (B : Bt mg) (d_law_draw : Dt P w K mg base "_law_draw" 1 1 wDraw) (d_law_of : Dt P w K mg base "_law_of" 2 1 w_law_of) : Dt P w K mg base "_law_bent" 3 1 w_law_bent :=
  Dt.mk' F g sc_law_bent rfl (fun _ _ _ _ _ _ us hl => match us, hl with | [_, _], _ => rfl) fun tp cdv A outer s H E hr =>
    (mss_cons (ms_setN 2 sc_law_bent.nd (mn_bm PySem.F.slot_str_split PySem.F.type_str_split (mt_split) bm_split (md_v 1) (ma_cons md_str ma_nil)))
    (mss_cons (ms_par 3 4 rfl sc_law_bent.nd (md_dt rfl d_law_draw (hr.mono (by decide)) (ma_tape 0 (ma_cons (md_olen 2 rfl B.b_len) ma_nil))) (md_dt rfl d_law_draw (hr.mono (by decide)) (ma_tape 0 (ma_cons md_int ma_nil))))
    (mss_cons (ms_setN 5 sc_law_bent.nd (mn_bm PySem.F.slot_str_split PySem.F.type_str_split (mt_split) bm_split (md_oix 2 rfl (md_v 3)) (ma_cons md_str ma_nil)))
    (mss_cons (ms_set 6 sc_law_bent.nd (md_dt rfl d_law_draw (hr.mono (by decide)) (ma_tape 0 (ma_cons (md_olen 5 rfl B.b_len) ma_nil))))
    (mss_cons (ms_if (mt_cmp (op_eqM rfl hr.units) od_eq (md_v 4) md_int (nomark _)) (mss_cons (ms_frz 2 (ms_set 2 sc_law_bent.nd (md_bin (op_addM rfl) od_add (md_sl rfl (md_v 2) mo_none (mo_some (md_v 3))) (md_sl rfl (md_v 2) (mo_some (md_bin (op_addM rfl) od_add (md_v 3) md_int)) mo_none))))
    (mss_frz 5 mss_nil)) (mss_one (ms_if (mt_cmp (op_eqM rfl hr.units) od_eq (md_v 4) md_int (nomark _)) (mss_cons (ms_frz 2 (ms_set 2 sc_law_bent.nd (md_bin (op_addM rfl) od_add (md_bin (op_addM rfl) od_add (md_sl rfl (md_v 2) mo_none (mo_some (md_v 3))) (md_ofN (mn_lst (ma_cons (md_dt rfl d_law_of (hr.mono (by decide)) (ma_tape 0 (ma_cons (md_v 2) ma_nil))) (ma_cons (md_bin (op_addM rfl) od_add md_str (md_dt rfl d_law_of (hr.mono (by decide)) (ma_tape 0 (ma_cons (md_ofN (mn_lst (ma_cons md_str (ma_cons md_str (ma_cons md_str (ma_cons md_str ma_nil)))))) ma_nil)))) ma_nil))))) (md_sl rfl (md_v 2) (mo_some (md_v 3)) mo_none))))
    (mss_frz 5 mss_nil)) (mss_cons (ms_if (mt_cmp op_lt od_cmpI (md_v 4) md_int (nomark _)) (mss_cons (ms_set 7 sc_law_bent.nd (md_ofN (mn_lst (ma_cons md_str (ma_cons md_str (ma_cons md_str (ma_cons md_str (ma_cons md_str (ma_cons md_str (ma_cons md_str (ma_cons md_str (ma_cons md_str (ma_cons md_str (ma_cons md_str (ma_cons md_str (ma_cons md_str ma_nil))))))))))))))))
    (mss_cons (ms_oset 5 rfl (md_dt rfl d_law_of (hr.mono (by decide)) (ma_tape 0 (ma_cons (md_v 7) ma_nil))) (md_v 6))
    (mss_one (ms_frz 5 (ms_oset 2 rfl (md_bm PySem.F.slot_str_join PySem.F.type_str_join (mt_joinM rfl) bm_join md_str (ma_cons (md_v 5) ma_nil)) (md_v 3)))))) (mss_one (ms_if (mt_cmp (op_eqM rfl hr.units) od_eq (md_v 4) md_int (nomark _)) (mss_one (ms_frz 5 (ms_oset 2 rfl (md_bm PySem.F.slot_str_join PySem.F.type_str_join (mt_joinM rfl) bm_join md_str (ma_cons (md_bin (op_addM rfl) od_add (md_bin (op_addM rfl) od_add (md_sl rfl (md_v 5) mo_none (mo_some (md_v 6))) (md_ofN (mn_lst (ma_cons (md_dt rfl d_law_of (hr.mono (by decide)) (ma_tape 0 (ma_cons (md_ofN (mn_lst (ma_cons md_str (ma_cons md_str (ma_cons md_str ma_nil))))) ma_nil))) ma_nil)))) (md_sl rfl (md_v 5) (mo_some (md_v 6)) mo_none)) ma_nil)) (md_v 3)))) (mss_cons (ms_set 8 sc_law_bent.nd (md_dt rfl d_law_draw (hr.mono (by decide)) (ma_tape 0 (ma_cons (md_bin (op_addM rfl) od_add (md_callB (call_lenM rfl) cd_len B.b_len PySem.boot_len (ma_cons (md_v 1) ma_nil)) md_int) ma_nil))))
    (mss_one (ms_ret (md_bin (op_addM rfl) od_add (md_bin (op_addM rfl) od_add (md_sl rfl (md_v 1) mo_none (mo_some (md_v 8))) (md_dt rfl d_law_of (hr.mono (by decide)) (ma_tape 0 (ma_cons (md_ofN (mn_lst (ma_cons md_str (ma_cons md_str (ma_cons md_str (ma_cons md_str (ma_cons md_str (ma_cons md_str ma_nil)))))))) ma_nil)))) (md_sl rfl (md_v 1) (mo_some (md_bin (op_addM rfl) od_add (md_v 8) (md_dt rfl d_law_draw (hr.mono (by decide)) (ma_tape 0 (ma_cons md_int ma_nil))))) mo_none))))))))
    (mss_frz 2 mss_nil)))))
    (mss_one (ms_ret (md_bm PySem.F.slot_str_join PySem.F.type_str_join (mt_joinM rfl) bm_join md_str (ma_cons (md_v 2) ma_nil)))))))))
theorem sc_rights_read : FnScope ["word", "numbers", "at", "sign", "bit"] ["word"] (defScope s_rights_read) := ⟨rfl, rfl, rfl, by decide +kernel, rfl, by decide +kernel, by decide +kernel⟩
def w_rights_read : WF := wRun 5
  (wSeq (wIfS (wOr (wTest (wBin opNe (wCall opLen (wACons (wV 0) wANil)) (wC (.int 6)))) (wTest (wBin opNe (wL (wComp (wiEnum (wV 0)) (([("at", 2), ("sign", 3)] : List (Str × Nat)).map (·.2)) (wgTup (wgCons (wgV 2) (wgCons (wgV 3) wgNil))) (wTest (wBin (inD true) (wV 3) (wTup (wACons (wBin opIx (wC (.str "rwxrwx")) (wV 2)) (wACons (wC (.str "-")) wANil))))) (wV 2))) (wL (wLst wANil))))) (wRet (wC .none)) wNext)
  (wSeq (wSet 1 (wL (wComp (wiZipT (wV 0) (wTup (wACons (wC (.int 4)) (wACons (wC (.int 2)) (wACons (wC (.int 1)) (wACons (wC (.int 4)) (wACons (wC (.int 2)) (wACons (wC (.int 1)) wANil)))))))) (([("sign", 3), ("bit", 4)] : List (Str × Nat)).map (·.2)) (wgTup (wgCons (wgV 3) (wgCons (wgV 4) wgNil))) wYes (wIf (wTest (wBin opEq (wV 3) (wC (.str "-")))) (wC (.int 0)) (wV 4)))))
  (wRet (wTup (wACons (wCall opSum (wACons (wSl (wV 1) wONo (wOSo (wC (.int 3)))) wANil)) (wACons (wCall opSum (wACons (wSl (wV 1) (wOSo (wC (.int 3))) wONo) wANil)) wANil))))))
theorem df_rights_read {f : Addr} {fd : FuncData} (F : FunD K "rights_read" "rights_read" (defArgs s_rights_read) (defBody s_rights_read) (defScope s_rights_read) [] [] f fd) (g : mg "rights_read" = some (.ref f)) (B : Bt mg) (c_SIGNS : CtS mg "SIGNS" "rwxrwx") : Df P w K mg base "rights_read" 1 1 w_rights_read :=
  Df.mk' F g sc_rights_read (fun _ _ _ _ _ _ us hl => match us, hl with | [_], _ => rfl) fun cdv A outer s H E hr =>
    (mss_cons (ms_if (PW.pt (mw_or (mt_cmp (op_neM rfl hr.units) od_ne (md_callB (call_lenM rfl) cd_len B.b_len PySem.boot_len (ma_cons (md_v 0) ma_nil)) md_int (nomark _)) (mw_or1 (mt_cmp (op_neM rfl hr.units) od_ne (md_ofN (mn_lc rfl sc_rights_read.nd (mi_enum rfl B.b_enumerate (md_v 0)) (blkOk_by (own := [("at", 2), ("sign", 3)]) (N := ["word", "numbers", "at", "sign", "bit"]) (sc := (defScope s_rights_read)) (by decide +kernel)) (fun _ _ _ _ _ => (mg_tup rfl rfl (mgs_cons (mg_v 2 sc_rights_read.nd) (mgs_cons (mg_v 3 sc_rights_read.nd) mgs_nil)) (wgl_v (wgl_v wgl_nil)))) (fun _ _ _ _ _ => (mts_one (mt_cmp (op_notInM rfl hr.units) od_in (md_v 3) (md_tup (ma_cons (md_ix rfl (md_cs c_SIGNS) (md_v 2)) (ma_cons md_str ma_nil))) (by with_unfolding_all rfl)))) (fun _ _ _ _ _ => (md_v 2)))) (md_ofN (mn_lst ma_nil)) (nomark _))))) (mss_one (ms_ret md_non)) mss_nil)
    (mss_cons (ms_lc 1 (ms_lcRaw 1 rfl sc_rights_read.nd (mi_zipT rfl B.b_zip (md_v 0) (md_tup (ma_cons md_int (ma_cons md_int (ma_cons md_int (ma_cons md_int (ma_cons md_int (ma_cons md_int ma_nil)))))))) (blkOk_by (own := [("sign", 3), ("bit", 4)]) (N := ["word", "numbers", "at", "sign", "bit"]) (sc := (defScope s_rights_read)) (by decide +kernel)) (fun _ _ _ _ _ => (mg_tup rfl rfl (mgs_cons (mg_v 3 sc_rights_read.nd) (mgs_cons (mg_v 4 sc_rights_read.nd) mgs_nil)) (wgl_v (wgl_v wgl_nil)))) (fun _ _ _ _ _ => mts_nil) (fun _ _ _ _ _ => (md_if (mt_cmp (op_eqM rfl hr.units) od_eq (md_v 3) md_str (nomark _)) md_int (md_v 4)))))
    (mss_one (ms_ret (md_tup (ma_cons (md_callB (call_sumM rfl rfl) cd_sum B.b_sum (by decide +kernel) (ma_cons (md_sl rfl (md_v 1) mo_none (mo_some md_int)) ma_nil)) (ma_cons (md_callB (call_sumM rfl rfl) cd_sum B.b_sum (by decide +kernel) (ma_cons (md_sl rfl (md_v 1) (mo_some md_int) mo_none) ma_nil)) ma_nil)))))))
theorem sc_path_read : FnScope ["word"] ["word"] (defScope s_path_read) := ⟨rfl, rfl, rfl, by decide +kernel, rfl, by decide +kernel, by decide +kernel⟩
def w_path_read : WF := wRun 1
  (wRet (wCall opTuple (wACons (wL (wBMN opSplit (wV 0) (wACons (wC (.str "/")) wANil))) wANil)))
theorem df_path_read {f : Addr} {fd : FuncData} (F : FunD K "path_read" "path_read" (defArgs s_path_read) (defBody s_path_read) (defScope s_path_read) [] [] f fd) (g : mg "path_read" = some (.ref f)) (B : Bt mg) : Df P w K mg base "path_read" 1 1 w_path_read :=
  Df.mk' F g sc_path_read (fun _ _ _ _ _ _ us hl => match us, hl with | [_], _ => rfl) fun cdv A outer s H E hr =>
    (mss_one (ms_ret (md_callTy (call_tupleM rfl) cd_tuple B.b_tuple PyProof.Rows.boot_tuple (ma_cons (md_ofN (mn_bm PySem.F.slot_str_split PySem.F.type_str_split (mt_split) bm_split (md_v 0) (ma_cons md_str ma_nil))) ma_nil))))
theorem sc_step_read : FnScope ["line", "words", "step"] ["line"] (defScope s_step_read) := ⟨rfl, rfl, rfl, by decide +kernel, rfl, by decide +kernel, by decide +kernel⟩
@[simp] def t_step_read_0 : WS :=
  (wRet (wIf (wTest (wFn w_is_step (wACons (wV 2) wANil))) (wV 2) (wC .none)))
@[simp] def t_step_read_1 : WS :=
  (wSeq (wIfS (wAnd (wTest (wBin opEq (wBin opIx (wV 1) (wC (.int 0))) (wC (.str "mask")))) (wTest (wBin opEq (wCall opLen (wACons (wV 1) wANil)) (wC (.int 2))))) (wSet 2 (wTup (wACons (wC (.str "mask")) (wACons (wFn w_rights_read (wACons (wBin opIx (wV 1) (wC (.int 1))) wANil)) wANil)))) (wIfS (wAnd (wTest (wBin opEq (wBin opIx (wV 1) (wC (.int 0))) (wC (.str "out")))) (wTest (wBin opEq (wCall opLen (wACons (wV 1) wANil)) (wC (.int 2))))) (wSet 2 (wTup (wACons (wC (.str "out")) (wACons (wFn w_path_read (wACons (wBin opIx (wV 1) (wC (.int 1))) wANil)) wANil)))) (wIfS (wTest (wBin opNe (wCall opLen (wACons (wV 1) wANil)) (wC (.int 3)))) (wRet (wC .none)) (wIfS (wTest (wBin (inD false) (wBin opIx (wV 1) (wC (.int 0))) (wTup (wACons (wC (.str "make")) (wACons (wC (.str "folder")) (wACons (wC (.str "rights")) wANil)))))) (wSet 2 (wTup (wACons (wBin opIx (wV 1) (wC (.int 0))) (wACons (wFn w_path_read (wACons (wBin opIx (wV 1) (wC (.int 1))) wANil)) (wACons (wFn w_rights_read (wACons (wBin opIx (wV 1) (wC (.int 2))) wANil)) wANil))))) (wIfS (wTest (wBin (inD false) (wBin opIx (wV 1) (wC (.int 0))) (wTup (wACons (wC (.str "move")) (wACons (wC (.str "copy")) wANil))))) (wSet 2 (wTup (wACons (wBin opIx (wV 1) (wC (.int 0))) (wACons (wFn w_path_read (wACons (wBin opIx (wV 1) (wC (.int 1))) wANil)) (wACons (wFn w_path_read (wACons (wBin opIx (wV 1) (wC (.int 2))) wANil)) wANil))))) (wSet 2 (wTup (wACons (wBin opIx (wV 1) (wC (.int 0))) (wACons (wFn w_path_read (wACons (wBin opIx (wV 1) (wC (.int 1))) wANil)) (wACons (wBin opIx (wV 1) (wC (.int 2))) wANil))))))))))
  t_step_read_0)
def w_step_read : WF := wRun 3
  (wSeq (wSet 1 (wL (wBMN opSplit (wV 0) (wACons (wC (.str " ")) wANil))))
  t_step_read_1)
theorem df_step_read {f : Addr} {fd : FuncData} (F : FunD K "step_read" "step_read" (defArgs s_step_read) (defBody s_step_read) (defScope s_step_read) [] [] f fd) (g : mg "step_read" = some (.ref f)) (B : Bt mg) (d_rights_read : Df P w K mg base "rights_read" 1 1 w_rights_read) (d_path_read : Df P w K mg base "path_read" 1 1 w_path_read) (d_is_step : Df P w K mg base "is_step" 3 1 w_is_step) : Df P w K mg base "step_read" 4 1 w_step_read :=
  Df.mk' F g sc_step_read (fun _ _ _ _ _ _ us hl => match us, hl with | [_], _ => rfl) fun cdv A outer s H E hr =>
    (mss_cons (ms_set 1 sc_step_read.nd (md_ofN (mn_bm PySem.F.slot_str_split PySem.F.type_str_split (mt_split) bm_split (md_v 0) (ma_cons md_str ma_nil))))
    (mss_cons (ms_if (PW.pt (mw_and (mt_cmp (op_eqM rfl hr.units) od_eq (md_ix rfl (md_v 1) md_int) md_str (nomark _)) (mw_and1 (mt_cmp (op_eqM rfl hr.units) od_eq (md_callB (call_lenM rfl) cd_len B.b_len PySem.boot_len (ma_cons (md_v 1) ma_nil)) md_int (nomark _))))) (mss_one (ms_set 2 sc_step_read.nd (md_tup (ma_cons md_str (ma_cons (md_df rfl d_rights_read (hr.mono (by decide)) (ma_cons (md_ix rfl (md_v 1) md_int) ma_nil)) ma_nil))))) (mss_one (ms_if (PW.pt (mw_and (mt_cmp (op_eqM rfl hr.units) od_eq (md_ix rfl (md_v 1) md_int) md_str (nomark _)) (mw_and1 (mt_cmp (op_eqM rfl hr.units) od_eq (md_callB (call_lenM rfl) cd_len B.b_len PySem.boot_len (ma_cons (md_v 1) ma_nil)) md_int (nomark _))))) (mss_one (ms_set 2 sc_step_read.nd (md_tup (ma_cons md_str (ma_cons (md_df rfl d_path_read (hr.mono (by decide)) (ma_cons (md_ix rfl (md_v 1) md_int) ma_nil)) ma_nil))))) (mss_one (ms_if (mt_cmp (op_neM rfl hr.units) od_ne (md_callB (call_lenM rfl) cd_len B.b_len PySem.boot_len (ma_cons (md_v 1) ma_nil)) md_int (nomark _)) (mss_one (ms_ret md_non)) (mss_one (ms_if (mt_cmp (op_inM rfl hr.units) od_in (md_ix rfl (md_v 1) md_int) (md_tup (ma_cons md_str (ma_cons md_str (ma_cons md_str ma_nil)))) (by with_unfolding_all rfl)) (mss_one (ms_set 2 sc_step_read.nd (md_tup (ma_cons (md_ix rfl (md_v 1) md_int) (ma_cons (md_df rfl d_path_read (hr.mono (by decide)) (ma_cons (md_ix rfl (md_v 1) md_int) ma_nil)) (ma_cons (md_df rfl d_rights_read (hr.mono (by decide)) (ma_cons (md_ix rfl (md_v 1) md_int) ma_nil)) ma_nil)))))) (mss_one (ms_if (mt_cmp (op_inM rfl hr.units) od_in (md_ix rfl (md_v 1) md_int) (md_tup (ma_cons md_str (ma_cons md_str ma_nil))) (by with_unfolding_all rfl)) (mss_one (ms_set 2 sc_step_read.nd (md_tup (ma_cons (md_ix rfl (md_v 1) md_int) (ma_cons (md_df rfl d_path_read (hr.mono (by decide)) (ma_cons (md_ix rfl (md_v 1) md_int) ma_nil)) (ma_cons (md_df rfl d_path_read (hr.mono (by decide)) (ma_cons (md_ix rfl (md_v 1) md_int) ma_nil)) ma_nil)))))) (mss_one (ms_set 2 sc_step_read.nd (md_tup (ma_cons (md_ix rfl (md_v 1) md_int) (ma_cons (md_df rfl d_path_read (hr.mono (by decide)) (ma_cons (md_ix rfl (md_v 1) md_int) ma_nil)) (ma_cons (md_ix rfl (md_v 1) md_int) ma_nil)))))))))))))))
    (mss_one (ms_ret (md_if (mt_val (md_df rfl d_is_step (hr.mono (by decide)) (ma_cons (md_v 2) ma_nil))) (md_v 2) md_non)))))
theorem sc_read_script : FnScope ["value", "steps", "at", "line", "step"] ["value"] (defScope s_read_script) := ⟨rfl, rfl, rfl, by decide +kernel, rfl, by decide +kernel, by decide +kernel⟩
@[simp] def t_read_script_0 : WS :=
  (wApp 1 (wV 4))
@[simp] def t_read_script_1 : WS :=
  (wSeq (wIfS (wTest (wBin opIsN (wV 4) (wC .none))) (wRaiseF "InvalidText" "line" (wBin opAdd (wV 2) (wC (.int 1)))) wNext)
  t_read_script_0)
@[simp] def t_read_script_2 : WS :=
  (wRet (wCall opTuple (wACons (wV 1) wANil)))
@[simp] def t_read_script_3 : WS :=
  (wSeq (wFrz 1 (wIfS (wNot (wTest (wFn w_is_script (wACons (wCall opTuple (wACons (wV 1) wANil)) wANil)))) (wRaiseF "InvalidText" "line" (wBin opAdd (wCall opLen (wACons (wV 1) wANil)) (wC (.int 1)))) wNext))
  t_read_script_2)
@[simp] def t_read_script_4 : WS :=
  (wSeq (wFor (wiEnum (wL (wBMN opSplit (wV 0) (wACons (wC (.str "\n")) wANil)))) (wgTup (wgCons (wgV 2) (wgCons (wgV 3) wgNil))) (wSeq (wSet 4 (wFn w_step_read (wACons (wV 3) wANil)))
  t_read_script_1))
  t_read_script_3)
@[simp] def t_read_script_5 : WS :=
  (wSeq (wSetN 1 (wLst wANil))
  t_read_script_4)
@[simp] def t_read_script_6 : WS :=
  (wSeq (wIfS (wTest (wBin opEq (wV 0) (wC (.str "")))) (wRet (wTup wANil)) wNext)
  t_read_script_5)
def w_read_script : WF := wRun 5
  (wSeq (wIfS (wNot (wTest (wUn (opIsi .str) (wV 0)))) (wRaiseF "InvalidText" "line" (wC (.int 0))) wNext)
  t_read_script_6)
theorem df_read_script {f : Addr} {fd : FuncData} (F : FunD K "read_script" "read_script" (defArgs s_read_script) (defBody s_read_script) (defScope s_read_script) [] [] f fd) (g : mg "read_script" = some (.ref f)) (B : Bt mg) (x_InvalidText : XcF P w K mg base "InvalidText" "line" 1) (h_InvalidText : ∀ C, mg "InvalidText" = some (.ref C) → PySem.W.exmOne K (.ref C) (.ref C) = some true) (d_step_read : Df P w K mg base "step_read" 4 1 w_step_read) (d_is_script : Df P w K mg base "is_script" 4 1 w_is_script) : DfX P w K mg base "read_script" 5 1 w_read_script :=
  DfX.mk' F g sc_read_script (fun _ _ _ _ _ _ us hl => match us, hl with | [_], _ => rfl) fun cdv A outer s H E hr =>
    (mxs_cons (mx_if (mt_not (mt_val (md_isi .str rfl B.b_isinstance boot_isinstance (md_v 0) (pe_bltn (v := .ty "str") (by rfl) B.b_str (by decide +kernel) (show Value.type "str" = Value.type "str" from rfl))))) (mxs_one (mx_raiseF rfl rfl rfl (takes_of rfl rfl rfl rfl) x_InvalidText (hr.mono (by decide)) md_int)) (mxs_of mss_nil))
    (mxs_cons (mx_if (mt_cmp (op_eqM rfl hr.units) od_eq (md_v 0) md_str (nomark _)) (mxs_one (mx_of (ms_ret (md_tup ma_nil)))) (mxs_of mss_nil))
    (mxs_cons (mx_of (ms_setN 1 sc_read_script.nd (mn_lst ma_nil)))
    (mxs_cons (mx_for (passes_of rfl) rfl (mi_enum rfl B.b_enumerate (md_ofN (mn_bm PySem.F.slot_str_split PySem.F.type_str_split (mt_split) bm_split (md_v 0) (ma_cons md_str ma_nil)))) (mg_tup rfl rfl (mgs_cons (mg_v 2 sc_read_script.nd) (mgs_cons (mg_v 3 sc_read_script.nd) mgs_nil)) (wgl_v (wgl_v wgl_nil))) (mxs_cons (mx_of (ms_set 4 sc_read_script.nd (md_df rfl d_step_read (hr.mono (by decide)) (ma_cons (md_v 3) ma_nil))))
    (mxs_cons (mx_if (mt_cmp op_isN od_isN (md_v 4) md_non (nomark _)) (mxs_one (mx_raiseF rfl rfl rfl (takes_of rfl rfl rfl rfl) x_InvalidText (hr.mono (by decide)) (md_bin (op_addM rfl) od_add (md_v 2) md_int))) (mxs_of mss_nil))
    (mxs_one (mx_of (ms_app 1 rfl (md_v 4)))))))
    (mxs_cons (mx_frz 1 (mx_if (mt_not (mt_val (md_df rfl d_is_script (hr.mono (by decide)) (ma_cons (md_callTy (call_tupleM rfl) cd_tuple B.b_tuple PyProof.Rows.boot_tuple (ma_cons (md_v 1) ma_nil)) ma_nil)))) (mxs_one (mx_raiseF rfl rfl rfl (takes_of rfl rfl rfl rfl) x_InvalidText (hr.mono (by decide)) (md_bin (op_addM rfl) od_add (md_callB (call_lenM rfl) cd_len B.b_len PySem.boot_len (ma_cons (md_v 1) ma_nil)) md_int))) (mxs_of mss_nil)))
    (mxs_one (mx_of (ms_ret (md_callTy (call_tupleM rfl) cd_tuple B.b_tuple PyProof.Rows.boot_tuple (ma_cons (md_v 1) ma_nil))))))))))
theorem sc_law_told : FnScope ["_law_value", "_law_my_found", "e"] ["_law_value"] (defScope s_law_told) := ⟨rfl, rfl, rfl, by decide +kernel, rfl, by decide +kernel, by decide +kernel⟩
def w_law_told : WF := wRun 3
  (wSeq (wSet 1 (wC .none))
  (wSeq (wTryF 2 1 "InvalidText" "line" (wSetX 1 w_read_script (wACons (wV 0) wANil)))
  (wRet (wV 1))))
theorem df_law_told {f : Addr} {fd : FuncData} (F : FunD K "_law_told" "_law_told" (defArgs s_law_told) (defBody s_law_told) (defScope s_law_told) [] [] f fd) (g : mg "_law_told" = some (.ref f)) (B : Bt mg) (x_InvalidText : XcF P w K mg base "InvalidText" "line" 1) (h_InvalidText : ∀ C, mg "InvalidText" = some (.ref C) → PySem.W.exmOne K (.ref C) (.ref C) = some true) (d_read_script : DfX P w K mg base "read_script" 5 1 w_read_script) : Df P w K mg base "_law_told" 6 1 w_law_told :=
  Df.mk' F g sc_law_told (fun _ _ _ _ _ _ us hl => match us, hl with | [_], _ => rfl) fun cdv A outer s H E hr =>
    (mss_cons (ms_set 1 sc_law_told.nd md_non)
    (mss_cons (ms_tryF 2 1 (by decide) rfl rfl x_InvalidText h_InvalidText (fun W pn xe tk po => (mxs_one (mx_set 1 sc_law_told.nd rfl rfl d_read_script (hr.mono (by decide)) tk (ma_cons (md_v 0) ma_nil)))) rfl rfl sc_law_told.nd)
    (mss_one (ms_ret (md_v 1)))))
theorem sc_law_few : FnScope [] [] (defScope s_law_few) := ⟨rfl, rfl, rfl, by decide +kernel, rfl, by decide +kernel, by decide +kernel⟩
def w_law_few : WF := wRun 0
  (wRet (wL (wLst (wACons (wC (.str "make")) (wACons (wC (.str "make")) (wACons (wC (.str "write")) (wACons (wC (.str "write")) (wACons (wC (.str "write")) (wACons (wC (.str "rights")) (wACons (wC (.str "use")) (wACons (wC (.str "mask")) (wACons (wC (.str "group")) (wACons (wC (.str "folder")) wANil)))))))))))))
theorem df_law_few {f : Addr} {fd : FuncData} (F : FunD K "_law_few" "_law_few" (defArgs s_law_few) (defBody s_law_few) (defScope s_law_few) [] [] f fd) (g : mg "_law_few" = some (.ref f)) (B : Bt mg) : Df P w K mg base "_law_few" 1 0 w_law_few :=
  Df.mk' F g sc_law_few (fun _ _ _ _ _ _ us hl => match us, hl with | [], _ => rfl) fun cdv A outer s H E hr =>
    (mss_one (ms_ret (md_ofN (mn_lst (ma_cons md_str (ma_cons md_str (ma_cons md_str (ma_cons md_str (ma_cons md_str (ma_cons md_str (ma_cons md_str (ma_cons md_str (ma_cons md_str (ma_cons md_str ma_nil))))))))))))))
theorem sc_law_many : FnScope [] [] (defScope s_law_many) := ⟨rfl, rfl, rfl, by decide +kernel, rfl, by decide +kernel, by decide +kernel⟩
def w_law_many : WF := wRun 0
  (wRet (wL (wLst (wACons (wC (.str "make")) (wACons (wC (.str "write")) (wACons (wC (.str "write")) (wACons (wC (.str "use")) (wACons (wC (.str "move")) (wACons (wC (.str "copy")) (wACons (wC (.str "out")) (wACons (wC (.str "rights")) wANil)))))))))))
theorem df_law_many {f : Addr} {fd : FuncData} (F : FunD K "_law_many" "_law_many" (defArgs s_law_many) (defBody s_law_many) (defScope s_law_many) [] [] f fd) (g : mg "_law_many" = some (.ref f)) (B : Bt mg) : Df P w K mg base "_law_many" 1 0 w_law_many :=
  Df.mk' F g sc_law_many (fun _ _ _ _ _ _ us hl => match us, hl with | [], _ => rfl) fun cdv A outer s H E hr =>
    (mss_one (ms_ret (md_ofN (mn_lst (ma_cons md_str (ma_cons md_str (ma_cons md_str (ma_cons md_str (ma_cons md_str (ma_cons md_str (ma_cons md_str (ma_cons md_str ma_nil))))))))))))
theorem sc_law_path_so : FnScope ["_law_word", "_law_parts", "_law_part", "_law_sign"] ["_law_word"] (defScope s_law_path_so) := ⟨rfl, rfl, rfl, by decide +kernel, rfl, by decide +kernel, by decide +kernel⟩
def w_law_path_so : WF := wRun 4
  (wSeq (wSet 1 (wL (wBMN opSplit (wV 0) (wACons (wC (.str "/")) wANil))))
  (wSeq (wFor (wiSeq (wV 1)) (wgV 2) (wIfS (wOr (wNot (wTest (wChain opLe opLe (wC (.int 1)) (wCall opLen (wACons (wV 2) wANil)) (wC (.int 8))))) (wTest (wBin opNe (wL (wComp (wiSeq (wV 2)) (([("_law_sign", 3)] : List (Str × Nat)).map (·.2)) (wgV 3) (wTest (wBin (inD true) (wV 3) (wC (.str "abcdefghijklmnopqrstuvwxyz")))) (wV 3))) (wL (wLst wANil))))) (wRet (wC (.bool false))) wNext))
  (wRet (wBin opLe (wCall opLen (wACons (wV 1) wANil)) (wC (.int 2))))))
theorem df_law_path_so {f : Addr} {fd : FuncData} (F : FunD K "_law_path_so" "_law_path_so" (defArgs s_law_path_so) (defBody s_law_path_so) (defScope s_law_path_so) [] [] f fd) (g : mg "_law_path_so" = some (.ref f)) (B : Bt mg) : Df P w K mg base "_law_path_so" 1 1 w_law_path_so :=
  Df.mk' F g sc_law_path_so (fun _ _ _ _ _ _ us hl => match us, hl with | [_], _ => rfl) fun cdv A outer s H E hr =>
    (mss_cons (ms_set 1 sc_law_path_so.nd (md_ofN (mn_bm PySem.F.slot_str_split PySem.F.type_str_split (mt_split) bm_split (md_v 0) (ma_cons md_str ma_nil))))
    (mss_cons (ms_for PassesOwn.never rfl (mi_seq rfl (md_v 1)) (mg_v 2 sc_law_path_so.nd) (mss_one (ms_if (PW.pt (mw_or (mt_not (mt_chain op_le od_cmpI op_le od_cmpI md_int (md_callB (call_lenM rfl) cd_len B.b_len PySem.boot_len (ma_cons (md_v 2) ma_nil)) md_int)) (mw_or1 (mt_cmp (op_neM rfl hr.units) od_ne (md_ofN (mn_lc rfl sc_law_path_so.nd (mi_seq rfl (md_v 2)) (blkOk_by (own := [("_law_sign", 3)]) (N := ["_law_word", "_law_parts", "_law_part", "_law_sign"]) (sc := (defScope s_law_path_so)) (by decide +kernel)) (fun _ _ _ _ _ => (mg_v 3 sc_law_path_so.nd)) (fun _ _ _ _ _ => (mts_one (mt_cmp (op_notInM rfl hr.units) od_in (md_v 3) md_str (by with_unfolding_all rfl)))) (fun _ _ _ _ _ => (md_v 3)))) (md_ofN (mn_lst ma_nil)) (nomark _))))) (mss_one (ms_ret md_bl)) mss_nil)))
    (mss_one (ms_ret (md_cmp op_le od_cmpI (md_callB (call_lenM rfl) cd_len B.b_len PySem.boot_len (ma_cons (md_v 1) ma_nil)) md_int (nomark _))))))
theorem sc_law_six_so : FnScope ["_law_word", "_law_one", "_law_two"] ["_law_word"] (defScope s_law_six_so) := ⟨rfl, rfl, rfl, by decide +kernel, rfl, by decide +kernel, by decide +kernel⟩
def w_law_six_so : WF := wRun 3
  (wRet (wAndV (wBin opEq (wCall opLen (wACons (wV 0) wANil)) (wC (.int 6))) (wBin opEq (wL (wComp (wiZipT (wV 0) (wC (.str "rwxrwx"))) (([("_law_one", 1), ("_law_two", 2)] : List (Str × Nat)).map (·.2)) (wgTup (wgCons (wgV 1) (wgCons (wgV 2) wgNil))) (wTest (wBin (inD true) (wV 1) (wTup (wACons (wV 2) (wACons (wC (.str "-")) wANil))))) (wC (.int 1)))) (wL (wLst wANil)))))
theorem df_law_six_so {f : Addr} {fd : FuncData} (F : FunD K "_law_six_so" "_law_six_so" (defArgs s_law_six_so) (defBody s_law_six_so) (defScope s_law_six_so) [] [] f fd) (g : mg "_law_six_so" = some (.ref f)) (B : Bt mg) : Df P w K mg base "_law_six_so" 1 1 w_law_six_so :=
  Df.mk' F g sc_law_six_so (fun _ _ _ _ _ _ us hl => match us, hl with | [_], _ => rfl) fun cdv A outer s H E hr =>
    (mss_one (ms_ret (md_and (md_cmp (op_eqM rfl hr.units) od_eq (md_callB (call_lenM rfl) cd_len B.b_len PySem.boot_len (ma_cons (md_v 0) ma_nil)) md_int (nomark _)) (md_one (md_cmp (op_eqM rfl hr.units) od_eq (md_ofN (mn_lc rfl sc_law_six_so.nd (mi_zipT rfl B.b_zip (md_v 0) md_str) (blkOk_by (own := [("_law_one", 1), ("_law_two", 2)]) (N := ["_law_word", "_law_one", "_law_two"]) (sc := (defScope s_law_six_so)) (by decide +kernel)) (fun _ _ _ _ _ => (mg_tup rfl rfl (mgs_cons (mg_v 1 sc_law_six_so.nd) (mgs_cons (mg_v 2 sc_law_six_so.nd) mgs_nil)) (wgl_v (wgl_v wgl_nil)))) (fun _ _ _ _ _ => (mts_one (mt_cmp (op_notInM rfl hr.units) od_in (md_v 1) (md_tup (ma_cons (md_v 2) (ma_cons md_str ma_nil))) (by with_unfolding_all rfl)))) (fun _ _ _ _ _ => md_int))) (md_ofN (mn_lst ma_nil)) (nomark _))))))
theorem sc_law_line_so : FnScope ["_law_line", "_law_parts"] ["_law_line"] (defScope s_law_line_so) := ⟨rfl, rfl, rfl, by decide +kernel, rfl, by decide +kernel, by decide +kernel⟩
@[simp] def t_law_line_so_0 : WS :=
  (wRet (wAndV (wBin (inD false) (wBin opIx (wV 1) (wC (.int 0))) (wTup (wACons (wC (.str "move")) (wACons (wC (.str "copy")) wANil)))) (wAndV (wFn w_law_path_so (wACons (wBin opIx (wV 1) (wC (.int 2))) wANil)) (wBin opNe (wBin opIx (wV 1) (wC (.int 1))) (wBin opIx (wV 1) (wC (.int 2)))))))
@[simp] def t_law_line_so_1 : WS :=
  (wSeq (wIfS (wTest (wBin opEq (wBin opIx (wV 1) (wC (.int 0))) (wC (.str "group")))) (wRet (wBin (inD false) (wBin opIx (wV 1) (wC (.int 2))) (wTup (wACons (wC (.str "own")) (wACons (wC (.str "team")) wANil))))) wNext)
  t_law_line_so_0)
@[simp] def t_law_line_so_2 : WS :=
  (wSeq (wIfS (wTest (wBin (inD false) (wBin opIx (wV 1) (wC (.int 0))) (wTup (wACons (wC (.str "write")) (wACons (wC (.str "use")) wANil))))) (wRet (wAndV (wFn w_law_path_so (wACons (wBin opIx (wV 1) (wC (.int 2))) wANil)) (wBin (inD true) (wC (.str "/")) (wBin opIx (wV 1) (wC (.int 2)))))) wNext)
  t_law_line_so_1)
@[simp] def t_law_line_so_3 : WS :=
  (wSeq (wIfS (wTest (wBin (inD false) (wBin opIx (wV 1) (wC (.int 0))) (wTup (wACons (wC (.str "make")) (wACons (wC (.str "rights")) (wACons (wC (.str "folder")) wANil)))))) (wRet (wAndV (wFn w_law_six_so (wACons (wBin opIx (wV 1) (wC (.int 2))) wANil)) (wOrV (wBin opNe (wBin opIx (wV 1) (wC (.int 0))) (wC (.str "folder"))) (wBin (inD true) (wC (.str "/")) (wBin opIx (wV 1) (wC (.int 1))))))) wNext)
  t_law_line_so_2)
@[simp] def t_law_line_so_4 : WS :=
  (wSeq (wIfS (wOr (wTest (wBin opNe (wCall opLen (wACons (wV 1) wANil)) (wC (.int 3)))) (wNot (wTest (wFn w_law_path_so (wACons (wBin opIx (wV 1) (wC (.int 1))) wANil))))) (wRet (wC (.bool false))) wNext)
  t_law_line_so_3)
@[simp] def t_law_line_so_5 : WS :=
  (wSeq (wIfS (wTest (wBin (inD false) (wBin opIx (wV 1) (wC (.int 0))) (wTup (wACons (wC (.str "mask")) (wACons (wC (.str "out")) wANil))))) (wRet (wAndV (wBin opEq (wCall opLen (wACons (wV 1) wANil)) (wC (.int 2))) (wIf (wTest (wBin opEq (wBin opIx (wV 1) (wC (.int 0))) (wC (.str "mask")))) (wFn w_law_six_so (wACons (wBin opIx (wV 1) (wC (.int 1))) wANil)) (wFn w_law_path_so (wACons (wBin opIx (wV 1) (wC (.int 1))) wANil))))) wNext)
  t_law_line_so_4)
def w_law_line_so : WF := wRun 2
  (wSeq (wSet 1 (wL (wBMN opSplit (wV 0) (wACons (wC (.str " ")) wANil))))
  t_law_line_so_5)
theorem df_law_line_so {f : Addr} {fd : FuncData} (F : FunD K "_law_line_so" "_law_line_so" (defArgs s_law_line_so) (defBody s_law_line_so) (defScope s_law_line_so) [] [] f fd) (g : mg "_law_line_so" = some (.ref f)) (B : Bt mg) (d_law_six_so : Df P w K mg base "_law_six_so" 1 1 w_law_six_so) (d_law_path_so : Df P w K mg base "_law_path_so" 1 1 w_law_path_so) : Df P w K mg base "_law_line_so" 2 1 w_law_line_so :=
  Df.mk' F g sc_law_line_so (fun _ _ _ _ _ _ us hl => match us, hl with | [_], _ => rfl) fun cdv A outer s H E hr =>
    (mss_cons (ms_set 1 sc_law_line_so.nd (md_ofN (mn_bm PySem.F.slot_str_split PySem.F.type_str_split (mt_split) bm_split (md_v 0) (ma_cons md_str ma_nil))))
    (mss_cons (ms_if (mt_cmp (op_inM rfl hr.units) od_in (md_ix rfl (md_v 1) md_int) (md_tup (ma_cons md_str (ma_cons md_str ma_nil))) (by with_unfolding_all rfl)) (mss_one (ms_ret (md_and (md_cmp (op_eqM rfl hr.units) od_eq (md_callB (call_lenM rfl) cd_len B.b_len PySem.boot_len (ma_cons (md_v 1) ma_nil)) md_int (nomark _)) (md_one (md_if (mt_cmp (op_eqM rfl hr.units) od_eq (md_ix rfl (md_v 1) md_int) md_str (nomark _)) (md_df rfl d_law_six_so (hr.mono (by decide)) (ma_cons (md_ix rfl (md_v 1) md_int) ma_nil)) (md_df rfl d_law_path_so (hr.mono (by decide)) (ma_cons (md_ix rfl (md_v 1) md_int) ma_nil))))))) mss_nil)
    (mss_cons (ms_if (PW.pt (mw_or (mt_cmp (op_neM rfl hr.units) od_ne (md_callB (call_lenM rfl) cd_len B.b_len PySem.boot_len (ma_cons (md_v 1) ma_nil)) md_int (nomark _)) (mw_or1 (mt_not (mt_val (md_df rfl d_law_path_so (hr.mono (by decide)) (ma_cons (md_ix rfl (md_v 1) md_int) ma_nil))))))) (mss_one (ms_ret md_bl)) mss_nil)
    (mss_cons (ms_if (mt_cmp (op_inM rfl hr.units) od_in (md_ix rfl (md_v 1) md_int) (md_tup (ma_cons md_str (ma_cons md_str (ma_cons md_str ma_nil)))) (by with_unfolding_all rfl)) (mss_one (ms_ret (md_and (md_df rfl d_law_six_so (hr.mono (by decide)) (ma_cons (md_ix rfl (md_v 1) md_int) ma_nil)) (md_one (md_or (md_cmp (op_neM rfl hr.units) od_ne (md_ix rfl (md_v 1) md_int) md_str (nomark _)) (md_one (md_cmp (op_notInM rfl hr.units) od_in md_str (md_ix rfl (md_v 1) md_int) (by with_unfolding_all rfl)))))))) mss_nil)
    (mss_cons (ms_if (mt_cmp (op_inM rfl hr.units) od_in (md_ix rfl (md_v 1) md_int) (md_tup (ma_cons md_str (ma_cons md_str ma_nil))) (by with_unfolding_all rfl)) (mss_one (ms_ret (md_and (md_df rfl d_law_path_so (hr.mono (by decide)) (ma_cons (md_ix rfl (md_v 1) md_int) ma_nil)) (md_one (md_cmp (op_notInM rfl hr.units) od_in md_str (md_ix rfl (md_v 1) md_int) (by with_unfolding_all rfl)))))) mss_nil)
    (mss_cons (ms_if (mt_cmp (op_eqM rfl hr.units) od_eq (md_ix rfl (md_v 1) md_int) md_str (nomark _)) (mss_one (ms_ret (md_cmp (op_inM rfl hr.units) od_in (md_ix rfl (md_v 1) md_int) (md_tup (ma_cons md_str (ma_cons md_str ma_nil))) (by with_unfolding_all rfl)))) mss_nil)
    (mss_one (ms_ret (md_and (md_cmp (op_inM rfl hr.units) od_in (md_ix rfl (md_v 1) md_int) (md_tup (ma_cons md_str (ma_cons md_str ma_nil))) (by with_unfolding_all rfl)) (md_and (md_df rfl d_law_path_so (hr.mono (by decide)) (ma_cons (md_ix rfl (md_v 1) md_int) ma_nil)) (md_one (md_cmp (op_neM rfl hr.units) od_ne (md_ix rfl (md_v 1) md_int) (md_ix rfl (md_v 1) md_int) (nomark _)))))))))))))
theorem sc_law_due : FnScope ["_law_value", "_law_lines", "_law_bad", "_law_spots", "_law_line", "_law_parts", "_law_both", "_law_word", "_law_at"] ["_law_value"] (defScope s_law_due) := ⟨rfl, rfl, rfl, by decide +kernel, rfl, by decide +kernel, by decide +kernel⟩
@[simp] def t_law_due_0 : WS :=
  (wFor (wiSeq (wBin opMul (wV 6) (wCall opInt (wACons (wBin opNe (wBin opIx (wV 5) (wC (.int 0))) (wC (.str "mask"))) wANil)))) (wgV 7) (wSet 3 (wBin opAdd (wV 3) (wL (wLst (wACons (wV 7) (wACons (wBin opIx (wL (wBMN opSplit (wV 7) (wACons (wC (.str "/")) wANil))) (wC (.int 0))) wANil)))))))
@[simp] def t_law_due_1 : WS :=
  (wSeq (wSet 6 (wIf (wTest (wBin (inD false) (wBin opIx (wV 5) (wC (.int 0))) (wTup (wACons (wC (.str "move")) (wACons (wC (.str "copy")) wANil))))) (wSl (wV 5) (wOSo (wC (.int 1))) (wOSo (wC (.int 3)))) (wSl (wV 5) (wOSo (wC (.int 1))) (wOSo (wC (.int 2))))))
  t_law_due_0)
@[simp] def t_law_due_2 : WS :=
  (wRet (wIf (wOr (wTest (wBin opGt (wCall opLen (wACons (wV 1) wANil)) (wC (.int 8)))) (wTest (wBin opGt (wLenSet (wV 3)) (wC (.int 5))))) (wBin opAdd (wCall opLen (wACons (wV 1) wANil)) (wC (.int 1))) (wC .none)))
@[simp] def t_law_due_3 : WS :=
  (wSeq (wFor (wiSeq (wV 1)) (wgV 4) (wSeq (wSet 5 (wL (wBMN opSplit (wV 4) (wACons (wC (.str " ")) wANil))))
  t_law_due_1))
  t_law_due_2)
@[simp] def t_law_due_4 : WS :=
  (wSeq (wSet 3 (wL (wLst wANil)))
  t_law_due_3)
@[simp] def t_law_due_5 : WS :=
  (wSeq (wIfS (wTest (wBin opNe (wV 2) (wL (wLst wANil)))) (wRet (wBin opAdd (wBin opIx (wV 2) (wC (.int 0))) (wC (.int 1)))) wNext)
  t_law_due_4)
@[simp] def t_law_due_6 : WS :=
  (wSeq (wIfS (wTest (wBin opEq (wV 0) (wC (.str "")))) (wRet (wC .none)) wNext)
  t_law_due_5)
@[simp] def t_law_due_7 : WS :=
  (wSeq (wSet 2 (wL (wComp (wiR1 (wCall opLen (wACons (wV 1) wANil))) (([("_law_at", 8)] : List (Str × Nat)).map (·.2)) (wgV 8) (wNot (wTest (wFn w_law_line_so (wACons (wBin opIx (wV 1) (wV 8)) wANil)))) (wV 8))))
  t_law_due_6)
@[simp] def t_law_due_8 : WS :=
  (wSeq (wSet 1 (wL (wBMN opSplit (wV 0) (wACons (wC (.str "\n")) wANil))))
  t_law_due_7)
def w_law_due : WF := wRun 9
  (wSeq (wIfS (wNot (wTest (wUn (opIsi .str) (wV 0)))) (wRet (wC (.int 0))) wNext)
  t_law_due_8)
theorem df_law_due {f : Addr} {fd : FuncData} (F : FunD K "_law_due" "_law_due" (defArgs s_law_due) (defBody s_law_due) (defScope s_law_due) [] [] f fd) (g : mg "_law_due" = some (.ref f)) (B : Bt mg) (d_law_line_so : Df P w K mg base "_law_line_so" 2 1 w_law_line_so) : Df P w K mg base "_law_due" 3 1 w_law_due :=
  Df.mk' F g sc_law_due (fun _ _ _ _ _ _ us hl => match us, hl with | [_], _ => rfl) fun cdv A outer s H E hr =>
    (mss_cons (ms_if (mt_not (mt_val (md_isi .str rfl B.b_isinstance boot_isinstance (md_v 0) (pe_bltn (v := .ty "str") (by rfl) B.b_str (by decide +kernel) (show Value.type "str" = Value.type "str" from rfl))))) (mss_one (ms_ret md_int)) mss_nil)
    (mss_cons (ms_set 1 sc_law_due.nd (md_ofN (mn_bm PySem.F.slot_str_split PySem.F.type_str_split (mt_split) bm_split (md_v 0) (ma_cons md_str ma_nil))))
    (mss_cons (ms_lc 2 (ms_lcRaw 2 rfl sc_law_due.nd (mi_range1 B.b_range (md_callB (call_lenM rfl) cd_len B.b_len PySem.boot_len (ma_cons (md_v 1) ma_nil))) (blkOk_by (own := [("_law_at", 8)]) (N := ["_law_value", "_law_lines", "_law_bad", "_law_spots", "_law_line", "_law_parts", "_law_both", "_law_word", "_law_at"]) (sc := (defScope s_law_due)) (by decide +kernel)) (fun _ _ _ _ _ => (mg_v 8 sc_law_due.nd)) (fun _ _ _ _ _ => (mts_one (mt_not (mt_val (md_df rfl d_law_line_so (hr.mono (by decide)) (ma_cons (md_ix rfl (md_v 1) (md_v 8)) ma_nil)))))) (fun _ _ _ _ _ => (md_v 8))))
    (mss_cons (ms_if (mt_cmp (op_eqM rfl hr.units) od_eq (md_v 0) md_str (nomark _)) (mss_one (ms_ret md_non)) mss_nil)
    (mss_cons (ms_if (mt_cmp (op_neM rfl hr.units) od_ne (md_v 2) (md_ofN (mn_lst ma_nil)) (nomark _)) (mss_one (ms_ret (md_bin (op_addM rfl) od_add (md_ix rfl (md_v 2) md_int) md_int))) mss_nil)
    (mss_cons (ms_set 3 sc_law_due.nd (md_ofN (mn_lst ma_nil)))
    (mss_cons (ms_for PassesOwn.never rfl (mi_seq rfl (md_v 1)) (mg_v 4 sc_law_due.nd) (mss_cons (ms_set 5 sc_law_due.nd (md_ofN (mn_bm PySem.F.slot_str_split PySem.F.type_str_split (mt_split) bm_split (md_v 4) (ma_cons md_str ma_nil))))
    (mss_cons (ms_set 6 sc_law_due.nd (md_if (mt_cmp (op_inM rfl hr.units) od_in (md_ix rfl (md_v 5) md_int) (md_tup (ma_cons md_str (ma_cons md_str ma_nil))) (by with_unfolding_all rfl)) (md_sl rfl (md_v 5) (mo_some md_int) (mo_some md_int)) (md_sl rfl (md_v 5) (mo_some md_int) (mo_some md_int))))
    (mss_one (ms_for PassesOwn.never rfl (mi_seq rfl (md_bin (op_mulM rfl) od_mul (md_v 6) (md_callTy call_intM cd_int B.b_int PyProof.Rows.boot_int (ma_cons (md_cmp (op_neM rfl hr.units) od_ne (md_ix rfl (md_v 5) md_int) md_str (nomark _)) ma_nil)))) (mg_v 7 sc_law_due.nd) (mss_one (ms_set 3 sc_law_due.nd (md_bin (op_addM rfl) od_add (md_v 3) (md_ofN (mn_lst (ma_cons (md_v 7) (ma_cons (md_ix rfl (md_ofN (mn_bm PySem.F.slot_str_split PySem.F.type_str_split (mt_split) bm_split (md_v 7) (ma_cons md_str ma_nil))) md_int) ma_nil))))))))))))
    (mss_one (ms_ret (md_if (PW.pt (mw_or (mt_cmp op_gt od_cmpI (md_callB (call_lenM rfl) cd_len B.b_len PySem.boot_len (ma_cons (md_v 1) ma_nil)) md_int (nomark _)) (mw_or1 (mt_cmp op_gt od_cmpI (md_lenset rfl rfl hr.units B.b_len B.b_set (md_v 3)) md_int (nomark _))))) (md_bin (op_addM rfl) od_add (md_callB (call_lenM rfl) cd_len B.b_len PySem.boot_len (ma_cons (md_v 1) ma_nil)) md_int) md_non))))))))))
theorem sc_law_like : FnScope ["_law_one", "_law_two", "_law_k"] ["_law_one", "_law_two"] (defScope s_law_like) := ⟨rfl, rfl, rfl, by decide +kernel, rfl, by decide +kernel, by decide +kernel⟩
def w_law_like (u : WF) : WF := wRun 3
  (wSeq (wIfS (wTest (wUn (opIsi2 .list .tuple) (wV 0))) (wSeq (wIfS (wOr (wTest (wBin opNe (wUn (opIsi .list) (wV 0)) (wUn (opIsi .list) (wV 1)))) (wTest (wBin opNe (wUn (opIsi .tuple) (wV 0)) (wUn (opIsi .tuple) (wV 1))))) (wRet (wC (.bool false))) wNext)
  (wSeq (wIfS (wTest (wBin opNe (wCall opLen (wACons (wV 0) wANil)) (wCall opLen (wACons (wV 1) wANil)))) (wRet (wC (.bool false))) wNext)
  (wRet (wBin opEq (wL (wComp (wiR1 (wCall opLen (wACons (wV 0) wANil))) (([("_law_k", 2)] : List (Str × Nat)).map (·.2)) (wgV 2) (wNot (wTest (wFn u (wACons (wBin opIx (wV 0) (wV 2)) (wACons (wBin opIx (wV 1) (wV 2)) wANil))))) (wV 2))) (wL (wLst wANil)))))) wNext)
  (wSeq (wIfS (wTest (wUn (opIsi2 .list .tuple) (wV 1))) (wRet (wC (.bool false))) wNext)
  (wRet (wAndV (wBin opEq (wUn (opIsi .bool) (wV 0)) (wUn (opIsi .bool) (wV 1))) (wBin opEq (wV 0) (wV 1))))))
theorem df_law_like_step {f : Addr} {fd : FuncData} (F : FunD K "_law_like" "_law_like" (defArgs s_law_like) (defBody s_law_like) (defScope s_law_like) [] [] f fd) (g : mg "_law_like" = some (.ref f)) (B : Bt mg) {k : Nat} {u : WF} (hk : 0 ≤ k) (self : Df P w K mg base "_law_like" k 2 u) : Df P w K mg base "_law_like" (k + 1) 2 (w_law_like u) :=
  Df.mk' F g sc_law_like (fun _ _ _ _ _ _ us hl => match us, hl with | [_, _], _ => rfl) fun cdv A outer s H E hr =>
    (mss_cons (ms_if (mt_val (md_isi2 .list .tuple rfl B.b_isinstance boot_isinstance (md_v 0) (pe_bltn (v := .ty "list") (by rfl) B.b_list (by decide +kernel) (show Value.type "list" = Value.type "list" from rfl)) (pe_bltn (v := .ty "tuple") (by rfl) B.b_tuple (by decide +kernel) (show Value.type "tuple" = Value.type "tuple" from rfl)))) (mss_cons (ms_if (PW.pt (mw_or (mt_cmp (op_neM rfl hr.units) od_ne (md_isi .list rfl B.b_isinstance boot_isinstance (md_v 0) (pe_bltn (v := .ty "list") (by rfl) B.b_list (by decide +kernel) (show Value.type "list" = Value.type "list" from rfl))) (md_isi .list rfl B.b_isinstance boot_isinstance (md_v 1) (pe_bltn (v := .ty "list") (by rfl) B.b_list (by decide +kernel) (show Value.type "list" = Value.type "list" from rfl))) (nomark _)) (mw_or1 (mt_cmp (op_neM rfl hr.units) od_ne (md_isi .tuple rfl B.b_isinstance boot_isinstance (md_v 0) (pe_bltn (v := .ty "tuple") (by rfl) B.b_tuple (by decide +kernel) (show Value.type "tuple" = Value.type "tuple" from rfl))) (md_isi .tuple rfl B.b_isinstance boot_isinstance (md_v 1) (pe_bltn (v := .ty "tuple") (by rfl) B.b_tuple (by decide +kernel) (show Value.type "tuple" = Value.type "tuple" from rfl))) (nomark _))))) (mss_one (ms_ret md_bl)) mss_nil)
    (mss_cons (ms_if (mt_cmp (op_neM rfl hr.units) od_ne (md_callB (call_lenM rfl) cd_len B.b_len PySem.boot_len (ma_cons (md_v 0) ma_nil)) (md_callB (call_lenM rfl) cd_len B.b_len PySem.boot_len (ma_cons (md_v 1) ma_nil)) (nomark _)) (mss_one (ms_ret md_bl)) mss_nil)
    (mss_one (ms_ret (md_cmp (op_eqM rfl hr.units) od_eq (md_ofN (mn_lc rfl sc_law_like.nd (mi_range1 B.b_range (md_callB (call_lenM rfl) cd_len B.b_len PySem.boot_len (ma_cons (md_v 0) ma_nil))) (blkOk_by (own := [("_law_k", 2)]) (N := ["_law_one", "_law_two", "_law_k"]) (sc := (defScope s_law_like)) (by decide +kernel)) (fun _ _ _ _ _ => (mg_v 2 sc_law_like.nd)) (fun _ _ _ _ _ => (mts_one (mt_not (mt_val (md_df rfl self hr (ma_cons (md_ix rfl (md_v 0) (md_v 2)) (ma_cons (md_ix rfl (md_v 1) (md_v 2)) ma_nil))))))) (fun _ _ _ _ _ => (md_v 2)))) (md_ofN (mn_lst ma_nil)) (nomark _)))))) mss_nil)
    (mss_cons (ms_if (mt_val (md_isi2 .list .tuple rfl B.b_isinstance boot_isinstance (md_v 1) (pe_bltn (v := .ty "list") (by rfl) B.b_list (by decide +kernel) (show Value.type "list" = Value.type "list" from rfl)) (pe_bltn (v := .ty "tuple") (by rfl) B.b_tuple (by decide +kernel) (show Value.type "tuple" = Value.type "tuple" from rfl)))) (mss_one (ms_ret md_bl)) mss_nil)
    (mss_one (ms_ret (md_and (md_cmp (op_eqM rfl hr.units) od_eq (md_isi .bool rfl B.b_isinstance boot_isinstance (md_v 0) (pe_bltn (v := .ty "bool") (by rfl) B.b_bool (by decide +kernel) (show Value.type "bool" = Value.type "bool" from rfl))) (md_isi .bool rfl B.b_isinstance boot_isinstance (md_v 1) (pe_bltn (v := .ty "bool") (by rfl) B.b_bool (by decide +kernel) (show Value.type "bool" = Value.type "bool" from rfl))) (nomark _)) (md_one (md_cmp (op_eqM rfl hr.units) od_eq (md_v 0) (md_v 1) (nomark _))))))))
def wN_law_like : Nat → WF
  | 0 => fun _ _ => False
  | m + 1 => w_law_like (wN_law_like m)
theorem df_law_likeN {f : Addr} {fd : FuncData} (F : FunD K "_law_like" "_law_like" (defArgs s_law_like) (defBody s_law_like) (defScope s_law_like) [] [] f fd) (g : mg "_law_like" = some (.ref f)) (B : Bt mg) : ∀ m, Df P w K mg base "_law_like" (0 + m) 2 (wN_law_like m)
  | 0 => Df.none (ps := ["_law_one", "_law_two"]) F g (fun _ _ _ _ _ _ us hl => match us, hl with | [_, _], _ => rfl)
  | m + 1 => df_law_like_step F g B (Nat.le_add_right _ _) (df_law_likeN F g B m)
theorem df_law_like {f : Addr} {fd : FuncData} (F : FunD K "_law_like" "_law_like" (defArgs s_law_like) (defBody s_law_like) (defScope s_law_like) [] [] f fd) (g : mg "_law_like" = some (.ref f)) (B : Bt mg) : Df P w K mg base "_law_like" 8 2 (wN_law_like 8) := df_law_likeN F g B 8
theorem sc_law : FnScope ["_law_script_here", "_law_tape", "_law_turn", "_law_plan", "_law_text", "_law_k", "_law_bent_here", "_law_told_here", "_law_due_here"] ["_law_script_here"] (defScope s_law) := ⟨rfl, rfl, rfl, by decide +kernel, rfl, by decide +kernel, by decide +kernel⟩
@[simp] def t_law_0 : WS :=
  (wIfS (wAnd (wTest (wBin opIsN (wV 8) (wC .none))) (wOr (wNot (wTest (wFn w_is_script (wACons (wV 7) wANil)))) (wTest (wBin opNe (wFn w_script_text (wACons (wV 7) wANil)) (wV 6))))) (wRet (wC (.bool false))) wNext)
@[simp] def t_law_1 : WS :=
  (wSeq (wIfS (wAnd (wTest (wBin opNotN (wV 8) (wC .none))) (wNot (wTest (wFn (wN_law_like 8) (wACons (wV 7) (wACons (wV 8) wANil)))))) (wRet (wC (.bool false))) wNext)
  t_law_0)
@[simp] def t_law_2 : WS :=
  (wSeq (wPar 7 8 (wFn w_law_told (wACons (wV 6) wANil)) (wFn w_law_due (wACons (wV 6) wANil)))
  t_law_1)
@[simp] def t_law_3 : WS :=
  (wIfS (wOr (wTest (wBin opNe (wFn w_law_told (wACons (wL (wLst (wACons (wV 4) wANil))) wANil)) (wC (.int 0)))) (wOr (wTest (wBin opNe (wFn w_law_told (wACons (wC .none) wANil)) (wC (.int 0)))) (wTest (wBin opNe (wFn w_law_told (wACons (wBin opAdd (wV 4) (wC (.str "\n"))) wANil)) (wBin opAdd (wCall opLen (wACons (wV 3) wANil)) (wC (.int 1))))))) (wRet (wC (.bool false))) wNext)
@[simp] def t_law_4 : WS :=
  (wSeq (wFor (wiR1 (wC (.int 7))) (wgV 5) (wSeq (wSet 6 (wFn w_law_bent (wTA 1 (wACons (wV 4) wANil))))
  t_law_2))
  t_law_3)
@[simp] def t_law_5 : WS :=
  (wSeq (wSet 4 (wFn w_script_text (wACons (wV 3) wANil)))
  t_law_4)
@[simp] def t_law_6 : WS :=
  (wRet (wAndV (wBin opEq (wFn w_law_told (wACons (wBM opJoin (wC (.str "\n")) (wACons (wBin opMul (wL (wLst (wACons (wC (.str "out f")) wANil))) (wC (.int 9))) wANil)) wANil)) (wC (.int 10))) (wBin opEq (wFn w_law_told (wACons (wC (.str "make f rw-r-")) wANil)) (wC (.int 1)))))
@[simp] def t_law_7 : WS :=
  (wSeq (wFor (wiR1 (wC (.int 7))) (wgV 2) (wSeq (wSet 3 (wFn w_law_script (wTA 1 (wACons (wC (.int 8)) (wACons (wBin opAdd (wFn w_law_few wANil) (wFn w_law_many wANil)) (wACons (wFn w_law_wide_menu (wTA 1 wANil)) wANil))))))
  t_law_5))
  t_law_6)
def w_law : WS := (wTape 1 t_law_7)
theorem df_law {f : Addr} {fd : FuncData} (F : FunD K "law" "law" (defArgs s_law) (defBody s_law) (defScope s_law) [] [] f fd) (g : mg "law" = some (.ref f)) (B : Bt mg) (d_law_script : Dt P w K mg base "_law_script" 5 3 w_law_script) (d_law_wide_menu : Dt P w K mg base "_law_wide_menu" 3 0 w_law_wide_menu) (d_law_few : Df P w K mg base "_law_few" 1 0 w_law_few) (d_law_many : Df P w K mg base "_law_many" 1 0 w_law_many) (d_script_text : Df P w K mg base "script_text" 6 1 w_script_text) (d_law_bent : Dt P w K mg base "_law_bent" 3 1 w_law_bent) (d_law_told : Df P w K mg base "_law_told" 6 1 w_law_told) (d_law_due : Df P w K mg base "_law_due" 3 1 w_law_due) (d_law_like : Df P w K mg base "_law_like" 8 2 (wN_law_like 8)) (d_is_script : Df P w K mg base "is_script" 4 1 w_is_script) (ok : ∀ ns : List Int, ns.length ≤ 63 → w_law (lawStart 9 1 ns) endTrue) : FnOk P w K mg base CX0 9 f fd ["_law_script_here"] (spLaw K) :=
  fn_law 1 F sc_law (by decide) ok fun cdv A outer s H E hr =>
    (mss_law 1 rfl sc_law.nd B.b_list (mss_tape 1 fun tp => (mss_cons (ms_for PassesOwn.never rfl (mi_range1 B.b_range md_int) (mg_v 2 sc_law.nd) (mss_cons (ms_set 3 sc_law.nd (md_dt rfl d_law_script (hr.mono (by decide)) (ma_tape 1 (ma_cons md_int (ma_cons (md_bin (op_addM rfl) od_add (md_df0 rfl d_law_few (hr.mono (by decide))) (md_df0 rfl d_law_many (hr.mono (by decide)))) (ma_cons (md_dt rfl d_law_wide_menu (hr.mono (by decide)) (ma_tape 1 ma_nil)) ma_nil))))))
    (mss_cons (ms_set 4 sc_law.nd (md_df rfl d_script_text (hr.mono (by decide)) (ma_cons (md_v 3) ma_nil)))
    (mss_cons (ms_for PassesOwn.never rfl (mi_range1 B.b_range md_int) (mg_v 5 sc_law.nd) (mss_cons (ms_set 6 sc_law.nd (md_dt rfl d_law_bent (hr.mono (by decide)) (ma_tape 1 (ma_cons (md_v 4) ma_nil))))
    (mss_cons (ms_par 7 8 rfl sc_law.nd (md_df rfl d_law_told (hr.mono (by decide)) (ma_cons (md_v 6) ma_nil)) (md_df rfl d_law_due (hr.mono (by decide)) (ma_cons (md_v 6) ma_nil)))
    (mss_cons (ms_if (PW.pt (mw_and (mt_cmp op_notN od_notN (md_v 8) md_non (nomark _)) (mw_and1 (mt_not (mt_val (md_df rfl d_law_like (hr.mono (by decide)) (ma_cons (md_v 7) (ma_cons (md_v 8) ma_nil)))))))) (mss_one (ms_ret md_bl)) mss_nil)
    (mss_one (ms_if (PW.pt (mw_and (mt_cmp op_isN od_isN (md_v 8) md_non (nomark _)) (mw_and1 (PW.pt (mw_or (mt_not (mt_val (md_df rfl d_is_script (hr.mono (by decide)) (ma_cons (md_v 7) ma_nil)))) (mw_or1 (mt_cmp (op_neM rfl hr.units) od_ne (md_df rfl d_script_text (hr.mono (by decide)) (ma_cons (md_v 7) ma_nil)) (md_v 6) (nomark _)))))))) (mss_one (ms_ret md_bl)) mss_nil))))))
    (mss_one (ms_if (PW.pt (mw_or (mt_cmp (op_neM rfl hr.units) od_ne (md_df rfl d_law_told (hr.mono (by decide)) (ma_cons (md_ofN (mn_lst (ma_cons (md_v 4) ma_nil))) ma_nil)) md_int (nomark _)) (mw_or (mt_cmp (op_neM rfl hr.units) od_ne (md_df rfl d_law_told (hr.mono (by decide)) (ma_cons md_non ma_nil)) md_int (nomark _)) (mw_or1 (mt_cmp (op_neM rfl hr.units) od_ne (md_df rfl d_law_told (hr.mono (by decide)) (ma_cons (md_bin (op_addM rfl) od_add (md_v 4) md_str) ma_nil)) (md_bin (op_addM rfl) od_add (md_callB (call_lenM rfl) cd_len B.b_len PySem.boot_len (ma_cons (md_v 3) ma_nil)) md_int) (nomark _)))))) (mss_one (ms_ret md_bl)) mss_nil))))))
    (mss_one (ms_ret (md_and (md_cmp (op_eqM rfl hr.units) od_eq (md_df rfl d_law_told (hr.mono (by decide)) (ma_cons (md_bm PySem.F.slot_str_join PySem.F.type_str_join (mt_joinM rfl) bm_join md_str (ma_cons (md_bin (op_mulM rfl) od_mul (md_ofN (mn_lst (ma_cons md_str ma_nil))) md_int) ma_nil)) ma_nil)) md_int (nomark _)) (md_one (md_cmp (op_eqM rfl hr.units) od_eq (md_df rfl d_law_told (hr.mono (by decide)) (ma_cons md_str ma_nil)) md_int (nomark _)))))))))
end
end Lw

set_option Elab.async false
set_option linter.all false
set_option maxRecDepth 100000
set_option maxHeartbeats 4000000
namespace Lw
open PySem PySem.Spec PyProof.Rows L2 MG
theorem draw_ok : ∀ ds Φ, wDraw ds Φ → w_law_draw ds Φ := by
  intro ds Φ h
  unfold wDraw at h
  split at h
  · rename_i m
    obtain ⟨⟨m0, m1⟩, h⟩ := h
    intro ns hz
    have fin : ∀ z : Int, 0 < m ∧ (0 < m ∧ m < 340282366920938463463374607431768211456) ∧ Φ (PyData.int (z % m)) := fun z => ⟨m0, ⟨m0, m1⟩, h _ (Int.emod_nonneg _ (by omega)) (Int.emod_lt_of_pos _ m0)⟩
    have b64 : ∀ x : Int, -18446744073709551616 < x % 2305843009213693951 ∧ x % 2305843009213693951 < 18446744073709551616 := fun x => by omega
    have at_ : ∀ z : Int, 0 < ns.length → ∃ i : Int, atI (ns.map PyData.int) (z % (ns.length : Int)) = some (.int i) := fun z hp => by
      have h0 := Int.emod_nonneg z (show (ns.length : Int) ≠ 0 by omega)
      have h1 := Int.emod_lt_of_pos z (show (0 : Int) < ns.length by omega)
      generalize z % (ns.length : Int) = j at h0 h1
      obtain ⟨n, rfl⟩ := Int.eq_ofNat_of_zero_le h0
      have hn : n < ns.length := by omega
      refine ⟨ns[n], ?_⟩
      unfold atI ixN
      rw [List.length_map, if_pos (by omega), if_pos (by omega)]
      simp [hn]
    simp [wRunTn, wTk, wTSet, wT0, isTp]
    intro z
    split
    · split
      · rename_i hp
        intro z1
        obtain ⟨i, e⟩ := at_ z1 hp
        rw [e]
        refine ⟨hp, ?_⟩
        simp
        intro z2
        split
        · intro z3
          exact ⟨b64 _, b64 _, fin⟩
        · split
          · intro z3
            exact ⟨b64 _, b64 _, fin⟩
          · exact fin
      · intro z1
        exact ⟨b64 _, b64 _, fin⟩
    · exact fin
  · exact h.elim
theorem ne_w0 : ¬ (("mask" : Str) = "out") ∧ ¬ (("mask" : Str) = "make") ∧ ¬ (("mask" : Str) = "folder") ∧ ¬ (("mask" : Str) = "write") ∧ ¬ (("mask" : Str) = "rights") ∧ ¬ (("mask" : Str) = "group") ∧ ¬ (("mask" : Str) = "move") ∧ ¬ (("mask" : Str) = "copy") ∧ ¬ (("mask" : Str) = "use") ∧ ¬ (("out" : Str) = "mask") ∧ ¬ (("out" : Str) = "make") ∧ ¬ (("out" : Str) = "folder") ∧ ¬ (("out" : Str) = "write") ∧ ¬ (("out" : Str) = "rights") ∧ ¬ (("out" : Str) = "group") := by
  refine ⟨?_, ?_, ?_, ?_, ?_, ?_, ?_, ?_, ?_, ?_, ?_, ?_, ?_, ?_, ?_⟩ <;> decide +kernel
theorem ne_w1 : ¬ (("out" : Str) = "move") ∧ ¬ (("out" : Str) = "copy") ∧ ¬ (("out" : Str) = "use") ∧ ¬ (("make" : Str) = "mask") ∧ ¬ (("make" : Str) = "out") ∧ ¬ (("make" : Str) = "folder") ∧ ¬ (("make" : Str) = "write") ∧ ¬ (("make" : Str) = "rights") ∧ ¬ (("make" : Str) = "group") ∧ ¬ (("make" : Str) = "move") ∧ ¬ (("make" : Str) = "copy") ∧ ¬ (("make" : Str) = "use") ∧ ¬ (("folder" : Str) = "mask") ∧ ¬ (("folder" : Str) = "out") ∧ ¬ (("folder" : Str) = "make") := by
  refine ⟨?_, ?_, ?_, ?_, ?_, ?_, ?_, ?_, ?_, ?_, ?_, ?_, ?_, ?_, ?_⟩ <;> decide +kernel
theorem ne_w2 : ¬ (("folder" : Str) = "write") ∧ ¬ (("folder" : Str) = "rights") ∧ ¬ (("folder" : Str) = "group") ∧ ¬ (("folder" : Str) = "move") ∧ ¬ (("folder" : Str) = "copy") ∧ ¬ (("folder" : Str) = "use") ∧ ¬ (("write" : Str) = "mask") ∧ ¬ (("write" : Str) = "out") ∧ ¬ (("write" : Str) = "make") ∧ ¬ (("write" : Str) = "folder") ∧ ¬ (("write" : Str) = "rights") ∧ ¬ (("write" : Str) = "group") ∧ ¬ (("write" : Str) = "move") ∧ ¬ (("write" : Str) = "copy") ∧ ¬ (("write" : Str) = "use") := by
  refine ⟨?_, ?_, ?_, ?_, ?_, ?_, ?_, ?_, ?_, ?_, ?_, ?_, ?_, ?_, ?_⟩ <;> decide +kernel
theorem ne_w3 : ¬ (("rights" : Str) = "mask") ∧ ¬ (("rights" : Str) = "out") ∧ ¬ (("rights" : Str) = "make") ∧ ¬ (("rights" : Str) = "folder") ∧ ¬ (("rights" : Str) = "write") ∧ ¬ (("rights" : Str) = "group") ∧ ¬ (("rights" : Str) = "move") ∧ ¬ (("rights" : Str) = "copy") ∧ ¬ (("rights" : Str) = "use") ∧ ¬ (("group" : Str) = "mask") ∧ ¬ (("group" : Str) = "out") ∧ ¬ (("group" : Str) = "make") ∧ ¬ (("group" : Str) = "folder") ∧ ¬ (("group" : Str) = "write") ∧ ¬ (("group" : Str) = "rights") := by
  refine ⟨?_, ?_, ?_, ?_, ?_, ?_, ?_, ?_, ?_, ?_, ?_, ?_, ?_, ?_, ?_⟩ <;> decide +kernel
theorem ne_w4 : ¬ (("group" : Str) = "move") ∧ ¬ (("group" : Str) = "copy") ∧ ¬ (("group" : Str) = "use") ∧ ¬ (("move" : Str) = "mask") ∧ ¬ (("move" : Str) = "out") ∧ ¬ (("move" : Str) = "make") ∧ ¬ (("move" : Str) = "folder") ∧ ¬ (("move" : Str) = "write") ∧ ¬ (("move" : Str) = "rights") ∧ ¬ (("move" : Str) = "group") ∧ ¬ (("move" : Str) = "copy") ∧ ¬ (("move" : Str) = "use") ∧ ¬ (("copy" : Str) = "mask") ∧ ¬ (("copy" : Str) = "out") ∧ ¬ (("copy" : Str) = "make") := by
  refine ⟨?_, ?_, ?_, ?_, ?_, ?_, ?_, ?_, ?_, ?_, ?_, ?_, ?_, ?_, ?_⟩ <;> decide +kernel
theorem ne_w5 : ¬ (("copy" : Str) = "folder") ∧ ¬ (("copy" : Str) = "write") ∧ ¬ (("copy" : Str) = "rights") ∧ ¬ (("copy" : Str) = "group") ∧ ¬ (("copy" : Str) = "move") ∧ ¬ (("copy" : Str) = "use") ∧ ¬ (("use" : Str) = "mask") ∧ ¬ (("use" : Str) = "out") ∧ ¬ (("use" : Str) = "make") ∧ ¬ (("use" : Str) = "folder") ∧ ¬ (("use" : Str) = "write") ∧ ¬ (("use" : Str) = "rights") ∧ ¬ (("use" : Str) = "group") ∧ ¬ (("use" : Str) = "move") ∧ ¬ (("use" : Str) = "copy") := by
  refine ⟨?_, ?_, ?_, ?_, ?_, ?_, ?_, ?_, ?_, ?_, ?_, ?_, ?_, ?_, ?_⟩ <;> decide +kernel
def isNum : PyData → Int → Int → Bool
  | .int n, lo, hi => decide (lo ≤ n) && decide (n ≤ hi)
  | _, _, _ => false
@[simp] theorem m_is_number (v : PyData) (lo hi : Int) (Φ : PyData → Prop) : w_is_number [v, .int lo, .int hi] Φ = Φ (.bool (isNum v lo hi)) := by
  cases v with
  | int n => by_cases h1 : lo ≤ n <;> by_cases h2 : n ≤ hi <;> simp [w_is_number, wRun, isTy, isNum, h1, h2]
  | _ => rfl
def inAz : PyData → Bool
  | .str ⟨⟨[c]⟩⟩ => decide (c ∈ ("abcdefghijklmnopqrstuvwxyz" : Str).cps.toList)
  | _ => false
def isNm : PyData → Bool
  | .str z => decide (1 ≤ z.length) && decide (z.length ≤ 8) && (MG.signs z).all inAz
  | _ => false
theorem mem_signs {z : Str} {d : PyData} (h : d ∈ MG.signs z) : ∃ c, d = .str ⟨#[c]⟩ := by
  obtain ⟨c, _, e⟩ := List.mem_map.mp h
  exact ⟨c, e.symm⟩
theorem all_notnot {α : Type} (p : α → Bool) (l : List α) : (l.all fun d => !!p d) = l.all p := by simp
@[simp] theorem m_is_name (v : PyData) (Φ : PyData → Prop) : w_is_name [v] Φ = Φ (.bool (isNm v)) := by
  cases v with
  | str z =>
    by_cases h1 : (1 : Int) ≤ z.length
    · by_cases h2 : (z.length : Int) ≤ 8
      · have g1 : 1 ≤ z.length := by omega
        have g2 : z.length ≤ 8 := by omega
        simp only [w_is_name, wRun]
        simp [isTy, h1, h2, unS]
        rw [lc_F (fun d => !inAz d) fun d hd k => by
          obtain ⟨c, rfl⟩ := mem_signs hd
          by_cases hc : c ∈ ("abcdefghijklmnopqrstuvwxyz" : Str).cps.toList <;> simp at hc <;> simp [inAz, hc]]
        rw [eqa_n, filter_none, all_notnot]
        simp [isNm, g1, g2]
      · have g2 : ¬ z.length ≤ 8 := by omega
        simp [w_is_name, wRun, isTy, isNm, h1, h2, g2]
    · have g1 : ¬ 1 ≤ z.length := by omega
      simp [w_is_name, wRun, isTy, isNm, h1, g1]
  | _ => simp [w_is_name, wRun, isTy, isNm]
def isPth : PyData → Bool
  | .tuple [a] => isNm a
  | .tuple [a, b] => isNm a && isNm b
  | _ => false
@[simp] theorem m_is_path (v : PyData) (Φ : PyData → Prop) : w_is_path [v] Φ = Φ (.bool (isPth v)) := by
  cases v with
  | tuple ds =>
    match ds with
    | [] => simp [w_is_path, wRun, isTy, isPth]
    | [a] => cases h : isNm a <;> simp [w_is_path, wRun, isTy, isPth, wLc, unS, h]
    | [a, b] => cases h : isNm a <;> cases h2 : isNm b <;> simp [w_is_path, wRun, isTy, isPth, wLc, unS, h, h2]
    | a :: b :: c :: r =>
      have : ¬ ((r.length : Int) + 1 + 1 + 1 ≤ 2) := by omega
      simp [w_is_path, wRun, isTy, isPth, this]
  | _ => simp [w_is_path, wRun, isTy, isPth]
def isRts : PyData → Bool
  | .tuple [a, b] => isNum a 0 7 && isNum b 0 7
  | _ => false
@[simp] theorem m_is_rights (v : PyData) (Φ : PyData → Prop) : w_is_rights [v] Φ = Φ (.bool (isRts v)) := by
  cases v with
  | tuple ds =>
    match ds with
    | [] => simp [w_is_rights, wRun, isTy, isRts]
    | [a] => simp [w_is_rights, wRun, isTy, isRts]
    | [a, b] => cases h : isNum a 0 7 <;> cases h2 : isNum b 0 7 <;> simp [w_is_rights, wRun, isTy, isRts, h, h2]
    | a :: b :: c :: r =>
      have : ¬ ((r.length : Int) + 1 + 1 + 1 = 2) := by omega
      simp [w_is_rights, wRun, isTy, isRts, this]
  | _ => simp [w_is_rights, wRun, isTy, isRts]
def isGrp : PyData → Bool
  | .str z => decide (z = "own") || decide (z = "team")
  | _ => false
theorem any2 (z a b : Str) : (decide (a = z) || decide (b = z)) = (decide (z = a) || decide (z = b)) := by
  congr 1 <;> exact decide_eq_decide.mpr ⟨Eq.symm, Eq.symm⟩
@[simp] theorem m_is_group (v : PyData) (Φ : PyData → Prop) : w_is_group [v] Φ = Φ (.bool (isGrp v)) := by
  cases v with
  | str z => simp [w_is_group, wRun, isTy, isGrp, any2]
  | _ => simp [w_is_group, wRun, isTy, isGrp]
def isStrs (a b : Str) : PyData → Bool
  | .str z => decide (z = a) || decide (z = b)
  | _ => false
def isTp5 : PyData → Bool
  | .tuple [o, g, r, s, d] => isStrs "house" "writer" o && (isGrp g && (isRts r && (isTy .bool s && isTy .bool d)))
  | _ => false
theorem any2n (z a b : Str) : (!decide (a = z) && !decide (b = z)) = !(decide (z = a) || decide (z = b)) := by
  rw [← any2]; cases decide (a = z) <;> cases decide (b = z) <;> rfl
def len1 : PyData → Bool
  | .tuple [_] => true
  | _ => false
def isS1 (w : Str) (a : PyData) : Bool := (decide (w = "mask") && isRts a) || (decide (w = "out") && isPth a)
def isS2 (w : Str) (a b : PyData) : Bool := isPth a && ((decide (w = "make") && isRts b) || ((decide (w = "rights") && isRts b) || ((decide (w = "folder") && (isRts b && len1 a)) || ((decide (w = "write") && isNm b) || ((decide (w = "use") && isNm b) ||
  ((decide (w = "group") && isGrp b) || ((decide (w = "move") && (isPth b && !PyData.eqv b a)) || (decide (w = "copy") && (isPth b && !PyData.eqv b a)))))))))
def isStp : PyData → Bool
  | .tuple [.str w, a] => isS1 w a
  | .tuple [.str w, a, b] => isS2 w a b
  | _ => false
theorem words10 (w : Str) : w = "mask" ∨ w = "out" ∨ w = "make" ∨ w = "folder" ∨ w = "write" ∨ w = "rights" ∨ w = "group" ∨ w = "move" ∨ w = "copy" ∨ w = "use" ∨
    (w ≠ "mask" ∧ w ≠ "out" ∧ w ≠ "make" ∧ w ≠ "folder" ∧ w ≠ "write" ∧ w ≠ "rights" ∧ w ≠ "group" ∧ w ≠ "move" ∧ w ≠ "copy" ∧ w ≠ "use") := by
  by_cases h1 : w = "mask"; · exact .inl h1
  by_cases h2 : w = "out"; · simp [h2]
  by_cases h3 : w = "make"; · simp [h3]
  by_cases h4 : w = "folder"; · simp [h4]
  by_cases h5 : w = "write"; · simp [h5]
  by_cases h6 : w = "rights"; · simp [h6]
  by_cases h7 : w = "group"; · simp [h7]
  by_cases h8 : w = "move"; · simp [h8]
  by_cases h9 : w = "copy"; · simp [h9]
  by_cases h0 : w = "use"; · simp [h0]
  simp [*]
theorem pth_depth {v : PyData} (h : isPth v = true) : v.depth = 1 := by
  have nm : ∀ {a : PyData}, isNm a = true → a.depth = 0 := fun {a} h => by cases a <;> first | exact dp_str _ | exact nomatch (show false = true from h)
  cases v with
  | tuple ds =>
    match ds, h with
    | [a], h => simp [nm (show isNm a = true from h)]
    | [a, b], h =>
      have h' : (isNm a && isNm b) = true := h
      rw [Bool.and_eq_true] at h'
      simp [nm h'.1, nm h'.2]
  | _ => exact nomatch h
theorem pth_len {v : PyData} (h : isPth v = true) : ∃ ds, v = .tuple ds ∧ (ds.length = 1 ∨ ds.length = 2) := by
  cases v with
  | tuple ds =>
    match ds, h with
    | [a], h => exact ⟨_, rfl, .inl rfl⟩
    | [a, b], h => exact ⟨_, rfl, .inr rfl⟩
  | _ => exact nomatch h
theorem flip10 (w : Str) : ((("mask" : Str) = w) = (w = "mask")) ∧ ((("out" : Str) = w) = (w = "out")) ∧ ((("make" : Str) = w) = (w = "make")) ∧ ((("folder" : Str) = w) = (w = "folder")) ∧ ((("write" : Str) = w) = (w = "write")) ∧ ((("rights" : Str) = w) = (w = "rights")) ∧
    ((("group" : Str) = w) = (w = "group")) ∧ ((("move" : Str) = w) = (w = "move")) ∧ ((("copy" : Str) = w) = (w = "copy")) ∧ ((("use" : Str) = w) = (w = "use")) :=
  ⟨propext eq_comm, propext eq_comm, propext eq_comm, propext eq_comm, propext eq_comm, propext eq_comm, propext eq_comm, propext eq_comm, propext eq_comm, propext eq_comm⟩
theorem len_pth {a : PyData} (h : isPth a = true) (Φ : PyData → Prop) : opLen [a] Φ = Φ (.int (if len1 a = true then 1 else 2)) := by
  cases a with
  | tuple ds =>
    match ds, h with
    | [x], _ => simp [len1]
    | [x, y], _ => simp [len1]
  | _ => exact nomatch h
@[simp] theorem m_is_step (v : PyData) (Φ : PyData → Prop) : w_is_step [v] Φ = Φ (.bool (isStp v)) := by
  have ip := ite_P Φ
  cases v with
  | tuple ds =>
    match ds with
    | [] => simp [w_is_step, wRun, isStp, LIM]
    | a :: r =>
      cases a with
      | str w =>
        obtain ⟨f1, f2, f3, f4, f5, f6, f7, f8, f9, f0⟩ := flip10 w
        match r with
        | [] =>
          by_cases h1 : w = "mask" <;> by_cases h2 : w = "out" <;> simp [w_is_step, wRun, isStp, LIM, f1, f2, f3, f4, f5, f6, f7, f8, f9, f0, h1, h2]
        | [a] =>
          rcases words10 w with h | h | h | h | h | h | h | h | h | h | ⟨h1, h2, h3, h4, h5, h6, h7, h8, h9, h0⟩
          all_goals (try subst h)
          all_goals (clear ip; simp [w_is_step, wRun, isStp, isS1, LIM, ne_w0, ne_w1, ne_w2, ne_w3, ne_w4, ne_w5, *])
          all_goals (cases isPth a <;> simp)
        | [a, b] =>
          rcases words10 w with h | h | h | h | h | h | h | h | h | h | ⟨h1, h2, h3, h4, h5, h6, h7, h8, h9, h0⟩
          all_goals (try subst h)
          all_goals (clear ip; simp [w_is_step, wRun, isStp, isS2, LIM, ne_w0, ne_w1, ne_w2, ne_w3, ne_w4, ne_w5, *])
          all_goals (cases ha : isPth a)
          all_goals (try simp)
          · rw [len_pth ha]
            cases len1 a <;> simp
          · cases hb : isPth b <;> simp [hb, pth_depth ha]
            omega
          · cases hb : isPth b <;> simp [hb, pth_depth ha]
            omega
        | a :: b :: c :: r =>
          have n1 : ¬ ((r.length : Int) + 1 + 1 + 1 = 1) := by omega
          have n2 : ¬ ((r.length : Int) + 1 + 1 + 1 = 2) := by omega
          by_cases h1 : w = "mask" <;> by_cases h2 : w = "out" <;> simp [w_is_step, wRun, isStp, LIM, f1, f2, f3, f4, f5, f6, f7, f8, f9, f0, h1, h2, n1, n2]
      | _ => simp [w_is_step, wRun, isStp, LIM]
  | _ => simp [w_is_step, wRun, isStp, LIM]
theorem nm_str {a : PyData} (h : isNm a = true) : ∃ z, a = .str z := by
  cases a <;> first | exact ⟨_, rfl⟩ | exact nomatch (show false = true from h)
/-- a path: one or two texts -/
theorem pth_strs {v : PyData} (h : isPth v = true) : ∃ k : List Str, v = tupS k ∧ (k.length = 1 ∨ k.length = 2) := by
  cases v with
  | tuple ds =>
    match ds, h with
    | [a], h =>
      obtain ⟨z, rfl⟩ := nm_str (show isNm a = true from h)
      exact ⟨[z], rfl, .inl rfl⟩
    | [a, b], h =>
      have h' : (isNm a && isNm b) = true := h
      rw [Bool.and_eq_true] at h'
      obtain ⟨z, rfl⟩ := nm_str h'.1
      obtain ⟨y, rfl⟩ := nm_str h'.2
      exact ⟨[z, y], rfl, .inr rfl⟩
  | _ => exact nomatch h
theorem eqva_strs : ∀ k m : List Str, PyData.eqvAll (k.map .str) (m.map .str) = decide (k = m)
  | [], [] => by simp
  | [], _ :: _ => by simp
  | _ :: _, [] => by simp
  | a :: k, b :: m => by
    have := eqva_strs k m
    rw [List.map_cons, List.map_cons, eqa_cc, this, eqv_ss]
    by_cases h : a = b <;> by_cases h2 : k = m <;> simp [h, h2]
theorem eqv_tupS (k m : List Str) : PyData.eqv (tupS k) (tupS m) = decide (k = m) := by unfold tupS; rw [eqv_tt, eqva_strs]
theorem pth_eqv_comm {a b : PyData} (ha : isPth a = true) (hb : isPth b = true) : PyData.eqv a b = PyData.eqv b a := by
  obtain ⟨k, rfl, _⟩ := pth_strs ha
  obtain ⟨m, rfl, _⟩ := pth_strs hb
  rw [eqv_tupS, eqv_tupS]
  exact decide_eq_decide.mpr eq_comm
theorem len_pth1 {a : PyData} (h : isPth a = true) (Φ : PyData → Prop) : (opLen [a] fun x => Φ (.bool (x.eqv (.int 1)))) = Φ (.bool (len1 a)) := by
  rw [len_pth h]
  cases len1 a <;> simp
theorem grp_in (b : PyData) (Φ : PyData → Prop) : (if isTy Ty.str b = true then b.depth ≤ 60 ∧ Φ (.bool ((PyData.str ("own" : Str)).eqv b || (PyData.str ("team" : Str)).eqv b)) else Φ (.bool false)) = Φ (.bool (isGrp b)) := by
  cases b with
  | str y =>
    have e3 : (("own" : Str) = y) = (y = "own") := propext eq_comm
    have e4 : (("team" : Str) = y) = (y = "team") := propext eq_comm
    simp [isGrp, e3, e4]
  | _ => simp [isGrp]
def itemsS : PyData → List PyData
  | .tuple (_ :: r) => r
  | _ => []
def pthsS (d : PyData) : List PyData := (itemsS d).filter isPth
def pk : PyData → List Str
  | .tuple ds => ds.filterMap fun x => match x with | .str z => some z | _ => none
  | _ => []
theorem pk_tupS : ∀ k : List Str, pk (tupS k) = k := by
  intro k
  show (k.map PyData.str).filterMap _ = k
  induction k with
  | nil => rfl
  | cons a k ih => rw [List.map_cons, List.filterMap_cons_some (b := a) (by rfl), ih]
def keysS (ds : List PyData) : List (List Str) := ds.flatMap fun d => (pthsS d).map pk
theorem pths_eq {l : List PyData} (h : ∀ d ∈ l, isPth d = true) : l = (l.map pk).map tupS ∧ ∀ k ∈ l.map pk, k ≠ [] := by
  induction l with
  | nil => exact ⟨rfl, by simp⟩
  | cons d l ih =>
    obtain ⟨e, n⟩ := ih fun d z => h d (List.mem_cons_of_mem _ z)
    obtain ⟨k, rfl, hk⟩ := pth_strs (h d List.mem_cons_self)
    refine ⟨?_, fun k' hk' => ?_⟩
    · rw [List.map_cons, List.map_cons, pk_tupS, ← e]
    · rw [List.map_cons, List.mem_cons, pk_tupS] at hk'
      rcases hk' with z | z
      · rw [z]; rintro rfl; simp at hk
      · exact n k' z
theorem found_eq (ds : List PyData) : ds.flatMap pthsS = (keysS ds).map tupS ∧ ∀ k ∈ keysS ds, k ≠ [] := by
  have all : ∀ d ∈ ds.flatMap pthsS, isPth d = true := fun d h => by
    obtain ⟨s, _, h2⟩ := List.mem_flatMap.mp h
    exact (List.mem_filter.mp h2).2
  obtain ⟨a, b⟩ := pths_eq all
  have e : keysS ds = (ds.flatMap pthsS).map pk := by
    unfold keysS
    rw [List.map_flatMap]
  rw [e]
  exact ⟨a, b⟩
def psetS (ds : List PyData) : List (List Str) := sset ltT (keysS ds ++ (keysS ds).map fun k => k.take 1)
theorem stp_shape {d : PyData} (h : isStp d = true) : ∃ w r, d = .tuple (.str w :: r) ∧ r.length ≤ 2 := by
  cases d with
  | tuple ds =>
    match ds, h with
    | [.str w, a], _ => exact ⟨w, [a], rfl, by simp⟩
    | [.str w, a, b], _ => exact ⟨w, [a, b], rfl, by simp⟩
  | _ => exact nomatch h
theorem pths_len {d : PyData} (h : isStp d = true) : (pthsS d).length ≤ 2 := by
  obtain ⟨w, r, rfl, hr⟩ := stp_shape h
  exact Nat.le_trans (List.length_filter_le ..) hr
theorem keys_len {ds : List PyData} (h : ∀ d ∈ ds, isStp d = true) : (keysS ds).length ≤ ds.length * 2 := by
  unfold keysS
  induction ds with
  | nil => exact Nat.le_refl _
  | cons d ds ih =>
    have := ih fun d z => h d (List.mem_cons_of_mem _ z)
    have h2 := pths_len (h d List.mem_cons_self)
    rw [List.flatMap_cons, List.length_append, List.length_map, List.length_cons]
    omega
theorem tup_take (k : List Str) : cutP (k.map PyData.str) none (some 1) = (k.take 1).map PyData.str := by
  cases k with
  | nil => rfl
  | cons a k => simp
theorem m_paths_of {ds : List PyData} (h : ∀ d ∈ ds, isStp d = true) (hl : ds.length ≤ 8) (Φ : PyData → Prop) : w_paths_of [.tuple ds] Φ = Φ (.list ((psetS ds).map tupS)) := by
  have kl := keys_len h
  obtain ⟨fe, ne⟩ := found_eq ds
  simp only [w_paths_of, wRun]
  simp [unS]
  rw [lcO_E pthsS 2 (fun d hd => ⟨pths_len (h d hd), fun acc k hacc => by
    obtain ⟨w, r, rfl, hr⟩ := stp_shape (h d hd)
    simp [unS]
    rw [lcA_E (fun d => if isPth d = true then some d else none) (fun d hd k => by cases hp : isPth d <;> simp [hp]) (by have : LIM = 16777216 := rfl; omega)]
    have : r.filterMap (fun d => if isPth d = true then some d else none) = pthsS (.tuple (.str w :: r)) := by
      show _ = r.filter isPth
      rw [← List.filterMap_eq_filter]; congr 1
    rw [this]⟩) (by have : LIM = 16777216 := rfl; simp; omega)]
  rw [List.nil_append, fe]
  simp
  rw [lc_E (fun d => match d with | .tuple es => some (.tuple (cutP es none (some 1))) | _ => none) (fun d hd k => by
    obtain ⟨key, _, rfl⟩ := List.mem_map.mp hd
    simp [tupS])]
  have e2 : ((keysS ds).map tupS).filterMap (fun d => match d with | .tuple es => some (.tuple (cutP es none (some 1))) | _ => none) = ((keysS ds).map fun k => k.take 1).map tupS := by
    generalize keysS ds = l
    induction l with
    | nil => rfl
    | cons k l ih =>
      rw [List.map_cons, List.map_cons, List.map_cons, ← ih, List.filterMap_cons_some (b := tupS (k.take 1))]
      show some (PyData.tuple (cutP (k.map PyData.str) none (some 1))) = _
      rw [tup_take]; rfl
  rw [e2]
  rw [← List.map_append]
  simp only [List.length_map]
  rw [sortD_tups (fun k hk => ?_) (Nat.lt_of_le_of_lt (sset_len ..) (by rw [List.length_append, List.length_map]; omega))]
  · have : (keysS ds).length + (keysS ds).length ≤ LIM := by have : LIM = 16777216 := rfl; omega
    simp only [this, true_and]; rfl
  · rcases List.mem_append.mp hk with z | z
    · exact ne k z
    · obtain ⟨k', h1, rfl⟩ := List.mem_map.mp z
      have := ne k' h1
      cases k' with
      | nil => exact absurd rfl this
      | cons a r => simp
/-- what the law lists: each path, its first name -/
def lawKeys (ds : List PyData) : List (List Str) := ds.flatMap fun d => ((pthsS d).map pk).flatMap fun k => [k, k.take 1]
theorem lawKeys_mem (ds : List PyData) (x : List Str) : x ∈ lawKeys ds ↔ x ∈ keysS ds ++ (keysS ds).map fun k => k.take 1 := by
  unfold lawKeys keysS
  rw [List.mem_append, List.mem_map]
  constructor
  · intro h
    obtain ⟨d, hd, h⟩ := List.mem_flatMap.mp h
    obtain ⟨k, hk, h⟩ := List.mem_flatMap.mp h
    have hk' : k ∈ ds.flatMap fun d => (pthsS d).map pk := List.mem_flatMap.mpr ⟨d, hd, hk⟩
    rcases List.mem_cons.mp h with e | h
    · rw [e]; exact .inl hk'
    · rw [List.mem_singleton.mp h]; exact .inr ⟨k, hk', rfl⟩
  · rintro (h | ⟨k, h, e⟩)
    · obtain ⟨d, hd, h⟩ := List.mem_flatMap.mp h
      exact List.mem_flatMap.mpr ⟨d, hd, List.mem_flatMap.mpr ⟨x, h, List.mem_cons_self⟩⟩
    · obtain ⟨d, hd, h⟩ := List.mem_flatMap.mp h
      exact List.mem_flatMap.mpr ⟨d, hd, List.mem_flatMap.mpr ⟨k, h, by rw [← e]; simp⟩⟩
theorem lawKeys_set (ds : List PyData) : sset ltT (lawKeys ds) = psetS ds := sset_same lo_T (lawKeys_mem ds)
theorem lawKeys_ne (ds : List PyData) : ∀ k ∈ lawKeys ds, k ≠ [] := fun k hk => by
  obtain ⟨fe, ne⟩ := found_eq ds
  rcases List.mem_append.mp ((lawKeys_mem ds k).mp hk) with z | z
  · exact ne k z
  · obtain ⟨k', h1, rfl⟩ := List.mem_map.mp z
    have := ne k' h1
    cases k' with
    | nil => exact absurd rfl this
    | cons a r => simp
theorem pset_few {ds : List PyData} (h : ∀ d ∈ ds, isStp d = true) (hl : ds.length ≤ 8) : (psetS ds).length < 64 := by
  have := keys_len h
  exact Nat.lt_of_le_of_lt (sset_len ..) (by rw [List.length_append, List.length_map]; omega)
/-- a step's items: what isn't a path is no tuple that begins with a text -/
theorem item_kind {w : Str} {r : List PyData} (h : isStp (.tuple (.str w :: r)) = true) : ∀ d ∈ r, isPth d = false → ∀ Φ : Bool → Prop, Φ false → (if isTy Ty.tuple d = true then opIx d (.int 0) (fun x => Φ (isTy Ty.str x)) else Φ false) := by
  intro d hd hp Φ hΦ
  have rts : isRts d = true → (if isTy Ty.tuple d = true then opIx d (.int 0) (fun x => Φ (isTy Ty.str x)) else Φ false) := fun hr => by
    cases d with
    | tuple es =>
      match es, hr with
      | [a, b], hr =>
        have hr' : (isNum a 0 7 && isNum b 0 7) = true := hr
        rw [Bool.and_eq_true] at hr'
        cases a <;> first | exact nomatch (show false = true from hr'.1) | (simp; exact hΦ)
    | _ => exact nomatch (show false = true from hr)
  have nmc : isNm d = true → (if isTy Ty.tuple d = true then opIx d (.int 0) (fun x => Φ (isTy Ty.str x)) else Φ false) := fun hr => by
    obtain ⟨z, rfl⟩ := nm_str hr
    simpa using hΦ
  have grp : isGrp d = true → (if isTy Ty.tuple d = true then opIx d (.int 0) (fun x => Φ (isTy Ty.str x)) else Φ false) := fun hr => by
    cases d <;> first | exact nomatch (show false = true from hr) | simpa using hΦ
  match r, h, hd with
  | [a], h, hd =>
    rw [List.mem_singleton.mp hd] at hp rts ⊢
    have h' : isS1 w a = true := h
    unfold isS1 at h'
    rw [hp] at h'
    simp at h'
    exact rts h'.2
  | [a, b], h, hd =>
    have h' : isS2 w a b = true := h
    unfold isS2 at h'
    rw [Bool.and_eq_true] at h'
    rcases List.mem_cons.mp hd with e | hd
    · rw [e, h'.1] at hp; cases hp
    · rw [List.mem_singleton.mp hd] at hp rts nmc grp ⊢
      have h2 := h'.2
      rw [hp] at h2
      simp at h2
      rcases h2 with h2 | h2 | h2 | h2 | h2 | h2
      · exact rts h2.2
      · exact rts h2.2
      · exact rts h2.2.1
      · exact nmc h2.2
      · exact nmc h2.2
      · exact grp h2.2
theorem item_no {w : Str} {r : List PyData} (h : isStp (.tuple (.str w :: r)) = true) {d : PyData} (hd : d ∈ r) (hp : isPth d = false) (P Q : Prop) (q : Q) :
    (if isTy Ty.tuple d = true then opIx d (.int 0) (fun x => if isTy Ty.str x = true then P else Q) else Q) := by
  have := item_kind h d hd hp (fun b => if b = true then P else Q) (by simpa using q)
  simpa using this
theorem law_keys_len {l : List PyData} (h : ∀ x ∈ l, isStp x = true) : (lawKeys l).length ≤ l.length * 4 := by
  induction l with
  | nil => exact Nat.le_refl _
  | cons x l ih =>
    have q1 := ih fun y z => h y (List.mem_cons_of_mem _ z)
    have q2 := pths_len (h x List.mem_cons_self)
    have q3 : (((pthsS x).map pk).flatMap fun k => [k, k.take 1]).length = (pthsS x).length * 2 := by
      generalize pthsS x = m
      induction m with
      | nil => rfl
      | cons a m ih2 => rw [List.map_cons, List.flatMap_cons, List.length_append, ih2, List.length_cons]; simp; omega
    unfold lawKeys at q1 ⊢
    rw [List.flatMap_cons, List.length_append, q3, List.length_cons]
    omega
def two (l : List PyData) : List (List Str) := ((l.filter isPth).map pk).flatMap fun k => [k, k.take 1]
theorem two_len (l : List PyData) : (two l).length ≤ l.length * 2 := by
  unfold two
  have : (l.filter isPth).length ≤ l.length := List.length_filter_le ..
  generalize l.filter isPth = m at this ⊢
  have key : (((m.map pk).flatMap fun k => [k, k.take 1])).length = m.length * 2 := by
    induction m with
    | nil => rfl
    | cons a m ih2 => rw [List.map_cons, List.flatMap_cons, List.length_append, ih2 (by simp at this; omega), List.length_cons]; simp; omega
  omega
theorem two_no {l : List PyData} {d : PyData} (h : isPth d = false) : two (l ++ [d]) = two l := by
  unfold two
  rw [List.filter_append, List.filter_cons_of_neg (by simp [h]), List.filter_nil, List.append_nil]
theorem two_yes {l : List PyData} {d : PyData} (h : isPth d = true) : two (l ++ [d]) = two l ++ [pk d, (pk d).take 1] := by
  unfold two
  rw [List.filter_append, List.filter_cons_of_pos h, List.filter_nil, List.map_append, List.flatMap_append]
  simp
def isScr : PyData → Bool
  | .tuple ds => decide (ds.length ≤ 8) && (ds.all isStp && decide ((psetS ds).length ≤ 5))
  | _ => false
theorem len8 (ds : List PyData) : decide ((8 : Int) < ds.length) = !decide (ds.length ≤ 8) := by
  by_cases h : ds.length ≤ 8
  · rw [decide_eq_true h, decide_eq_false (by omega)]; rfl
  · rw [decide_eq_false h, decide_eq_true (by omega)]; rfl
theorem len5 (l : List (List Str)) : decide ((l.length : Int) ≤ 5) = decide (l.length ≤ 5) := decide_eq_decide.mpr (by omega)
theorem m_is_script (v : PyData) (Φ : PyData → Prop) : w_is_script [v] Φ = Φ (.bool (isScr v)) := by
  cases v with
  | tuple ds =>
    simp only [w_is_script, wRun]
    simp [unS]
    rw [lc_F (fun d => !isStp d) fun d hd k => by cases hs : isStp d <;> simp [hs]]
    rw [eqa_n, filter_none, all_notnot]
    by_cases h8 : ds.length ≤ 8
    · have h8' : ¬ (8 : Int) < ds.length := by omega
      cases ha : ds.all isStp with
      | false => simp [isScr, h8, h8', ha, LIM]
      | true =>
        rw [List.all_eq_true] at ha
        have ha' : ds.all isStp = true := List.all_eq_true.mpr ha
        simp [h8', LIM, m_paths_of ha h8]
        rw [len5]
        simp [isScr, h8, ha']
    · have h8' : (8 : Int) < ds.length := by omega
      simp [isScr, h8, h8']
  | _ => simp [w_is_script, wRun, isScr]
/-- the words that a script writes -/
def wordsS (ds : List PyData) : List Str := ds.filterMap fun d => match d with
  | .tuple [.str w, _, .str b] => if w = "write" then some b else none
  | _ => none
theorem words_map {ds : List PyData} (h : ∀ d ∈ ds, isStp d = true) : ds.filterMap (fun d => match d with
    | .tuple [.str w, _, b] => if w = ("write" : Str) then some b else none
    | _ => none) = (wordsS ds).map .str := by
  induction ds with
  | nil => rfl
  | cons d ds ih =>
    have ih := ih fun y z => h y (List.mem_cons_of_mem _ z)
    have hd := h d List.mem_cons_self
    unfold wordsS at ih ⊢
    cases d with
    | tuple es =>
      match es, hd with
      | [.str w, a], _ => rw [List.filterMap_cons_none (by rfl), List.filterMap_cons_none (by rfl)]; exact ih
      | [.str w, a, b], hd =>
        by_cases hw : w = "write"
        · have hb : ∃ z, b = .str z := by
            subst hw
            have hd' : isS2 "write" a b = true := hd
            unfold isS2 at hd'
            simp [ne_w0, ne_w1, ne_w2, ne_w3, ne_w4, ne_w5] at hd'
            exact nm_str hd'.2
          obtain ⟨z, rfl⟩ := hb
          rw [List.filterMap_cons_some (b := .str z) (by simp [hw]), List.filterMap_cons_some (b := z) (by simp [hw]), ih]; rfl
        · rw [List.filterMap_cons_none (by simp [hw]), List.filterMap_cons_none (by cases b <;> simp [hw])]; exact ih
    | _ => exact nomatch (show false = true from hd)
theorem words_len (ds : List PyData) : (wordsS ds).length ≤ ds.length := List.length_filterMap_le ..
theorem d_draw (m : Int) (Φ : PyData → Prop) : wDraw [.int m] Φ = ((0 < m ∧ m < 340282366920938463463374607431768211456) ∧ ∀ i : Int, 0 ≤ i → i < m → Φ (.int i)) := nr rfl
theorem lim_val : LIM = 16777216 := rfl
theorem at_some {xs : List PyData} {i : Int} (h0 : 0 ≤ i) (h1 : i < xs.length) : ∃ x ∈ xs, atI xs i = some x := by
  obtain ⟨n, rfl⟩ := Int.eq_ofNat_of_zero_le h0
  have hn : n < xs.length := by omega
  exact ⟨xs[n], List.getElem_mem hn, at_nat (List.getElem?_eq_getElem hn)⟩
theorem m_of {xs : List PyData} (ne : xs ≠ []) (hl : xs.length ≤ LIM) (Φ : PyData → Prop) (h : ∀ x ∈ xs, Φ x) : w_law_of [.list xs] Φ := by
  have lp : 0 < xs.length := List.length_pos_iff.mpr ne
  have := lim_val
  simp [w_law_of, wRunT, wRunTn, d_draw]
  refine ⟨⟨by omega, by omega⟩, fun i h0 h1 => ?_⟩
  obtain ⟨x, hx, e⟩ := at_some h0 h1
  rw [e]
  exact h x hx
theorem m_rights (Φ : PyData → Prop) (h : ∀ a b : Int, 0 ≤ a → a ≤ 7 → 0 ≤ b → b ≤ 7 → Φ (.tuple [.int a, .int b])) : w_law_rights [] Φ := by
  simp only [w_law_rights, wRunT, wRunTn]
  simp [d_draw, LIM]
  intro i h0 h1
  split
  · refine m_of (by simp) (by simp [LIM]) _ fun x hx => ?_
    simp at hx
    rcases hx with rfl | rfl | rfl | rfl | rfl | rfl | rfl | rfl <;> exact h _ _ (by decide) (by decide) (by decide) (by decide)
  · intro a a0 a1 b b0 b1
    exact h a b a0 (by omega) b0 (by omega)
theorem asO_any {xs : List PyData} {i : Int} {Φ : PyData → Prop} (h0 : 0 ≤ i) (h1 : i < xs.length) (h : ∀ d ∈ xs, Φ d) : asO (atI xs i) Φ := by
  obtain ⟨x, hx, e⟩ := at_some h0 h1
  rw [e]
  exact h x hx
theorem lc_all {i : Nat} {w : WE} {ε : EV} (R : PyData → Prop) : ∀ {ds : List PyData} {Φ : List PyData → Prop}, (∀ d ∈ ds, ∀ k : PyData → Prop, (∀ r, R r → k r) → w (ε.set i (.val d)) k) → (∀ rs : List PyData, rs.length = ds.length → (∀ r ∈ rs, R r) → Φ rs) → wLc (wgV i) wYes w ds ε Φ
  | [], Φ, _, h => h [] rfl (by simp)
  | d :: ds, Φ, h1, h => h1 d List.mem_cons_self _ fun r hr => lc_all R (fun d z => h1 d (List.mem_cons_of_mem _ z)) fun rs hl hrs => h (r :: rs) (by simp [hl]) fun x hx => by
    rcases List.mem_cons.mp hx with e | hx
    · rw [e]; exact hr
    · exact hrs x hx
def isWh : PyData → Bool
  | .int _ => true
  | _ => false
/-- of a bounded size -/
def smo : Nat → PyData → Bool
  | _, .none => true
  | _, .bool _ => true
  | _, .int _ => true
  | _, .str z => decide (z.length ≤ 100)
  | k + 1, .list ds => decide (ds.length ≤ 100) && ds.all (smo k)
  | k + 1, .tuple ds => decide (ds.length ≤ 100) && ds.all (smo k)
  | _, _ => false
theorem cutS_le (z : Str) (lo hi : Option Int) : (cutS z lo hi).length ≤ z.length := cutS_length z lo hi
theorem ixN_in {n : Nat} {i : Int} (h0 : 0 ≤ i) (h1 : i < n) : ixN n i = some i.toNat := by
  unfold ixN
  rw [if_pos h0, if_pos h1]
theorem seqI_in {n : Nat} {i : Int} (h0 : 0 ≤ i) (h1 : i < n) : seqIndex? i n = some i.toNat := by
  unfold seqIndex?
  have : ¬ i < 0 := by omega
  simp [this, h0, h1]
def isCon : PyData → Bool
  | .list _ => true
  | .tuple _ => true
  | _ => false
def mn1 : List (List Str) := [["f"], ["g"], ["h"]]
def mn2 : List (List Str) := [["d"], ["d", "f"], ["g"]]
def mn3 : List (List Str) := [["d"], ["d", "f"], ["d", "g"]]
theorem m_wide_menu (Φ : PyData → Prop) (h : ∀ ks, ks = mn1 ∨ ks = mn2 ∨ ks = mn3 → Φ (.list (ks.map tupS))) : w_law_wide_menu [] Φ := by
  simp only [w_law_wide_menu, wRunT, wRunTn]
  simp [LIM]
  refine m_of (by simp) (by simp [LIM]) _ fun x hx => ?_
  simp at hx
  rcases hx with rfl | rfl | rfl
  · exact h mn1 (.inl rfl)
  · exact h mn2 (.inr (.inl rfl))
  · exact h mn3 (.inr (.inr rfl))
theorem m_like_b (m : Nat) (a : Bool) (Φ : PyData → Prop) : wN_law_like (m + 1) [.bool a, .bool a] Φ = Φ (.bool true) := by
  show w_law_like (wN_law_like m) _ Φ = _
  generalize wN_law_like m = u
  simp [w_law_like, wRun]
theorem m_like_s (m : Nat) (a : Str) (Φ : PyData → Prop) : wN_law_like (m + 1) [.str a, .str a] Φ = Φ (.bool true) := by
  show w_law_like (wN_law_like m) _ Φ = _
  generalize wN_law_like m = u
  simp [w_law_like, wRun]
/-- like, of two equal lists of things that are alike -/
theorem m_like_l (m : Nat) (xs : List PyData) (hl : xs.length ≤ 100) (ih : ∀ x ∈ xs, ∀ Φ : PyData → Prop, wN_law_like m [x, x] Φ = Φ (.bool true)) (Φ : PyData → Prop) (v : PyData) (hv : v = .list xs ∨ v = .tuple xs) : wN_law_like (m + 1) [v, v] Φ = Φ (.bool true) := by
  have go : ∀ {ε : EV}, ε.length = 3 → (ε[0]? = some (SV.val v)) → (ε[1]? = some (SV.val v)) → ∀ (k : List PyData → Prop), wLc (wgV 2) (wNot (wTest (wFn (wN_law_like m) (wACons (wBin opIx (wV 0) (wV 2)) (wACons (wBin opIx (wV 1) (wV 2)) wANil))))) (wV 2) (wiRng 0 xs.length) ε k = k [] := by
    intro ε h3 h0 h1 k
    rw [lc_F (fun _ => false) fun d hd k => ?_]
    · rw [List.filter_eq_nil_iff.mpr (by simp)]
    · obtain ⟨n, hn, rfl⟩ := List.mem_map.mp hd
      have hn' : n < xs.length := List.mem_range.mp hn
      have e0 : (ε.set 2 (SV.val (.int (0 + (n : Int)))))[0]? = some (SV.val v) := by rw [List.getElem?_set_ne (by decide)]; exact h0
      have e1 : (ε.set 2 (SV.val (.int (0 + (n : Int)))))[1]? = some (SV.val v) := by rw [List.getElem?_set_ne (by decide)]; exact h1
      have e2 : (ε.set 2 (SV.val (.int (0 + (n : Int)))))[2]? = some (SV.val (.int (0 + (n : Int)))) := List.getElem?_set_self (by omega)
      have ea : atI xs (0 + (n : Int)) = some xs[n] := by rw [Int.zero_add]; exact at_nat (List.getElem?_eq_getElem hn')
      rcases hv with rfl | rfl
      · simp only [e_gV, e_Not, e_Test, e_Fn, e_ACons, e_Bin, e_V, e0, e1, e2, asV_v, o_ixL, ea, asO_s, e_ANil]
        rw [ih _ (List.getElem_mem hn')]
        simp
      · simp only [e_gV, e_Not, e_Test, e_Fn, e_ACons, e_Bin, e_V, e0, e1, e2, asV_v, o_ixT, ea, asO_s, e_ANil]
        rw [ih _ (List.getElem_mem hn')]
        simp
  show w_law_like (wN_law_like m) _ Φ = _
  generalize wN_law_like m = u at go
  have hlim : (xs.length : Int) ≤ 16777216 := by omega
  rcases hv with rfl | rfl
  · simp only [w_law_like, wRun]
    simp [LIM, hlim, unS]
    rw [go rfl rfl rfl]
    simp
  · simp only [w_law_like, wRun]
    simp [LIM, hlim, unS]
    rw [go rfl rfl rfl]
    simp
/-! steps of a script, typed -/
abbrev Rt := Fin 8 × Fin 8
def rtD (r : Rt) : PyData := .tuple [.int (r.1.val : Int), .int (r.2.val : Int)]
inductive Stp where
  | mask (r : Rt)
  | make (p : List Str) (r : Rt)
  | folder (p : List Str) (r : Rt)
  | write (p : List Str) (w : Str)
  | rights (p : List Str) (r : Rt)
  | group (p : List Str) (g : Str)
  | move (p q : List Str)
  | copy (p q : List Str)
  | out (p : List Str)
  | use (p : List Str) (w : Str)
def Stp.d : Stp → PyData
  | .mask r => .tuple [.str "mask", rtD r]
  | .make p r => .tuple [.str "make", tupS p, rtD r]
  | .folder p r => .tuple [.str "folder", tupS p, rtD r]
  | .write p w => .tuple [.str "write", tupS p, .str w]
  | .rights p r => .tuple [.str "rights", tupS p, rtD r]
  | .group p g => .tuple [.str "group", tupS p, .str g]
  | .move p q => .tuple [.str "move", tupS p, tupS q]
  | .copy p q => .tuple [.str "copy", tupS p, tupS q]
  | .out p => .tuple [.str "out", tupS p]
  | .use p w => .tuple [.str "use", tupS p, .str w]
def kg : List Str := ["key", "go"]
/-- as the law draws it: its paths from ks, its words from kg -/
def Stp.Good (ks : List (List Str)) : Stp → Prop
  | .mask _ => True
  | .make p _ => p ∈ ks
  | .folder p _ => p ∈ ks ∧ p.length = 1
  | .write p w => p ∈ ks ∧ w ∈ kg
  | .rights p _ => p ∈ ks
  | .group p g => p ∈ ks ∧ (g = "own" ∨ g = "team")
  | .move p q => p ∈ ks ∧ q ∈ ks ∧ q ≠ p
  | .copy p q => p ∈ ks ∧ q ∈ ks ∧ q ≠ p
  | .out p => p ∈ ks
  | .use p w => p ∈ ks ∧ w ∈ kg
section
variable {Φ : PyData → Prop}
theorem depth_tupS (k : List Str) : (tupS k).depth = 1 := by
  have : PyData.depthAll (k.map .str) = 0 := by
    induction k with
    | nil => simp
    | cons a k ih => simp [ih]
  unfold tupS
  rw [dp_tup, this]
@[simp high] theorem o_lenTS (k : List Str) : opLen [tupS k] Φ = Φ (.int k.length) := by unfold tupS; rw [o_lenT, List.length_map]
@[simp high] theorem o_eqTS (k m : List Str) : opEq (tupS k) (tupS m) Φ = Φ (.bool (decide (k = m))) := by
  rw [o_eq, depth_tupS, depth_tupS, eqv_tupS]; simp
@[simp high] theorem o_neTS (k m : List Str) : opNe (tupS k) (tupS m) Φ = Φ (.bool (!decide (k = m))) := by
  rw [o_ne, depth_tupS, depth_tupS, eqv_tupS]; simp
theorem any_eqTS (k : List Str) (ks : List (List Str)) : ((ks.map tupS).any fun z => PyData.eqv z (tupS k)) = decide (k ∈ ks) := by
  rw [List.any_map]
  induction ks with
  | nil => simp
  | cons a ks ih =>
    rw [List.any_cons, ih]
    show (PyData.eqv (tupS a) (tupS k) || _) = _
    rw [eqv_tupS]
    by_cases h : a = k
    · simp [h]
    · have h' : ¬ k = a := fun e => h e.symm
      simp [h, h']
@[simp high] theorem o_inTS (neg : Bool) (k : List Str) (ks : List (List Str)) : inD neg (tupS k) (.list (ks.map tupS)) Φ = Φ (.bool (neg ^^ decide (k ∈ ks))) := by
  rw [o_inL, depth_tupS, any_eqTS]; simp
end
theorem isTypS (k : List Str) : tupS k = .tuple (k.map .str) := nr rfl
/-- the end of the law's step_of -/
def stEnd (Φ : PyData → Prop) : WEnds := { nx := fun _ => Φ .none, rt := fun _ => Φ, bk := fun _ => False, ct := fun _ => False }
theorem so_end {ks : List (List Str)} {p q : List Str} {s w : Str} {m d o f x : SV} (pk : ∀ k ∈ ks, k.length = 1 ∨ k.length = 2) (hp : p ∈ ks) (hq : q ∈ ks) (hw : w ∈ kg) (Φ : PyData → Prop) (h : ∀ t : Stp, t.Good ks → Φ t.d) :
    t_law_step_of_6 [.tp none, m, d, o, .val (tupS p), .val (.str s), .val (tupS q), .val (.str w), f, x] (stEnd Φ) := by
  have hr : ∀ (g : PyData → Prop), (∀ r : Rt, g (rtD r)) → w_law_rights [] g := fun g hg => m_rights g fun a b a0 a7 b0 b7 => by
    have := hg (⟨a.toNat, by omega⟩, ⟨b.toNat, by omega⟩)
    unfold rtD at this
    simp only [Int.toNat_of_nonneg a0, Int.toNat_of_nonneg b0] at this
    exact this
  simp only [t_law_step_of_6, t_law_step_of_5, t_law_step_of_4, t_law_step_of_3, t_law_step_of_2, t_law_step_of_1]
  by_cases c1 : s = "make"
  · subst c1
    simp [LIM, stEnd, ne_w0, ne_w1, ne_w2, ne_w3, ne_w4, ne_w5]
    exact hr _ fun r => h (.make p r) hp
  by_cases c2 : s = "rights"
  · subst c2
    simp [LIM, stEnd, ne_w0, ne_w1, ne_w2, ne_w3, ne_w4, ne_w5]
    exact hr _ fun r => h (.rights p r) hp
  have c1' : ¬ ("make" : Str) = s := fun e => c1 e.symm
  have c2' : ¬ ("rights" : Str) = s := fun e => c2 e.symm
  have hwr : Φ (PyData.tuple [.str "write", tupS p, .str w]) := h (.write p w) ⟨hp, hw⟩
  by_cases c3 : s = "folder"
  · subst c3
    rcases pk p hp with l1 | l2
    · simp [LIM, stEnd, ne_w0, ne_w1, ne_w2, ne_w3, ne_w4, ne_w5, o_lenTS, l1]
      exact hr _ fun r => h (.folder p r) ⟨hp, l1⟩
    · simp [LIM, stEnd, ne_w0, ne_w1, ne_w2, ne_w3, ne_w4, ne_w5, o_lenTS, l2]
      exact hwr
  by_cases c4 : s = "use"
  · subst c4
    simp [LIM, stEnd, ne_w0, ne_w1, ne_w2, ne_w3, ne_w4, ne_w5]
    exact h (.use p w) ⟨hp, hw⟩
  by_cases c5 : s = "mask"
  · subst c5
    simp [LIM, stEnd, ne_w0, ne_w1, ne_w2, ne_w3, ne_w4, ne_w5]
    exact hr _ fun r => h (.mask r) trivial
  by_cases c6 : s = "group"
  · subst c6
    simp [LIM, stEnd, ne_w0, ne_w1, ne_w2, ne_w3, ne_w4, ne_w5]
    refine m_of (by simp) (by simp [LIM]) _ fun y hy => ?_
    simp at hy
    rcases hy with rfl | rfl
    · exact h (.group p "own") ⟨hp, .inl rfl⟩
    · exact h (.group p "team") ⟨hp, .inr rfl⟩
  by_cases c7 : s = "out"
  · subst c7
    simp [LIM, stEnd, ne_w0, ne_w1, ne_w2, ne_w3, ne_w4, ne_w5]
    exact h (.out p) hp
  by_cases c8 : s = "move"
  · subst c8
    by_cases e : q = p
    · simp [LIM, stEnd, ne_w0, ne_w1, ne_w2, ne_w3, ne_w4, ne_w5, depth_tupS, eqv_tupS, e]
      exact hwr
    · simp [LIM, stEnd, ne_w0, ne_w1, ne_w2, ne_w3, ne_w4, ne_w5, depth_tupS, eqv_tupS, e]
      exact h (.move p q) ⟨hp, hq, e⟩
  by_cases c9 : s = "copy"
  · subst c9
    by_cases e : q = p
    · simp [LIM, stEnd, ne_w0, ne_w1, ne_w2, ne_w3, ne_w4, ne_w5, depth_tupS, eqv_tupS, e]
      exact hwr
    · simp [LIM, stEnd, ne_w0, ne_w1, ne_w2, ne_w3, ne_w4, ne_w5, depth_tupS, eqv_tupS, e]
      exact h (.copy p q) ⟨hp, hq, e⟩
  have c8' : ¬ ("move" : Str) = s := fun e => c8 e.symm
  have c9' : ¬ ("copy" : Str) = s := fun e => c9 e.symm
  simp [LIM, stEnd, c1, c2, c3, c4, c5, c6, c7, c1', c2', c8', c9']
  exact hwr
theorem so_mid {ks made fr : List (List Str)} {p q : List Str} {s w : Str} {m o x : SV} (pk : ∀ k ∈ ks, k.length = 1 ∨ k.length = 2) (lk : ks.length ≤ 3) (hf : ∀ k ∈ fr, k ∈ ks) (lf : fr.length ≤ 3) (hp : p ∈ ks) (hq : q ∈ ks) (hw : w ∈ kg) (Φ : PyData → Prop) (h : ∀ t : Stp, t.Good ks → Φ t.d) :
    t_law_step_of_7 [.tp none, m, .val (.list (made.map tupS)), o, .val (tupS p), .val (.str s), .val (tupS q), .val (.str w), .val (.list (fr.map tupS)), x] (stEnd Φ) := by
  have fin : ∀ {p : List Str} {s : Str}, p ∈ ks → t_law_step_of_6 [.tp none, m, .val (.list (made.map tupS)), o, .val (tupS p), .val (.str s), .val (tupS q), .val (.str w), .val (.list (fr.map tupS)), x] (stEnd Φ) := fun hp => so_end pk hp hq hw Φ h
  simp only [t_law_step_of_7, t_law_step_of_0]
  generalize t_law_step_of_6 = T at fin ⊢
  have hd : ∀ k : List (List Str), (min (PyData.depthAll (k.map tupS) + 1) 1 ≤ 60) := fun k => by omega
  cases fr with
  | nil =>
    simp [LIM]
    exact fin hp
  | cons a fr =>
    have ha := hf a List.mem_cons_self
    have lf' : (fr.length : Int) + 1 ≤ 3 := by simp at lf; omega
    have ed : (PyData.tuple [PyData.str (Str.ofString "d")]) = tupS ["d"] := rfl
    have go : ∀ (b : List Str) (s : Str), b ∈ ks → T [.tp none, m, .val (.list (made.map tupS)), o, .val (tupS b), .val (.str s), .val (tupS q), .val (.str w), .val (.list (tupS a :: fr.map tupS)), x] (stEnd Φ) := fun b s hb => fin hb
    have body : wDraw [PyData.int 3] fun x_1 => opGt x_1 (PyData.int 0) fun d => asB d fun c =>
        if c = true then min (tupS a).depth 1 ≤ 60 ∧
          if (tupS a).eqv (PyData.tuple [PyData.str (Str.ofString "d")]) = true then T [SV.tp none, m, SV.val (PyData.list (List.map tupS made)), o, SV.val (tupS a), SV.val (PyData.str (Str.ofString "folder")), SV.val (tupS q), SV.val (PyData.str w), SV.val (PyData.list (tupS a :: List.map tupS fr)), x] (stEnd Φ)
          else T [SV.tp none, m, SV.val (PyData.list (List.map tupS made)), o, SV.val (tupS a), SV.val (PyData.str (Str.ofString "make")), SV.val (tupS q), SV.val (PyData.str w), SV.val (PyData.list (tupS a :: List.map tupS fr)), x] (stEnd Φ)
        else w_law_of [PyData.list (tupS a :: List.map tupS fr)] fun d => min d.depth 1 ≤ 60 ∧
          if d.eqv (PyData.tuple [PyData.str (Str.ofString "d")]) = true then T [SV.tp none, m, SV.val (PyData.list (List.map tupS made)), o, SV.val d, SV.val (PyData.str (Str.ofString "folder")), SV.val (tupS q), SV.val (PyData.str w), SV.val (PyData.list (tupS a :: List.map tupS fr)), x] (stEnd Φ)
          else T [SV.tp none, m, SV.val (PyData.list (List.map tupS made)), o, SV.val d, SV.val (PyData.str (Str.ofString "make")), SV.val (tupS q), SV.val (PyData.str w), SV.val (PyData.list (tupS a :: List.map tupS fr)), x] (stEnd Φ) := by
      rw [d_draw]
      refine ⟨by omega, fun i i0 i1 => ?_⟩
      simp [ed, depth_tupS, eqv_tupS]
      split
      · split <;> exact go _ _ ha
      · refine m_of (by simp) (by simp [LIM]; omega) _ fun y hy => ?_
        have hy' : ∃ b ∈ ks, y = tupS b := by
          rcases List.mem_cons.mp hy with e | hy
          · exact ⟨a, ha, e⟩
          · obtain ⟨b, hb, e⟩ := List.mem_map.mp hy
            exact ⟨b, hf b (List.mem_cons_of_mem _ hb), e.symm⟩
        obtain ⟨b, hb, rfl⟩ := hy'
        simp [depth_tupS, eqv_tupS]
        split <;> exact go _ _ hb
    simp [LIM]
    split
    · exact body
    · split
      · exact body
      · exact go _ _ hp
theorem m_step_of {ks made : List (List Str)} {sorts : List Str} (pk : ∀ k ∈ ks, k.length = 1 ∨ k.length = 2) (nk : ks ≠ []) (lk : ks.length ≤ 3) (hm : ∀ k ∈ made, k ∈ ks) (lm : made.length ≤ 50) (ns : sorts ≠ []) (ls : sorts.length ≤ 100) (Φ : PyData → Prop) (h : ∀ t : Stp, t.Good ks → Φ t.d) :
    w_law_step_of [.list (ks.map tupS), .list (made.map tupS), .list (sorts.map .str)] Φ := by
  have key : ∀ (l : List (List Str)) (Ψ : PyData → Prop), l ≠ [] → l.length ≤ 50 → (∀ k ∈ l, k ∈ ks) → (∀ p ∈ ks, Ψ (tupS p)) → w_law_of [.list (l.map tupS)] Ψ := fun l Ψ n z hl hΨ =>
    m_of (by simpa using n) (by simp [LIM]; omega) _ fun y hy => by
      obtain ⟨b, hb, rfl⟩ := List.mem_map.mp hy
      exact hΨ b (hl b hb)
  simp only [w_law_step_of, wRunT, wRunTn, t_law_step_of_9, t_law_step_of_8]
  have fin : ∀ {fr : List (List Str)} {p q : List Str} {s w : Str}, (∀ k ∈ fr, k ∈ ks) → fr.length ≤ 3 → p ∈ ks → q ∈ ks → w ∈ kg →
      t_law_step_of_7 [.tp none, .val (.list (ks.map tupS)), .val (.list (made.map tupS)), .val (.list (sorts.map .str)), .val (tupS p), .val (.str s), .val (tupS q), .val (.str w), .val (.list (fr.map tupS)), .un] (stEnd Φ) := fun hf lf hp hq hw => so_mid pk lk hf lf hp hq hw Φ h
  generalize t_law_step_of_7 = T at fin ⊢
  simp [LIM, d_draw, unS]
  have rest : ∀ p ∈ ks, w_law_of [PyData.list (sorts.map .str)] fun e => w_law_of [PyData.list (ks.map tupS)] fun d => w_law_of [PyData.list [PyData.str (Str.ofString "key"), PyData.str (Str.ofString "go")]] fun e_1 =>
      wLc (wgV 9) (wTest (wBin (inD true) (wV 9) (wV 2))) (wV 9) (List.map tupS ks) [SV.tp none, SV.val (PyData.list (List.map tupS ks)), SV.val (PyData.list (List.map tupS made)), SV.val (PyData.list (List.map PyData.str sorts)), SV.val (tupS p), SV.val e, SV.val d, SV.val e_1, SV.un, SV.un] fun ds =>
        T [SV.tp none, SV.val (PyData.list (List.map tupS ks)), SV.val (PyData.list (List.map tupS made)), SV.val (PyData.list (List.map PyData.str sorts)), SV.val (tupS p), SV.val e, SV.val d, SV.val e_1, SV.val (PyData.list ds), SV.un] (stEnd Φ) := by
    intro p hp
    refine m_of (by simpa using ns) (by simp [LIM]; omega) _ fun y hy => ?_
    obtain ⟨s, hs, rfl⟩ := List.mem_map.mp hy
    refine key ks _ nk (by omega) (fun k hk => hk) fun q hq => ?_
    refine m_of (by simp) (by simp [LIM]) _ fun y hy => ?_
    have hy' : ∃ w ∈ kg, y = .str w := by
      simp at hy
      rcases hy with rfl | rfl
      · exact ⟨"key", by simp [kg], rfl⟩
      · exact ⟨"go", by simp [kg], rfl⟩
    obtain ⟨w, hw, rfl⟩ := hy'
    rw [lc_F (fun d => !decide (Lw.pk d ∈ made)) fun d hd k => by
      obtain ⟨b, hb, rfl⟩ := List.mem_map.mp hd
      by_cases hbm : b ∈ made <;> simp [-o_inL, hbm, pk_tupS]]
    have e : (ks.map tupS).filter (fun d => !decide (Lw.pk d ∈ made)) = (ks.filter fun k => !decide (k ∈ made)).map tupS := by
      rw [List.filter_map]
      congr 1
      refine List.filter_congr fun k _ => ?_
      show (!decide (Lw.pk (tupS k) ∈ made)) = _
      rw [pk_tupS]
    rw [e]
    exact fin (fun k hk => (List.mem_filter.mp hk).1) (Nat.le_trans (List.length_filter_le ..) lk) hp hq hw
  have eE : ({ nx := fun x => Φ PyData.none, rt := fun x => Φ, bk := fun x => False, ct := fun x => False } : WEnds) = stEnd Φ := rfl
  rw [eE]
  split
  · exact key ks _ nk (by omega) (fun k hk => hk) rest
  · rename_i hne
    intro i i0 i1
    split
    · refine key made _ (fun e => hne (by rw [e]; simp)) lm hm rest
    · exact key ks _ nk (by omega) (fun k hk => hk) rest
/-! scripts as the law draws them -/
def scD (ts : List Stp) : PyData := .tuple (ts.map Stp.d)
def madeBy : Stp → Option (List Str)
  | .make p _ => some p
  | .folder p _ => some p
  | .write p _ => some p
  | _ => none
theorem m_script {ks : List (List Str)} {sorts : List Str} (lp : ∀ k ∈ ks, k.length = 1 ∨ k.length = 2) (nk : ks ≠ []) (lk : ks.length ≤ 3) (ns : sorts ≠ []) (ls : sorts.length ≤ 100) (most : Nat) (m1 : 1 ≤ most) (m8 : most ≤ 8) (Φ : PyData → Prop)
    (h : ∀ ts : List Stp, 1 ≤ ts.length → ts.length ≤ most → (∀ t ∈ ts, t.Good ks) → Φ (scD ts)) : w_law_script [.int most, .list (sorts.map .str), .list (ks.map tupS)] Φ := by
  simp only [w_law_script, wRunT, wRunTn, t_law_script_3]
  simp [LIM, d_draw]
  refine ⟨⟨by omega, by omega⟩, fun i i0 i1 => ⟨⟨by omega, by omega⟩, ?_⟩⟩
  have ll : (wiRng 0 (1 + i).toNat).length = (1 + i).toNat := by unfold wiRng; simp
  refine for_I (done := []) (fun done ε => ∃ (ts : List Stp) (made : List (List Str)) (s6 s7 : SV), ts.length = done.length ∧ (∀ t ∈ ts, t.Good ks) ∧ made.length ≤ done.length ∧ (∀ k ∈ made, k ∈ ks) ∧
    ε = [SV.tp none, SV.val (.int (most : Int)), SV.val (.list (sorts.map .str)), SV.val (.list (ks.map tupS)), SV.val (.list (made.map tupS)), SV.val (scD ts), s6, s7]) ⟨[], [], _, _, rfl, by simp, by simp, by simp, rfl⟩ ?_ ?_
  · rintro d done rest ε e ⟨ts, made, s6, s7, hl, hg, ml, hmk, rfl⟩ Ψ' _ hn
    have dl : done.length < 8 := by
      have := congrArg List.length e
      rw [List.nil_append, ll, List.length_append, List.length_cons] at this
      omega
    simp
    refine m_step_of lp nk lk hmk (by omega) ns ls _ fun t ht => ?_
    have g1 : ∀ t' ∈ ts ++ [t], t'.Good ks := fun t' h' => by
      rcases List.mem_append.mp h' with z | z
      · exact hg t' z
      · rw [List.mem_singleton.mp z]; exact ht
    have keep : Ψ'.nx [SV.tp none, SV.val (.int (most : Int)), SV.val (.list (sorts.map .str)), SV.val (.list (ks.map tupS)), SV.val (.list (made.map tupS)), SV.val (.tuple (ts.map Stp.d ++ [t.d])), SV.val d, SV.val t.d] :=
      hn _ ⟨ts ++ [t], made, .val d, .val t.d, by simp [hl], g1, by simp; omega, hmk, by simp [scD]⟩
    have add : ∀ p, p ∈ ks → Ψ'.nx [SV.tp none, SV.val (.int (most : Int)), SV.val (.list (sorts.map .str)), SV.val (.list (ks.map tupS)), SV.val (.list (made.map tupS ++ [tupS p])), SV.val (.tuple (ts.map Stp.d ++ [t.d])), SV.val d, SV.val t.d] := fun p hp =>
      hn _ ⟨ts ++ [t], made ++ [p], .val d, .val t.d, by simp [hl], g1, by simp; omega, fun k hk => by
        rcases List.mem_append.mp hk with z | z
        · exact hmk k z
        · rw [List.mem_singleton.mp z]; exact hp, by simp [scD]⟩
    have l1 : (ts.length : Int) + 1 ≤ 16777216 := by omega
    have l2 : (made.length : Int) + 1 ≤ 16777216 := by omega
    cases t <;> simp [Stp.d, scD, LIM, ne_w0, ne_w1, ne_w2, ne_w3, ne_w4, ne_w5] at keep add ⊢
    all_goals refine ⟨by omega, ?_⟩
    all_goals first
      | exact keep
      | (refine ⟨by rw [depth_tupS]; decide, ?_⟩
         split
         · exact ⟨by omega, add _ (by first | exact ht | exact ht.1)⟩
         · exact keep)
  · rintro ε ⟨ts, made, s6, s7, hl, hg, ml, hmk, rfl⟩
    rw [List.nil_append, ll] at hl
    simp
    exact h ts (by omega) (by omega) hg
/-- a menu: paths of one or two short names, closed under folders, few -/
structure Menu (ks : List (List Str)) : Prop where
  pth : ∀ k ∈ ks, isPth (tupS k) = true
  up : ∀ k ∈ ks, k.take 1 ∈ ks
  few : ks.length ≤ 3
  ne : ks ≠ []
theorem menu_of {ks : List (List Str)} (h : ks = mn1 ∨ ks = mn2 ∨ ks = mn3) : Menu ks := by
  rcases h with rfl | rfl | rfl <;> exact ⟨by decide +kernel, by decide +kernel, by decide +kernel, by decide +kernel⟩
theorem isPth_len {k : List Str} (h : isPth (tupS k) = true) : (k.length = 1 ∨ k.length = 2) ∧ ∀ s ∈ k, s.length ≤ 8 := by
  have nm : ∀ a : Str, isNm (.str a) = true → a.length ≤ 8 := fun a h => by
    unfold isNm at h
    simp only [Bool.and_eq_true, decide_eq_true_eq] at h
    exact h.1.2
  match k, h with
  | [a], h => exact ⟨.inl rfl, fun s hs => by rw [List.mem_singleton.mp hs]; exact nm a h⟩
  | [a, b], h =>
    have h' : (isNm (.str a) && isNm (.str b)) = true := h
    rw [Bool.and_eq_true] at h'
    refine ⟨.inr rfl, fun s hs => ?_⟩
    rcases List.mem_cons.mp hs with e | hs
    · rw [e]; exact nm a h'.1
    · rw [List.mem_singleton.mp hs]; exact nm b h'.2
theorem Menu.len {ks : List (List Str)} (m : Menu ks) : ∀ k ∈ ks, k.length = 1 ∨ k.length = 2 := fun k hk => (isPth_len (m.pth k hk)).1
theorem isRts_rtD (r : Rt) : isRts (rtD r) = true := by
  obtain ⟨⟨a, ha⟩, ⟨b, hb⟩⟩ := r
  unfold rtD isRts isNum
  simp; omega
theorem kg_nm {w : Str} (h : w ∈ kg) : isNm (.str w) = true ∧ w.length ≤ 8 := by
  unfold kg at h
  rcases List.mem_cons.mp h with e | h
  · rw [e]; decide +kernel
  · rw [List.mem_singleton.mp h]; decide +kernel
def Stp.ps : Stp → List (List Str)
  | .mask _ => []
  | .make p _ => [p]
  | .folder p _ => [p]
  | .write p _ => [p]
  | .rights p _ => [p]
  | .group p _ => [p]
  | .move p q => [p, q]
  | .copy p q => [p, q]
  | .out p => [p]
  | .use p _ => [p]
theorem Stp.Good.ps {ks : List (List Str)} {t : Stp} (g : t.Good ks) : ∀ k ∈ t.ps, k ∈ ks := by
  intro k hk
  cases t <;> simp [Stp.ps, Stp.Good] at hk g
  all_goals first
    | (rw [hk]; first | exact g | exact g.1)
    | (rcases hk with e | e <;> rw [e] <;> first | exact g.1 | exact g.2.1)
theorem isPth_rtD (r : Rt) : isPth (rtD r) = false := by
  unfold rtD isPth
  simp [isNm]
theorem isPth_str (s : Str) : isPth (.str s) = false := rfl
theorem pths_d {ks : List (List Str)} (m : Menu ks) {t : Stp} (g : t.Good ks) : pthsS t.d = t.ps.map tupS := by
  have P : ∀ k ∈ ks, isPth (tupS k) = true := m.pth
  cases t <;> simp [Stp.Good] at g <;> simp only [pthsS, itemsS, Stp.d, Stp.ps, List.filter_cons, isPth_rtD, isPth_str, List.map_cons, List.map_nil, List.filter_nil]
  case mask r => simp
  case make p r => simp [P _ g]
  case rights p r => simp [P _ g]
  case folder p r => simp [P _ g.1]
  case write p w => simp [P _ g.1]
  case use p w => simp [P _ g.1]
  case group p w => simp [P _ g.1]
  case out p => simp [P _ g]
  case move p q => simp [P _ g.1, P _ g.2.1]
  case copy p q => simp [P _ g.1, P _ g.2.1]
theorem stp_d {ks : List (List Str)} (m : Menu ks) {t : Stp} (g : t.Good ks) : isStp t.d = true := by
  cases t <;> simp [Stp.Good] at g
  case mask r => simp [Stp.d, isStp, isS1, isRts_rtD]
  case make p r => simp [Stp.d, isStp, isS2, isRts_rtD, m.pth _ g]
  case rights p r => simp [Stp.d, isStp, isS2, isRts_rtD, m.pth _ g]
  case folder p r =>
    obtain ⟨a, rfl⟩ := List.length_eq_one_iff.mp g.2
    have h1 : isPth (tupS [a]) = true := m.pth _ g.1
    have h2 : len1 (tupS [a]) = true := rfl
    simp [Stp.d, isStp, isS2, isRts_rtD, h1, h2]
  case write p w => simp [Stp.d, isStp, isS2, m.pth _ g.1, (kg_nm g.2).1]
  case use p w => simp [Stp.d, isStp, isS2, m.pth _ g.1, (kg_nm g.2).1]
  case group p w =>
    have : isGrp (.str w) = true := by rcases g.2 with e | e <;> rw [e] <;> decide +kernel
    simp [Stp.d, isStp, isS2, m.pth _ g.1, this]
  case out p => simp [Stp.d, isStp, isS1, m.pth _ g]
  case move p q => simp [Stp.d, isStp, isS2, m.pth _ g.1, m.pth _ g.2.1, eqv_tupS, g.2.2]
  case copy p q => simp [Stp.d, isStp, isS2, m.pth _ g.1, m.pth _ g.2.1, eqv_tupS, g.2.2]
theorem keys_d {ks : List (List Str)} (m : Menu ks) {ts : List Stp} (g : ∀ t ∈ ts, t.Good ks) : keysS (ts.map Stp.d) = ts.flatMap Stp.ps := by
  unfold keysS
  induction ts with
  | nil => rfl
  | cons t ts ih =>
    rw [List.map_cons, List.flatMap_cons, List.flatMap_cons, ih fun x hx => g x (List.mem_cons_of_mem _ hx), pths_d m (g t List.mem_cons_self), List.map_map]
    congr 1
    have : (pk ∘ tupS) = id := funext fun k => pk_tupS k
    rw [this, List.map_id]
theorem len_sub {α : Type} [DecidableEq α] : ∀ {l m : List α}, l.Nodup → (∀ x ∈ l, x ∈ m) → l.length ≤ m.length
  | [], _, _, _ => Nat.zero_le _
  | x :: l, m, n, h => by
    obtain ⟨n1, n2⟩ := List.nodup_cons.mp n
    have hx := h x List.mem_cons_self
    have := len_sub (l := l) (m := m.erase x) n2 fun y hy => by
      have hne : y ≠ x := fun e => n1 (e ▸ hy)
      exact (List.mem_erase_of_ne hne).mpr (h y (List.mem_cons_of_mem _ hy))
    rw [List.length_erase_of_mem hx] at this
    have : 0 < m.length := List.length_pos_of_mem hx
    rw [List.length_cons]; omega
theorem pset_d {ks : List (List Str)} (m : Menu ks) {ts : List Stp} (g : ∀ t ∈ ts, t.Good ks) : (psetS (ts.map Stp.d)).length ≤ 3 := by
  unfold psetS
  refine Nat.le_trans (len_sub (m := ks) (asc_nodup lo_T (asc_sset lo_T _)) fun x hx => ?_) m.few
  have hx := (mem_sset lo_T).mp hx
  have key : ∀ k ∈ keysS (ts.map Stp.d), k ∈ ks := fun k hk => by
    rw [keys_d m g] at hk
    obtain ⟨t, ht, hk⟩ := List.mem_flatMap.mp hk
    exact (g t ht).ps k hk
  rcases List.mem_append.mp hx with h | h
  · exact key x h
  · obtain ⟨k, hk, rfl⟩ := List.mem_map.mp h
    exact m.up k (key k hk)
theorem scr_d {ks : List (List Str)} (m : Menu ks) {ts : List Stp} (g : ∀ t ∈ ts, t.Good ks) (l8 : ts.length ≤ 8) : isScr (scD ts) = true := by
  have h1 : (ts.map Stp.d).all isStp = true := List.all_eq_true.mpr fun d hd => by
    obtain ⟨t, ht, rfl⟩ := List.mem_map.mp hd
    exact stp_d m (g t ht)
  have h2 := pset_d m g
  show (decide ((ts.map Stp.d).length ≤ 8) && ((ts.map Stp.d).all isStp && decide ((psetS (ts.map Stp.d)).length ≤ 5))) = true
  rw [h1, List.length_map, decide_eq_true l8, decide_eq_true (by omega)]; rfl
theorem smo_mono : ∀ (m : Nat) (d : PyData), smo m d = true → smo (m + 1) d = true := by
  intro m
  induction m with
  | zero => intro d h; cases d <;> first | exact h | exact nomatch (show false = true from h)
  | succ m ih =>
    intro d h
    cases d with
    | list ds =>
      have h' : (decide (ds.length ≤ 100) && ds.all (smo m)) = true := h
      show (decide (ds.length ≤ 100) && ds.all (smo (m + 1))) = true
      rw [Bool.and_eq_true, List.all_eq_true] at h' ⊢
      exact ⟨h'.1, fun x hx => ih x (h'.2 x hx)⟩
    | tuple ds =>
      have h' : (decide (ds.length ≤ 100) && ds.all (smo m)) = true := h
      show (decide (ds.length ≤ 100) && ds.all (smo (m + 1))) = true
      rw [Bool.and_eq_true, List.all_eq_true] at h' ⊢
      exact ⟨h'.1, fun x hx => ih x (h'.2 x hx)⟩
    | _ => exact h
theorem smo_tupS {k : List Str} (h : isPth (tupS k) = true) : smo 1 (tupS k) = true := by
  obtain ⟨h1, h2⟩ := isPth_len h
  show (decide ((k.map PyData.str).length ≤ 100) && (k.map PyData.str).all (smo 0)) = true
  rw [Bool.and_eq_true, List.all_eq_true]
  refine ⟨by rw [List.length_map]; exact decide_eq_true (by omega), fun x hx => ?_⟩
  obtain ⟨s, hs, rfl⟩ := List.mem_map.mp hx
  have := h2 s hs
  exact decide_eq_true (by omega)
theorem smo_d {ks : List (List Str)} (m : Menu ks) {t : Stp} (g : t.Good ks) : smo 2 t.d = true := by
  have sm : ∀ {k : List Str}, k ∈ ks → smo 1 (tupS k) = true := fun h => smo_tupS (m.pth _ h)
  have sr : ∀ r : Rt, smo 1 (rtD r) = true := fun r => rfl
  have sk : ∀ {w : Str}, w ∈ kg → smo 1 (.str w) = true := fun h => decide_eq_true (by have := (kg_nm h).2; omega)
  have s10 : ∀ w : Str, w = "mask" ∨ w = "out" ∨ w = "make" ∨ w = "folder" ∨ w = "write" ∨ w = "rights" ∨ w = "group" ∨ w = "move" ∨ w = "copy" ∨ w = "use" → smo 1 (.str w) = true := fun w h => by
    rcases h with rfl | rfl | rfl | rfl | rfl | rfl | rfl | rfl | rfl | rfl <;> decide +kernel
  have two : ∀ a b : PyData, smo 1 a = true → smo 1 b = true → smo 2 (.tuple [a, b]) = true := fun a b ha hb => by
    show (true && (smo 1 a && (smo 1 b && true))) = true
    rw [ha, hb]; rfl
  have three : ∀ a b c : PyData, smo 1 a = true → smo 1 b = true → smo 1 c = true → smo 2 (.tuple [a, b, c]) = true := fun a b c ha hb hc => by
    show (true && (smo 1 a && (smo 1 b && (smo 1 c && true)))) = true
    rw [ha, hb, hc]; rfl
  cases t <;> simp [Stp.Good] at g
  case mask r => exact two _ _ (s10 _ (by simp)) (sr r)
  case make p r => exact three _ _ _ (s10 _ (by simp)) (sm g) (sr r)
  case rights p r => exact three _ _ _ (s10 _ (by simp)) (sm g) (sr r)
  case folder p r => exact three _ _ _ (s10 _ (by simp)) (sm g.1) (sr r)
  case write p w => exact three _ _ _ (s10 _ (by simp)) (sm g.1) (sk g.2)
  case use p w => exact three _ _ _ (s10 _ (by simp)) (sm g.1) (sk g.2)
  case group p w =>
    refine three _ _ _ (s10 _ (by simp)) (sm g.1) ?_
    rcases g.2 with e | e <;> rw [e] <;> decide +kernel
  case out p => exact two _ _ (s10 _ (by simp)) (sm g)
  case move p q => exact three _ _ _ (s10 _ (by simp)) (sm g.1) (sm g.2.1)
  case copy p q => exact three _ _ _ (s10 _ (by simp)) (sm g.1) (sm g.2.1)
theorem smo_scD {ks : List (List Str)} (m : Menu ks) {ts : List Stp} (g : ∀ t ∈ ts, t.Good ks) (l8 : ts.length ≤ 8) : smo 3 (scD ts) = true := by
  show (decide ((ts.map Stp.d).length ≤ 100) && (ts.map Stp.d).all (smo 2)) = true
  rw [Bool.and_eq_true, List.all_eq_true]
  refine ⟨by rw [List.length_map]; exact decide_eq_true (by omega), fun x hx => ?_⟩
  obtain ⟨t, ht, rfl⟩ := List.mem_map.mp hx
  exact smo_d m (g t ht)
end Lw

set_option Elab.async false
set_option linter.all false
set_option maxRecDepth 100000
set_option maxHeartbeats 0
namespace Lw.Hd
open PySem PySem.Spec PyProof.Rows L2 MG
theorem facts (LO : ∀ ns : List Int, ns.length ≤ 63 → Lw.w_law (lawStart 9 1 ns) endTrue) {P : Program} {w : World} {K : PySem.W.Frag} {h : Heap} {mg : Str → Option Value} {f : Addr} (X : K.In h) (G : h.Ns mainGlobals mg) (hfa : mg ("law" : Str) = some (.ref f)) (c : He.SaysX fa fn [] tf (exE tb tf exs) w h K) :
    ∃ fd : FuncData, (∀ (s : Shared) (v : Value), BindsTo s fd ⟨[v], []⟩ [("_law_script_here", v)]) ∧ ∀ base : Heap, (∀ q ∈ tf.map (He.cT K), LamX.TabB base mg q.1 q.2) → FnOk P w K mg base CX0 9 f fd ["_law_script_here"] (@spLaw ⟨tbOf tf K⟩ K) := by
  have exT := (says_m c).2
  replace c := (says_m c).1
  unfold exs at exT
  simp only [Bool.and_eq_true] at exT
  have B : Bt mg := ⟨He.free_ok X G (c.fact 35 (f := .free "bool") rfl), He.free_ok X G (c.fact 36 (f := .free "enumerate") rfl), He.free_ok X G (c.fact 37 (f := .free "int") rfl), He.free_ok X G (c.fact 38 (f := .free "isinstance") rfl), He.free_ok X G (c.fact 39 (f := .free "len") rfl), He.free_ok X G (c.fact 40 (f := .free "list") rfl), He.free_ok X G (c.fact 41 (f := .free "range") rfl), He.free_ok X G (c.fact 42 (f := .free "set") rfl), He.free_ok X G (c.fact 43 (f := .free "sorted") rfl), He.free_ok X G (c.fact 44 (f := .free "str") rfl), He.free_ok X G (c.fact 45 (f := .free "sum") rfl), He.free_ok X G (c.fact 46 (f := .free "tuple") rfl), He.free_ok X G (c.fact 47 (f := .free "zip") rfl)⟩
  obtain ⟨fd_law_draw, F_law_draw⟩ := c.def_ 0 (d := dd_law_draw) rfl
  have g_law_draw := He.glo_ok X G (c.fact 0 (f := .glo "_law_draw") rfl)
  obtain ⟨fd_law_of, F_law_of⟩ := c.def_ 1 (d := dd_law_of) rfl
  have g_law_of := He.glo_ok X G (c.fact 1 (f := .glo "_law_of") rfl)
  obtain ⟨fd_law_rights, F_law_rights⟩ := c.def_ 2 (d := dd_law_rights) rfl
  have g_law_rights := He.glo_ok X G (c.fact 2 (f := .glo "_law_rights") rfl)
  obtain ⟨fd_law_step_of, F_law_step_of⟩ := c.def_ 3 (d := dd_law_step_of) rfl
  have g_law_step_of := He.glo_ok X G (c.fact 3 (f := .glo "_law_step_of") rfl)
  obtain ⟨fd_law_script, F_law_script⟩ := c.def_ 4 (d := dd_law_script) rfl
  have g_law_script := He.glo_ok X G (c.fact 4 (f := .glo "_law_script") rfl)
  obtain ⟨fd_is_name, F_is_name⟩ := c.def_ 5 (d := dd_is_name) rfl
  have g_is_name := He.glo_ok X G (c.fact 5 (f := .glo "is_name") rfl)
  obtain ⟨fd_is_path, F_is_path⟩ := c.def_ 6 (d := dd_is_path) rfl
  have g_is_path := He.glo_ok X G (c.fact 6 (f := .glo "is_path") rfl)
  obtain ⟨fd_paths_of, F_paths_of⟩ := c.def_ 7 (d := dd_paths_of) rfl
  have g_paths_of := He.glo_ok X G (c.fact 7 (f := .glo "paths_of") rfl)
  obtain ⟨fd_is_number, F_is_number⟩ := c.def_ 8 (d := dd_is_number) rfl
  have g_is_number := He.glo_ok X G (c.fact 8 (f := .glo "is_number") rfl)
  obtain ⟨fd_is_rights, F_is_rights⟩ := c.def_ 9 (d := dd_is_rights) rfl
  have g_is_rights := He.glo_ok X G (c.fact 9 (f := .glo "is_rights") rfl)
  obtain ⟨fd_is_group, F_is_group⟩ := c.def_ 10 (d := dd_is_group) rfl
  have g_is_group := He.glo_ok X G (c.fact 10 (f := .glo "is_group") rfl)
  obtain ⟨fd_is_step, F_is_step⟩ := c.def_ 11 (d := dd_is_step) rfl
  have g_is_step := He.glo_ok X G (c.fact 11 (f := .glo "is_step") rfl)
  obtain ⟨fd_is_script, F_is_script⟩ := c.def_ 12 (d := dd_is_script) rfl
  have g_is_script := He.glo_ok X G (c.fact 12 (f := .glo "is_script") rfl)
  obtain ⟨fd_check_script, F_check_script⟩ := c.def_ 13 (d := dd_check_script) rfl
  have g_check_script := He.glo_ok X G (c.fact 13 (f := .glo "check_script") rfl)
  obtain ⟨fd_rights_text, F_rights_text⟩ := c.def_ 14 (d := dd_rights_text) rfl
  have g_rights_text := He.glo_ok X G (c.fact 14 (f := .glo "rights_text") rfl)
  obtain ⟨fd_item_text, F_item_text⟩ := c.def_ 15 (d := dd_item_text) rfl
  have g_item_text := He.glo_ok X G (c.fact 15 (f := .glo "item_text") rfl)
  obtain ⟨fd_step_text, F_step_text⟩ := c.def_ 16 (d := dd_step_text) rfl
  have g_step_text := He.glo_ok X G (c.fact 16 (f := .glo "step_text") rfl)
  obtain ⟨fd_script_text, F_script_text⟩ := c.def_ 17 (d := dd_script_text) rfl
  have g_script_text := He.glo_ok X G (c.fact 17 (f := .glo "script_text") rfl)
  obtain ⟨fd_law_wide_menu, F_law_wide_menu⟩ := c.def_ 18 (d := dd_law_wide_menu) rfl
  have g_law_wide_menu := He.glo_ok X G (c.fact 18 (f := .glo "_law_wide_menu") rfl)
  obtain ⟨fd_law_bent, F_law_bent⟩ := c.def_ 19 (d := dd_law_bent) rfl
  have g_law_bent := He.glo_ok X G (c.fact 19 (f := .glo "_law_bent") rfl)
  obtain ⟨fd_rights_read, F_rights_read⟩ := c.def_ 20 (d := dd_rights_read) rfl
  have g_rights_read := He.glo_ok X G (c.fact 20 (f := .glo "rights_read") rfl)
  obtain ⟨fd_path_read, F_path_read⟩ := c.def_ 21 (d := dd_path_read) rfl
  have g_path_read := He.glo_ok X G (c.fact 21 (f := .glo "path_read") rfl)
  obtain ⟨fd_step_read, F_step_read⟩ := c.def_ 22 (d := dd_step_read) rfl
  have g_step_read := He.glo_ok X G (c.fact 22 (f := .glo "step_read") rfl)
  obtain ⟨fd_read_script, F_read_script⟩ := c.def_ 23 (d := dd_read_script) rfl
  have g_read_script := He.glo_ok X G (c.fact 23 (f := .glo "read_script") rfl)
  obtain ⟨fd_law_told, F_law_told⟩ := c.def_ 24 (d := dd_law_told) rfl
  have g_law_told := He.glo_ok X G (c.fact 24 (f := .glo "_law_told") rfl)
  obtain ⟨fd_law_few, F_law_few⟩ := c.def_ 25 (d := dd_law_few) rfl
  have g_law_few := He.glo_ok X G (c.fact 25 (f := .glo "_law_few") rfl)
  obtain ⟨fd_law_many, F_law_many⟩ := c.def_ 26 (d := dd_law_many) rfl
  have g_law_many := He.glo_ok X G (c.fact 26 (f := .glo "_law_many") rfl)
  obtain ⟨fd_law_path_so, F_law_path_so⟩ := c.def_ 27 (d := dd_law_path_so) rfl
  have g_law_path_so := He.glo_ok X G (c.fact 27 (f := .glo "_law_path_so") rfl)
  obtain ⟨fd_law_six_so, F_law_six_so⟩ := c.def_ 28 (d := dd_law_six_so) rfl
  have g_law_six_so := He.glo_ok X G (c.fact 28 (f := .glo "_law_six_so") rfl)
  obtain ⟨fd_law_line_so, F_law_line_so⟩ := c.def_ 29 (d := dd_law_line_so) rfl
  have g_law_line_so := He.glo_ok X G (c.fact 29 (f := .glo "_law_line_so") rfl)
  obtain ⟨fd_law_due, F_law_due⟩ := c.def_ 30 (d := dd_law_due) rfl
  have g_law_due := He.glo_ok X G (c.fact 30 (f := .glo "_law_due") rfl)
  obtain ⟨fd_law_like, F_law_like⟩ := c.def_ 31 (d := dd_law_like) rfl
  have g_law_like := He.glo_ok X G (c.fact 31 (f := .glo "_law_like") rfl)
  obtain ⟨fd_law, F_law⟩ := c.def_ 32 (d := dd_law) rfl
  have g_law := He.glo_ok X G (c.fact 32 (f := .glo "law") rfl)
  have c_GROUPS : CtT K mg "GROUPS" [(.str "own"), (.str "team")] := ctT_of X G (c.fact 48 (f := .glo "GROUPS") rfl) (c.table 0 (q := ("GROUPS", [.str "own", .str "team"])) rfl) (by decide +kernel) (by decide) rfl
  have c_ONE : CtT K mg "ONE" [(.str "mask"), (.str "out")] := ctT_of X G (c.fact 49 (f := .glo "ONE") rfl) (c.table 1 (q := ("ONE", [.str "mask", .str "out"])) rfl) (by decide +kernel) (by decide) rfl
  have c_TWO : CtT K mg "TWO" [(.str "make"), (.str "folder"), (.str "write"), (.str "rights"), (.str "group"), (.str "move"), (.str "copy"), (.str "use")] := ctT_of X G (c.fact 50 (f := .glo "TWO") rfl) (c.table 2 (q := ("TWO", [.str "make", .str "folder", .str "write", .str "rights", .str "group", .str "move", .str "copy", .str "use"])) rfl) (by decide +kernel) (by decide) rfl
  have c_SIGNS : CtS mg "SIGNS" "rwxrwx" := ctS_of X G (c.fact 51 (f := .str "SIGNS" "rwxrwx") rfl) (by decide +kernel)
  have gi_GapError : GI K mg "GapError" := gi_of X G (c.fact 34 (f := .glo "GapError") rfl) exT.2
  obtain ⟨fd_InvalidText_ini, F_InvalidText_ini⟩ := c.def_ 33 (d := dd_InvalidText_ini) rfl
  have xh_InvalidText : ∀ base : Heap, XcF P w K mg base "InvalidText" "line" 1 ∧ ∀ C, mg "InvalidText" = some (.ref C) → PySem.W.exmOne K (.ref C) (.ref C) = some true := fun base =>
    have sc : FnScope ["self", "line"] ["self", "line"] (defScope s_InvalidText_ini) := ⟨rfl, rfl, rfl, by decide +kernel, rfl, by decide +kernel, by decide +kernel⟩
    xcF_of (ps := ["self", "line"]) (m := "not the text of a script") X G (c.fact 33 (f := .glo "InvalidText") rfl) exT.1 gi_GapError F_InvalidText_ini sc (fun _ _ _ _ _ _ us hl => match us, hl with | [_, _], _ => rfl)
      fun cdv A outer s H E => pss_cons (ps_expr (pe_gi gi_GapError (pa_cons (pe_var (i := 0) rfl (.inl rfl) (by decide) (by decide)) (pa_cons pe_str pa_nil)))) (pss_one (ps_ost (pe_var (i := 0) rfl (.inl rfl) (by decide) (by decide)) (pe_var (i := 1) rfl (.inl rfl) (by decide) (by decide))))
  have e := hfa.symm.trans g_law
  cases e
  have b := FunD.bindsA (ps := ["_law_script_here"]) F_law fun _ _ _ _ _ _ us hl => match us, hl with | [_], _ => rfl
  refine ⟨fd_law, fun s v => b s [v] rfl, fun base TBs => ?_⟩
  letI : Tbl := ⟨tbOf tf K⟩
  obtain ⟨x_InvalidText, h_InvalidText⟩ := xh_InvalidText base
  have d_law_draw : Dt P w K mg base "_law_draw" 1 1 wDraw := (df_law_draw0 F_law_draw g_law_draw B).eq draw_ok
  have d_law_of : Dt P w K mg base "_law_of" 2 1 w_law_of := df_law_of F_law_of g_law_of B d_law_draw
  have d_law_rights : Dt P w K mg base "_law_rights" 3 0 w_law_rights := df_law_rights F_law_rights g_law_rights B d_law_draw d_law_of
  have d_law_step_of : Dt P w K mg base "_law_step_of" 4 3 w_law_step_of := df_law_step_of F_law_step_of g_law_step_of B d_law_of d_law_draw d_law_rights
  have d_law_script : Dt P w K mg base "_law_script" 5 3 w_law_script := df_law_script F_law_script g_law_script B d_law_draw d_law_step_of
  have d_is_name : Df P w K mg base "is_name" 1 1 w_is_name := df_is_name F_is_name g_is_name B
  have d_is_path : Df P w K mg base "is_path" 2 1 w_is_path := df_is_path F_is_path g_is_path B d_is_name
  have d_paths_of : Df P w K mg base "paths_of" 3 1 w_paths_of := df_paths_of F_paths_of g_paths_of B d_is_path
  have d_is_number : Df P w K mg base "is_number" 1 3 w_is_number := df_is_number F_is_number g_is_number B
  have d_is_rights : Df P w K mg base "is_rights" 2 1 w_is_rights := df_is_rights F_is_rights g_is_rights B d_is_number
  have d_is_group : Df P w K mg base "is_group" 1 1 w_is_group := df_is_group F_is_group g_is_group B c_GROUPS
  have d_is_step : Df P w K mg base "is_step" 3 1 w_is_step := df_is_step F_is_step g_is_step B c_ONE c_TWO d_is_rights d_is_path d_is_name d_is_group
  have d_is_script : Df P w K mg base "is_script" 4 1 w_is_script := df_is_script F_is_script g_is_script B d_is_step d_paths_of
  have d_check_script : Df P w K mg base "check_script" 5 1 w_check_script := df_check_script F_check_script g_check_script B d_is_script
  have d_rights_text : Df P w K mg base "rights_text" 1 1 w_rights_text := df_rights_text F_rights_text g_rights_text B c_SIGNS
  have d_item_text : Df P w K mg base "item_text" 2 1 w_item_text := df_item_text F_item_text g_item_text B d_rights_text
  have d_step_text : Df P w K mg base "step_text" 3 1 w_step_text := df_step_text F_step_text g_step_text B d_item_text
  have d_script_text : Df P w K mg base "script_text" 6 1 w_script_text := df_script_text F_script_text g_script_text B d_check_script d_step_text
  have d_law_wide_menu : Dt P w K mg base "_law_wide_menu" 3 0 w_law_wide_menu := df_law_wide_menu F_law_wide_menu g_law_wide_menu B d_law_of
  have d_law_bent : Dt P w K mg base "_law_bent" 3 1 w_law_bent := df_law_bent F_law_bent g_law_bent B d_law_draw d_law_of
  have d_rights_read : Df P w K mg base "rights_read" 1 1 w_rights_read := df_rights_read F_rights_read g_rights_read B c_SIGNS
  have d_path_read : Df P w K mg base "path_read" 1 1 w_path_read := df_path_read F_path_read g_path_read B
  have d_step_read : Df P w K mg base "step_read" 4 1 w_step_read := df_step_read F_step_read g_step_read B d_rights_read d_path_read d_is_step
  have d_read_script : DfX P w K mg base "read_script" 5 1 w_read_script := df_read_script F_read_script g_read_script B x_InvalidText h_InvalidText d_step_read d_is_script
  have d_law_told : Df P w K mg base "_law_told" 6 1 w_law_told := df_law_told F_law_told g_law_told B x_InvalidText h_InvalidText d_read_script
  have d_law_few : Df P w K mg base "_law_few" 1 0 w_law_few := df_law_few F_law_few g_law_few B
  have d_law_many : Df P w K mg base "_law_many" 1 0 w_law_many := df_law_many F_law_many g_law_many B
  have d_law_path_so : Df P w K mg base "_law_path_so" 1 1 w_law_path_so := df_law_path_so F_law_path_so g_law_path_so B
  have d_law_six_so : Df P w K mg base "_law_six_so" 1 1 w_law_six_so := df_law_six_so F_law_six_so g_law_six_so B
  have d_law_line_so : Df P w K mg base "_law_line_so" 2 1 w_law_line_so := df_law_line_so F_law_line_so g_law_line_so B d_law_six_so d_law_path_so
  have d_law_due : Df P w K mg base "_law_due" 3 1 w_law_due := df_law_due F_law_due g_law_due B d_law_line_so
  have d_law_like : Df P w K mg base "_law_like" 8 2 (wN_law_like 8) := df_law_like F_law_like g_law_like B
  exact df_law F_law g_law B d_law_script d_law_wide_menu d_law_few d_law_many d_script_text d_law_bent d_law_told d_law_due d_law_like d_is_script LO
end Lw.Hd
section
open PySem PySem.W PySem.Calls PyProof.Rows
theorem Lw.Hd.headG (LO : ∀ ns : List Int, ns.length ≤ 63 → Lw.w_law (MG.lawStart 9 1 ns) MG.endTrue) : PySem.Challenge.rw_modegaps_k20_whole_wrong_texts.Holds := by
  w_on; o_law
  refine HandSHeadRun.head_any (r := OpenLaw.row PySem.Challenge.rw_modegaps_k20_whole_wrong_texts) (q := view (OpenLaw.row PySem.Challenge.rw_modegaps_k20_whole_wrong_texts).prog [43]) (H := Lw.Hd.hk) (ob := Lw.Hd.ob) (M := 15000) (loose := Lw.Hd.loose) (d := HandSHeadRun.topDef (OpenLaw.row PySem.Challenge.rw_modegaps_k20_whole_wrong_texts).prog 43) (kwd := []) Lw.Hd.ob_eq
    (by kernel_rfl) (fun s => by kernel_rfl) Lw.Hd.run (by kernel_rfl) (by kernel_rfl) (by kernel_rfl) (by rfl) (by first | assumption | decide +kernel) (by decide +kernel) ⟨rfl, rfl, rfl, rfl, rfl, by decide +kernel⟩ ?hw ?hc
  case hw => w_witness2
  case hc => exact MG.law_endE (x := "_law_script_here") (nm := "law") (k := 9) rfl (by kernel_rfl) ⟨rfl, by decide, by decide⟩ (by kernel_rfl) fun w K mg fA h KX G hmg c => Lw.Hd.facts LO (P := (PySem.Challenge.rw_modegaps_k20_whole_wrong_texts).prog) (w := w) KX G hmg c
end

set_option Elab.async false
set_option linter.all false
set_option maxRecDepth 100000
set_option maxHeartbeats 4000000
namespace Lw
open PySem PySem.Spec PySem.W PyProof.Rows L2 MG
/-! the stands, typed -/
inductive What where
  | own (k : Nat)
  | sb (s : Str)
  deriving DecidableEq
def What.d : What → PyData
  | .own k => .int (k : Int)
  | .sb s => .str s
def optW : Option What → PyData
  | none => .none
  | some w => w.d
structure Ent where
  pl : Str
  nm : Str
  wh : What
def Ent.d (e : Ent) : PyData := .tuple [.str e.pl, .str e.nm, e.wh.d]
def kindS (fold : Bool) : Str := if fold then "folder" else "file"
structure Nod where
  num : Nat
  fold : Bool
  grp : Str
  rt : Rt
  cont : Str
  doubt : Bool
  loc : Str
  rd : Bool
  wr : Bool
  dn : Bool
def Nod.d (n : Nod) : PyData := .tuple [.int (n.num : Int), .str (kindS n.fold), .str n.grp, rtD n.rt, .str n.cont, .bool n.doubt, .str n.loc, .bool n.rd, .bool n.wr, .bool n.dn]
structure Tp where
  owner : Str
  grp : Str
  rt : Rt
  sticky : Bool
  down : Bool
def Tp.d (t : Tp) : PyData := .tuple [.str t.owner, .str t.grp, rtD t.rt, .bool t.sticky, .bool t.down]
section
variable {Φ : PyData → Prop}
@[simp] theorem at_5 (x y z u v w : PyData) (xs : List PyData) : atI (x :: y :: z :: u :: v :: w :: xs) 5 = some w := by
  unfold atI ixN
  rw [if_pos (by omega), if_pos (by simp; omega)]; rfl
@[simp] theorem at_6 (x y z u v w a : PyData) (xs : List PyData) : atI (x :: y :: z :: u :: v :: w :: a :: xs) 6 = some a := by
  unfold atI ixN
  rw [if_pos (by omega), if_pos (by simp; omega)]; rfl
@[simp] theorem at_7 (x y z u v w a b : PyData) (xs : List PyData) : atI (x :: y :: z :: u :: v :: w :: a :: b :: xs) 7 = some b := by
  unfold atI ixN
  rw [if_pos (by omega), if_pos (by simp; omega)]; rfl
@[simp] theorem at_8 (x y z u v w a b c : PyData) (xs : List PyData) : atI (x :: y :: z :: u :: v :: w :: a :: b :: c :: xs) 8 = some c := by
  unfold atI ixN
  rw [if_pos (by omega), if_pos (by simp; omega)]; rfl
@[simp] theorem at_9 (x y z u v w a b c d : PyData) (xs : List PyData) : atI (x :: y :: z :: u :: v :: w :: a :: b :: c :: d :: xs) 9 = some d := by
  unfold atI ixN
  rw [if_pos (by omega), if_pos (by simp; omega)]; rfl
theorem cut_to (ds : List PyData) (n : Nat) : cutP ds none (some (n : Int)) = ds.take n := by
  unfold cutP
  have h0 : HT.sIx ds.length 0 none = 0 := rfl
  rw [h0, List.drop_zero, Nat.sub_zero]
  have : HT.sIx ds.length ds.length (some (n : Int)) = min n ds.length := by
    unfold HT.sIx; simp; try omega
  rw [this]
  by_cases h : n ≤ ds.length
  · rw [Nat.min_eq_left h]
  · rw [Nat.min_eq_right (by omega), List.take_length, List.take_of_length_le (by omega)]
theorem cut_from (ds : List PyData) (n : Nat) : cutP ds (some (n : Int)) none = ds.drop n := by
  unfold cutP
  have h0 : HT.sIx ds.length ds.length none = ds.length := rfl
  have : HT.sIx ds.length 0 (some (n : Int)) = min n ds.length := by
    unfold HT.sIx; simp; try omega
  rw [h0, this]
  by_cases h : n ≤ ds.length
  · rw [Nat.min_eq_left h, List.take_of_length_le (by rw [List.length_drop]; omega)]
  · rw [Nat.min_eq_right (by omega), List.drop_length, List.drop_of_length_le (by omega), List.take_nil]
/-- slices by numbers that are written -/
@[simp] theorem cut_t1 (ds : List PyData) : cutP ds none (some 1) = ds.take 1 := cut_to ds 1
@[simp] theorem cut_t2 (ds : List PyData) : cutP ds none (some 2) = ds.take 2 := cut_to ds 2
@[simp] theorem cut_t3 (ds : List PyData) : cutP ds none (some 3) = ds.take 3 := cut_to ds 3
@[simp] theorem cut_t4 (ds : List PyData) : cutP ds none (some 4) = ds.take 4 := cut_to ds 4
@[simp] theorem cut_t5 (ds : List PyData) : cutP ds none (some 5) = ds.take 5 := cut_to ds 5
@[simp] theorem cut_t6 (ds : List PyData) : cutP ds none (some 6) = ds.take 6 := cut_to ds 6
@[simp] theorem cut_t7 (ds : List PyData) : cutP ds none (some 7) = ds.take 7 := cut_to ds 7
@[simp] theorem cut_f1 (ds : List PyData) : cutP ds (some 1) none = ds.drop 1 := cut_from ds 1
@[simp] theorem cut_f2 (ds : List PyData) : cutP ds (some 2) none = ds.drop 2 := cut_from ds 2
@[simp] theorem cut_f3 (ds : List PyData) : cutP ds (some 3) none = ds.drop 3 := cut_from ds 3
@[simp] theorem cut_f4 (ds : List PyData) : cutP ds (some 4) none = ds.drop 4 := cut_from ds 4
@[simp] theorem cut_f5 (ds : List PyData) : cutP ds (some 5) none = ds.drop 5 := cut_from ds 5
@[simp] theorem cut_f6 (ds : List PyData) : cutP ds (some 6) none = ds.drop 6 := cut_from ds 6
@[simp] theorem cut_f7 (ds : List PyData) : cutP ds (some 7) none = ds.drop 7 := cut_from ds 7
end
/-- the list of one's own in a slot -/
def asOwn (s : Option SV) (k : List PyData → Prop) : Prop := match s with
  | some (SV.own ds) => k ds
  | _ => False
@[simp] theorem asOwn_o (ds : List PyData) (k : List PyData → Prop) : asOwn (some (SV.own ds)) k = k ds := nr rfl
@[simp] theorem e_App (i : Nat) (w : WE) (ε : EV) (Ψ : WEnds) : wApp i w ε Ψ = asOwn ε[i]? fun ds => w ε fun d => ds.length < LIM ∧ Ψ.nx (ε.set i (.own (ds ++ [d]))) := by
  unfold wApp asOwn
  cases ε[i]? with
  | none => rfl
  | some s => cases s <;> rfl
@[simp] theorem e_Frz (i : Nat) (w : WS) (ε : EV) (Ψ : WEnds) : wFrz i w ε Ψ = asOwn ε[i]? fun ds => w (ε.set i (.val (.list ds))) Ψ := by
  unfold wFrz asOwn
  cases ε[i]? with
  | none => rfl
  | some s => cases s <;> rfl
@[simp] theorem e_ForNil (g : WG) (b : WS) (ε : EV) (Ψ : WEnds) : wForL g b [] ε Ψ = Ψ.nx ε := nr rfl
@[simp] theorem e_ForCons (g : WG) (b : WS) (d : PyData) (ds : List PyData) (ε : EV) (Ψ : WEnds) : wForL g b (d :: ds) ε Ψ = g d ε fun ε1 => b ε1 { nx := fun ε2 => wForL g b ds ε2 Ψ, ct := fun ε2 => wForL g b ds ε2 Ψ, bk := Ψ.nx, rt := Ψ.rt } := nr rfl
theorem lt_LIM {n : Nat} (h : n ≤ 1000) : n < LIM := by have := lim_val; omega
theorem le_LIM {n : Nat} (h : n ≤ 1000) : n ≤ LIM := by have := lim_val; omega
@[simp] theorem lim0 : (0 < LIM) = True := by rw [lim_val]; simp
@[simp] theorem lim1 : (1 < LIM) = True := by rw [lim_val]; simp
/-- a loop that looks for an item -/
theorem for_find {α : Type} {enc : α → PyData} {f : α → Option PyData} {g : WG} {b : WS} {Ψ : WEnds} {Φ : PyData → Prop} {N : Prop} (st : SV → EV) (hr : ∀ ε, Ψ.rt ε = Φ) (hn : ∀ s, Ψ.nx (st s) = N) : ∀ {xs : List α} {s : SV},
    (∀ a ∈ xs, ∀ s (Ψ' : WEnds), (g (enc a) (st s) fun ε1 => b ε1 Ψ') = (match f a with
      | some d => Ψ'.rt (st (.val (enc a))) d
      | none => Ψ'.nx (st (.val (enc a))))) →
    wForL g b (xs.map enc) (st s) Ψ = (match xs.findSome? f with
      | some d => Φ d
      | none => N)
  | [], s, _ => hn s
  | a :: xs, s, h => by
    rw [List.map_cons, wForL, h a List.mem_cons_self]
    rw [List.findSome?_cons]
    cases f a with
    | some d => exact congrFun (hr _) d
    | none => exact for_find st hr hn fun x hx => h x (List.mem_cons_of_mem _ hx)
/-! ### bits -/
def fless (a b : Fin 8) : Fin 8 := ⟨(if a.val / 4 % 2 = 1 ∧ b.val / 4 % 2 = 0 then 4 else 0) + (if a.val / 2 % 2 = 1 ∧ b.val / 2 % 2 = 0 then 2 else 0) + (if a.val % 2 = 1 ∧ b.val % 2 = 0 then 1 else 0), by split <;> split <;> split <;> omega⟩
/-- all wanted bits are there -/
def fhas (w a : Fin 8) : Bool := decide (fless w a = 0)
theorem fin8 (P : Fin 8 → Prop) (h0 : P 0) (h1 : P 1) (h2 : P 2) (h3 : P 3) (h4 : P 4) (h5 : P 5) (h6 : P 6) (h7 : P 7) : ∀ a, P a := by
  intro a
  match a with
  | 0 => exact h0
  | 1 => exact h1
  | 2 => exact h2
  | 3 => exact h3
  | 4 => exact h4
  | 5 => exact h5
  | 6 => exact h6
  | 7 => exact h7
def pB (a c : Int) : PyData → Bool
  | .int b => decide (a / b % 2 = 1) && decide (c / b % 2 = 0)
  | _ => false
def b421 : List PyData := [.int 4, .int 2, .int 1]
theorem bsum (a c : Fin 8) (Φ : PyData → Prop) : opSum [.list (b421.filter (pB (a.val : Int) (c.val : Int)))] Φ = Φ (.int ((fless a c).val : Int)) := by
  revert a c
  refine fin8 _ ?_ ?_ ?_ ?_ ?_ ?_ ?_ ?_ <;> refine fin8 _ ?_ ?_ ?_ ?_ ?_ ?_ ?_ ?_ <;> rfl
theorem bnil (a c : Fin 8) : (b421.filter (pB (a.val : Int) (c.val : Int))).isEmpty = fhas a c := by
  revert a c
  refine fin8 _ ?_ ?_ ?_ ?_ ?_ ?_ ?_ ?_ <;> refine fin8 _ ?_ ?_ ?_ ?_ ?_ ?_ ?_ ?_ <;> rfl
theorem comp421 {wa wb : WE} {s : Nat} {ε : EV} {x y : Fin 8} (hl : s < ε.length) (ha : ∀ v (Ψ : PyData → Prop), wa (ε.set s v) Ψ = Ψ (.int (x.val : Int))) (hb : ∀ v (Ψ : PyData → Prop), wb (ε.set s v) Ψ = Ψ (.int (y.val : Int))) (Φ : List PyData → Prop) :
    wComp (wiSeq (wTup (wACons (wC (.int 4)) (wACons (wC (.int 2)) (wACons (wC (.int 1)) wANil))))) [s] (wgV s) (wAnd (wTest (wBin opEq (wBin opMod (wBin opFdiv wa (wV s)) (wC (.int 2))) (wC (.int 1)))) (wTest (wBin opEq (wBin opMod (wBin opFdiv wb (wV s)) (wC (.int 2))) (wC (.int 0))))) (wV s) ε Φ = Φ (b421.filter (pB (x.val : Int) (y.val : Int))) := by
  have e : wLc (wgV s) (wAnd (wTest (wBin opEq (wBin opMod (wBin opFdiv wa (wV s)) (wC (.int 2))) (wC (.int 1)))) (wTest (wBin opEq (wBin opMod (wBin opFdiv wb (wV s)) (wC (.int 2))) (wC (.int 0))))) (wV s) b421 (unS ε [s]) Φ = Φ (b421.filter (pB (x.val : Int) (y.val : Int))) := by
    refine lc_F _ fun d hd k => ?_
    have e0 : unS ε [s] = ε.set s .un := rfl
    have es : ∀ v, (ε.set s v)[s]? = some v := fun v => List.getElem?_set_self hl
    rw [e0]
    simp [b421] at hd
    rcases hd with rfl | rfl | rfl <;> simp only [e_gV, List.set_set, e_And, e_Test, e_Bin, ha, hb, e_V, es, asV_v, o_fdiv, o_mod, o_eq, e_C, dp_int, eqv_ii, asB_b, pB] <;> simp <;> split <;> simp [*] <;> split <;> simp
  rw [e_Comp, e_iSeq, e_Tup, e_ACons, e_C, e_ACons, e_C, e_ACons, e_C, e_ANil, asI_t]
  have : ([PyData.int 4, .int 2, .int 1] : List PyData).length ≤ LIM := by rw [lim_val]; decide
  simp only [this, true_and]
  exact e
/-! ### the writer's rights -/
def Tp.may (t : Tp) (pl : Str) (wanted : Fin 8) : Bool := decide (pl ≠ "") || (decide (t.owner = "writer") || fhas wanted t.rt.1)
theorem isE (l : List PyData) : PyData.eqv (.list l) (.list []) = l.isEmpty := eqv_nil l
@[simp] theorem eqv_sn (x : Str) : PyData.eqv (.str x) .none = false := by simp [PyData.eqv]
@[simp] theorem eqv_si (x : Str) (i : Int) : PyData.eqv (.str x) (.int i) = false := by simp [PyData.eqv]
@[simp] theorem eqv_is (x : Str) (i : Int) : PyData.eqv (.int i) (.str x) = false := by simp [PyData.eqv]
@[simp] theorem eqv_ns (x : Str) : PyData.eqv .none (.str x) = false := by simp [PyData.eqv]
/-! ### entries -/
theorem findSome_map {α β γ : Type} (f : α → Option β) (g : β → γ) : ∀ l : List α, l.findSome? (fun a => (f a).map g) = (l.findSome? f).map g
  | [] => rfl
  | a :: l => by
    rw [List.findSome?_cons, List.findSome?_cons]
    cases f a with
    | some b => rfl
    | none => exact findSome_map f g l
/-! ### nodes -/
theorem at0 (l : List PyData) : atI l 0 = l.head? := by
  cases l with
  | nil => rfl
  | cons a l => simp
def nodeN (k : Nat) : Str := ("#" : Str) ++ (toString (k : Int))
theorem nodeN_ok : ∀ k : Fin 20, ((k.val : Int).natAbs.log2 < 1920 ∧ sOk (toString (k.val : Int)) = true) ∧ ("#" : Str).length + (toString (k.val : Int) : Str).length ≤ LIM := by
  decide +kernel
/-! ### places -/
inductive Plc where
  | top
  | own (k : Nat)
  | sb (nm : Str)
  deriving DecidableEq
def Plc.s : Plc → Str
  | .top => ""
  | .own k => nodeN k
  | .sb nm => nm
def optP : Option Plc → PyData
  | none => .none
  | some p => .str p.s
/-- a path: one or two names -/
def IsP (p : List Str) : Prop := p.length = 1 ∨ p.length = 2
theorem isP_cases {p : List Str} (h : IsP p) : (∃ a, p = [a]) ∨ ∃ a b, p = [a, b] := by
  match p, h with
  | [a], _ => exact .inl ⟨a, rfl⟩
  | [a, b], _ => exact .inr ⟨a, b, rfl⟩
  | [], h => simp [IsP] at h
  | _ :: _ :: _ :: _, h => simp [IsP] at h
theorem kind_folder (b : Bool) : decide (kindS b = "folder") = b := by
  cases b <;> decide +kernel
def lastP (p : List Str) : Str := p.getLastD ""
def fstP (p : List Str) : Str := p.headD ""
theorem o_last {p : List Str} (hp : IsP p) (Φ : PyData → Prop) : opIx (tupS p) (.int (-1)) Φ = Φ (.str (lastP p)) := by
  rcases isP_cases hp with ⟨a, rfl⟩ | ⟨a, b, rfl⟩ <;> rfl
theorem o_first {p : List Str} (hp : IsP p) (Φ : PyData → Prop) : opIx (tupS p) (.int 0) Φ = Φ (.str (fstP p)) := by
  rcases isP_cases hp with ⟨a, rfl⟩ | ⟨a, b, rfl⟩ <;> rfl
/-- a name of somebody's folder -/
def NmOk (nm : Str) : Prop := nm ≠ "" ∧ ∃ c cs, nm.cps.toList = c :: cs ∧ c ≠ 35
theorem nodeN_facts : ∀ k : Fin 20, (nodeN k.val ≠ "" ∧ atI (nodeN k.val).cps.toList 0 = some 35) ∧ (cutS (nodeN k.val) (some 1) none).length ≤ 640 ∧ PySem.intText? (cutS (nodeN k.val) (some 1) none) = some (k.val : Int) := by
  decide +kernel
@[simp high] theorem Tp.ix0 (t : Tp) (Φ : PyData → Prop) : opIx t.d (.int 0) Φ = Φ (.str t.owner) := by unfold Tp.d; simp
@[simp high] theorem Tp.ix1 (t : Tp) (Φ : PyData → Prop) : opIx t.d (.int 1) Φ = Φ (.str t.grp) := by unfold Tp.d; simp
@[simp high] theorem Tp.ix2 (t : Tp) (Φ : PyData → Prop) : opIx t.d (.int 2) Φ = Φ (rtD t.rt) := by unfold Tp.d; simp
@[simp high] theorem Tp.ix3 (t : Tp) (Φ : PyData → Prop) : opIx t.d (.int 3) Φ = Φ (.bool t.sticky) := by unfold Tp.d; simp
@[simp high] theorem Tp.ix4 (t : Tp) (Φ : PyData → Prop) : opIx t.d (.int 4) Φ = Φ (.bool t.down) := by unfold Tp.d; simp
@[simp high] theorem Nod.ix0 (t : Nod) (Φ : PyData → Prop) : opIx t.d (.int 0) Φ = Φ (.int (t.num : Int)) := by unfold Nod.d; simp
@[simp high] theorem Nod.ix1 (t : Nod) (Φ : PyData → Prop) : opIx t.d (.int 1) Φ = Φ (.str (kindS t.fold)) := by unfold Nod.d; simp
@[simp high] theorem Nod.ix2 (t : Nod) (Φ : PyData → Prop) : opIx t.d (.int 2) Φ = Φ (.str t.grp) := by unfold Nod.d; simp
@[simp high] theorem Nod.ix3 (t : Nod) (Φ : PyData → Prop) : opIx t.d (.int 3) Φ = Φ (rtD t.rt) := by unfold Nod.d; simp
@[simp high] theorem Nod.ix4 (t : Nod) (Φ : PyData → Prop) : opIx t.d (.int 4) Φ = Φ (.str t.cont) := by unfold Nod.d; simp
@[simp high] theorem Nod.ix5 (t : Nod) (Φ : PyData → Prop) : opIx t.d (.int 5) Φ = Φ (.bool t.doubt) := by unfold Nod.d; simp
@[simp high] theorem Nod.ix6 (t : Nod) (Φ : PyData → Prop) : opIx t.d (.int 6) Φ = Φ (.str t.loc) := by unfold Nod.d; simp
@[simp high] theorem Nod.ix8 (t : Nod) (Φ : PyData → Prop) : opIx t.d (.int 8) Φ = Φ (.bool t.wr) := by unfold Nod.d; simp
@[simp high] theorem Nod.ix9 (t : Nod) (Φ : PyData → Prop) : opIx t.d (.int 9) Φ = Φ (.bool t.dn) := by unfold Nod.d; simp
theorem ite_str (Φ : PyData → Prop) (c : Bool) (a b : Str) : (if c = true then Φ (.tuple [.str a, .bool c]) else Φ (.tuple [.str b, .bool c])) = Φ (.tuple [.str (if c = true then a else b), .bool c]) := by cases c <;> rfl
theorem handing_iff (w : Option What) : PyData.eqv (optW w) (.str "handing") = decide (w = some (.sb "handing")) := by
  cases w with
  | none => simp [optW]
  | some w => cases w <;> simp [optW, What.d]
theorem depth_optW (w : Option What) : (optW w).depth = 0 := by
  cases w with
  | none => simp [optW]
  | some w => cases w <;> simp [optW, What.d]
/-! ### making -/
@[simp] theorem isN_none : isNone .none = true := nr rfl
@[simp] theorem isN_str (x : Str) : isNone (.str x) = false := nr rfl
@[simp] theorem isN_int (x : Int) : isNone (.int x) = false := nr rfl
@[simp] theorem isN_what (w : What) : isNone w.d = false := by cases w <;> rfl
@[simp] theorem isN_nod (s : Nod) : isNone s.d = false := nr rfl
/-! ### writing into -/
theorem kind_file (b : Bool) : decide (kindS b = "file") = !b := by
  cases b <;> decide +kernel
/-! ### the table -/
theorem Tp.ok_of {o g : Str} {r : Rt} {s d : Bool} (ho : o = "house" ∨ o = "writer") (hg : g = "own" ∨ g = "team") : isTp5 (Tp.d ⟨o, g, r, s, d⟩) = true := by
  unfold Tp.d isTp5
  have h1 : isStrs "house" "writer" (.str o) = true := by rcases ho with e | e <;> rw [e] <;> decide +kernel
  have h2 : isGrp (.str g) = true := by rcases hg with e | e <;> rw [e] <;> decide +kernel
  simp [h1, h2, isRts_rtD]
theorem m_check_script {d : PyData} (h : isScr d = true) (Φ : PyData → Prop) : w_check_script [d] Φ = Φ .none := by
  simp only [w_check_script, wRun]; simp [m_is_script, h]
def optI : Option Nat → PyData
  | none => .none
  | some n => .int (n : Int)
end Lw

set_option Elab.async false
set_option linter.all false
set_option maxRecDepth 100000
set_option maxHeartbeats 4000000
/-! T1: texts joined and split, in plain lists of signs. -/
namespace Lw
open PySem PySem.Spec PyProof.Rows L2 MG
abbrev cl (x : Str) : List Nat := x.cps.toList
theorem str_ext {a b : Str} (h : cl a = cl b) : a = b := Str.ext' (Array.toList_inj.mp h)
theorem cl_app (a b : Str) : cl (a ++ b) = cl a ++ cl b := by
  show (a.cps ++ b.cps).toList = _
  rw [Array.toList_append]
theorem cl_len (a : Str) : (cl a).length = a.length := Array.length_toList
theorem cl_one (c : Nat) : cl (⟨#[c]⟩ : Str) = [c] := rfl
def glue (s : List Nat) : List (List Nat) → List Nat
  | [] => []
  | [x] => x
  | x :: y :: r => x ++ s ++ glue s (y :: r)
theorem txt_join (a : Str) (ys : List Str) : Txt.join a ys = Str.join a ys := StrLaws.glued_eq_join a ys
theorem cl_join (a : Str) : ∀ ys : List Str, cl (Txt.join a ys) = glue (cl a) (ys.map cl)
  | [] => by rw [txt_join]; rfl
  | [x] => by rw [txt_join]; rfl
  | x :: y :: r => by
    have ih := cl_join a (y :: r)
    rw [txt_join] at ih ⊢
    show cl (x ++ a ++ Str.join a (y :: r)) = _
    rw [cl_app, cl_app, ih]; rfl
theorem cut_inj {c : Nat} {t u : List Nat} : ∀ {a b : List Nat}, c ∉ a → c ∉ b → a ++ c :: t = b ++ c :: u → a = b ∧ t = u
  | [], [], _, _, h => ⟨rfl, by simpa using h⟩
  | [], y :: b, _, h2, h => by
    rw [List.nil_append, List.cons_append, List.cons.injEq] at h
    exact absurd (by rw [← h.1]; exact List.mem_cons_self) h2
  | x :: a, [], h1, _, h => by
    rw [List.nil_append, List.cons_append, List.cons.injEq] at h
    exact absurd (by rw [h.1]; exact List.mem_cons_self) h1
  | x :: a, y :: b, h1, h2, h => by
    rw [List.cons_append, List.cons_append, List.cons.injEq] at h
    obtain ⟨e1, e2⟩ := cut_inj (fun z => h1 (List.mem_cons_of_mem _ z)) (fun z => h2 (List.mem_cons_of_mem _ z)) h.2
    exact ⟨by rw [h.1, e1], e2⟩
theorem glue_inj {c : Nat} : ∀ {xs ys : List (List Nat)}, xs ≠ [] → ys ≠ [] → (∀ x ∈ xs, c ∉ x) → (∀ y ∈ ys, c ∉ y) → glue [c] xs = glue [c] ys → xs = ys
  | [], _, h, _, _, _, _ => absurd rfl h
  | _, [], _, h, _, _, _ => absurd rfl h
  | [x], [y], _, _, _, _, h => by simp only [glue] at h; rw [h]
  | [x], y :: y2 :: r, _, _, hx, _, h => by
    simp only [glue] at h
    exact absurd (by rw [h]; simp) (hx x (by simp))
  | x :: x2 :: r, [y], _, _, _, hy, h => by
    simp only [glue] at h
    exact absurd (by rw [← h]; simp) (hy y (by simp))
  | x :: x2 :: r, y :: y2 :: q, _, _, hx, hy, h => by
    simp only [glue, List.append_assoc, List.singleton_append] at h
    obtain ⟨e1, e2⟩ := cut_inj (hx x (by simp)) (hy y (by simp)) h
    rw [e1, glue_inj (by simp) (by simp) (fun z hz => hx z (List.mem_cons_of_mem _ hz)) (fun z hz => hy z (List.mem_cons_of_mem _ hz)) e2]
theorem map_cl_inj : ∀ {xs ys : List Str}, xs.map cl = ys.map cl → xs = ys
  | [], [], _ => rfl
  | [], _ :: _, h => by simp at h
  | _ :: _, [], h => by simp at h
  | x :: xs, y :: ys, h => by
    rw [List.map_cons, List.map_cons, List.cons.injEq] at h
    rw [str_ext h.1, map_cl_inj h.2]
theorem split_ne (x : Str) (c : Nat) : Txt.split x ⟨#[c]⟩ ≠ [] := fun h => by
  have := split_pos x ⟨#[c]⟩
  rw [h] at this
  exact absurd this (by decide)
/-- what split gives is told by this -/
theorem split_uniq {c : Nat} {x : Str} {ys : List Str} (ne : ys ≠ []) (h : ∀ y ∈ ys, c ∉ cl y) (e : cl x = glue [c] (ys.map cl)) : Txt.split x ⟨#[c]⟩ = ys := by
  refine map_cl_inj (glue_inj (c := c) (by simpa using split_ne x c) (by simpa using ne) (fun z hz => ?_) (fun z hz => ?_) ?_)
  · obtain ⟨p, hp, rfl⟩ := List.mem_map.mp hz
    exact StrLaws.split_free x c p hp
  · obtain ⟨p, hp, rfl⟩ := List.mem_map.mp hz
    exact h p hp
  · rw [← e]
    have := cl_join ⟨#[c]⟩ (Txt.split x ⟨#[c]⟩)
    rw [txt_join, StrLaws.join_split] at this
    exact this.symm
theorem split_join {c : Nat} {ys : List Str} (ne : ys ≠ []) (h : ∀ y ∈ ys, c ∉ cl y) : Txt.split (Txt.join ⟨#[c]⟩ ys) ⟨#[c]⟩ = ys := split_uniq ne h (cl_join _ _)
/-! ### texts that can be held -/
theorem sOk_iff {x : Str} : sOk x = true ↔ (∀ c ∈ cl x, PyData.strOk ⟨#[c]⟩ = true) ∧ (cl x).length ≤ 16777216 := by
  unfold sOk
  rw [Bool.and_eq_true, decide_eq_true_iff, cl_len]
  refine and_congr ?_ Iff.rfl
  unfold PyData.strOk
  rw [Array.all_eq_true']
  simp only [Array.all_eq_true', Array.mem_toList_iff]
  constructor
  · intro h c hc y hy
    have : y = c := by simpa using hy
    subst this
    exact h y hc
  · intro h c hc
    exact h c hc c (by simp)
theorem mem_glue {s : List Nat} {c : Nat} : ∀ {xs : List (List Nat)}, c ∈ glue s xs → c ∈ s ∨ ∃ x ∈ xs, c ∈ x
  | [], h => by simp [glue] at h
  | [x], h => .inr ⟨x, by simp, h⟩
  | x :: y :: r, h => by
    simp only [glue, List.mem_append] at h
    rcases h with (h | h) | h
    · exact .inr ⟨x, by simp, h⟩
    · exact .inl h
    · exact (mem_glue h).imp id fun ⟨z, hz, hc⟩ => ⟨z, List.mem_cons_of_mem _ hz, hc⟩
theorem glue_mem {s x : List Nat} : ∀ {xs : List (List Nat)}, x ∈ xs → ∀ c ∈ x, c ∈ glue s xs
  | [a], h, c, hc => by
    rw [List.mem_singleton] at h
    subst h; exact hc
  | a :: b :: r, h, c, hc => by
    simp only [glue, List.mem_append]
    rcases List.mem_cons.mp h with e | h
    · subst e; exact .inl (.inl hc)
    · exact .inr (glue_mem h c hc)
theorem glue_len {s : List Nat} {m : Nat} : ∀ {xs : List (List Nat)}, (∀ x ∈ xs, x.length ≤ m) → (glue s xs).length ≤ xs.length * (m + s.length)
  | [], _ => by simp [glue]
  | [x], h => by
    have := h x (by simp)
    simp only [glue, List.length_singleton, Nat.one_mul]; omega
  | x :: y :: r, h => by
    have h1 := h x (by simp)
    have := glue_len (s := s) (xs := y :: r) (m := m) fun z hz => h z (List.mem_cons_of_mem _ hz)
    simp only [glue, List.length_append]
    rw [List.length_cons, Nat.succ_mul]
    omega
theorem sOk_join {a : Str} {ys : List Str} {m : Nat} (ha : sOk a = true) (h : ∀ y ∈ ys, sOk y = true ∧ y.length ≤ m) (z : ys.length * (m + a.length) ≤ 16777216) : sOk (Txt.join a ys) = true := by
  rw [sOk_iff, cl_join]
  refine ⟨fun c hc => ?_, ?_⟩
  · rcases mem_glue hc with q | ⟨x, hx, q⟩
    · exact (sOk_iff.mp ha).1 c q
    · obtain ⟨y, hy, rfl⟩ := List.mem_map.mp hx
      exact (sOk_iff.mp (h y hy).1).1 c q
  · have := glue_len (s := cl a) (m := m) (xs := ys.map cl) fun x hx => by
      obtain ⟨y, hy, rfl⟩ := List.mem_map.mp hx
      rw [cl_len]; exact (h y hy).2
    rw [List.length_map, cl_len] at this
    omega
theorem sum_len {ys : List Str} {m : Nat} (h : ∀ y ∈ ys, y.length ≤ m) : (ys.map (·.length)).sum ≤ ys.length * m := by
  induction ys with
  | nil => simp
  | cons y ys ih =>
    rw [List.map_cons, List.sum_cons, List.length_cons, Nat.succ_mul]
    have := h y (by simp)
    have := ih fun z hz => h z (List.mem_cons_of_mem _ hz)
    omega
/-- join, of few short texts -/
theorem join_ok {a : Str} {ys : List Str} {m : Nat} (ha : sOk a = true) (h : ∀ y ∈ ys, sOk y = true ∧ y.length ≤ m) (z : ys.length * (m + a.length) ≤ 16777216) :
    (ys.map (·.length)).sum + ys.length * a.length ≤ 16777216 ∧ sOk (Txt.join a ys) = true := by
  refine ⟨?_, sOk_join ha h z⟩
  have := sum_len (m := m) fun y hy => (h y hy).2
  rw [Nat.mul_add] at z
  omega
theorem part_mem {x : Str} {c : Nat} {y : Str} (h : y ∈ Txt.split x ⟨#[c]⟩) : ∀ d ∈ cl y, d ∈ cl x := by
  intro d hd
  have := cl_join ⟨#[c]⟩ (Txt.split x ⟨#[c]⟩)
  rw [txt_join, StrLaws.join_split] at this
  rw [this]
  exact glue_mem (List.mem_map.mpr ⟨y, h, rfl⟩) d hd
theorem sOk_part {x : Str} {c : Nat} (hx : sOk x = true) {y : Str} (h : y ∈ Txt.split x ⟨#[c]⟩) : sOk y = true := by
  rw [sOk_iff] at hx ⊢
  exact ⟨fun d hd => hx.1 d (part_mem h d hd), by rw [cl_len]; have := part_short h; have h2 := hx.2; rw [cl_len] at h2; omega⟩
theorem split_ok {x : Str} {c : Nat} (hx : sOk x = true) (l : x.length ≤ 1000000) : ((⟨#[c]⟩ : Str).length == 0) = false ∧ x.length + 2 ≤ 16777216 ∧ (Txt.split x ⟨#[c]⟩).length ≤ 16777216 ∧ ∀ y ∈ Txt.split x ⟨#[c]⟩, sOk y = true :=
  ⟨rfl, by omega, by have := split_le x ⟨#[c]⟩; omega, fun y hy => sOk_part hx hy⟩
/-! ### the parts of a text, as a list is cut -/
def cut (c : Nat) : List Nat → List (List Nat)
  | [] => [[]]
  | x :: r => if x = c then [] :: cut c r else match cut c r with
    | [] => [[x]]
    | a :: q => (x :: a) :: q
theorem cut_ne (c : Nat) : ∀ l, cut c l ≠ []
  | [] => by simp [cut]
  | x :: r => by
    unfold cut
    split
    · simp
    · split <;> simp
theorem cut_glue (c : Nat) : ∀ l, glue [c] (cut c l) = l
  | [] => rfl
  | x :: r => by
    have ih := cut_glue c r
    unfold cut
    split
    · rename_i h
      subst h
      have n := cut_ne x r
      revert ih n
      cases cut x r with
      | nil => intro _ n; exact absurd rfl n
      | cons a q => intro ih _; simp [glue, ih]
    · have n := cut_ne c r
      revert ih n
      cases cut c r with
      | nil => intro _ n; exact absurd rfl n
      | cons a q =>
        intro ih _
        cases q with
        | nil => simpa [glue] using ih
        | cons b q => simpa [glue] using ih
theorem cut_free (c : Nat) : ∀ l, ∀ x ∈ cut c l, c ∉ x
  | [], x, h => by simp [cut] at h; simp [h]
  | y :: r, x, h => by
    have ih := cut_free c r
    unfold cut at h
    split at h
    · rcases List.mem_cons.mp h with e | h
      · simp [e]
      · exact ih x h
    · rename_i ne
      split at h
      · simp at h; subst h; simp; exact fun e => ne e.symm
      · rename_i a q hq
        rcases List.mem_cons.mp h with e | h
        · subst e
          have := ih a (by rw [hq]; simp)
          simp only [List.mem_cons, not_or]
          exact ⟨fun e => ne e.symm, this⟩
        · exact ih x (by rw [hq]; exact List.mem_cons_of_mem _ h)
theorem cl_split (x : Str) (c : Nat) : (Txt.split x ⟨#[c]⟩).map cl = cut c (cl x) := by
  refine glue_inj (c := c) (by simpa using split_ne x c) (cut_ne _ _) (fun z hz => ?_) (cut_free c _) ?_
  · obtain ⟨p, hp, rfl⟩ := List.mem_map.mp hz
    exact StrLaws.split_free x c p hp
  · rw [cut_glue]
    have := cl_join ⟨#[c]⟩ (Txt.split x ⟨#[c]⟩)
    rw [txt_join, StrLaws.join_split] at this
    exact this.symm
end Lw

set_option Elab.async false
set_option linter.all false
set_option maxRecDepth 100000
set_option maxHeartbeats 4000000
namespace Lw
open PySem PySem.Spec PySem.W PyProof.Rows L2 MG
/-! T2: rights as six signs. -/
def bt (a : Fin 8) (b : Nat) : Bool := decide (a.val / b % 2 = 1)
def sg (b : Bool) (c : Nat) : Nat := if b then c else 45
def sixS (r : Rt) : Str := ⟨#[sg (bt r.1 4) 114, sg (bt r.1 2) 119, sg (bt r.1 1) 120, sg (bt r.2 4) 114, sg (bt r.2 2) 119, sg (bt r.2 1) 120]⟩
theorem rwx : MG.signs ("rwxrwx" : Str) = [.str ⟨#[114]⟩, .str ⟨#[119]⟩, .str ⟨#[120]⟩, .str ⟨#[114]⟩, .str ⟨#[119]⟩, .str ⟨#[120]⟩] := by
  have : ("rwxrwx" : Str).cps.toList = [114, 119, 120, 114, 119, 120] := by decide +kernel
  unfold MG.signs
  rw [this]; rfl
def sgS (b : Bool) (c : Nat) : Str := ⟨#[sg b c]⟩
def sixP (r : Rt) : List Str := [sgS (bt r.1 4) 114, sgS (bt r.1 2) 119, sgS (bt r.1 1) 120, sgS (bt r.2 4) 114, sgS (bt r.2 2) 119, sgS (bt r.2 1) 120]
theorem six_join (r : Rt) : Txt.join "" (sixP r) = sixS r := str_ext (by rw [cl_join]; rfl)
theorem sgS_ok (b : Bool) {c : Nat} (h : c = 114 ∨ c = 119 ∨ c = 120) : sOk (sgS b c) = true ∧ (sgS b c).length ≤ 1 := by
  rcases h with rfl | rfl | rfl <;> cases b <;> decide +kernel
theorem six_ok (r : Rt) : ((sixP r).map (·.length)).sum + (sixP r).length * ("" : Str).length ≤ 16777216 ∧ sOk (Txt.join "" (sixP r)) = true := by
  refine join_ok (m := 1) (by decide +kernel) (fun y hy => ?_) (by show 6 * (1 + 0) ≤ _; decide)
  simp only [sixP, List.mem_cons, List.not_mem_nil, or_false] at hy
  rcases hy with rfl | rfl | rfl | rfl | rfl | rfl <;> exact sgS_ok _ (by simp)
theorem o_join6 (r : Rt) (Φ : PyData → Prop) : opJoin "" [.list ((sixP r).map .str)] Φ = Φ (.str (sixS r)) := by
  rw [opJoin_l, six_join]
  have := six_ok r
  rw [six_join] at this
  exact propext ⟨fun h => h.2, fun h => ⟨this, h⟩⟩
theorem b4 : ∀ a : Fin 8, ((a.val : Int) / 4 % 2 = 1) = (bt a 4 = true) := fun a => by
  have : ∀ a : Fin 8, decide ((a.val : Int) / 4 % 2 = 1) = bt a 4 := by decide +kernel
  rw [← this]; simp
theorem b2 : ∀ a : Fin 8, ((a.val : Int) / 2 % 2 = 1) = (bt a 2 = true) := fun a => by
  have : ∀ a : Fin 8, decide ((a.val : Int) / 2 % 2 = 1) = bt a 2 := by decide +kernel
  rw [← this]; simp
theorem b1 : ∀ a : Fin 8, ((a.val : Int) % 2 = 1) = (bt a 1 = true) := fun a => by
  have : ∀ a : Fin 8, decide ((a.val : Int) % 2 = 1) = bt a 1 := by decide +kernel
  rw [← this]; simp
theorem sg_if (b : Bool) (c : Nat) : (if b = true then (⟨#[c]⟩ : Str) else "-") = sgS b c := by cases b <;> rfl
theorem sixP_map (a b : Fin 8) : (sixP (a, b)).map PyData.str = [.str (sgS (bt a 4) 114), .str (sgS (bt a 2) 119), .str (sgS (bt a 1) 120), .str (sgS (bt b 4) 114), .str (sgS (bt b 2) 119), .str (sgS (bt b 1) 120)] := rfl
theorem m_rights_text (r : Rt) (Φ : PyData → Prop) : w_rights_text [rtD r] Φ = Φ (.str (sixS r)) := by
  obtain ⟨a, b⟩ := r
  simp only [w_rights_text, wRun, rtD]
  simp [unS, wLcO, wLcA, rwx, zipD, LIM]
  rw [lc_E (fun d => match d with
    | .tuple [.str s, .int v] => some (.str (if v = 1 then s else "-"))
    | _ => none) fun d hd k => by
      simp only [List.mem_cons, List.not_mem_nil, or_false] at hd
      rcases hd with rfl | rfl | rfl | rfl | rfl | rfl <;> simp <;> split <;> rfl]
  have e : ∀ l : List PyData, l = (sixP (a, b)).map .str → opJoin "" [.list l] Φ = Φ (.str (sixS (a, b))) := fun l hl => by rw [hl]; exact o_join6 (a, b) Φ
  refine iff_of_eq (e _ ?_)
  simp [rwx, b4, b2, b1, sg_if, sixP]
/-! ### the law's six -/
end Lw

set_option Elab.async false
set_option linter.all false
set_option maxRecDepth 100000
set_option maxHeartbeats 4000000
namespace Lw
open PySem PySem.Spec PySem.W PyProof.Rows L2 MG
/-! T3: the lines of steps. -/
/-- a name or a word -/
def Az (x : Str) : Prop := isNm (.str x) = true
theorem az_cps : ("abcdefghijklmnopqrstuvwxyz" : Str).cps.toList = [97, 98, 99, 100, 101, 102, 103, 104, 105, 106, 107, 108, 109, 110, 111, 112, 113, 114, 115, 116, 117, 118, 119, 120, 121, 122] := by decide +kernel
theorem inAz_one (c : Nat) : inAz (.str ⟨#[c]⟩) = true ↔ 97 ≤ c ∧ c ≤ 122 := by
  show decide (c ∈ ("abcdefghijklmnopqrstuvwxyz" : Str).cps.toList) = true ↔ _
  rw [az_cps, decide_eq_true_iff]
  simp only [List.mem_cons, List.not_mem_nil, or_false]
  omega
theorem Az.iff {x : Str} : Az x ↔ (1 ≤ x.length ∧ x.length ≤ 8) ∧ ∀ c ∈ cl x, 97 ≤ c ∧ c ≤ 122 := by
  unfold Az isNm
  simp only [Bool.and_eq_true, decide_eq_true_iff, List.all_eq_true]
  refine and_congr Iff.rfl ?_
  unfold MG.signs
  constructor
  · intro h c hc
    exact (inAz_one c).mp (h _ (List.mem_map.mpr ⟨c, hc, rfl⟩))
  · intro h d hd
    obtain ⟨c, hc, rfl⟩ := List.mem_map.mp hd
    exact (inAz_one c).mpr (h c hc)
theorem strOk_small {c : Nat} (h : c ≤ 1000) : PyData.strOk ⟨#[c]⟩ = true := by
  have : ∀ c : Fin 1001, PyData.strOk ⟨#[c.val]⟩ = true := by decide +kernel
  exact this ⟨c, by omega⟩
theorem Az.ok {x : Str} (h : Az x) : sOk x = true ∧ x.length ≤ 8 := by
  obtain ⟨⟨h1, h2⟩, h3⟩ := Az.iff.mp h
  refine ⟨sOk_iff.mpr ⟨fun c hc => strOk_small (by have := h3 c hc; omega), ?_⟩, h2⟩
  rw [cl_len]; omega
theorem Az.free {x : Str} (h : Az x) {c : Nat} (hc : c < 97) : c ∉ cl x := fun m => by have := (Az.iff.mp h).2 c m; omega
theorem slash_cps : ("/" : Str) = ⟨#[47]⟩ := by decide +kernel
theorem blank_cps : (" " : Str) = ⟨#[32]⟩ := by decide +kernel
theorem feed_cps : ("\n" : Str) = ⟨#[10]⟩ := by decide +kernel
structure PAz (p : List Str) : Prop where
  len : IsP p
  nm : ∀ x ∈ p, Az x
def pthS (p : List Str) : Str := Txt.join "/" p
theorem isP_len {p : List Str} (h : IsP p) : p.length ≤ 2 ∧ p ≠ [] := by
  unfold IsP at h
  exact ⟨by omega, fun e => by rw [e] at h; simp at h⟩
theorem pth_join {p : List Str} (h : PAz p) : (p.map (·.length)).sum + p.length * ("/" : Str).length ≤ 16777216 ∧ sOk (pthS p) = true :=
  join_ok (m := 8) (by decide +kernel) (fun y hy => (h.nm y hy).ok) (by
    have := (isP_len h.len).1
    have e : ("/" : Str).length = 1 := by decide +kernel
    rw [e]; omega)
theorem pthS_len {p : List Str} (h : PAz p) : (pthS p).length ≤ 18 := by
  rw [← cl_len, pthS, cl_join]
  have := glue_len (s := cl "/") (m := 8) (xs := p.map cl) fun x hx => by
    obtain ⟨y, hy, rfl⟩ := List.mem_map.mp hx
    rw [cl_len]; exact (h.nm y hy).ok.2
  have e : (cl ("/" : Str)).length = 1 := by decide +kernel
  rw [List.length_map, e] at this
  have := (isP_len h.len).1
  omega
theorem o_joinP {p : List Str} (h : PAz p) (Φ : PyData → Prop) : opJoin "/" [tupS p] Φ = Φ (.str (pthS p)) := by
  unfold tupS
  rw [opJoin_t]
  exact propext ⟨fun q => q.2, fun q => ⟨pth_join h, q⟩⟩
theorem six_ok1 (r : Rt) : sOk (sixS r) = true := by rw [← six_join]; exact (six_ok r).2
theorem six_len (r : Rt) : (sixS r).length = 6 := rfl
/-! ### the parts of a step -/
def Stp.parts : Stp → List Str
  | .mask r => ["mask", sixS r]
  | .make p r => ["make", pthS p, sixS r]
  | .folder p r => ["folder", pthS p, sixS r]
  | .write p w => ["write", pthS p, w]
  | .rights p r => ["rights", pthS p, sixS r]
  | .group p g => ["group", pthS p, g]
  | .move p q => ["move", pthS p, pthS q]
  | .copy p q => ["copy", pthS p, pthS q]
  | .out p => ["out", pthS p]
  | .use p w => ["use", pthS p, w]
/-- its names are names -/
def Stp.Az : Stp → Prop
  | .mask _ => True
  | .make p _ => PAz p
  | .folder p _ => PAz p ∧ p.length = 1
  | .write p w => PAz p ∧ Lw.Az w
  | .rights p _ => PAz p
  | .group p g => PAz p ∧ (g = "own" ∨ g = "team")
  | .move p q => PAz p ∧ PAz q ∧ q ≠ p
  | .copy p q => PAz p ∧ PAz q ∧ q ≠ p
  | .out p => PAz p
  | .use p w => PAz p ∧ Lw.Az w
def lineS (t : Stp) : Str := Txt.join " " t.parts
theorem part_ok {t : Stp} (h : t.Az) : ∀ y ∈ t.parts, sOk y = true ∧ y.length ≤ 18 := by
  have w8 : ∀ {s : Str}, sOk s = true ∧ s.length ≤ 18 → True := fun _ => trivial
  have hp : ∀ {p : List Str}, PAz p → sOk (pthS p) = true ∧ (pthS p).length ≤ 18 := fun h => ⟨(pth_join h).2, pthS_len h⟩
  have hr : ∀ r : Rt, sOk (sixS r) = true ∧ (sixS r).length ≤ 18 := fun r => ⟨six_ok1 r, by rw [six_len]; decide⟩
  have hw : ∀ {w : Str}, Lw.Az w → sOk w = true ∧ w.length ≤ 18 := fun h => ⟨h.ok.1, by have := h.ok.2; omega⟩
  intro y hy
  cases t <;> simp only [Stp.parts, List.mem_cons, List.not_mem_nil, or_false] at hy <;> rcases hy with rfl | rfl | rfl <;> first
    | (decide +kernel)
    | exact hr _
    | exact hp (by first | exact h | exact h.1)
    | exact hp h.2.1
    | exact hw h.2
    | (rcases h.2 with rfl | rfl <;> decide +kernel)
theorem parts_len (t : Stp) : t.parts.length ≤ 3 := by cases t <;> simp [Stp.parts]
theorem line_ok {t : Stp} (h : t.Az) : (t.parts.map (·.length)).sum + t.parts.length * (" " : Str).length ≤ 16777216 ∧ sOk (lineS t) = true :=
  join_ok (m := 18) (by decide +kernel) (part_ok h) (by
    have := parts_len t
    have e : (" " : Str).length = 1 := by decide +kernel
    rw [e]; omega)
theorem line_len {t : Stp} (h : t.Az) : (lineS t).length ≤ 57 := by
  rw [← cl_len, lineS, cl_join]
  have := glue_len (s := cl " ") (m := 18) (xs := t.parts.map cl) fun x hx => by
    obtain ⟨y, hy, rfl⟩ := List.mem_map.mp hx
    rw [cl_len]; exact (part_ok h y hy).2
  have e : (cl (" " : Str)).length = 1 := by decide +kernel
  rw [List.length_map, e] at this
  have := parts_len t
  omega
theorem o_joinL {t : Stp} (h : t.Az) (Φ : PyData → Prop) : opJoin " " [.list (t.parts.map .str)] Φ = Φ (.str (lineS t)) := by
  rw [opJoin_l]
  exact propext ⟨fun q => q.2, fun q => ⟨line_ok h, q⟩⟩
/-! ### the program's -/
theorem m_item_s (x : Str) (Φ : PyData → Prop) : w_item_text [.str x] Φ = Φ (.str x) := by
  simp only [w_item_text, wRun]; simp
theorem m_item_r (r : Rt) (Φ : PyData → Prop) : w_item_text [rtD r] Φ = Φ (.str (sixS r)) := by
  have e := m_rights_text r Φ
  simp only [w_item_text, wRun]
  unfold rtD at e ⊢
  simp
  exact iff_of_eq e
theorem m_item_p {p : List Str} (h : PAz p) (Φ : PyData → Prop) : w_item_text [tupS p] Φ = Φ (.str (pthS p)) := by
  have e := o_joinP h Φ
  simp only [w_item_text, wRun]
  rcases isP_cases h.len with ⟨a, rfl⟩ | ⟨a, b, rfl⟩ <;> simp [tupS] at e ⊢ <;> exact e
theorem m_step_text {t : Stp} (h : t.Az) (Φ : PyData → Prop) : w_step_text [t.d] Φ = Φ (.str (lineS t)) := by
  have e := o_joinL h Φ
  simp only [w_step_text, wRun]
  cases t <;> simp [Stp.d, unS, wLc, LIM, m_item_s, m_item_r]
  all_goals first
    | exact iff_of_eq e
    | (rw [m_item_p h]; exact iff_of_eq e)
    | (rw [m_item_p h.1]; exact iff_of_eq e)
    | (rw [m_item_p h.1, m_item_p h.2.1]; exact iff_of_eq e)
end Lw

set_option Elab.async false
set_option linter.all false
set_option maxRecDepth 100000
set_option maxHeartbeats 4000000
namespace Lw
open PySem PySem.Spec PySem.W PyProof.Rows L2 MG
/-! T4: lines read. -/
/-! ### rights -/
def okc (x s : Nat) : Bool := decide (x = s) || decide (x = 45)
def numF (a b c : Nat) : Fin 8 := ⟨(if a = 45 then 0 else 4) + (if b = 45 then 0 else 2) + (if c = 45 then 0 else 1), by split <;> split <;> split <;> omega⟩
def sixL : List Nat → Option Rt
  | [a, b, c, d, e, f] => if okc a 114 && (okc b 119 && (okc c 120 && (okc d 114 && (okc e 119 && okc f 120)))) then some (numF a b c, numF d e f) else none
  | _ => none
def optRt : Option Rt → PyData
  | some r => rtD r
  | none => .none
theorem rwx_is : ("rwxrwx" : Str) = ⟨#[114, 119, 120, 114, 119, 120]⟩ := by decide +kernel
theorem rwx0 (Φ : PyData → Prop) : opIx (.str "rwxrwx") (.int 0) Φ = Φ (.str ⟨#[114]⟩) := by rw [rwx_is]; rfl
theorem rwx1 (Φ : PyData → Prop) : opIx (.str "rwxrwx") (.int 1) Φ = Φ (.str ⟨#[119]⟩) := by rw [rwx_is]; rfl
theorem rwx2 (Φ : PyData → Prop) : opIx (.str "rwxrwx") (.int 2) Φ = Φ (.str ⟨#[120]⟩) := by rw [rwx_is]; rfl
theorem rwx3 (Φ : PyData → Prop) : opIx (.str "rwxrwx") (.int 3) Φ = Φ (.str ⟨#[114]⟩) := by rw [rwx_is]; rfl
theorem rwx4 (Φ : PyData → Prop) : opIx (.str "rwxrwx") (.int 4) Φ = Φ (.str ⟨#[119]⟩) := by rw [rwx_is]; rfl
theorem rwx5 (Φ : PyData → Prop) : opIx (.str "rwxrwx") (.int 5) Φ = Φ (.str ⟨#[120]⟩) := by rw [rwx_is]; rfl
def sgn6 : Int → Nat
  | 0 => 114
  | 1 => 119
  | 2 => 120
  | 3 => 114
  | 4 => 119
  | _ => 120
theorem okc_eq (x s : Nat) : okc x s = (decide (s = x) || decide (45 = x)) := by
  unfold okc
  congr 1 <;> exact decide_eq_decide.mpr eq_comm
def rrF : PyData → Option PyData
  | .tuple [.int i, .str ⟨⟨[y]⟩⟩] => if okc y (sgn6 i) = true then none else some (.int i)
  | _ => none
theorem rrF_eq (i : Int) (y : Nat) : rrF (.tuple [.int i, .str ⟨#[y]⟩]) = if okc y (sgn6 i) = true then none else some (.int i) := rfl
theorem fm_empty {α β : Type} (f : α → Option β) : ∀ l : List α, (l.filterMap f).isEmpty = l.all fun x => (f x).isNone
  | [] => rfl
  | x :: l => by
    cases h : f x with
    | none => rw [List.filterMap_cons_none h, fm_empty f l]; simp [h]
    | some y => rw [List.filterMap_cons_some h]; simp [h]
theorem none_if {α : Type} (b : Bool) (x : α) : (if b = true then none else some x).isNone = b := by cases b <;> rfl
def rzF : PyData → Option PyData
  | .tuple [.str ⟨⟨[y]⟩⟩, .int b] => some (.int (if y = 45 then 0 else b))
  | _ => none
theorem rzF_eq (b : Int) (y : Nat) : rzF (.tuple [.str ⟨#[y]⟩, .int b]) = some (.int (if y = 45 then 0 else b)) := rfl
theorem dash : ("-" : Str) = ⟨#[45]⟩ := by decide +kernel
theorem one_eq (a b : Nat) : ((⟨#[a]⟩ : Str) = ⟨#[b]⟩) = (a = b) := by
  refine propext ⟨fun h => ?_, fun h => by rw [h]⟩
  have := congrArg cl h
  simpa using this
theorem rd_sum (a b c : Nat) (Φ : PyData → Prop) : opSum [.list [.int (if a = 45 then 0 else 4), .int (if b = 45 then 0 else 2), .int (if c = 45 then 0 else 1)]] Φ = Φ (.int ((numF a b c).val : Int)) := by
  by_cases h1 : a = 45 <;> by_cases h2 : b = 45 <;> by_cases h3 : c = 45 <;> simp only [h1, h2, h3, numF, if_true, if_false] <;> rfl
theorem m_rights_read (w : Str) (Φ : PyData → Prop) : w_rights_read [.str w] Φ = Φ (optRt (sixL (cl w))) := by
  obtain ⟨⟨l⟩⟩ := w
  have long : l.length ≠ 6 → w_rights_read [.str ⟨⟨l⟩⟩] Φ = Φ .none := fun h => by
    have h' : ¬ ((l.length : Int) = 6) := by omega
    simp only [w_rights_read, wRun]
    simp [Str.length, h']
  match l, long with
  | [], h => exact h (by simp)
  | [_], h => exact h (by simp)
  | [_, _], h => exact h (by simp)
  | [_, _, _], h => exact h (by simp)
  | [_, _, _, _], h => exact h (by simp)
  | [_, _, _, _, _], h => exact h (by simp)
  | _ :: _ :: _ :: _ :: _ :: _ :: _ :: r, h => exact h (by simp)
  | [a, b, c, d, e, f], _ =>
    clear long
    have sgn : MG.signs (⟨⟨[a, b, c, d, e, f]⟩⟩ : Str) = [.str ⟨#[a]⟩, .str ⟨#[b]⟩, .str ⟨#[c]⟩, .str ⟨#[d]⟩, .str ⟨#[e]⟩, .str ⟨#[f]⟩] := rfl
    simp only [w_rights_read, wRun]
    simp [Str.length, unS, sgn, enumD, List.mapIdx_cons, LIM]
    rw [lc_E rrF fun x hx k => by
      simp only [List.mem_cons, List.not_mem_nil, or_false] at hx
      rcases hx with rfl | rfl | rfl | rfl | rfl | rfl <;> rw [rrF_eq] <;> unfold sgn6
      · rw [okc_eq]; by_cases h1 : 114 = a <;> by_cases h2 : 45 = a <;> simp [rwx0, one_eq, dash, h1, h2, LIM]
      · rw [okc_eq]; by_cases h1 : 119 = b <;> by_cases h2 : 45 = b <;> simp [rwx1, one_eq, dash, h1, h2, LIM]
      · rw [okc_eq]; by_cases h1 : 120 = c <;> by_cases h2 : 45 = c <;> simp [rwx2, one_eq, dash, h1, h2, LIM]
      · rw [okc_eq]; by_cases h1 : 114 = d <;> by_cases h2 : 45 = d <;> simp [rwx3, one_eq, dash, h1, h2, LIM]
      · rw [okc_eq]; by_cases h1 : 119 = e <;> by_cases h2 : 45 = e <;> simp [rwx4, one_eq, dash, h1, h2, LIM]
      · rw [okc_eq]; by_cases h1 : 120 = f <;> by_cases h2 : 45 = f <;> simp [rwx5, one_eq, dash, h1, h2, LIM]]
    rw [eqa_n, fm_empty]
    have ea : ([PyData.tuple [.int 0, .str ⟨#[a]⟩], .tuple [.int 1, .str ⟨#[b]⟩], .tuple [.int 2, .str ⟨#[c]⟩], .tuple [.int 3, .str ⟨#[d]⟩], .tuple [.int 4, .str ⟨#[e]⟩], .tuple [.int 5, .str ⟨#[f]⟩]].all fun x => (rrF x).isNone) = (okc a 114 && (okc b 119 && (okc c 120 && (okc d 114 && (okc e 119 && okc f 120))))) := by
      simp only [List.all_cons, List.all_nil, rrF_eq, none_if, sgn6, Bool.and_true]
    rw [ea]
    rw [lc_E rzF fun x hx k => by
      simp only [zipD, List.zipWith, List.mem_cons, List.not_mem_nil, or_false] at hx
      rcases hx with rfl | rfl | rfl | rfl | rfl | rfl <;> rw [rzF_eq] <;> simp [one_eq, dash] <;> split <;> simp [*]]
    simp only [sixL]
    cases okc a 114 && (okc b 119 && (okc c 120 && (okc d 114 && (okc e 119 && okc f 120)))) with
    | false => rfl
    | true =>
      simp [zipD, rzF_eq, rd_sum, optRt, rtD]
end Lw

set_option Elab.async false
set_option linter.all false
set_option maxRecDepth 100000
set_option maxHeartbeats 4000000
namespace Lw
open PySem PySem.Spec PySem.W PyProof.Rows L2 MG
/-! T5: lines read, lines written. -/
theorem o_splitC {s : Str} {c : Nat} (e : s = ⟨#[c]⟩) {x : Str} (hx : sOk x = true) (l : x.length ≤ 1000000) (Ψ : List PyData → Prop) : opSplit x [.str s] Ψ = Ψ ((Txt.split x s).map .str) := by
  subst e
  rw [opSplit_s]
  exact propext ⟨fun h => h.2, fun h => ⟨split_ok hx l, h⟩⟩
theorem m_path_read {x : Str} (hx : sOk x = true) (l : x.length ≤ 1000000) (Φ : PyData → Prop) : w_path_read [.str x] Φ = Φ (tupS (Txt.split x "/")) := by
  simp only [w_path_read, wRun]
  simp [o_splitC slash_cps hx l, -opSplit_s]
  rfl
def cand : List Str → Option PyData
  | [w, a] => if w = "mask" then some (.tuple [.str "mask", optRt (sixL (cl a))]) else if w = "out" then some (.tuple [.str "out", tupS (Txt.split a "/")]) else none
  | [w, a, b] => if w = "make" ∨ w = "folder" ∨ w = "rights" then some (.tuple [.str w, tupS (Txt.split a "/"), optRt (sixL (cl b))])
    else if w = "move" ∨ w = "copy" then some (.tuple [.str w, tupS (Txt.split a "/"), tupS (Txt.split b "/")]) else some (.tuple [.str w, tupS (Txt.split a "/"), .str b])
  | _ => none
def stepD (line : Str) : PyData := match cand (Txt.split line " ") with
  | some d => if isStp d = true then d else .none
  | none => .none
theorem m_step_read {x : Str} (hx : sOk x = true) (l : x.length ≤ 1000000) (Φ : PyData → Prop) : w_step_read [.str x] Φ = Φ (stepD x) := by
  have hw : ∀ y ∈ Txt.split x " ", sOk y = true ∧ y.length ≤ 1000000 := fun y hy => by
    rw [blank_cps] at hy
    exact ⟨sOk_part hx hy, by have := part_short hy; omega⟩
  have ne : Txt.split x " " ≠ [] := by rw [blank_cps]; exact split_ne _ _
  simp only [w_step_read, wRun]
  simp [o_splitC blank_cps hx l, -opSplit_s]
  unfold stepD
  generalize Txt.split x " " = ws at hw ne ⊢
  match ws, hw, ne with
  | [], _, ne => exact absurd rfl ne
  | [a], _, _ =>
    simp [cand]
  | [w, a], hw, _ =>
    have ha := hw a (by simp)
    by_cases h1 : w = "mask"
    · subst h1
      simp [cand, m_rights_read, LIM]
      split <;> rfl
    · by_cases h2 : w = "out"
      · subst h2
        have := m_path_read ha.1 ha.2
        simp [cand, this, LIM, h1]
        split <;> rfl
      · simp [cand, h1, h2]
  | [w, a, b], hw, _ =>
    have ha := hw a (by simp)
    have hb := hw b (by simp)
    have pa := m_path_read ha.1 ha.2
    have pb := m_path_read hb.1 hb.2
    have f1 : (("make" : Str) = w) = (w = "make") := propext eq_comm
    have f2 : (("folder" : Str) = w) = (w = "folder") := propext eq_comm
    have f3 : (("rights" : Str) = w) = (w = "rights") := propext eq_comm
    have f4 : (("move" : Str) = w) = (w = "move") := propext eq_comm
    have f5 : (("copy" : Str) = w) = (w = "copy") := propext eq_comm
    by_cases c1 : w = "make" ∨ w = "folder" ∨ w = "rights"
    · simp [cand, m_rights_read, pa, LIM, f1, f2, f3, c1]
      split <;> rfl
    · by_cases c2 : w = "move" ∨ w = "copy"
      · simp [cand, m_rights_read, pa, pb, LIM, f1, f2, f3, f4, f5, c1, c2]
        split <;> rfl
      · simp [cand, m_rights_read, pa, pb, LIM, f1, f2, f3, f4, f5, c1, c2]
        split <;> rfl
  | w :: a :: b :: c :: r, _, _ =>
    have h2 : ¬ ((r.length : Int) + 1 + 1 + 1 + 1 = 2) := by omega
    have h3 : ¬ ((r.length : Int) + 1 + 1 + 1 + 1 = 3) := by omega
    simp [cand, h2, h3]
/-! ### a step's own line -/
theorem sixL_six (r : Rt) : sixL (cl (sixS r)) = some r := by
  have : ∀ a b : Fin 8, sixL (cl (sixS (a, b))) = some (a, b) := by decide +kernel
  exact this r.1 r.2
theorem pth_split {p : List Str} (h : PAz p) : Txt.split (pthS p) "/" = p := by
  unfold pthS
  rw [slash_cps]
  exact split_join (isP_len h.len).2 fun y hy => (h.nm y hy).free (by decide)
theorem six_free (r : Rt) {c : Nat} (h : c = 32 ∨ c = 10) : c ∉ cl (sixS r) := by
  have : ∀ a b : Fin 8, (32 ∉ cl (sixS (a, b))) ∧ 10 ∉ cl (sixS (a, b)) := by decide +kernel
  rcases h with rfl | rfl
  · exact (this r.1 r.2).1
  · exact (this r.1 r.2).2
theorem pth_free {p : List Str} (h : PAz p) {c : Nat} (hc : c = 32 ∨ c = 10) : c ∉ cl (pthS p) := by
  unfold pthS
  rw [cl_join, slash_cps]
  intro m
  rcases mem_glue m with q | ⟨x, hx, q⟩
  · rw [cl_one] at q
    simp at q
    omega
  · obtain ⟨y, hy, rfl⟩ := List.mem_map.mp hx
    exact (h.nm y hy).free (by omega) q
theorem part_free {t : Stp} (h : t.Az) {c : Nat} (hc : c = 32 ∨ c = 10) : ∀ y ∈ t.parts, c ∉ cl y := by
  have c97 : c < 97 := by omega
  have w : ∀ s ∈ (["mask", "make", "folder", "write", "rights", "group", "move", "copy", "out", "use", "own", "team"] : List Str), (32 ∉ cl s) ∧ 10 ∉ cl s := by decide +kernel
  have w' : ∀ s ∈ (["mask", "make", "folder", "write", "rights", "group", "move", "copy", "out", "use", "own", "team"] : List Str), c ∉ cl s := fun s hs => by
    rcases hc with rfl | rfl
    · exact (w s hs).1
    · exact (w s hs).2
  intro y hy
  cases t <;> simp only [Stp.parts, List.mem_cons, List.not_mem_nil, or_false] at hy <;> rcases hy with rfl | rfl | rfl <;> first
    | exact six_free _ hc
    | exact pth_free h hc
    | exact pth_free h.1 hc
    | exact pth_free h.2.1 hc
    | exact Lw.Az.free h.2 c97
    | (refine w' _ ?_; simp; done)
    | (rcases h.2 with rfl | rfl <;> (refine w' _ ?_; simp; done))
theorem parts_ne (t : Stp) : t.parts ≠ [] := by cases t <;> simp [Stp.parts]
theorem line_split {t : Stp} (h : t.Az) : Txt.split (lineS t) " " = t.parts := by
  unfold lineS
  rw [blank_cps]
  exact split_join (parts_ne t) (part_free h (.inl rfl))
theorem PAz.pth {p : List Str} (h : PAz p) : isPth (tupS p) = true := by
  rcases isP_cases h.len with ⟨a, rfl⟩ | ⟨a, b, rfl⟩
  · exact h.nm a (by simp)
  · show (isNm (.str a) && isNm (.str b)) = true
    rw [show isNm (.str a) = true from h.nm a (by simp), show isNm (.str b) = true from h.nm b (by simp)]; rfl
theorem stp_az {t : Stp} (h : t.Az) : isStp t.d = true := by
  have w : ∀ (w : Str) (a b : PyData), isStp (.tuple [.str w, a, b]) = isS2 w a b := fun _ _ _ => rfl
  cases t with
  | mask r => show isS1 "mask" (rtD r) = true; simp [isS1, isRts_rtD]
  | make p r => simp [Stp.d, w, isS2, isRts_rtD, PAz.pth h]
  | folder p r =>
    have : len1 (tupS p) = true := by
      match p, h.2 with
      | [a], _ => rfl
    simp [Stp.d, w, isS2, isRts_rtD, PAz.pth h.1, this]
  | write p x => simp [Stp.d, w, isS2, PAz.pth h.1, show isNm (.str x) = true from h.2]
  | rights p r => simp [Stp.d, w, isS2, isRts_rtD, PAz.pth h]
  | group p g =>
    have : isGrp (.str g) = true := by rcases h.2 with e | e <;> rw [e] <;> decide +kernel
    simp [Stp.d, w, isS2, PAz.pth h.1, this]
  | move p q => simp [Stp.d, w, isS2, PAz.pth h.1, PAz.pth h.2.1, eqv_tupS, h.2.2]
  | copy p q => simp [Stp.d, w, isS2, PAz.pth h.1, PAz.pth h.2.1, eqv_tupS, h.2.2]
  | out p => show isS1 "out" (tupS p) = true; simp [isS1, PAz.pth h]
  | use p x => simp [Stp.d, w, isS2, PAz.pth h.1, show isNm (.str x) = true from h.2]
theorem cand_parts {t : Stp} (h : t.Az) : cand t.parts = some t.d := by
  cases t with
  | mask r => simp [ne_w0, ne_w1, ne_w2, ne_w3, ne_w4, ne_w5, cand, Stp.parts, sixL_six, Stp.d, optRt]
  | make p r => simp [ne_w0, ne_w1, ne_w2, ne_w3, ne_w4, ne_w5, cand, Stp.parts, sixL_six, Stp.d, optRt, pth_split h]
  | folder p r => simp [ne_w0, ne_w1, ne_w2, ne_w3, ne_w4, ne_w5, cand, Stp.parts, sixL_six, Stp.d, optRt, pth_split h.1]
  | write p x => simp [ne_w0, ne_w1, ne_w2, ne_w3, ne_w4, ne_w5, cand, Stp.parts, Stp.d, pth_split h.1]
  | rights p r => simp [ne_w0, ne_w1, ne_w2, ne_w3, ne_w4, ne_w5, cand, Stp.parts, sixL_six, Stp.d, optRt, pth_split h]
  | group p g => simp [ne_w0, ne_w1, ne_w2, ne_w3, ne_w4, ne_w5, cand, Stp.parts, Stp.d, pth_split h.1]
  | move p q => simp [ne_w0, ne_w1, ne_w2, ne_w3, ne_w4, ne_w5, cand, Stp.parts, Stp.d, pth_split h.1, pth_split h.2.1]
  | copy p q => simp [ne_w0, ne_w1, ne_w2, ne_w3, ne_w4, ne_w5, cand, Stp.parts, Stp.d, pth_split h.1, pth_split h.2.1]
  | out p => simp [ne_w0, ne_w1, ne_w2, ne_w3, ne_w4, ne_w5, cand, Stp.parts, Stp.d, pth_split h]
  | use p x => simp [ne_w0, ne_w1, ne_w2, ne_w3, ne_w4, ne_w5, cand, Stp.parts, Stp.d, pth_split h.1]
theorem step_line {t : Stp} (h : t.Az) : stepD (lineS t) = t.d := by
  unfold stepD
  rw [line_split h, cand_parts h]
  simp [stp_az h]
/-! ### the law's line -/
end Lw

set_option Elab.async false
set_option linter.all false
set_option maxRecDepth 100000
set_option maxHeartbeats 4000000
namespace Lw
open PySem PySem.Spec PySem.W PyProof.Rows L2 MG
/-! T6: the text of a script, written and read. -/
/-- a comprehension over typed items -/
theorem lc_T {α : Type} {enc : α → PyData} {g : WG} {c : WB} {w : WE} {ε : EV} (f : α → Option PyData) : ∀ {xs : List α} {Φ : List PyData → Prop},
    (∀ a ∈ xs, ∀ k : Option PyData → Prop, (g (enc a) ε fun ε1 => c ε1 fun b => if b = true then w ε1 (fun r => k (some r)) else k none) = k (f a)) → wLc g c w (xs.map enc) ε Φ = Φ (xs.filterMap f)
  | [], Φ, _ => rfl
  | a :: xs, Φ, h1 => by
    have hd := h1 a List.mem_cons_self fun o => match o with
      | some r => wLc g c w (xs.map enc) ε fun rs => Φ (r :: rs)
      | none => wLc g c w (xs.map enc) ε Φ
    have rest : ∀ {Φ : List PyData → Prop}, wLc g c w (xs.map enc) ε Φ = Φ (xs.filterMap f) := lc_T f fun d z => h1 d (List.mem_cons_of_mem _ z)
    have e : wLc g c w ((a :: xs).map enc) ε Φ = g (enc a) ε fun ε1 => c ε1 fun b => if b = true then w ε1 (fun r => wLc g c w (xs.map enc) ε fun rs => Φ (r :: rs)) else wLc g c w (xs.map enc) ε Φ := by
      rw [List.map_cons, wLc]; congr 1; funext ε1; congr 1; funext b; cases b <;> simp
    rw [e]
    refine hd.trans ?_
    cases q : f a with
    | none => rw [List.filterMap_cons_none q]; exact rest
    | some r => rw [List.filterMap_cons_some q]; exact rest
theorem lc_M {α : Type} {enc : α → PyData} {g : WG} {c : WB} {w : WE} {ε : EV} (f : α → PyData) {xs : List α} {Φ : List PyData → Prop}
    (h : ∀ a ∈ xs, ∀ k : Option PyData → Prop, (g (enc a) ε fun ε1 => c ε1 fun b => if b = true then w ε1 (fun r => k (some r)) else k none) = k (some (f a))) : wLc g c w (xs.map enc) ε Φ = Φ (xs.map f) := by
  rw [lc_T (fun a => some (f a)) h]
  have : xs.filterMap (fun a => some (f a)) = xs.map f := congrFun (List.filterMap_eq_map (f := f)) xs
  rw [this]
def textS (ts : List Stp) : Str := Txt.join "\n" (ts.map lineS)
theorem text_ok {ts : List Stp} (h : ∀ t ∈ ts, t.Az) (l : ts.length ≤ 1000) : ((ts.map lineS).map (·.length)).sum + (ts.map lineS).length * ("\n" : Str).length ≤ 16777216 ∧ sOk (textS ts) = true :=
  join_ok (m := 57) (by decide +kernel) (fun y hy => by
    obtain ⟨t, ht, rfl⟩ := List.mem_map.mp hy
    exact ⟨(line_ok (h t ht)).2, line_len (h t ht)⟩) (by
    have e : ("\n" : Str).length = 1 := by decide +kernel
    rw [e, List.length_map]; omega)
theorem text_len {ts : List Stp} (h : ∀ t ∈ ts, t.Az) (l : ts.length ≤ 1000) : (textS ts).length ≤ 58000 := by
  rw [← cl_len, textS, cl_join]
  have := glue_len (s := cl "\n") (m := 57) (xs := (ts.map lineS).map cl) fun x hx => by
    obtain ⟨y, hy, rfl⟩ := List.mem_map.mp hx
    obtain ⟨t, ht, rfl⟩ := List.mem_map.mp hy
    rw [cl_len]; exact line_len (h t ht)
  have e : (cl ("\n" : Str)).length = 1 := by decide +kernel
  rw [List.length_map, List.length_map, e] at this
  omega
theorem o_joinX {ts : List Stp} (h : ∀ t ∈ ts, t.Az) (l : ts.length ≤ 1000) (Φ : PyData → Prop) : opJoin "\n" [.list ((ts.map lineS).map .str)] Φ = Φ (.str (textS ts)) := by
  rw [opJoin_l]
  exact propext ⟨fun q => q.2, fun q => ⟨text_ok h l, q⟩⟩
theorem m_script_text {ts : List Stp} (h : ∀ t ∈ ts, t.Az) (hs : isScr (scD ts) = true) (l : ts.length ≤ 8) (Φ : PyData → Prop) : w_script_text [scD ts] Φ = Φ (.str (textS ts)) := by
  have e := o_joinX h (by omega) Φ
  have it : ∀ Ψ, asI (scD ts) Ψ = Ψ (ts.map Stp.d) := fun Ψ => rfl
  simp only [w_script_text, wRun]
  simp [m_check_script hs, it, unS]
  rw [lc_M (fun t => .str (lineS t)) fun t ht k => by simp [m_step_text (h t ht)]]
  rw [show ts.map (fun t => PyData.str (lineS t)) = (ts.map lineS).map .str by rw [List.map_map]; rfl]
  exact iff_of_eq e
/-! ### read -/
theorem line_free {t : Stp} (h : t.Az) : 10 ∉ cl (lineS t) := by
  unfold lineS
  rw [cl_join, blank_cps]
  intro m
  rcases mem_glue m with q | ⟨x, hx, q⟩
  · rw [cl_one] at q
    simp at q
  · obtain ⟨y, hy, rfl⟩ := List.mem_map.mp hx
    exact part_free h (.inr rfl) y hy q
theorem text_split {ts : List Stp} (h : ∀ t ∈ ts, t.Az) (ne : ts ≠ []) : Txt.split (textS ts) "\n" = ts.map lineS := by
  unfold textS
  rw [feed_cps]
  exact split_join (by simpa using ne) fun y hy => by
    obtain ⟨t, ht, rfl⟩ := List.mem_map.mp hy
    exact line_free (h t ht)
theorem line_pos {t : Stp} : 1 ≤ (cl (lineS t)).length := by
  unfold lineS
  rw [cl_join]
  have w : ∀ s ∈ (["mask", "make", "folder", "write", "rights", "group", "move", "copy", "out", "use"] : List Str), 1 ≤ (cl s).length := by decide +kernel
  have e : (cl (" " : Str)).length = 1 := by decide +kernel
  cases t <;> simp only [Stp.parts, List.map_cons, List.map_nil, glue, List.length_append, e] <;> omega
theorem text_ne {ts : List Stp} (ne : ts ≠ []) : ¬ textS ts = "" := fun e => by
  have e := congrArg (fun x : Str => (cl x).length) e
  simp only [textS, cl_join] at e
  have z : (cl ("" : Str)).length = 0 := by decide +kernel
  rw [z] at e
  cases ts with
  | nil => exact ne rfl
  | cons t ts =>
    have := line_pos (t := t)
    cases ts with
    | nil => simp only [List.map_cons, List.map_nil, glue] at e; omega
    | cons u ts =>
      simp only [List.map_cons, glue, List.length_append] at e
      omega
theorem isN_stp (t : Stp) : isNone t.d = false := by cases t <;> rfl
theorem enum_map {α : Type} (f : α → PyData) (xs : List α) : enumD (xs.map f) = xs.mapIdx fun i a => .tuple [.int (i : Nat), f a] := by
  unfold enumD
  refine List.ext_getElem? fun i => ?_
  rw [List.getElem?_mapIdx, List.getElem?_mapIdx, List.getElem?_map]
  cases xs[i]? <;> rfl
/-- a for statement over items by their places -/
theorem for_IX {α : Type} {enc : Nat → α → PyData} {g : WG} {b : WS} {Ψ : WEnds} (I : List α → EV → Prop) : ∀ {xs done : List α} {ε : EV}, I done ε →
    (∀ a done' rest ε, done ++ xs = done' ++ a :: rest → I done' ε → ∀ Ψ' : WEnds, Ψ'.rt = Ψ.rt → (∀ ε', I (done' ++ [a]) ε' → Ψ'.nx ε') → g (enc done'.length a) ε fun ε1 => b ε1 Ψ') → (∀ ε', I (done ++ xs) ε' → Ψ.nx ε') → wForL g b (xs.mapIdx fun i a => enc (done.length + i) a) ε Ψ
  | [], done, ε, hp, _, h => h ε (by rw [List.append_nil]; exact hp)
  | a :: xs, done, ε, hp, h1, h => by
    rw [List.mapIdx_cons]
    refine h1 a done xs ε rfl hp { nx := fun ε2 => wForL g b (xs.mapIdx fun i a => enc (done.length + (i + 1)) a) ε2 Ψ, ct := fun ε2 => wForL g b (xs.mapIdx fun i a => enc (done.length + (i + 1)) a) ε2 Ψ, bk := Ψ.nx, rt := Ψ.rt } rfl fun ε' hp' => ?_
    have ih := for_IX (enc := enc) (g := g) (b := b) (Ψ := Ψ) I (xs := xs) hp' (fun a' done' rest ε'' e p => h1 a' done' rest ε'' (by rw [← e, List.append_assoc]; rfl) p) fun ε'' p => h ε'' (by rw [List.append_assoc] at p; exact p)
    rw [show (fun i a => enc (done.length + (i + 1)) a) = fun i a => enc ((done ++ [a]).length + i) a by funext i a; congr 1; simp; omega]
    rw [show (fun i b => enc ((done ++ [b]).length + i) b) = fun i b => enc ((done ++ [a]).length + i) b by funext i b; simp]
    exact ih
end Lw

set_option Elab.async false
set_option linter.all false
set_option maxRecDepth 100000
set_option maxHeartbeats 4000000
/-! V1: the law's own reading of a line. -/
namespace Lw
open PySem PySem.Spec PySem.W PyProof.Rows L2 MG
theorem slash_in (neg : Bool) (z : Str) (Φ : PyData → Prop) : inD neg (.str "/") (.str z) Φ = Φ (.bool (neg ^^ decide (47 ∈ cl z))) := by rw [slash_cps, o_inS]
theorem pth_all : ∀ ps : List Str, ps ≠ [] → isPth (tupS ps) = ((ps.all fun p => isNm (.str p)) && decide (ps.length ≤ 2))
  | [], h => absurd rfl h
  | [a], _ => by show isNm (.str a) = _; simp
  | [a, b], _ => by show (isNm (.str a) && isNm (.str b)) = _; simp
  | a :: b :: c :: r, _ => by
    have : ¬ (a :: b :: c :: r).length ≤ 2 := by simp
    rw [decide_eq_false this, Bool.and_false]; rfl
theorem find_bad (p : Str → Bool) (d : PyData) : ∀ l : List Str, (l.findSome? fun x => if p x = true then none else some d) = if l.all p = true then none else some d
  | [] => rfl
  | x :: l => by
    rw [List.findSome?_cons, List.all_cons]
    cases p x
    · rfl
    · simpa using find_bad p d l
theorem m_law_path_so {x : Str} (hx : sOk x = true) (l : x.length ≤ 1000000) (Φ : PyData → Prop) : w_law_path_so [.str x] Φ = Φ (.bool (isPth (tupS (Txt.split x "/")))) := by
  have ne : Txt.split x "/" ≠ [] := by rw [slash_cps]; exact split_ne _ _
  rw [pth_all _ ne]
  simp only [w_law_path_so, wRun]
  simp [o_splitC slash_cps hx l, -opSplit_s]
  generalize Txt.split x "/" = ps
  refine iff_of_eq (Eq.trans (for_find (enc := PyData.str) (f := fun p => if isNm (.str p) = true then none else some (.bool false)) (Φ := Φ) (N := Φ (.bool (decide (ps.length ≤ 2)))) (fun s => [.val (.str x), .val (.list (ps.map .str)), s, .un]) (fun _ => rfl) (fun s => ?_) ?_) ?_)
  · have : decide ((ps.length : Int) ≤ 2) = decide (ps.length ≤ 2) := decide_eq_decide.mpr (by omega)
    simp [this]
  · intro p hp s Ψ'
    by_cases h1 : (1 : Int) ≤ p.length
    · by_cases h2 : (p.length : Int) ≤ 8
      · have g1 : 1 ≤ p.length := by omega
        have g2 : p.length ≤ 8 := by omega
        simp [h1, h2, unS]
        rw [lc_F (fun d => !inAz d) fun d hd k => by
          obtain ⟨c, rfl⟩ := mem_signs hd
          by_cases hc : c ∈ ("abcdefghijklmnopqrstuvwxyz" : Str).cps.toList <;> simp at hc <;> simp [inAz, hc]]
        rw [eqa_n, filter_none, all_notnot]
        simp [isNm, g1, g2, -List.all_eq_true]
        cases (MG.signs p).all inAz <;> rfl
      · have g2 : ¬ p.length ≤ 8 := by omega
        simp [isNm, h1, h2, g2]
    · have g1 : ¬ 1 ≤ p.length := by omega
      simp [isNm, h1, g1]
  · rw [find_bad]
    cases ps.all fun p => isNm (.str p) <;> simp

def zsF : PyData → Option PyData
  | .tuple [.str ⟨⟨[y]⟩⟩, .str ⟨⟨[s]⟩⟩] => if okc y s = true then none else some (.int 1)
  | _ => none
theorem zsF_eq (y s : Nat) : zsF (.tuple [.str ⟨#[y]⟩, .str ⟨#[s]⟩]) = if okc y s = true then none else some (.int 1) := rfl
theorem m_law_six_so (w : Str) (Φ : PyData → Prop) : w_law_six_so [.str w] Φ = Φ (.bool (sixL (cl w)).isSome) := by
  obtain ⟨⟨l⟩⟩ := w
  have long : l.length ≠ 6 → w_law_six_so [.str ⟨⟨l⟩⟩] Φ = Φ (.bool false) := fun h => by
    have h' : ¬ ((l.length : Int) = 6) := by omega
    simp only [w_law_six_so, wRun]
    simp [Str.length, h']
  match l, long with
  | [], h => exact h (by simp)
  | [_], h => exact h (by simp)
  | [_, _], h => exact h (by simp)
  | [_, _, _], h => exact h (by simp)
  | [_, _, _, _], h => exact h (by simp)
  | [_, _, _, _, _], h => exact h (by simp)
  | _ :: _ :: _ :: _ :: _ :: _ :: _ :: r, h => exact h (by simp)
  | [a, b, c, d, e, f], _ =>
    clear long
    have sgn : MG.signs (⟨⟨[a, b, c, d, e, f]⟩⟩ : Str) = [.str ⟨#[a]⟩, .str ⟨#[b]⟩, .str ⟨#[c]⟩, .str ⟨#[d]⟩, .str ⟨#[e]⟩, .str ⟨#[f]⟩] := rfl
    simp only [w_law_six_so, wRun]
    simp [Str.length, unS, sgn, rwx, zipD, LIM]
    rw [lc_E zsF fun x hx k => by
      simp only [List.mem_cons, List.not_mem_nil, or_false] at hx
      rcases hx with rfl | rfl | rfl | rfl | rfl | rfl <;> rw [zsF_eq, okc_eq] <;> simp [one_eq, dash, LIM] <;> split <;> first | rw [if_neg (by omega)] | rw [if_pos (by omega)]]
    rw [eqa_n, fm_empty]
    have ea : ([PyData.tuple [.str ⟨#[a]⟩, .str ⟨#[114]⟩], .tuple [.str ⟨#[b]⟩, .str ⟨#[119]⟩], .tuple [.str ⟨#[c]⟩, .str ⟨#[120]⟩], .tuple [.str ⟨#[d]⟩, .str ⟨#[114]⟩], .tuple [.str ⟨#[e]⟩, .str ⟨#[119]⟩], .tuple [.str ⟨#[f]⟩, .str ⟨#[120]⟩]].all fun x => (zsF x).isNone) = (okc a 114 && (okc b 119 && (okc c 120 && (okc d 114 && (okc e 119 && okc f 120))))) := by
      simp only [List.all_cons, List.all_nil, zsF_eq, none_if, Bool.and_true]
    rw [ea]
    simp only [sixL]
    cases okc a 114 && (okc b 119 && (okc c 120 && (okc d 114 && (okc e 119 && okc f 120)))) <;> rfl

def soP (a : Str) : Bool := isPth (tupS (Txt.split a "/"))
def soS (a : Str) : Bool := (sixL (cl a)).isSome
def soW : List Str → Bool
  | [w, a] => (decide (w = "mask") && soS a) || (decide (w = "out") && soP a)
  | [w, a, b] => soP a && ((decide (w = "make") && soS b) || ((decide (w = "rights") && soS b) || ((decide (w = "folder") && (soS b && !decide (47 ∈ cl a))) || ((decide (w = "write") && (soP b && !decide (47 ∈ cl b))) || ((decide (w = "use") && (soP b && !decide (47 ∈ cl b))) || ((decide (w = "group") && (decide (b = "own") || decide (b = "team"))) || ((decide (w = "move") && (soP b && !decide (a = b))) || (decide (w = "copy") && (soP b && !decide (a = b))))))))))
  | _ => false
def lineSo (x : Str) : Bool := soW (Txt.split x " ")
theorem m_law_line_so {x : Str} (hx : sOk x = true) (l : x.length ≤ 1000000) (Φ : PyData → Prop) : w_law_line_so [.str x] Φ = Φ (.bool (lineSo x)) := by
  have hw : ∀ y ∈ Txt.split x " ", sOk y = true ∧ y.length ≤ 1000000 := fun y hy => by
    rw [blank_cps] at hy
    exact ⟨sOk_part hx hy, by have := part_short hy; omega⟩
  have ne : Txt.split x " " ≠ [] := by rw [blank_cps]; exact split_ne _ _
  simp only [w_law_line_so, wRun]
  simp [o_splitC blank_cps hx l, -opSplit_s]
  unfold lineSo
  generalize Txt.split x " " = ws at hw ne ⊢
  match ws, hw, ne with
  | [], _, ne => exact absurd rfl ne
  | [w], _, _ =>
    obtain ⟨f1, f2, f3, f4, f5, f6, f7, f8, f9, f0⟩ := flip10 w
    by_cases h1 : w = "mask" <;> by_cases h2 : w = "out" <;> simp [soW, LIM, f1, f2, h1, h2]
  | [w, a], hw, _ =>
    have ha := hw a (by simp)
    have pa := m_law_path_so ha.1 ha.2
    obtain ⟨f1, f2, f3, f4, f5, f6, f7, f8, f9, f0⟩ := flip10 w
    rcases words10 w with h | h | h | h | h | h | h | h | h | h | ⟨h1, h2, h3, h4, h5, h6, h7, h8, h9, h0⟩
    all_goals (try subst h)
    all_goals (simp [soW, LIM, m_law_six_so, pa, ne_w0, ne_w1, ne_w2, ne_w3, ne_w4, ne_w5, *])
    all_goals rfl
  | [w, a, b], hw, _ =>
    have ha := hw a (by simp)
    have hb := hw b (by simp)
    have pa := m_law_path_so ha.1 ha.2
    have pb := m_law_path_so hb.1 hb.2
    have ea : isPth (tupS (Txt.split a "/")) = soP a := rfl
    have eb : isPth (tupS (Txt.split b "/")) = soP b := rfl
    have es : (sixL (cl b)).isSome = soS b := rfl
    rw [ea] at pa
    rw [eb] at pb
    obtain ⟨f1, f2, f3, f4, f5, f6, f7, f8, f9, f0⟩ := flip10 w
    have g1 : (("own" : Str) = b) = (b = "own") := propext eq_comm
    have g2 : (("team" : Str) = b) = (b = "team") := propext eq_comm
    rcases words10 w with h | h | h | h | h | h | h | h | h | h | ⟨h1, h2, h3, h4, h5, h6, h7, h8, h9, h0⟩
    all_goals (try subst h)
    all_goals (simp [soW, LIM, m_law_six_so, slash_in, pa, pb, es, ne_w0, ne_w1, ne_w2, ne_w3, ne_w4, ne_w5, *])
    all_goals (cases soP a <;> try simp)
    all_goals (cases soP b <;> try simp)
    all_goals (cases soS b <;> try simp)
  | w :: a :: b :: c :: r, _, _ =>
    have h2 : ¬ ((r.length : Int) + 1 + 1 + 1 + 1 = 2) := by omega
    have h3 : ¬ ((r.length : Int) + 1 + 1 + 1 + 1 = 3) := by omega
    obtain ⟨f1, f2, f3, f4, f5, f6, f7, f8, f9, f0⟩ := flip10 w
    by_cases q1 : w = "mask" <;> by_cases q2 : w = "out" <;> simp [soW, LIM, f1, f2, q1, q2, h2, h3]
end Lw

set_option Elab.async false
set_option linter.all false
set_option maxRecDepth 100000
set_option maxHeartbeats 4000000
/-! V2: a line is a step's own line, or none. -/
namespace Lw
open PySem PySem.Spec PySem.W PyProof.Rows L2 MG
theorem pazOf {k : List Str} (h : isPth (tupS k) = true) : PAz k := by
  match k, h with
  | [a], h => exact ⟨.inl rfl, fun x hx => by rw [List.mem_singleton.mp hx]; exact h⟩
  | [a, b], h =>
    have h' : (isNm (.str a) && isNm (.str b)) = true := h
    rw [Bool.and_eq_true] at h'
    refine ⟨.inr rfl, fun x hx => ?_⟩
    simp only [List.mem_cons, List.not_mem_nil, or_false] at hx
    rcases hx with rfl | rfl
    · exact h'.1
    · exact h'.2
theorem back_pth (a : Str) : pthS (Txt.split a "/") = a := by
  unfold pthS
  rw [txt_join, slash_cps, StrLaws.join_split]
theorem back_line (x : Str) : Txt.join " " (Txt.split x " ") = x := by
  rw [txt_join, blank_cps, StrLaws.join_split]
theorem split_one {a : Str} (h : 47 ∉ cl a) : Txt.split a "/" = [a] := by
  rw [slash_cps]
  exact split_uniq (by simp) (by simpa using h) rfl
theorem one_split {a : Str} (h : (Txt.split a "/").length = 1) : 47 ∉ cl a := by
  have e := back_pth a
  have f := fun y hy => StrLaws.split_free a 47 y hy
  rw [← slash_cps] at f
  obtain ⟨y, hy⟩ := List.length_eq_one_iff.mp h
  rw [hy] at e f
  have : pthS [y] = y := str_ext (by unfold pthS; rw [cl_join]; rfl)
  rw [this] at e
  rw [← e]
  exact f y (by simp)
theorem len1_so {a : Str} : len1 (tupS (Txt.split a "/")) = !decide (47 ∈ cl a) := by
  by_cases h : 47 ∈ cl a
  · rw [decide_eq_true h]
    have : ¬ (Txt.split a "/").length = 1 := fun e => one_split e h
    revert this
    generalize Txt.split a "/" = l
    match l with
    | [] => intro _; rfl
    | [y] => intro n; exact absurd rfl n
    | _ :: _ :: _ => intro _; rfl
  · rw [split_one h, decide_eq_false h]; rfl
theorem split_inj {a b : Str} (h : Txt.split a "/" = Txt.split b "/") : a = b := by rw [← back_pth a, h, back_pth]
theorem nm_so (b : Str) : isNm (.str b) = (soP b && !decide (47 ∈ cl b)) := by
  by_cases h : 47 ∈ cl b
  · rw [decide_eq_true h, Bool.not_true, Bool.and_false]
    cases q : isNm (.str b) with
    | false => rfl
    | true => exact absurd h (Az.free q (by decide))
  · rw [decide_eq_false h, Bool.not_false, Bool.and_true]
    unfold soP
    rw [split_one h]; rfl
theorem rts_so (b : Str) : isRts (optRt (sixL (cl b))) = soS b := by
  unfold soS
  cases sixL (cl b) with
  | none => rfl
  | some r => exact isRts_rtD r
theorem eqv_so (a b : Str) : PyData.eqv (tupS (Txt.split b "/")) (tupS (Txt.split a "/")) = decide (a = b) := by
  rw [eqv_tupS]
  exact decide_eq_decide.mpr ⟨fun h => (split_inj h).symm, fun h => by rw [h]⟩
theorem stp_so : ∀ {ws : List Str} {d : PyData}, cand ws = some d → isStp d = soW ws
  | [], d, h => by simp [cand] at h
  | [w], d, h => by simp [cand] at h
  | [w, a], d, h => by
    rcases words10 w with q | q | q | q | q | q | q | q | q | q | ⟨h1, h2, h3, h4, h5, h6, h7, h8, h9, h0⟩
    all_goals (try subst q)
    all_goals (simp [cand, ne_w0, ne_w1, ne_w2, ne_w3, ne_w4, ne_w5, *] at h)
    · subst h; simp [isStp, isS1, soW, rts_so, ne_w0, ne_w1, ne_w2, ne_w3, ne_w4, ne_w5]
    · subst h; simp [isStp, isS1, soW, soP, ne_w0, ne_w1, ne_w2, ne_w3, ne_w4, ne_w5]
  | [w, a, b], d, h => by
    have ea : isPth (tupS (Txt.split a "/")) = soP a := rfl
    have eb : isPth (tupS (Txt.split b "/")) = soP b := rfl
    rcases words10 w with q | q | q | q | q | q | q | q | q | q | ⟨h1, h2, h3, h4, h5, h6, h7, h8, h9, h0⟩
    all_goals (try subst q)
    all_goals (simp [cand, ne_w0, ne_w1, ne_w2, ne_w3, ne_w4, ne_w5, *] at h)
    all_goals subst h
    all_goals (simp [isStp, isS2, isGrp, soW, rts_so, nm_so, len1_so, eqv_so, ea, eb, ne_w0, ne_w1, ne_w2, ne_w3, ne_w4, ne_w5, *])
  | _ :: _ :: _ :: _ :: _, d, h => by simp [cand] at h
theorem cand_so : ∀ {ws : List Str}, cand ws = none → soW ws = false
  | [], _ => rfl
  | [w], _ => rfl
  | [w, a], h => by
    rcases words10 w with q | q | q | q | q | q | q | q | q | q | ⟨h1, h2, h3, h4, h5, h6, h7, h8, h9, h0⟩
    all_goals (try subst q)
    all_goals (first | (simp [cand, ne_w0, ne_w1, ne_w2, ne_w3, ne_w4, ne_w5] at h; done) | simp [soW, ne_w0, ne_w1, ne_w2, ne_w3, ne_w4, ne_w5, *])
  | [w, a, b], h => by
    exfalso
    simp only [cand] at h
    split at h
    · exact nomatch h
    · split at h <;> exact nomatch h
  | _ :: _ :: _ :: _ :: _, _ => rfl
/-! ### the step of a line -/
theorem half {a b c : Nat} (h1 : okc a 114 = true) (h2 : okc b 119 = true) (h3 : okc c 120 = true) : [sg (bt (numF a b c) 4) 114, sg (bt (numF a b c) 2) 119, sg (bt (numF a b c) 1) 120] = [a, b, c] := by
  unfold okc at h1 h2 h3
  rw [Bool.or_eq_true, decide_eq_true_iff, decide_eq_true_iff] at h1 h2 h3
  rcases h1 with rfl | rfl <;> rcases h2 with rfl | rfl <;> rcases h3 with rfl | rfl <;> decide +kernel
theorem six_back {l : List Nat} {r : Rt} (h : sixL l = some r) : cl (sixS r) = l := by
  unfold sixL at h
  split at h
  · rename_i a b c d e f
    split at h
    · rename_i q
      simp only [Bool.and_eq_true] at q
      obtain ⟨q1, q2, q3, q4, q5, q6⟩ := q
      have e1 := half q1 q2 q3
      have e2 := half q4 q5 q6
      rw [Option.some.injEq] at h
      subst h
      have : cl (sixS (numF a b c, numF d e f)) = [sg (bt (numF a b c) 4) 114, sg (bt (numF a b c) 2) 119, sg (bt (numF a b c) 1) 120] ++ [sg (bt (numF d e f) 4) 114, sg (bt (numF d e f) 2) 119, sg (bt (numF d e f) 1) 120] := rfl
      rw [this, e1, e2]; rfl
    · exact nomatch h
  · exact nomatch h
theorem soS_six {b : Str} (h : soS b = true) : ∃ r, sixS r = b := by
  unfold soS at h
  obtain ⟨r, hr⟩ := Option.isSome_iff_exists.mp h
  exact ⟨r, str_ext (six_back hr)⟩
theorem so_stp {ws : List Str} (h : soW ws = true) : ∃ t : Stp, t.Az ∧ t.parts = ws := by
  match ws, h with
  | [w, a], h =>
    simp only [soW, Bool.or_eq_true, Bool.and_eq_true, decide_eq_true_iff] at h
    rcases h with ⟨rfl, h⟩ | ⟨rfl, h⟩
    · obtain ⟨r, rfl⟩ := soS_six h
      exact ⟨.mask r, trivial, rfl⟩
    · exact ⟨.out (Txt.split a "/"), pazOf h, by simp [Stp.parts, back_pth]⟩
  | [w, a, b], h =>
    simp only [soW, Bool.or_eq_true, Bool.and_eq_true, Bool.not_eq_true', decide_eq_true_iff, decide_eq_false_iff_not] at h
    obtain ⟨ha, h⟩ := h
    have pa := pazOf ha
    have nb : ∀ {b : Str}, soP b = true ∧ ¬ 47 ∈ cl b → Az b := fun {b} z => by
      have := nm_so b
      rw [z.1, decide_eq_false z.2] at this
      exact this
    have ne : ∀ {b : Str}, ¬ a = b → Txt.split b "/" ≠ Txt.split a "/" := fun z e => z (split_inj e).symm
    rcases h with ⟨rfl, h⟩ | ⟨rfl, h⟩ | ⟨rfl, h, h'⟩ | ⟨rfl, h⟩ | ⟨rfl, h⟩ | ⟨rfl, h⟩ | ⟨rfl, h, h'⟩ | ⟨rfl, h, h'⟩
    · obtain ⟨r, rfl⟩ := soS_six h
      exact ⟨.make (Txt.split a "/") r, pa, by simp [Stp.parts, back_pth]⟩
    · obtain ⟨r, rfl⟩ := soS_six h
      exact ⟨.rights (Txt.split a "/") r, pa, by simp [Stp.parts, back_pth]⟩
    · obtain ⟨r, rfl⟩ := soS_six h
      exact ⟨.folder (Txt.split a "/") r, ⟨pa, by rw [split_one h']; rfl⟩, by simp [Stp.parts, back_pth]⟩
    · exact ⟨.write (Txt.split a "/") b, ⟨pa, nb h⟩, by simp [Stp.parts, back_pth]⟩
    · exact ⟨.use (Txt.split a "/") b, ⟨pa, nb h⟩, by simp [Stp.parts, back_pth]⟩
    · exact ⟨.group (Txt.split a "/") b, ⟨pa, h⟩, by simp [Stp.parts, back_pth]⟩
    · exact ⟨.move (Txt.split a "/") (Txt.split b "/"), ⟨pa, pazOf h, ne h'⟩, by simp [Stp.parts, back_pth]⟩
    · exact ⟨.copy (Txt.split a "/") (Txt.split b "/"), ⟨pa, pazOf h, ne h'⟩, by simp [Stp.parts, back_pth]⟩
/-- a line is a step's own line, or no step -/
theorem step_cases (x : Str) : (stepD x = .none ∧ lineSo x = false) ∨ ∃ t : Stp, t.Az ∧ stepD x = t.d ∧ lineS t = x ∧ lineSo x = true := by
  cases q : lineSo x with
  | true =>
    obtain ⟨t, ht, e⟩ := so_stp q
    have el : lineS t = x := by unfold lineS; rw [e, back_line]
    exact .inr ⟨t, ht, by rw [← el, step_line ht], el, rfl⟩
  | false =>
    refine .inl ⟨?_, rfl⟩
    unfold stepD
    cases c : cand (Txt.split x " ") with
    | none => rfl
    | some d =>
      have : isStp d = false := by rw [stp_so c]; exact q
      simp [this]
end Lw

set_option Elab.async false
set_option linter.all false
set_option maxRecDepth 900000
set_option maxHeartbeats 4000000
/-! V3: any text, read. -/
namespace Lw
open PySem PySem.Spec PySem.W PyProof.Rows L2 MG
def bad : List Str → Option Nat
  | [] => none
  | y :: r => if lineSo y = true then (bad r).map (· + 1) else some 0
theorem bad_at {a : Str} {rest : List Str} (ha : lineSo a = false) : ∀ {done : List Str}, (∀ y ∈ done, lineSo y = true) → bad (done ++ a :: rest) = some done.length
  | [], _ => by simp [bad, ha]
  | y :: done, h => by
    have := bad_at ha (rest := rest) (done := done) fun z hz => h z (List.mem_cons_of_mem _ hz)
    rw [List.cons_append, bad, if_pos (h y List.mem_cons_self), this]; rfl
theorem bad_no : ∀ {l : List Str}, (∀ y ∈ l, lineSo y = true) → bad l = none
  | [], _ => rfl
  | y :: l, h => by rw [bad, if_pos (h y List.mem_cons_self), bad_no fun z hz => h z (List.mem_cons_of_mem _ hz)]; rfl
theorem bad_all : ∀ {l : List Str}, bad l = none → ∀ y ∈ l, lineSo y = true
  | y :: l, h, z, hz => by
    rw [bad] at h
    split at h
    · rename_i q
      rcases List.mem_cons.mp hz with e | hz
      · rw [e]; exact q
      · exact bad_all (by simpa using h) z hz
    · exact nomatch h
def invT (n : Nat) : PyData := exD "InvalidText" (exF "line" (.int (n : Int)))
def linesS (x : Str) : List Str := Txt.split x "\n"
/-- what a text is: the line to blame, or a script -/
def readN (x : Str) : Nat ⊕ List PyData := if x = "" then .inr [] else match bad (linesS x) with
  | some i => .inl (i + 1)
  | none => if isScr (.tuple ((linesS x).map stepD)) = true then .inr ((linesS x).map stepD) else .inl ((linesS x).length + 1)
def rsD : Nat ⊕ List PyData → PyData
  | .inl n => invT n
  | .inr ds => .tuple ds
def tdD : Nat ⊕ List PyData → PyData
  | .inl n => .int (n : Int)
  | .inr ds => .tuple ds
theorem isN_so {y : Str} (h : lineSo y = true) : isNone (stepD y) = false := by
  rcases step_cases y with ⟨_, q⟩ | ⟨t, _, e, _⟩
  · rw [h] at q; exact nomatch q
  · rw [e]; exact isN_stp t
theorem no_so {y : Str} (h : lineSo y = false) : stepD y = .none := by
  rcases step_cases y with ⟨e, _⟩ | ⟨t, _, _, _, q⟩
  · exact e
  · rw [h] at q; exact nomatch q
theorem m_read_script {x : Str} (hx : sOk x = true) (l : x.length ≤ 900000) (Φ : PyData → Prop) (hΦ : Φ (rsD (readN x))) : w_read_script [.str x] Φ := by
  have sp := o_splitC feed_cps hx (by omega)
  have ll : (linesS x).length ≤ 900002 := by
    have := split_le x "\n"
    unfold linesS; omega
  have hw : ∀ y ∈ linesS x, sOk y = true ∧ y.length ≤ 1000000 := fun y hy => by
    unfold linesS at hy
    rw [feed_cps] at hy
    exact ⟨sOk_part hx hy, by have := part_short hy; omega⟩
  simp only [w_read_script, wRun]
  simp only [t_read_script_6, t_read_script_5, t_read_script_4]
  by_cases tn : x = ""
  · generalize t_read_script_3 = T
    unfold readN at hΦ
    rw [if_pos tn] at hΦ
    simp [tn]
    exact hΦ
  unfold readN at hΦ
  rw [if_neg tn] at hΦ
  have last : ∀ s2 s3 s4 : SV, bad (linesS x) = none → t_read_script_3 [.val (.str x), .own ((linesS x).map stepD), s2, s3, s4] { nx := fun _ => Φ .none, rt := fun _ => Φ, bk := fun _ => False, ct := fun _ => False } := fun s2 s3 s4 b => by
    rw [b] at hΦ
    have hl : ((linesS x).length : Int) ≤ 16777216 := by omega
    cases q : isScr (.tuple ((linesS x).map stepD)) with
    | true =>
      simp [q, rsD] at hΦ
      simp [t_read_script_3, m_is_script, q, LIM]
      exact hΦ
    | false =>
      simp [q, rsD] at hΦ
      simp [t_read_script_3, m_is_script, q, LIM, wRaiseF]
      exact hΦ
  generalize t_read_script_3 = T at last ⊢
  simp [tn, sp, -opSplit_s]
  have key := for_IX (enc := fun i (y : Str) => PyData.tuple [.int (i : Nat), .str y]) (xs := linesS x) (done := []) (ε := [SV.val (.str x), .own [], .un, .un, .un])
    (g := wgTup (wgCons (wgV 2) (wgCons (wgV 3) wgNil))) (b := wSeq (wSet 4 (wFn w_step_read (wACons (wV 3) wANil))) t_read_script_1)
    (Ψ := { nx := fun ε1 => T ε1 { nx := fun _ => Φ .none, rt := fun _ => Φ, bk := fun _ => False, ct := fun _ => False }, rt := fun _ => Φ, bk := fun _ => False, ct := fun _ => False })
    (fun done ε => (∀ y ∈ done, lineSo y = true) ∧ ∃ s2 s3 s4 : SV, ε = [.val (.str x), .own (done.map stepD), s2, s3, s4]) ⟨by simp, _, _, _, rfl⟩ ?_ ?_
  · rw [enum_map]
    simp only [List.length_nil, Nat.zero_add, t_read_script_1, t_read_script_0] at key
    exact key
  · rintro y done rest ε e ⟨hd, s2, s3, s4, rfl⟩ Ψ' hr hn
    rw [List.nil_append] at e
    have hy : y ∈ linesS x := by rw [e]; simp
    obtain ⟨ok, yl⟩ := hw y hy
    have hl : done.length < LIM := by
      have h1 := congrArg List.length e
      have h2 := lim_val
      rw [List.length_append] at h1
      omega
    cases q : lineSo y with
    | true =>
      simp [t_read_script_1, t_read_script_0, m_step_read ok yl, isN_so q]
      refine ⟨hl, ?_⟩
      have := hn [.val (.str x), .own ((done ++ [y]).map stepD), .val (.int (done.length : Nat)), .val (.str y), .val (stepD y)] ⟨fun z hz => by
        rcases List.mem_append.mp hz with h | h
        · exact hd z h
        · rw [List.mem_singleton.mp h]; exact q, _, _, _, rfl⟩
      simpa using this
    | false =>
      rw [e, bad_at q hd] at hΦ
      simp [t_read_script_1, t_read_script_0, m_step_read ok yl, no_so q, wRaiseF, hr]
      exact hΦ
  · rintro ε ⟨hd, s2, s3, s4, rfl⟩
    exact last _ _ _ (bad_no (by simpa using hd))
theorem m_read_other {d : PyData} (h : isTy .str d = false) (Φ : PyData → Prop) (hΦ : Φ (invT 0)) : w_read_script [d] Φ := by
  simp only [w_read_script, wRun]
  generalize t_read_script_6 = T
  simp [h, wRaiseF]
  exact hΦ
theorem exD_isEx (c : Str) (a : PyData) : isEx (exD c a) = true := rfl
theorem m_law_told {x : Str} (hx : sOk x = true) (l : x.length ≤ 900000) (Φ : PyData → Prop) (hΦ : Φ (tdD (readN x))) : w_law_told [.str x] Φ := by
  simp only [w_law_told, wRun]
  simp [wTryF, wSetX]
  refine m_read_script hx l _ ?_
  cases q : readN x with
  | inl n =>
    rw [q] at hΦ
    simp [rsD, invT]
    show ∃ y, exD "InvalidText" (exF "line" (.int (n : Int))) = exD "InvalidText" (exF "line" y) ∧ Φ y
    exact ⟨_, rfl, hΦ⟩
  | inr ds =>
    rw [q] at hΦ
    simpa [tdD, rsD, isEx] using hΦ
theorem m_told_other {d : PyData} (h : isTy .str d = false) (Φ : PyData → Prop) (hΦ : Φ (.int 0)) : w_law_told [d] Φ := by
  simp only [w_law_told, wRun]
  simp [wTryF, wSetX]
  refine m_read_other h _ ?_
  show ∃ y, invT 0 = exD "InvalidText" (exF "line" y) ∧ Φ y
  exact ⟨_, rfl, hΦ⟩
end Lw

set_option Elab.async false
set_option linter.all false
set_option maxRecDepth 100000
set_option maxHeartbeats 4000000
/-! V4: what is due. -/
namespace Lw
open PySem PySem.Spec PySem.W PyProof.Rows L2 MG
def spotsT (t : Stp) : List Str := t.ps.flatMap fun p => [pthS p, fstP p]
theorem at_first {p : List Str} (hp : IsP p) : atI (p.map PyData.str) 0 = some (.str (fstP p)) := by
  rcases isP_cases hp with ⟨a, rfl⟩ | ⟨a, b, rfl⟩ <;> simp <;> rfl
theorem o_mulL (a : List PyData) (k : Int) (Φ : PyData → Prop) : opMul (.list a) (.int k) Φ = ((0 ≤ k ∧ k ≤ 1000 ∧ a.length ≤ 1000) ∧ Φ (.list (List.replicate k.toNat a).flatten)) := rfl
theorem cut13 (a b c : PyData) : cutP [a, b, c] (some 1) (some 3) = [b, c] := by rfl
theorem cut12 (a b c : PyData) : cutP [a, b, c] (some 1) (some 2) = [b] := by rfl
theorem cut11 (a b : PyData) : cutP [a, b] (some 1) (some 2) = [b] := by rfl
section
variable {x : Str} {L B s5 s6 s7 s8 : SV} {S : List Str} {Ψ : WEnds}
theorem due_step {t : Stp} (h : t.Az) (hS : S.length ≤ 4000000)
    (k : ∀ s5 s6 s7 s8 : SV, Ψ.nx [.val (.str x), L, B, .val (.list ((S ++ spotsT t).map .str)), .val (.str (lineS t)), s5, s6, s7, s8]) :
    wSeq (wSet 5 (wL (wBMN opSplit (wV 4) (wACons (wC (.str " ")) wANil)))) t_law_due_1 [.val (.str x), L, B, .val (.list (S.map .str)), .val (.str (lineS t)), s5, s6, s7, s8] Ψ := by
  have sp := o_splitC blank_cps (line_ok h).2 (by have := line_len h; omega)
  have sl := fun {p : List Str} (hp : PAz p) => o_splitC slash_cps (pth_join hp).2 (by have := pthS_len hp; omega)
  have l2 : S.length + 2 ≤ 16777216 := by omega
  simp only [t_law_due_1, t_law_due_0]
  simp [sp, -opSplit_s, line_split h]
  cases t with
  | mask r =>
    simp [Stp.parts, cut11, o_mulL, LIM, ne_w0, ne_w1, ne_w2, ne_w3, ne_w4, ne_w5]
    simpa [spotsT, Stp.ps] using k _ _ _ _
  | make p r =>
    simp [Stp.parts, cut11, cut12, cut13, o_mulL, LIM, ne_w0, ne_w1, ne_w2, ne_w3, ne_w4, ne_w5, sl h, pth_split h, at_first h.len, l2, -opSplit_s]
    simpa [spotsT, Stp.ps] using k _ _ _ _
  | folder p r =>
    simp [Stp.parts, cut11, cut12, cut13, o_mulL, LIM, ne_w0, ne_w1, ne_w2, ne_w3, ne_w4, ne_w5, sl (h.1), pth_split (h.1), at_first h.1.len, l2, -opSplit_s]
    simpa [spotsT, Stp.ps] using k _ _ _ _
  | write p w =>
    simp [Stp.parts, cut11, cut12, cut13, o_mulL, LIM, ne_w0, ne_w1, ne_w2, ne_w3, ne_w4, ne_w5, sl (h.1), pth_split (h.1), at_first h.1.len, l2, -opSplit_s]
    simpa [spotsT, Stp.ps] using k _ _ _ _
  | rights p r =>
    simp [Stp.parts, cut11, cut12, cut13, o_mulL, LIM, ne_w0, ne_w1, ne_w2, ne_w3, ne_w4, ne_w5, sl h, pth_split h, at_first h.len, l2, -opSplit_s]
    simpa [spotsT, Stp.ps] using k _ _ _ _
  | group p g =>
    simp [Stp.parts, cut11, cut12, cut13, o_mulL, LIM, ne_w0, ne_w1, ne_w2, ne_w3, ne_w4, ne_w5, sl (h.1), pth_split (h.1), at_first h.1.len, l2, -opSplit_s]
    simpa [spotsT, Stp.ps] using k _ _ _ _
  | out p =>
    simp [Stp.parts, cut11, cut12, cut13, o_mulL, LIM, ne_w0, ne_w1, ne_w2, ne_w3, ne_w4, ne_w5, sl h, pth_split h, at_first h.len, l2, -opSplit_s]
    simpa [spotsT, Stp.ps] using k _ _ _ _
  | use p w =>
    simp [Stp.parts, cut11, cut12, cut13, o_mulL, LIM, ne_w0, ne_w1, ne_w2, ne_w3, ne_w4, ne_w5, sl (h.1), pth_split (h.1), at_first h.1.len, l2, -opSplit_s]
    simpa [spotsT, Stp.ps] using k _ _ _ _
  | move p q =>
    simp [Stp.parts, cut11, cut12, cut13, o_mulL, LIM, ne_w0, ne_w1, ne_w2, ne_w3, ne_w4, ne_w5, sl h.1, pth_split h.1, at_first h.1.len, sl h.2.1, pth_split h.2.1, at_first h.2.1.len, l2, -opSplit_s]
    refine ⟨by omega, ?_⟩
    simpa [spotsT, Stp.ps] using k _ _ _ _
  | copy p q =>
    simp [Stp.parts, cut11, cut12, cut13, o_mulL, LIM, ne_w0, ne_w1, ne_w2, ne_w3, ne_w4, ne_w5, sl h.1, pth_split h.1, at_first h.1.len, sl h.2.1, pth_split h.2.1, at_first h.2.1.len, l2, -opSplit_s]
    refine ⟨by omega, ?_⟩
    simpa [spotsT, Stp.ps] using k _ _ _ _
end
end Lw

set_option Elab.async false
set_option linter.all false
set_option maxRecDepth 100000
set_option maxHeartbeats 4000000
/-! V5: what is due, as a whole. -/
namespace Lw
open PySem PySem.Spec PySem.W PyProof.Rows L2 MG
/-! ### the spots -/
theorem pths_az {t : Stp} (g : t.Az) : pthsS t.d = t.ps.map tupS := by
  cases t <;> simp [Stp.Az] at g <;> simp only [pthsS, itemsS, Stp.d, Stp.ps, List.filter_cons, isPth_rtD, isPth_str, List.map_cons, List.map_nil, List.filter_nil]
  case mask r => simp
  case make p r => simp [PAz.pth g]
  case rights p r => simp [PAz.pth g]
  case folder p r => simp [PAz.pth g.1]
  case write p w => simp [PAz.pth g.1]
  case use p w => simp [PAz.pth g.1]
  case group p w => simp [PAz.pth g.1]
  case out p => simp [PAz.pth g]
  case move p q => simp [PAz.pth g.1, PAz.pth g.2.1]
  case copy p q => simp [PAz.pth g.1, PAz.pth g.2.1]
theorem keys_az {ts : List Stp} (g : ∀ t ∈ ts, t.Az) : keysS (ts.map Stp.d) = ts.flatMap Stp.ps := by
  unfold keysS
  induction ts with
  | nil => rfl
  | cons t ts ih =>
    rw [List.map_cons, List.flatMap_cons, List.flatMap_cons, ih fun x hx => g x (List.mem_cons_of_mem _ hx), pths_az (g t List.mem_cons_self), List.map_map]
    congr 1
    have : (pk ∘ tupS) = id := funext fun k => pk_tupS k
    rw [this, List.map_id]
theorem ps_az {t : Stp} (g : t.Az) : ∀ p ∈ t.ps, PAz p := by
  intro p hp
  cases t <;> simp [Stp.ps] at hp <;> simp [Stp.Az] at g
  all_goals first
    | (subst hp; first | exact g | exact g.1)
    | (rcases hp with rfl | rfl <;> first | exact g.1 | exact g.2.1)
theorem paz_take {p : List Str} (h : PAz p) : PAz (p.take 1) ∧ pthS (p.take 1) = fstP p := by
  have one : ∀ a : Str, pthS [a] = a := fun a => str_ext (by unfold pthS; rw [cl_join]; rfl)
  rcases isP_cases h.len with ⟨a, rfl⟩ | ⟨a, b, rfl⟩
  · exact ⟨h, one a⟩
  · exact ⟨⟨.inl rfl, fun x hx => h.nm x (by simp at hx; simp [hx])⟩, one a⟩
theorem pthS_inj {p q : List Str} (h : PAz p) (g : PAz q) (e : pthS p = pthS q) : p = q := by rw [← pth_split h, e, pth_split g]
theorem nodup_map {α β : Type} {f : α → β} : ∀ {l : List α}, l.Nodup → (∀ a ∈ l, ∀ b ∈ l, f a = f b → a = b) → (l.map f).Nodup
  | [], _, _ => List.nodup_nil
  | x :: l, n, h => by
    obtain ⟨n1, n2⟩ := List.nodup_cons.mp n
    rw [List.map_cons, List.nodup_cons]
    refine ⟨fun m => ?_, nodup_map n2 fun a ha b hb => h a (List.mem_cons_of_mem _ ha) b (List.mem_cons_of_mem _ hb)⟩
    obtain ⟨y, hy, e⟩ := List.mem_map.mp m
    have := h y (List.mem_cons_of_mem _ hy) x List.mem_cons_self e
    exact n1 (this ▸ hy)
/-- distinct spots, counted twice -/
theorem spots_len {ts : List Stp} (g : ∀ t ∈ ts, t.Az) : (sset ltS (ts.flatMap spotsT)).length = (psetS (ts.map Stp.d)).length := by
  have az : ∀ k ∈ psetS (ts.map Stp.d), PAz k := fun k hk => by
    unfold psetS at hk
    rw [keys_az g] at hk
    have hk := (mem_sset lo_T).mp hk
    rcases List.mem_append.mp hk with h | h
    · obtain ⟨t, ht, hk⟩ := List.mem_flatMap.mp h
      exact ps_az (g t ht) k hk
    · obtain ⟨q, hq, rfl⟩ := List.mem_map.mp h
      obtain ⟨t, ht, hk⟩ := List.mem_flatMap.mp hq
      exact (paz_take (ps_az (g t ht) q hk)).1
  have same : ∀ y, y ∈ sset ltS (ts.flatMap spotsT) ↔ y ∈ (psetS (ts.map Stp.d)).map pthS := fun y => by
    rw [mem_sset lo_S]
    unfold psetS
    rw [keys_az g]
    constructor
    · intro h
      obtain ⟨t, ht, h⟩ := List.mem_flatMap.mp h
      unfold spotsT at h
      obtain ⟨p, hp, h⟩ := List.mem_flatMap.mp h
      have hm : p ∈ ts.flatMap Stp.ps := List.mem_flatMap.mpr ⟨t, ht, hp⟩
      simp only [List.mem_cons, List.not_mem_nil, or_false] at h
      rcases h with rfl | rfl
      · exact List.mem_map.mpr ⟨p, (mem_sset lo_T).mpr (List.mem_append_left _ hm), rfl⟩
      · exact List.mem_map.mpr ⟨p.take 1, (mem_sset lo_T).mpr (List.mem_append_right _ (List.mem_map.mpr ⟨p, hm, rfl⟩)), (paz_take (ps_az (g t ht) p hp)).2⟩
    · intro h
      obtain ⟨k, hk, rfl⟩ := List.mem_map.mp h
      have hk := (mem_sset lo_T).mp hk
      rcases List.mem_append.mp hk with h | h
      · obtain ⟨t, ht, hp⟩ := List.mem_flatMap.mp h
        exact List.mem_flatMap.mpr ⟨t, ht, List.mem_flatMap.mpr ⟨k, hp, by simp⟩⟩
      · obtain ⟨q, hq, rfl⟩ := List.mem_map.mp h
        obtain ⟨t, ht, hp⟩ := List.mem_flatMap.mp hq
        exact List.mem_flatMap.mpr ⟨t, ht, List.mem_flatMap.mpr ⟨q, hp, by rw [(paz_take (ps_az (g t ht) q hp)).2]; simp⟩⟩
  have n1 : (sset ltS (ts.flatMap spotsT)).Nodup := asc_nodup lo_S (asc_sset lo_S _)
  have n2 : ((psetS (ts.map Stp.d)).map pthS).Nodup := nodup_map (asc_nodup lo_T (asc_sset lo_T _)) fun a ha b hb e => pthS_inj (az a ha) (az b hb) e
  have h1 := len_sub n1 fun y hy => (same y).mp hy
  have h2 := len_sub n2 fun y hy => (same y).mpr hy
  rw [List.length_map] at h1 h2
  omega
theorem spots_few {t : Stp} : (spotsT t).length ≤ 4 := by cases t <;> simp [spotsT, Stp.ps]
theorem spots_cnt : ∀ ts : List Stp, (ts.flatMap spotsT).length ≤ 4 * ts.length
  | [] => by simp
  | t :: ts => by
    have := spots_cnt ts
    have := spots_few (t := t)
    rw [List.flatMap_cons, List.length_append, List.length_cons]; omega
/-! ### the bad lines -/
def badI (k : Nat) (ls : List Str) : List PyData := (List.range ls.length).filterMap fun i => if lineSo (ls.getD i "") = true then none else some (.int ((k + i : Nat) : Int))
theorem bad_cases : ∀ (ls : List Str) (k : Nat), (bad ls = none ∧ badI k ls = []) ∨ ∃ (i : Nat) (r : List PyData), bad ls = some i ∧ badI k ls = .int ((k + i : Nat) : Int) :: r
  | [], k => .inl ⟨rfl, rfl⟩
  | y :: ls, k => by
    have e : badI k (y :: ls) = (if lineSo y = true then [] else [.int (k : Int)]) ++ badI (k + 1) ls := by
      unfold badI
      rw [List.length_cons, List.range_succ_eq_map, List.filterMap_cons, List.filterMap_map]
      have : ((fun i => if lineSo ((y :: ls).getD i "") = true then none else some (PyData.int ((k + i : Nat) : Int))) ∘ Nat.succ) = fun i => if lineSo (ls.getD i "") = true then none else some (PyData.int ((k + 1 + i : Nat) : Int)) := by
        funext i
        simp only [Function.comp]
        rw [show k + i.succ = k + 1 + i by omega]
        simp
      rw [this]
      cases q : lineSo y <;> simp [q]
    rw [e, bad]
    cases q : lineSo y with
    | true =>
      rcases bad_cases ls (k + 1) with ⟨h1, h2⟩ | ⟨i, r, h1, h2⟩
      · left; simp [h1, h2]
      · right; refine ⟨i + 1, r, by simp [h1], ?_⟩
        rw [h2, show k + 1 + i = k + (i + 1) by omega]; rfl
    | false => right; exact ⟨0, _, by simp, by simp; rfl⟩
theorem badI_flat (k : Nat) (ls : List Str) : PyData.depthAll (badI k ls) = 0 := by
  unfold badI
  generalize List.range ls.length = r
  induction r with
  | nil => simp
  | cons i r ih =>
    rw [List.filterMap_cons]
    split
    · exact ih
    · rename_i b q
      split at q
      · exact nomatch q
      · rw [Option.some.injEq] at q
        subst q
        rw [dpa_cons, ih]; simp
end Lw

set_option Elab.async false
set_option linter.all false
set_option maxRecDepth 900000
set_option maxHeartbeats 4000000
/-! V6: the law's due. -/
namespace Lw
open PySem PySem.Spec PySem.W PyProof.Rows L2 MG
theorem for_IT {α : Type} {enc : α → PyData} {g : WG} {b : WS} {Ψ : WEnds} (I : List α → EV → Prop) : ∀ {xs done : List α} {ε : EV}, I done ε →
    (∀ a done' rest ε, done ++ xs = done' ++ a :: rest → I done' ε → ∀ Ψ' : WEnds, Ψ'.rt = Ψ.rt → (∀ ε', I (done' ++ [a]) ε' → Ψ'.nx ε') → g (enc a) ε fun ε1 => b ε1 Ψ') → (∀ ε', I (done ++ xs) ε' → Ψ.nx ε') → wForL g b (xs.map enc) ε Ψ
  | [], done, ε, hp, _, h => h ε (by rw [List.append_nil]; exact hp)
  | a :: xs, done, ε, hp, h1, h => by
    refine h1 a done xs ε rfl hp { nx := fun ε2 => wForL g b (xs.map enc) ε2 Ψ, ct := fun ε2 => wForL g b (xs.map enc) ε2 Ψ, bk := Ψ.nx, rt := Ψ.rt } rfl fun ε' hp' => ?_
    refine for_IT I hp' (fun a' done' rest ε'' e p => h1 a' done' rest ε'' ?_ p) fun ε'' p => h ε'' ?_
    · rw [← e, List.append_assoc]; rfl
    · rw [List.append_assoc] at p; exact p
theorem steps_of : ∀ {ls : List Str}, (∀ y ∈ ls, lineSo y = true) → ∃ ts : List Stp, (∀ t ∈ ts, t.Az) ∧ ls = ts.map lineS ∧ ls.map stepD = ts.map Stp.d
  | [], _ => ⟨[], by simp, rfl, rfl⟩
  | y :: ls, h => by
    obtain ⟨ts, az, e1, e2⟩ := steps_of (ls := ls) fun z hz => h z (List.mem_cons_of_mem _ hz)
    rcases step_cases y with ⟨_, q⟩ | ⟨t, ht, q1, q2, _⟩
    · rw [h y List.mem_cons_self] at q; exact nomatch q
    · refine ⟨t :: ts, fun u hu => ?_, by rw [List.map_cons, q2, ← e1], by rw [List.map_cons, List.map_cons, q1, ← e2]⟩
      rcases List.mem_cons.mp hu with e | hu
      · rw [e]; exact ht
      · exact az u hu
def dueD : Nat ⊕ List PyData → PyData
  | .inl n => .int (n : Int)
  | .inr _ => .none
theorem m_law_due {x : Str} (hx : sOk x = true) (l : x.length ≤ 900000) (Φ : PyData → Prop) (hΦ : Φ (dueD (readN x))) : w_law_due [.str x] Φ := by
  have sp := o_splitC feed_cps hx (by omega)
  have lim := lim_val
  have ll : (linesS x).length ≤ 900002 := by
    have := split_le x "\n"
    unfold linesS; omega
  have hw : ∀ y ∈ linesS x, sOk y = true ∧ y.length ≤ 1000000 := fun y hy => by
    unfold linesS at hy
    rw [feed_cps] at hy
    exact ⟨sOk_part hx hy, by have := part_short hy; omega⟩
  have e0 : Txt.split x "\n" = linesS x := rfl
  rw [e0] at sp
  simp only [w_law_due, wRun]
  simp only [t_law_due_8, t_law_due_7, t_law_due_6, t_law_due_5, t_law_due_4, t_law_due_3]
  -- the last part
  have last : ∀ (ts : List Stp) (B s4 s5 s6 s7 s8 : SV), x ≠ "" → bad (linesS x) = none → (∀ t ∈ ts, t.Az) → linesS x = ts.map lineS → (linesS x).map stepD = ts.map Stp.d →
      t_law_due_2 [.val (.str x), .val (.list ((linesS x).map .str)), B, .val (.list ((ts.flatMap spotsT).map .str)), s4, s5, s6, s7, s8] { nx := fun _ => Φ .none, rt := fun _ => Φ, bk := fun _ => False, ct := fun _ => False } := fun ts B s4 s5 s6 s7 s8 tn hb az e1 e2 => by
    have el : (linesS x).length = ts.length := by rw [e1, List.length_map]
    unfold readN at hΦ
    rw [if_neg tn, hb, e2] at hΦ
    have hs := spots_len az
    have is : isScr (.tuple (ts.map Stp.d)) = (decide (ts.length ≤ 8) && decide ((psetS (ts.map Stp.d)).length ≤ 5)) := by
      show (decide ((ts.map Stp.d).length ≤ 8) && ((ts.map Stp.d).all isStp && decide ((psetS (ts.map Stp.d)).length ≤ 5))) = _
      have : (ts.map Stp.d).all isStp = true := List.all_eq_true.mpr fun d hd => by
        obtain ⟨t, ht, rfl⟩ := List.mem_map.mp hd
        exact stp_az (az t ht)
      rw [this, List.length_map, Bool.true_and]
    simp only [t_law_due_2]
    simp [LIM, el]
    by_cases h8 : ts.length ≤ 8
    · have h8' : ¬ ((8 : Int) < ts.length) := by omega
      have few : (sset ltS (ts.flatMap spotsT)).length < 64 := by
        have := sset_len ltS (ts.flatMap spotsT)
        have := spots_cnt ts
        omega
      simp [h8', wLenSet, strsOf_map, few]
      rw [is, decide_eq_true h8, Bool.true_and, ← hs] at hΦ
      by_cases h5 : (sset ltS (ts.flatMap spotsT)).length ≤ 5
      · have h5' : ¬ ((5 : Int) < (sset ltS (ts.flatMap spotsT)).length) := by omega
        simp [h5] at hΦ
        simp [h5']
        exact hΦ
      · have h5' : ((5 : Int) < (sset ltS (ts.flatMap spotsT)).length) := by omega
        simp [h5, el] at hΦ
        simp [h5']
        exact hΦ
    · have h8' : ((8 : Int) < ts.length) := by omega
      rw [is, decide_eq_false h8, Bool.false_and] at hΦ
      simp [el] at hΦ
      simp [h8']
      exact hΦ
  generalize t_law_due_2 = T at last ⊢
  simp [sp, -opSplit_s, unS, wiRng, LIM]
  refine ⟨by omega, ?_⟩
  have lcq : ∀ (Ψ : List PyData → Prop), Ψ (badI 0 (linesS x)) → wLc (wgV 8) (wNot (wTest (wFn w_law_line_so (wACons (wBin opIx (wV 1) (wV 8)) wANil)))) (wV 8) ((List.range (linesS x).length).map fun (i : Nat) => PyData.int (i : Int)) [.val (.str x), .val (.list ((linesS x).map .str)), .un, .un, .un, .un, .un, .un, .un] Ψ := fun Ψ h => by
    rw [lc_T (fun i => if lineSo ((linesS x).getD i "") = true then none else some (.int ((0 + i : Nat) : Int))) fun i hi k => ?_]
    · exact h
    · have hi : i < (linesS x).length := List.mem_range.mp hi
      have hg : (linesS x)[i]? = some (linesS x)[i] := List.getElem?_eq_getElem hi
      obtain ⟨ok, yl⟩ := hw _ (List.getElem_mem hi)
      have ea : atI ((linesS x).map PyData.str) (i : Int) = some (.str (linesS x)[i]) := at_nat (by rw [List.getElem?_map, hg]; rfl)
      simp [ea, m_law_line_so ok yl, hg]
      cases lineSo (linesS x)[i] <;> simp
  refine lcq _ ?_
  by_cases tn : x = ""
  · unfold readN at hΦ
    rw [if_pos tn] at hΦ
    simp [tn]
    exact hΦ
  · simp [tn, badI_flat]
    rcases bad_cases (linesS x) 0 with ⟨hb, he⟩ | ⟨i, r, hb, he⟩
    · obtain ⟨ts, az, e1, e2⟩ := steps_of (bad_all hb)
      have le := congrArg List.length e1
      rw [List.length_map] at le
      rw [he]
      simp
      have key := for_IT (enc := fun t : Stp => PyData.str (lineS t)) (xs := ts) (done := []) (ε := [SV.val (.str x), .val (.list ((linesS x).map .str)), .val (.list []), .val (.list []), .un, .un, .un, .un, .un])
        (g := wgV 4) (b := wSeq (wSet 5 (wL (wBMN opSplit (wV 4) (wACons (wC (.str " ")) wANil)))) t_law_due_1)
        (Ψ := { nx := fun ε1 => T ε1 { nx := fun _ => Φ .none, rt := fun _ => Φ, bk := fun _ => False, ct := fun _ => False }, rt := fun _ => Φ, bk := fun _ => False, ct := fun _ => False })
        (fun done ε => ∃ s4 s5 s6 s7 s8 : SV, ε = [.val (.str x), .val (.list ((linesS x).map .str)), .val (.list []), .val (.list ((done.flatMap spotsT).map .str)), s4, s5, s6, s7, s8]) ⟨_, _, _, _, _, rfl⟩ ?_ ?_
      · have em : (linesS x).map PyData.str = ts.map (fun t => .str (lineS t)) := by rw [e1, List.map_map]; rfl
        rw [← em] at key
        exact key
      · rintro t done rest ε e ⟨s4, s5, s6, s7, s8, rfl⟩ Ψ' hr hn
        rw [List.nil_append] at e
        have ht : t ∈ ts := by rw [e]; simp
        have dl : done.length ≤ ts.length := by rw [e]; simp
        have := spots_cnt done
        refine due_step (az t ht) (by omega) fun s5 s6 s7 s8 => hn _ ⟨.val (.str (lineS t)), s5, s6, s7, s8, ?_⟩
        rw [List.flatMap_append, List.flatMap_cons, List.flatMap_nil, List.append_nil]
      · rintro ε ⟨s4, s5, s6, s7, s8, rfl⟩
        exact last ts _ _ _ _ _ _ tn hb az e1 e2
    · unfold readN at hΦ
      rw [if_neg tn, hb] at hΦ
      rw [he]
      simp
      exact hΦ
end Lw

set_option Elab.async false
set_option linter.all false
set_option maxRecDepth 100000
set_option maxHeartbeats 4000000
/-! V7: a text bent. -/
namespace Lw
open PySem PySem.Spec PySem.W PyProof.Rows L2 MG
/-- what a list of lines weighs -/
def wt (ys : List Str) : Nat := (ys.map (·.length)).sum + ys.length
theorem wt_cons (y : Str) (ys : List Str) : wt (y :: ys) = y.length + 1 + wt ys := by
  unfold wt; rw [List.map_cons, List.sum_cons, List.length_cons]; omega
theorem wt_nil : wt [] = 0 := rfl
theorem wt_app : ∀ a b : List Str, wt (a ++ b) = wt a + wt b
  | [], b => by rw [List.nil_append, wt_nil]; omega
  | y :: a, b => by rw [List.cons_append, wt_cons, wt_cons, wt_app a b]; omega
theorem wt_take (ys : List Str) (n : Nat) : wt (ys.take n) + wt (ys.drop n) = wt ys := by rw [← wt_app, List.take_append_drop]
theorem wt_len {ys : List Str} : ys.length ≤ wt ys := by unfold wt; omega
theorem wt_mem : ∀ {ys : List Str} {y : Str}, y ∈ ys → y.length + 1 ≤ wt ys
  | z :: ys, y, h => by
    rw [wt_cons]
    rcases List.mem_cons.mp h with e | h
    · rw [e]; omega
    · have := wt_mem h; omega
theorem wt_set : ∀ (ys : List Str) (i : Nat) (y : Str), wt (ys.set i y) ≤ wt ys + y.length
  | [], i, y => by simp [wt]
  | z :: ys, 0, y => by rw [List.set_cons_zero, wt_cons, wt_cons]; omega
  | z :: ys, i + 1, y => by
    have := wt_set ys i y
    rw [List.set_cons_succ, wt_cons, wt_cons]; omega
theorem glue_wt (c : Nat) : ∀ ls : List Str, ls ≠ [] → (glue [c] (ls.map cl)).length + 1 = wt ls
  | [], h => absurd rfl h
  | [y], _ => by
    have := cl_len y
    rw [wt_cons, wt_nil]
    simp only [List.map_cons, List.map_nil, glue]; omega
  | y :: z :: r, _ => by
    have ih := glue_wt c (z :: r) (by simp)
    have := cl_len y
    rw [wt_cons]
    simp only [List.map_cons, glue, List.length_append, List.length_singleton] at ih ⊢
    omega
theorem wt_split (x : Str) (c : Nat) : wt (Txt.split x ⟨#[c]⟩) = x.length + 1 := by
  rw [← glue_wt c _ (split_ne x c)]
  have := cl_join ⟨#[c]⟩ (Txt.split x ⟨#[c]⟩)
  rw [txt_join, StrLaws.join_split, cl_one] at this
  rw [← this, cl_len]
theorem wt_join (c : Nat) (ys : List Str) : (Txt.join ⟨#[c]⟩ ys).length ≤ wt ys := by
  rw [← cl_len, cl_join, cl_one]
  cases ys with
  | nil => simp [glue]
  | cons y ys =>
    have := glue_wt c (y :: ys) (by simp)
    omega
theorem o_joinW {s : Str} {c : Nat} (es : s = ⟨#[c]⟩) (hs : sOk s = true) {ys : List Str} (h : ∀ y ∈ ys, sOk y = true) (w : wt ys ≤ 3000) (Φ : PyData → Prop)
    (k : ∀ y, sOk y = true → y.length ≤ wt ys → Φ (.str y)) : opJoin s [.list (ys.map .str)] Φ := by
  rw [opJoin_l]
  have hl : s.length = 1 := by rw [es]; rfl
  have := wt_len (ys := ys)
  have j := join_ok (a := s) (ys := ys) (m := 3000) hs (fun y hy => ⟨h y hy, by have := wt_mem hy; omega⟩) (by rw [hl]; have : ys.length * 3001 ≤ 3000 * 3001 := Nat.mul_le_mul_right _ (by omega); omega)
  exact ⟨j, k _ j.2 (by rw [es]; exact wt_join c ys)⟩
theorem sOk_cut {z : Str} {lo hi : Option Int} (h : sOk z = true) : sOk (cutS z lo hi) = true := by
  refine sOk_of ?_ (Nat.le_trans (cutS_length z lo hi) (sOk_len h))
  have h1 := sOk_ok h
  unfold PyData.strOk at h1 ⊢
  rw [Array.all_eq_true'] at h1 ⊢
  intro x hx
  refine h1 x ?_
  unfold cutS at hx
  rw [← Array.mem_toList_iff] at hx ⊢
  exact List.mem_of_mem_drop (List.mem_of_mem_take hx)
theorem feed_ok : sOk ("\n" : Str) = true := by decide +kernel
theorem blank_ok : sOk (" " : Str) = true := by decide +kernel
def asX (o : Option Nat) (k : Nat → Prop) : Prop := match o with
  | some j => k j
  | none => False
section
variable {ε : EV} {Ψ : WEnds}
@[simp] theorem e_OIx (i : Nat) (wb : WE) (Φ : PyData → Prop) : wOIx i wb ε Φ = asOwn ε[i]? fun ds => wb ε fun k => asN k fun k => asO (atI ds k) Φ := by
  unfold wOIx asOwn
  cases ε[i]? with
  | none => simp
  | some s =>
    cases s <;> try simp
    exact iff_of_eq (by congr 1)
@[simp] theorem e_OLen (i : Nat) (Φ : PyData → Prop) : wOLen i ε Φ = asOwn ε[i]? fun ds => Φ (.int ds.length) := by
  unfold wOLen asOwn
  cases ε[i]? with
  | none => simp
  | some s => cases s <;> simp
@[simp] theorem e_OSet (i : Nat) (wb we : WE) : wOSet i wb we ε Ψ = asOwn ε[i]? fun ds => we ε fun d => wb ε fun k => asN k fun k => asX (ixN ds.length k) fun j => Ψ.nx (ε.set i (.own (ds.set j d))) := by
  unfold wOSet asOwn
  cases ε[i]? with
  | none => simp
  | some s =>
    cases s <;> try simp
    exact iff_of_eq (by congr 1)
end
theorem ix_nat {n i : Nat} (h : i < n) : ixN n (i : Int) = some i := by
  unfold ixN
  rw [if_pos (by omega), if_pos (by omega)]; simp
theorem sOk_ap {a b : Str} (ha : sOk a = true) (hb : sOk b = true) (l : a.length + b.length ≤ 16777216) : sOk (a ++ b) = true := by
  rw [sOk_iff] at ha hb ⊢
  rw [cl_app]
  refine ⟨fun c hc => ?_, by rw [List.length_append, cl_len, cl_len]; exact l⟩
  rcases List.mem_append.mp hc with h | h
  · exact ha.1 c h
  · exact hb.1 c h
theorem len_app (a b : Str) : (a ++ b).length = a.length + b.length := by rw [← cl_len, cl_app, List.length_append, cl_len, cl_len]

section
variable {x : Str} {Φ : PyData → Prop}
theorem m_law_bent (hx : sOk x = true) (l : x.length ≤ 600) (h : ∀ y, sOk y = true → y.length ≤ 900000 → Φ (.str y)) : w_law_bent [.str x] Φ := by
  have sp := o_splitC feed_cps hx (by omega)
  have wl : wt (linesS x) = x.length + 1 := by unfold linesS; rw [feed_cps]; exact wt_split x 10
  have hw : ∀ y ∈ linesS x, sOk y = true := fun y hy => by
    unfold linesS at hy
    rw [feed_cps] at hy
    exact sOk_part hx hy
  have ne : linesS x ≠ [] := by unfold linesS; rw [feed_cps]; exact split_ne _ _
  have e0 : Txt.split x "\n" = linesS x := rfl
  rw [e0] at sp
  have fin : ∀ (ys : List Str) (s3 s4 s5 s6 s7 s8 : SV), (∀ y ∈ ys, sOk y = true) → wt ys ≤ 3000 → t_law_bent_6 [.tp none, .val (.str x), .val (.list (ys.map .str)), s3, s4, s5, s6, s7, s8] { nx := fun _ => Φ .none, rt := fun _ => Φ, bk := fun _ => False, ct := fun _ => False } := fun ys s3 s4 s5 s6 s7 s8 ho hwt => by
    simp only [t_law_bent_6]
    simp [-opJoin_l]
    exact o_joinW feed_cps feed_ok ho hwt Φ fun y h1 h2 => h y h1 (by omega)
  have lim := lim_val
  have ll : (linesS x).length ≤ 601 := by have := wt_len (ys := linesS x); omega
  have lp : 0 < (linesS x).length := List.length_pos_iff.mpr ne
  simp only [w_law_bent, wRunT, wRunTn]
  simp only [t_law_bent_10, t_law_bent_9, t_law_bent_8, t_law_bent_7, t_law_bent_5]
  generalize t_law_bent_6 = T at fin ⊢
  simp [sp, -opSplit_s, d_draw, LIM]
  refine ⟨⟨by omega, by omega⟩, fun a a0 a1 c c0 c1 => ?_⟩
  obtain ⟨n, rfl⟩ := Int.eq_ofNat_of_zero_le a0
  have hn : n < (linesS x).length := by omega
  have en : ((n : Int) + 1) = ((n + 1 : Nat) : Int) := by omega
  have hat : atI ((linesS x).map PyData.str) (n : Int) = some (.str (linesS x)[n]) := at_nat (by rw [List.getElem?_map, List.getElem?_eq_getElem hn]; rfl)
  have lo : sOk (linesS x)[n] = true := hw _ (List.getElem_mem hn)
  have lm := wt_mem (List.getElem_mem hn)
  have sp2 := o_splitC blank_cps lo (by omega)
  have wp : wt (Txt.split (linesS x)[n] " ") = (linesS x)[n].length + 1 := by rw [blank_cps]; exact wt_split _ 32
  have hp : ∀ y ∈ Txt.split (linesS x)[n] " ", sOk y = true := fun y hy => by
    rw [blank_cps] at hy
    exact sOk_part lo hy
  have np : Txt.split (linesS x)[n] " " ≠ [] := by rw [blank_cps]; exact split_ne _ _
  rw [hat]
  simp only [asO, asS]
  rw [sp2]
  revert wp hp np
  generalize Txt.split (linesS x)[n] " " = W
  intro wp hp np
  have wl2 := wt_len (ys := W)
  have wpos : 0 < W.length := List.length_pos_iff.mpr np
  rw [List.length_map]
  refine ⟨⟨by omega, by omega⟩, fun i i0 i1 => ?_⟩
  obtain ⟨m, rfl⟩ := Int.eq_ofNat_of_zero_le i0
  have hm : m < W.length := by omega
  have tk := wt_take (linesS x) n
  have tk1 := wt_take (linesS x) (n + 1)
  have tw := wt_take W m
  have okT : ∀ k, ∀ y ∈ (linesS x).take k, sOk y = true := fun k y hy => hw y (List.mem_of_mem_take hy)
  have okD : ∀ k, ∀ y ∈ (linesS x).drop k, sOk y = true := fun k y hy => hw y (List.mem_of_mem_drop hy)
  have okTW : ∀ k, ∀ y ∈ W.take k, sOk y = true := fun k y hy => hp y (List.mem_of_mem_take hy)
  have okDW : ∀ k, ∀ y ∈ W.drop k, sOk y = true := fun k y hy => hp y (List.mem_of_mem_drop hy)
  have two : ∀ {a b : List Str}, (∀ y ∈ a, sOk y = true) → (∀ y ∈ b, sOk y = true) → ∀ y ∈ a ++ b, sOk y = true := fun ha hb y hy => (List.mem_append.mp hy).elim (ha y) (hb y)
  have lenT : ∀ k, ((linesS x).take k).length ≤ 601 := fun k => by rw [List.length_take]; omega
  have lenD : ∀ k, ((linesS x).drop k).length ≤ 601 := fun k => by rw [List.length_drop]; omega
  simp only [en, cut_to, cut_from, ← List.map_take, ← List.map_drop, ← List.map_append, List.length_map]
  -- the line put back
  have putB : ∀ (z : Str) (s3 s4 s5 s6 s7 s8 : SV), sOk z = true → z.length ≤ 1000 → asX (ixN (linesS x).length (n : Int)) fun j => T [.tp none, .val (.str x), .val (.list (((linesS x).map PyData.str).set j (.str z))), s3, s4, s5, s6, s7, s8] { nx := fun _ => Φ .none, rt := fun _ => Φ, bk := fun _ => False, ct := fun _ => False } := fun z s3 s4 s5 s6 s7 s8 z1 z2 => by
    rw [ix_nat hn]
    show T _ _
    rw [← List.map_set]
    refine fin _ _ _ _ _ _ _ (fun y hy => ?_) ?_
    · rcases List.mem_or_eq_of_mem_set hy with h | h
      · exact hw y h
      · rw [h]; exact z1
    · have := wt_set (linesS x) n z
      omega
  split
  · have l1 := lenT n
    have l2 := lenD (n + 1)
    refine ⟨by omega, ?_⟩
    refine fin _ _ _ _ _ _ _ (two (okT _) (okD _)) ?_
    rw [wt_app]; omega
  split
  · refine m_of (by simpa using ne) (by rw [List.length_map]; omega) _ fun d hd => ?_
    obtain ⟨y, hy, rfl⟩ := List.mem_map.mp hd
    refine m_of (by simp) (by simp [LIM]) _ fun e he => ?_
    have : ∃ z : Str, e = .str z ∧ sOk ("out " ++ z) = true ∧ z.length ≤ 3 ∧ ("out " ++ z).length ≤ 7 := by
      simp at he
      rcases he with rfl | rfl | rfl | rfl <;> exact ⟨_, rfl, by decide +kernel, by decide +kernel, by decide +kernel⟩
    obtain ⟨z, rfl, z1, z2, z3⟩ := this
    rw [o_addS]
    have e4 : ("out " : Str).length = 4 := by decide +kernel
    refine ⟨by omega, ?_⟩
    have l1 := lenT n
    have l2 := lenD n
    refine ⟨by omega, by omega, ?_⟩
    have my := wt_mem hy
    have eL : (List.map PyData.str ((linesS x).take n) ++ PyData.str y :: PyData.str ("out " ++ z) :: List.map PyData.str ((linesS x).drop n)) = ((linesS x).take n ++ y :: ("out " ++ z) :: (linesS x).drop n).map PyData.str := by rw [List.map_append]; rfl
    rw [eL]
    refine fin ((linesS x).take n ++ y :: ("out " ++ z) :: (linesS x).drop n) _ _ _ _ _ _ (two (okT _) fun q hq => ?_) ?_
    · simp only [List.mem_cons] at hq
      rcases hq with rfl | rfl | hq
      · exact hw _ hy
      · exact z1
      · exact okD _ q hq
    · rw [wt_app, wt_cons, wt_cons]; omega
  split
  · refine m_of (by simp) (by simp [LIM]) _ fun e he => ?_
    have : ∃ z : Str, e = .str z ∧ sOk z = true ∧ z.length ≤ 9 := by
      simp at he
      rcases he with rfl | rfl | rfl | rfl | rfl | rfl | rfl | rfl | rfl | rfl | rfl | rfl | rfl <;> exact ⟨_, rfl, by decide +kernel, by decide +kernel⟩
    obtain ⟨z, rfl, z1, z2⟩ := this
    rw [ix_nat hm]
    simp only [asX]
    rw [← List.map_set]
    have w1 := wt_set W m z
    refine o_joinW blank_cps blank_ok (fun y hy => ?_) (by omega) _ fun y y1 y2 => ?_
    · rcases List.mem_or_eq_of_mem_set hy with h | h
      · exact hp y h
      · rw [h]; exact z1
    · exact putB y _ _ _ _ _ _ y1 (by omega)
  split
  · refine m_of (by simp) (by simp [LIM]) _ fun e he => ?_
    have : ∃ z : Str, e = .str z ∧ sOk z = true ∧ z.length ≤ 9 := by
      simp at he
      rcases he with rfl | rfl | rfl <;> exact ⟨_, rfl, by decide +kernel, by decide +kernel⟩
    obtain ⟨z, rfl, z1, z2⟩ := this
    have l1 : (W.take m).length ≤ 700 := by rw [List.length_take]; omega
    have l2 : (W.drop m).length ≤ 700 := by rw [List.length_drop]; omega
    refine ⟨by omega, by omega, ?_⟩
    have eL : (List.map PyData.str (W.take m) ++ PyData.str z :: List.map PyData.str (W.drop m)) = (W.take m ++ z :: W.drop m).map PyData.str := by rw [List.map_append]; rfl
    rw [eL]
    have w1 : wt (W.take m ++ z :: W.drop m) ≤ 1000 := by rw [wt_app, wt_cons]; omega
    refine o_joinW blank_cps blank_ok (two (okTW _) fun q hq => ?_) (by omega) _ fun y y1 y2 => ?_
    · rcases List.mem_cons.mp hq with e | hq
      · rw [e]; exact z1
      · exact okDW _ q hq
    · exact putB y _ _ _ _ _ _ y1 (by omega)
  · refine ⟨by omega, fun b b0 b1 => ?_⟩
    refine m_of (by simp) (by simp [LIM]) _ fun e he => ?_
    have : ∃ z : Str, e = .str z ∧ sOk z = true ∧ z.length ≤ 9 := by
      simp at he
      rcases he with rfl | rfl | rfl | rfl | rfl | rfl <;> exact ⟨_, rfl, by decide +kernel, by decide +kernel⟩
    obtain ⟨z, rfl, z1, z2⟩ := this
    have c1 := cutS_length x none (some b)
    rw [o_addS]
    refine ⟨by omega, fun b2 b3 b4 => ?_⟩
    have c2 := cutS_length x (some (b + b2)) none
    rw [o_addS, len_app]
    refine ⟨by omega, h _ (sOk_ap (sOk_ap (sOk_cut hx) z1 (by omega)) (sOk_cut hx) (by rw [len_app]; omega)) (by rw [len_app, len_app]; omega)⟩
end
end Lw

set_option Elab.async false
set_option linter.all false
set_option maxRecDepth 100000
set_option maxHeartbeats 4000000
/-! V8: the law of k20. -/
namespace Lw
open PySem PySem.Spec PySem.W PyProof.Rows L2 MG
theorem m_like_i (m : Nat) (a : Int) (Φ : PyData → Prop) : wN_law_like (m + 1) [.int a, .int a] Φ = Φ (.bool true) := by
  show w_law_like (wN_law_like m) _ Φ = _
  generalize wN_law_like m = u
  simp [w_law_like, wRun]
theorem text_empty : textS [] = "" := by decide +kernel
theorem read_ok {y : Str} {ds : List PyData} (h : readN y = .inr ds) : ∃ ts : List Stp, (∀ t ∈ ts, t.Az) ∧ ds = ts.map Stp.d ∧ isScr (scD ts) = true ∧ ts.length ≤ 8 ∧ textS ts = y := by
  unfold readN at h
  split at h
  · rename_i e
    rw [Sum.inr.injEq] at h
    exact ⟨[], by simp, h.symm, by rfl, by simp, by rw [text_empty, e]⟩
  · split at h
    · exact nomatch h
    · rename_i hb
      split at h
      · rename_i hs
        rw [Sum.inr.injEq] at h
        obtain ⟨ts, az, e1, e2⟩ := steps_of (bad_all hb)
        rw [e2] at h hs
        have h8 : ts.length ≤ 8 := by
          have : (decide ((ts.map Stp.d).length ≤ 8) && ((ts.map Stp.d).all isStp && decide ((psetS (ts.map Stp.d)).length ≤ 5))) = true := hs
          rw [Bool.and_eq_true, decide_eq_true_iff, List.length_map] at this
          exact this.1
        refine ⟨ts, az, h.symm, hs, h8, ?_⟩
        unfold textS
        rw [← e1]
        unfold linesS
        rw [txt_join, feed_cps, StrLaws.join_split]
      · exact nomatch h
theorem glue_snoc (s : List Nat) : ∀ xs : List (List Nat), xs ≠ [] → glue s (xs ++ [[]]) = glue s xs ++ s
  | [], h => absurd rfl h
  | [x], _ => by simp [glue]
  | x :: y :: r, _ => by
    have := glue_snoc s (y :: r) (by simp)
    simp only [List.cons_append, glue] at this ⊢
    rw [this]; simp
theorem so_empty : lineSo "" = false := by decide +kernel
theorem so_line {t : Stp} (h : t.Az) : lineSo (lineS t) = true := by
  rcases step_cases (lineS t) with ⟨e, _⟩ | ⟨_, _, _, _, q⟩
  · rw [step_line h] at e
    cases t <;> exact nomatch e
  · exact q
theorem read_more {ts : List Stp} (h : ∀ t ∈ ts, t.Az) (ne : ts ≠ []) : readN (textS ts ++ "\n") = .inl (ts.length + 1) := by
  have e1 : (cl ("\n" : Str)) = [10] := by decide +kernel
  have ls : linesS (textS ts ++ "\n") = ts.map lineS ++ [("" : Str)] := by
    unfold linesS
    rw [feed_cps]
    refine split_uniq (by simp) (fun y hy => ?_) ?_
    · rcases List.mem_append.mp hy with h1 | h1
      · obtain ⟨t, ht, rfl⟩ := List.mem_map.mp h1
        exact line_free (h t ht)
      · rw [List.mem_singleton.mp h1]; decide +kernel
    · have e0 : cl ("" : Str) = [] := by decide +kernel
      rw [List.map_append, List.map_cons, List.map_nil, e0, glue_snoc _ _ (by simpa using ne), cl_app]
      unfold textS
      rw [cl_join, feed_cps]
  have tn : textS ts ++ "\n" ≠ "" := fun e => by
    have := congrArg (fun x : Str => (cl x).length) e
    simp only [cl_app, e1, List.length_append, List.length_singleton] at this
    have z : (cl ("" : Str)).length = 0 := by decide +kernel
    omega
  unfold readN
  rw [if_neg tn, ls, bad_at so_empty fun y hy => by
    obtain ⟨t, ht, rfl⟩ := List.mem_map.mp hy
    exact so_line (h t ht)]
  simp
theorem scr_long {ds : List PyData} (h : 8 < ds.length) : isScr (.tuple ds) = false := by
  show (decide (ds.length ≤ 8) && _) = false
  rw [decide_eq_false (by omega)]; rfl
theorem read_nine : readN (textS (List.replicate 9 (.out ["f"]))) = .inl 10 := by
  have az : ∀ t ∈ List.replicate 9 (Stp.out ["f"]), t.Az := fun t ht => by
    rw [List.eq_of_mem_replicate ht]
    exact ⟨.inl rfl, fun x hx => by rw [List.mem_singleton.mp hx]; show isNm _ = true; decide +kernel⟩
  have ne : List.replicate 9 (Stp.out ["f"]) ≠ [] := by simp
  unfold readN
  have ls : linesS (textS (List.replicate 9 (Stp.out ["f"]))) = (List.replicate 9 (Stp.out ["f"])).map lineS := text_split az ne
  have hb : bad ((List.replicate 9 (Stp.out ["f"])).map lineS) = none := bad_no fun y hy => by
    obtain ⟨t, ht, rfl⟩ := List.mem_map.mp hy
    exact so_line (az t ht)
  rw [if_neg (text_ne ne), ls, hb]
  have : isScr (.tuple (((List.replicate 9 (Stp.out ["f"])).map lineS).map stepD)) = false := by
    exact scr_long (by rw [List.length_map, List.length_map, List.length_replicate]; decide)
  simp only [this]
  rfl
theorem read_make : readN "make f rw-r-" = .inl 1 := by
  have h1 : bad (linesS "make f rw-r-") = some 0 := by decide +kernel
  have h2 : ("make f rw-r-" : Str) ≠ "" := by decide +kernel
  unfold readN
  rw [if_neg h2, h1]

def sorts20 : List Str := ["make", "make", "write", "write", "write", "rights", "use", "mask", "group", "folder", "make", "write", "write", "use", "move", "copy", "out", "rights"]
theorem azOf {ks : List (List Str)} (m : Menu ks) {ts : List Stp} (g : ∀ t ∈ ts, t.Good ks) : ∀ t ∈ ts, t.Az := fun t ht => by
  have h := g t ht
  have p : ∀ {k}, k ∈ ks → PAz k := fun hk => pazOf (m.pth _ hk)
  have kgz : ∀ w ∈ kg, Az w := by
    have : ∀ w ∈ kg, isNm (.str w) = true := by decide +kernel
    exact this
  cases t with
  | mask r => trivial
  | make q r => exact p h
  | folder q r => exact ⟨p h.1, h.2⟩
  | write q w => exact ⟨p h.1, kgz w h.2⟩
  | rights q r => exact p h
  | group q g => exact ⟨p h.1, h.2⟩
  | move a b => exact ⟨p h.1, p h.2.1, h.2.2⟩
  | copy a b => exact ⟨p h.1, p h.2.1, h.2.2⟩
  | out q => exact p h
  | use q w => exact ⟨p h.1, kgz w h.2⟩
theorem text_short {ts : List Stp} (h : ∀ t ∈ ts, t.Az) (l : ts.length ≤ 8) : (textS ts).length ≤ 500 := by
  rw [← cl_len, textS, cl_join]
  have := glue_len (s := cl "\n") (m := 57) (xs := (ts.map lineS).map cl) fun x hx => by
    obtain ⟨y, hy, rfl⟩ := List.mem_map.mp hx
    obtain ⟨t, ht, rfl⟩ := List.mem_map.mp hy
    rw [cl_len]; exact line_len (h t ht)
  have e : (cl ("\n" : Str)).length = 1 := by decide +kernel
  rw [List.length_map, List.length_map, e] at this
  omega
section
variable {ts : List Stp} {s0 s2 : SV} {Ψ : WEnds}
/-- one bent text -/
theorem bent_ok (az : ∀ t ∈ ts, t.Az) (l8 : ts.length ≤ 8) {s5 s6 s7 s8 : SV} (h : ∀ s6 s7 s8 : SV, Ψ.nx [s0, .tp none, s2, .val (scD ts), .val (.str (textS ts)), s5, s6, s7, s8]) :
    wSeq (wSet 6 (wFn w_law_bent (wTA 1 (wACons (wV 4) wANil)))) t_law_2 [s0, .tp none, s2, .val (scD ts), .val (.str (textS ts)), s5, s6, s7, s8] Ψ := by
  simp only [t_law_2, t_law_1, t_law_0]
  simp
  refine m_law_bent (text_ok az (by omega)).2 (by have := text_short az l8; omega) fun y y1 y2 => ?_
  simp
  refine m_law_told y1 y2 _ ?_
  refine m_law_due y1 y2 _ ?_
  cases q : readN y with
  | inl n =>
    have ml := m_like_i 7 (n : Int)
    simp [tdD, dueD, ml, isNone]
    exact h ..
  | inr ds =>
    obtain ⟨us, uz, rfl, hs, u8, ht⟩ := read_ok q
    have e : PyData.tuple (us.map Stp.d) = scD us := rfl
    simp [tdD, dueD, isNone, m_is_script, e, hs, m_script_text uz hs u8, ht]
    exact h ..
end
theorem law_ok : ∀ ns : List Int, ns.length ≤ 63 → w_law (lawStart 9 1 ns) endTrue := by
  intro ns hz
  have e0 : lawStart 9 1 ns = [.un, .own [.list (ns.map .int), .int 0, .int 0], .un, .un, .un, .un, .un, .un, .un] := rfl
  rw [e0]
  unfold w_law wTape
  simp only [List.getElem?_cons_succ, List.getElem?_cons_zero]
  refine ⟨⟨ns, rfl, by omega⟩, ?_⟩
  have last : ∀ (s2 s3 s4 s5 s6 s7 s8 : SV), t_law_6 [.un, .tp none, s2, s3, s4, s5, s6, s7, s8] endTrue := fun s2 s3 s4 s5 s6 s7 s8 => by
    have az : ∀ t ∈ List.replicate 9 (Stp.out ["f"]), t.Az := fun t ht => by
      rw [List.eq_of_mem_replicate ht]
      exact ⟨.inl rfl, fun x hx => by rw [List.mem_singleton.mp hx]; show isNm _ = true; decide +kernel⟩
    have oj := o_joinX az (by simp)
    have lf : lineS (.out ["f"]) = "out f" := by decide +kernel
    have el : ((List.replicate 9 (Stp.out ["f"])).map lineS).map PyData.str = [.str "out f", .str "out f", .str "out f", .str "out f", .str "out f", .str "out f", .str "out f", .str "out f", .str "out f"] := by rw [List.map_replicate, lf]; rfl
    rw [el] at oj
    have tk := (text_ok az (by simp)).2
    have tl := text_len az (by simp)
    have mk : sOk ("make f rw-r-" : Str) = true := by decide +kernel
    have ml : ("make f rw-r-" : Str).length ≤ 900000 := by decide +kernel
    simp only [t_law_6]
    simp [o_mulL, -opJoin_l]
    refine ⟨by have := lim_val; omega, ?_⟩
    rw [oj]
    refine m_law_told tk (by omega) _ ?_
    rw [read_nine]
    simp [tdD]
    refine m_law_told mk ml _ ?_
    rw [read_make]
    simp [tdD]
    rfl
  have bent := fun {ts : List Stp} {s2 s5 s6 s7 s8 : SV} {Ψ : WEnds} => bent_ok (ts := ts) (s0 := .un) (s2 := s2) (s5 := s5) (s6 := s6) (s7 := s7) (s8 := s8) (Ψ := Ψ)
  have tests : ∀ {ts : List Stp} {s2 s5 s6 s7 s8 : SV} {Ψ : WEnds}, (∀ t ∈ ts, t.Az) → ts.length ≤ 8 → ts ≠ [] → Ψ.nx [.un, .tp none, s2, .val (scD ts), .val (.str (textS ts)), s5, s6, s7, s8] →
      t_law_3 [.un, .tp none, s2, .val (scD ts), .val (.str (textS ts)), s5, s6, s7, s8] Ψ := fun {ts s2 s5 s6 s7 s8 Ψ} az l8 ne h => by
    have tk := text_ok az (by omega)
    have tl := text_short az l8
    have rm := read_more az ne
    have f1 : ("\n" : Str).length = 1 := by decide +kernel
    have ok1 : sOk (textS ts ++ "\n") = true := sOk_ap tk.2 feed_ok (by omega)
    have l1 : (textS ts ++ "\n").length ≤ 900000 := by rw [len_app]; omega
    simp only [t_law_3]
    simp [LIM]
    refine m_told_other (by rfl) _ ?_
    simp
    refine m_told_other (by rfl) _ ?_
    simp
    refine ⟨by omega, ?_⟩
    refine m_law_told ok1 l1 _ ?_
    rw [rm]
    have ol : ∀ Φ : PyData → Prop, opLen [scD ts] Φ = Φ (.int ts.length) := fun Φ => by
      show opLen [.tuple (ts.map Stp.d)] Φ = _
      rw [o_lenT, List.length_map]
    rw [ol]
    simp [tdD]
    exact h
  simp only [t_law_7, t_law_5, t_law_4]
  generalize t_law_3 = T3 at tests ⊢
  generalize t_law_6 = T6 at last ⊢
  generalize t_law_2 = T2 at bent ⊢
  simp
  refine for_I (done := []) (fun done ε => ∃ s2 s3 s4 s5 s6 s7 s8 : SV, ε = [.un, .tp none, s2, s3, s4, s5, s6, s7, s8]) ⟨_, _, _, _, _, _, _, rfl⟩ ?_ ?_
  · rintro d done rest ε e ⟨s2, s3, s4, s5, s6, s7, s8, rfl⟩ Ψ' hr hn
    simp [w_law_few, w_law_many, wRun, LIM]
    refine m_wide_menu _ fun ks hks => ?_
    have m := menu_of hks
    have := m_script (sorts := sorts20) m.len m.ne m.few (by decide +kernel) (by decide +kernel) 8 (by omega) (by omega)
    refine this _ fun ts l1 l8 g => ?_
    have az := azOf m g
    rw [m_script_text az (scr_d m g l8) l8]
    refine for_I (done := []) (fun done ε => ∃ s5 s6 s7 s8 : SV, ε = [.un, .tp none, .val d, .val (scD ts), .val (.str (textS ts)), s5, s6, s7, s8]) ⟨_, _, _, _, rfl⟩ ?_ ?_
    · rintro d' done' rest' ε e' ⟨s5, s6, s7, s8, rfl⟩ Ψ2 hr2 hn2
      exact bent az l8 fun s6 s7 s8 => hn2 _ ⟨_, _, _, _, rfl⟩
    · rintro ε ⟨s5, s6, s7, s8, rfl⟩
      exact tests az l8 (fun e => by rw [e] at l1; simp at l1) (hn _ ⟨_, _, _, _, _, _, _, rfl⟩)
  · rintro ε ⟨s2, s3, s4, s5, s6, s7, s8, rfl⟩
    exact last ..
end Lw

theorem PySem.Challenge.cw_modegaps_k20_whole_wrong_texts_holds : PySem.Challenge.rw_modegaps_k20_whole_wrong_texts.Holds :=
  Lw.Hd.headG Lw.law_ok

